import PyProof.Rows.All
import Wide.All
import OpenK.AllK
import Wide.FinOn
import HandS.ForMost
import HandS.Deep
import HandS.Conv
import HandS.DictComp
import HandS.Flow
import HandS.Style
import HandS.NoneIn
import KE.KDictKeyed
import KE.SortData
import HandS.Walk
import KE.KDictSum
import KE.KDictCopyH
import KE.DataMinMax
import KE.DataFind
import PyProof.ReprRoads
import HandS.Ends
import PyProof.ReprLen
import PySem.Challenge.RW_quiltward_k46_whole_potentials_show_that
section
set_option autoImplicit false
set_option linter.all false
namespace Qw

/-! ### a strict order on numbers, the free ones of a list, orders of it -/
structure SO (S : Nat → Nat → Bool) : Prop where
  irr : ∀ a, S a a = false
  tr : ∀ a b c, S a b = true → S b c = true → S a c = true

def isFree (S : Nat → Nat → Bool) (left : List Nat) (one : Nat) : Bool := (left.filter fun o => S o one).isEmpty
def free (S : Nat → Nat → Bool) (left : List Nat) : List Nat := left.filter (isFree S left)
def rm (left : List Nat) (one : Nat) : List Nat := left.filter fun o => !decide (o = one)
def jump (S : Nat → Nat → Bool) (a b : Nat) : Int := if S a b = true then 0 else 1

section
variable {S : Nat → Nat → Bool} {left : List Nat} {one x last : Nat}

theorem isFree_iff : isFree S left x = true ↔ ∀ o ∈ left, S o x = false := by
  unfold isFree
  rw [List.isEmpty_iff, List.filter_eq_nil_iff]
  constructor
  · intro h o ho
    exact Bool.eq_false_iff.mpr (h o ho)
  · intro h o ho
    rw [h o ho]; decide
theorem mem_free : x ∈ free S left ↔ x ∈ left ∧ ∀ o ∈ left, S o x = false := by
  unfold free
  rw [List.mem_filter, isFree_iff]
theorem mem_rm : x ∈ rm left one ↔ x ∈ left ∧ x ≠ one := by
  unfold rm
  rw [List.mem_filter]
  simp
theorem rm_nodup (h : left.Nodup) : (rm left one).Nodup := h.filter _
theorem rm_length (h : left.Nodup) (hx : one ∈ left) : (rm left one).length + 1 = left.length := by
  induction left with
  | nil => cases hx
  | cons a r ih =>
    rw [List.nodup_cons] at h
    by_cases e : a = one
    · subst e
      have : rm (a :: r) a = r := by
        unfold rm
        rw [List.filter_cons, if_neg (by simp)]
        rw [List.filter_eq_self]
        intro o ho
        have : o ≠ a := fun e => h.1 (e ▸ ho)
        simp [this]
      rw [this, List.length_cons]
    · have hr : one ∈ r := by
        rcases List.mem_cons.mp hx with z | z
        · exact absurd z.symm e
        · exact z
      have : rm (a :: r) one = a :: rm r one := by
        unfold rm
        rw [List.filter_cons, if_pos (by simp [e])]
      rw [this, List.length_cons, List.length_cons, ih h.2 hr]

/-- a list that is not empty has a free one -/
theorem exists_free (so : SO S) (left : List Nat) : ∀ (n : Nat) (x : Nat) (below : List Nat), below.length ≤ n → x ∈ left → below = (left.filter fun o => S o x) → ∃ y, y ∈ free S left := by
  intro n
  induction n using Nat.strongRecOn with
  | ind n ih =>
    intro x below hl hx hb
    by_cases e : below = []
    · refine ⟨x, mem_free.mpr ⟨hx, fun o ho => ?_⟩⟩
      cases h : S o x with
      | false => rfl
      | true =>
        have : o ∈ below := by rw [hb]; exact List.mem_filter.mpr ⟨ho, h⟩
        rw [e] at this; cases this
    · obtain ⟨y, hy⟩ := List.exists_mem_of_ne_nil below e
      have hy' := hy
      rw [hb] at hy'
      obtain ⟨hyl, hyx⟩ := List.mem_filter.mp hy'
      -- those below y are below x, and y itself is not
      have lt : (left.filter fun o => S o y).length < below.length := by
        rw [hb]
        have sub : (left.filter fun o => S o y).Sublist (left.filter fun o => S o x) := by
          have : (left.filter fun o => S o y) = ((left.filter fun o => S o x).filter fun o => S o y) := by
            rw [List.filter_filter]
            refine List.filter_congr fun o _ => ?_
            cases h : S o y with
            | false => simp
            | true => simp [so.tr o y x h hyx]
          rw [this]
          exact List.filter_sublist
        refine Nat.lt_of_le_of_ne sub.length_le fun e2 => ?_
        have e3 := sub.eq_of_length e2
        have : y ∈ left.filter fun o => S o y := by rw [e3]; exact hy'
        have := (List.mem_filter.mp this).2
        rw [so.irr] at this
        cases this
      exact ih _ (Nat.lt_of_lt_of_le lt hl) y _ (Nat.le_refl _) hyl rfl
theorem free_ne_nil (so : SO S) (h : left ≠ []) : free S left ≠ [] := by
  obtain ⟨x, hx⟩ := List.exists_mem_of_ne_nil left h
  obtain ⟨y, hy⟩ := exists_free so left _ x _ (Nat.le_refl _) hx rfl
  exact List.ne_nil_of_mem hy
end

/-! ### the least of some whole numbers -/
def minL : List Int → Int
  | [] => 0
  | x :: xs => xs.foldl min x
theorem foldl_min_le : ∀ (xs : List Int) (x : Int), xs.foldl min x ≤ x ∧ (∀ y ∈ xs, xs.foldl min x ≤ y) ∧ (xs.foldl min x = x ∨ xs.foldl min x ∈ xs)
  | [], x => ⟨Int.le_refl _, fun _ h => (nomatch h), .inl rfl⟩
  | y :: ys, x => by
    obtain ⟨h1, h2, h3⟩ := foldl_min_le ys (min x y)
    refine ⟨Int.le_trans h1 (Int.min_le_left _ _), fun z hz => ?_, ?_⟩
    · rcases List.mem_cons.mp hz with e | hz
      · subst e; exact Int.le_trans h1 (Int.min_le_right _ _)
      · exact h2 z hz
    · show ys.foldl min (min x y) = x ∨ ys.foldl min (min x y) ∈ y :: ys
      rcases h3 with h3 | h3
      · rw [h3]
        by_cases h : x ≤ y
        · rw [Int.min_eq_left h]; exact .inl rfl
        · rw [Int.min_eq_right (by omega)]; exact .inr List.mem_cons_self
      · exact .inr (List.mem_cons_of_mem _ h3)
theorem minL_le {xs : List Int} {y : Int} (h : y ∈ xs) : minL xs ≤ y := by
  cases xs with
  | nil => cases h
  | cons x xs =>
    obtain ⟨h1, h2, _⟩ := foldl_min_le xs x
    rcases List.mem_cons.mp h with e | h
    · subst e; exact h1
    · exact h2 y h
theorem minL_mem {xs : List Int} (h : xs ≠ []) : minL xs ∈ xs := by
  cases xs with
  | nil => exact absurd rfl h
  | cons x xs =>
    obtain ⟨_, _, h3⟩ := foldl_min_le xs x
    rcases h3 with h3 | h3
    · show xs.foldl min x ∈ _
      rw [h3]; exact List.mem_cons_self
    · exact List.mem_cons_of_mem _ h3
theorem minL_eq {xs : List Int} {m : Int} (h : m ∈ xs) (hl : ∀ y ∈ xs, m ≤ y) : minL xs = m :=
  Int.le_antisymm (minL_le h) (hl _ (minL_mem (List.ne_nil_of_mem h)))

/-! ### orders, jumps, the fewest -/
section
variable (S : Nat → Nat → Bool)
/-- s is an order of left -/
def LE : List Nat → List Nat → Prop
  | left, [] => left = []
  | left, one :: s => one ∈ free S left ∧ LE (rm left one) s
def jl : Nat → List Nat → Int
  | _, [] => 0
  | last, one :: s => jump S last one + jl one s
def jumps : List Nat → Int
  | [] => 0
  | a :: s => jl S a s
def few : Nat → List Nat → Nat → Int
  | 0, _, _ => 0
  | d + 1, left, last => if left.isEmpty = true then 0 else minL ((free S left).map fun one => jump S last one + few d (rm left one) one)
def fw (left : List Nat) (last : Nat) : Int := few S left.length left last
end
section
variable {S : Nat → Nat → Bool} {left : List Nat} {one x last : Nat}
theorem free_sub (h : x ∈ free S left) : x ∈ left := (mem_free.mp h).1
theorem fw_nil : fw S [] last = 0 := rfl
theorem fw_eq (hn : left.Nodup) (h : left ≠ []) : fw S left last = minL ((free S left).map fun one => jump S last one + fw S (rm left one) one) := by
  unfold fw
  cases hd : left.length with
  | zero => exact absurd (List.length_eq_zero_iff.mp hd) h
  | succ d =>
    show (if left.isEmpty = true then 0 else _) = _
    rw [if_neg (by rw [List.isEmpty_iff]; exact h)]
    congr 1
    refine List.map_congr_left fun one ho => ?_
    have := rm_length hn (free_sub ho)
    rw [show (rm left one).length = d by omega]
theorem fw_le : ∀ (s : List Nat) (left : List Nat) (last : Nat), left.Nodup → LE S left s → fw S left last ≤ jl S last s
  | [], left, last, hn, h => by
    have h : left = [] := h
    subst h
    exact Int.le_refl _
  | one :: s, left, last, hn, h => by
    obtain ⟨h1, h2⟩ := h
    have hne : left ≠ [] := List.ne_nil_of_mem (free_sub h1)
    rw [fw_eq hn hne]
    refine Int.le_trans (minL_le (List.mem_map.mpr ⟨one, h1, rfl⟩)) ?_
    show _ ≤ jump S last one + jl S one s
    have := fw_le s (rm left one) one (rm_nodup hn) h2
    omega
theorem fw_att (so : SO S) : ∀ (n : Nat) (left : List Nat) (last : Nat), left.length = n → left.Nodup → ∃ s, LE S left s ∧ jl S last s = fw S left last
  | 0, left, last, hl, hn => by
    have : left = [] := List.length_eq_zero_iff.mp hl
    subst this
    exact ⟨[], rfl, rfl⟩
  | n + 1, left, last, hl, hn => by
    have hne : left ≠ [] := fun e => by subst e; cases hl
    have hm := minL_mem (xs := (free S left).map fun one => jump S last one + fw S (rm left one) one) (fun e => free_ne_nil so hne (List.map_eq_nil_iff.mp e))
    rw [← fw_eq hn hne] at hm
    obtain ⟨one, h1, h2⟩ := List.mem_map.mp hm
    have hlen := rm_length hn (free_sub h1)
    obtain ⟨s, h3, h4⟩ := fw_att so n (rm left one) one (by omega) (rm_nodup hn)
    refine ⟨one :: s, ⟨h1, h3⟩, ?_⟩
    show jump S last one + jl S one s = _
    rw [h4, h2]

/-! ### prefixes of orders -/
def Pre (S : Nat → Nat → Bool) : List Nat → List Nat → List Nat → Prop
  | left, [], rest => rest = left
  | left, one :: o, rest => one ∈ free S left ∧ Pre S (rm left one) o rest
theorem Pre.snoc : ∀ {o left rest : List Nat} {x : Nat}, Pre S left o rest → x ∈ free S rest → Pre S left (o ++ [x]) (rm rest x)
  | [], left, rest, x, h, hx => by
    have h : rest = left := h
    subst h
    exact ⟨hx, rfl⟩
  | one :: o, left, rest, x, h, hx => ⟨h.1, Pre.snoc h.2 hx⟩
theorem Pre.snoc_inv : ∀ {o left rest' : List Nat} {x : Nat}, Pre S left (o ++ [x]) rest' → ∃ rest, Pre S left o rest ∧ x ∈ free S rest ∧ rest' = rm rest x
  | [], left, rest', x, h => ⟨left, rfl, h.1, h.2⟩
  | one :: o, left, rest', x, h => by
    obtain ⟨rest, h1, h2, h3⟩ := Pre.snoc_inv (o := o) h.2
    exact ⟨rest, ⟨h.1, h1⟩, h2, h3⟩
theorem Pre.rest : ∀ {o left rest : List Nat}, Pre S left o rest → rest = left.filter fun y => !decide (y ∈ o)
  | [], left, rest, h => by
    have h : rest = left := h
    subst h
    rw [List.filter_eq_self.mpr]
    intro a _
    simp
  | one :: o, left, rest, h => by
    rw [Pre.rest h.2]
    unfold rm
    rw [List.filter_filter]
    refine List.filter_congr fun y _ => ?_
    by_cases e : y = one <;> by_cases e2 : y ∈ o <;> simp [e, e2]
theorem Pre.sublist {o left rest : List Nat} (h : Pre S left o rest) : rest.Sublist left := by
  rw [Pre.rest h]; exact List.filter_sublist
theorem Pre.mem : ∀ {o left rest : List Nat}, Pre S left o rest → ∀ y ∈ o, y ∈ left
  | [], _, _, _, y, hy => nomatch hy
  | one :: o, left, rest, h, y, hy => by
    rcases List.mem_cons.mp hy with e | hy
    · subst e; exact free_sub h.1
    · exact (mem_rm.mp (Pre.mem h.2 y hy)).1
theorem Pre.len : ∀ {o left rest : List Nat}, left.Nodup → Pre S left o rest → rest.length + o.length = left.length
  | [], left, rest, hn, h => by
    have h : rest = left := h
    subst h
    rfl
  | one :: o, left, rest, hn, h => by
    have h1 := rm_length hn (free_sub h.1)
    have h2 := Pre.len (rm_nodup hn) h.2
    rw [List.length_cons]; omega
theorem LE_iff : ∀ {s left : List Nat}, LE S left s ↔ Pre S left s []
  | [], left => ⟨fun h => (show left = [] from h).symm, fun h => (show [] = left from h).symm⟩
  | one :: s, left => ⟨fun h => ⟨h.1, LE_iff.mp h.2⟩, fun h => ⟨h.1, LE_iff.mpr h.2⟩⟩
theorem Pre.append : ∀ {o left rest s r2 : List Nat}, Pre S left o rest → Pre S rest s r2 → Pre S left (o ++ s) r2
  | [], left, rest, s, r2, h, h2 => by
    have h : rest = left := h
    subst h
    exact h2
  | one :: o, left, rest, s, r2, h, h2 => ⟨h.1, Pre.append h.2 h2⟩
theorem Pre.split : ∀ {o left s r2 : List Nat}, Pre S left (o ++ s) r2 → ∃ rest, Pre S left o rest ∧ Pre S rest s r2
  | [], left, s, r2, h => ⟨left, rfl, h⟩
  | one :: o, left, s, r2, h => by
    obtain ⟨rest, h1, h2⟩ := Pre.split (o := o) h.2
    exact ⟨rest, ⟨h.1, h1⟩, h2⟩
/-- an order of left has just its lines -/
theorem LE.mem {s left : List Nat} (h : LE S left s) (y : Nat) : y ∈ s ↔ y ∈ left := by
  have h := LE_iff.mp h
  refine ⟨h.mem y, fun hy => ?_⟩
  have e := h.rest
  by_cases hs : y ∈ s
  · exact hs
  · have : y ∈ left.filter fun y => !decide (y ∈ s) := List.mem_filter.mpr ⟨hy, by simp [hs]⟩
    rw [← e] at this
    cases this
theorem LE.nodup : ∀ {s left : List Nat}, LE S left s → s.Nodup
  | [], _, _ => List.nodup_nil
  | one :: s, left, h => List.nodup_cons.mpr ⟨fun hm => by
      have := (LE.mem h.2 one).mp hm
      exact (mem_rm.mp this).2 rfl, LE.nodup h.2⟩
end
end Qw
end
section
set_option autoImplicit false
set_option linter.all false
namespace Qw

/-! ### potentials and when they are right -/
abbrev Row := List Nat × Nat × Int
abbrev KeyT := List Nat × Nat
def keyOf (r : Row) : KeyT := (r.1, r.2.1)
def look (rows : List Row) (k : KeyT) : Option Int := (rows.find? fun r => decide (keyOf r = k)).map (·.2.2)
def cost (S : Nat → Nat → Bool) (last : Option Nat) (one : Nat) : Int := match last with
  | none => 0
  | some l => jump S l one
/-- one triple is right -/
def okRow (S : Nat → Nat → Bool) (rows : List Row) (left : List Nat) (last : Option Nat) (num : Int) : Bool :=
  !(left.isEmpty && decide (0 < num) && last.isSome) && (free S left).all fun one => match look rows (rm left one, one) with
    | none => false
    | some v => decide (num ≤ cost S last one + v)
def rightB (S : Nat → Nat → Bool) (sb : List Nat) (rows : List Row) (count : Int) : Bool :=
  decide ((rows.map keyOf).Nodup) && rows.all (fun r => okRow S rows r.1 (some r.2.1) r.2.2) && okRow S rows sb none count

section
variable {S : Nat → Nat → Bool} {rows : List Row} {sb : List Nat} {count : Int}
theorem look_mem {k : KeyT} {v : Int} (h : look rows k = some v) : (k.1, k.2, v) ∈ rows := by
  unfold look at h
  obtain ⟨r, hr, e⟩ := Option.map_eq_some_iff.mp h
  have h1 := List.find?_some hr
  have h2 := List.mem_of_find?_eq_some hr
  have h1 : keyOf r = k := of_decide_eq_true h1
  obtain ⟨a, b, c⟩ := r
  subst h1
  have e : c = v := e
  subst e
  exact h2
theorem okRow_iff {left : List Nat} {last : Option Nat} {num : Int} : okRow S rows left last num = true ↔
    (left = [] → last.isSome = true → num ≤ 0) ∧ ∀ one ∈ free S left, ∃ v, look rows (rm left one, one) = some v ∧ num ≤ cost S last one + v := by
  unfold okRow
  rw [Bool.and_eq_true, List.all_eq_true]
  refine and_congr ?_ ?_
  · cases left with
    | nil =>
      cases last with
      | none => simp
      | some l => simp
    | cons a r => simp
  · refine forall_congr' fun one => ?_
    refine imp_congr_right fun _ => ?_
    cases look rows (rm left one, one) with
    | none => simp
    | some v => simp
theorem right_iff : rightB S sb rows count = true ↔ (rows.map keyOf).Nodup ∧ (∀ r ∈ rows, okRow S rows r.1 (some r.2.1) r.2.2 = true) ∧ okRow S rows sb none count = true := by
  unfold rightB
  rw [Bool.and_eq_true, Bool.and_eq_true, List.all_eq_true, decide_eq_true_iff]
  exact ⟨fun h => ⟨h.1.1, h.1.2, h.2⟩, fun h => ⟨⟨h.1, h.2.1⟩, h.2.2⟩⟩
theorem sound_row (hr : ∀ r ∈ rows, okRow S rows r.1 (some r.2.1) r.2.2 = true) : ∀ (s left : List Nat) (last : Nat) (num : Int), (left, last, num) ∈ rows → LE S left s → num ≤ jl S last s
  | [], left, last, num, hm, h => by
    have h : left = [] := h
    exact (okRow_iff.mp (hr _ hm)).1 h rfl
  | one :: s, left, last, num, hm, h => by
    obtain ⟨v, h1, h2⟩ := (okRow_iff.mp (hr _ hm)).2 one h.1
    have h3 := sound_row hr s _ _ _ (look_mem h1) h.2
    have h2 : num ≤ jump S last one + v := h2
    show num ≤ jump S last one + jl S one s
    have h3 : v ≤ jl S one s := h3
    omega
/-- if it is right, each order takes at least so many -/
theorem sound (h : rightB S sb rows count = true) (hne : sb ≠ []) {s : List Nat} (hs : LE S sb s) : count ≤ jumps S s := by
  obtain ⟨_, h2, h3⟩ := right_iff.mp h
  cases s with
  | nil => exact absurd (show sb = [] from hs) hne
  | cons one s =>
    obtain ⟨v, g1, g2⟩ := (okRow_iff.mp h3).2 one hs.1
    have g3 := sound_row h2 s _ _ _ (look_mem g1) hs.2
    have g2 : count ≤ 0 + v := g2
    show count ≤ jl S one s
    have g3 : v ≤ jl S one s := g3
    omega

/-! ### the reached keys -/
def KR (S : Nat → Nat → Bool) (sb : List Nat) (k : KeyT) : Prop := ∃ o rest, Pre S sb o rest ∧ k.2 ∈ free S rest ∧ k.1 = rm rest k.2
theorem KR.next {k : KeyT} {one : Nat} (h : KR S sb k) (ho : one ∈ free S k.1) : KR S sb (rm k.1 one, one) := by
  obtain ⟨o, rest, h1, h2, h3⟩ := h
  refine ⟨o ++ [k.2], k.1, ?_, ho, rfl⟩
  rw [h3]
  exact h1.snoc h2
theorem KR.start {one : Nat} (ho : one ∈ free S sb) : KR S sb (rm sb one, one) := ⟨[], sb, rfl, ho, rfl⟩
theorem KR.sub {k : KeyT} (h : KR S sb k) : k.1.Sublist sb := by
  obtain ⟨o, rest, h1, h2, h3⟩ := h
  rw [h3]
  exact List.Sublist.trans List.filter_sublist h1.sublist
theorem KR.last {k : KeyT} (h : KR S sb k) : k.2 ∈ sb := by
  obtain ⟨o, rest, h1, h2, h3⟩ := h
  exact h1.sublist.subset (free_sub h2)
theorem KR.notin {k : KeyT} (h : KR S sb k) : k.2 ∉ k.1 := by
  obtain ⟨o, rest, h1, h2, h3⟩ := h
  rw [h3]
  intro hm
  exact (mem_rm.mp hm).2 rfl
/-- a set of keys that has the starts and is closed has all reached keys -/
theorem KR.all {ks : List KeyT} (h0 : ∀ one ∈ free S sb, (rm sb one, one) ∈ ks) (h1 : ∀ k ∈ ks, ∀ one ∈ free S k.1, (rm k.1 one, one) ∈ ks) : ∀ (n : Nat) (o rest : List Nat) (one : Nat), o.length = n → Pre S sb o rest → one ∈ free S rest → (rm rest one, one) ∈ ks
  | 0, o, rest, one, hl, hp, ho => by
    have : o = [] := List.length_eq_zero_iff.mp hl
    subst this
    have : rest = sb := hp
    subst this
    exact h0 one ho
  | n + 1, o, rest, one, hl, hp, ho => by
    have hne : o ≠ [] := fun e => by subst e; cases hl
    obtain ⟨p, x, rfl⟩ : ∃ p x, o = p ++ [x] := ⟨o.dropLast, o.getLast hne, (List.dropLast_concat_getLast hne).symm⟩
    obtain ⟨r0, g1, g2, g3⟩ := hp.snoc_inv
    have g4 := KR.all h0 h1 n p r0 x (by simpa using hl) g1 g2
    subst g3
    exact h1 _ g4 one ho
theorem KR.mem {ks : List KeyT} (h0 : ∀ one ∈ free S sb, (rm sb one, one) ∈ ks) (h1 : ∀ k ∈ ks, ∀ one ∈ free S k.1, (rm k.1 one, one) ∈ ks) {k : KeyT} (h : KR S sb k) : k ∈ ks := by
  obtain ⟨o, rest, g1, g2, g3⟩ := h
  have := KR.all h0 h1 _ o rest k.2 rfl g1 g2
  rw [← g3] at this
  exact this

/-! ### the potentials are right, and for no greater number -/
def rowsOf (S : Nat → Nat → Bool) (ks : List KeyT) : List Row := ks.map fun k => (k.1, k.2, fw S k.1 k.2)
theorem keys_rowsOf (ks : List KeyT) : (rowsOf S ks).map keyOf = ks := by
  unfold rowsOf
  rw [List.map_map]
  conv => rhs; rw [← List.map_id ks]
  exact List.map_congr_left fun k _ => rfl
theorem look_rowsOf {k : KeyT} : ∀ {ks : List KeyT}, k ∈ ks → look (rowsOf S ks) k = some (fw S k.1 k.2)
  | a :: r, h => by
    show (List.find? _ ((a.1, a.2, fw S a.1 a.2) :: rowsOf S r)).map _ = _
    by_cases e : a = k
    · subst e
      rw [List.find?_cons_of_pos (by simp [keyOf])]
      rfl
    · rw [List.find?_cons_of_neg (by intro h; exact e (of_decide_eq_true h))]
      rcases List.mem_cons.mp h with z | z
      · exact absurd z.symm e
      · exact look_rowsOf z
structure Pots (S : Nat → Nat → Bool) (sb : List Nat) (ks : List KeyT) : Prop where
  nd : ks.Nodup
  iff : ∀ k, k ∈ ks ↔ KR S sb k
theorem complete (so : SO S) (hsb : sb.Nodup) (hne : sb ≠ []) {ks : List KeyT} (P : Pots S sb ks) {most : Int} (h2 : ∀ s, LE S sb s → most ≤ jumps S s) : rightB S sb (rowsOf S ks) most = true := by
  rw [right_iff]
  refine ⟨by rw [keys_rowsOf]; exact P.nd, fun r hr => ?_, ?_⟩
  · obtain ⟨k, hk, rfl⟩ := List.mem_map.mp hr
    have hkr := (P.iff k).mp hk
    have hkn : k.1.Nodup := hkr.sub.nodup hsb
    rw [okRow_iff]
    refine ⟨fun e _ => ?_, fun one ho => ⟨_, look_rowsOf ((P.iff _).mpr (hkr.next ho)), ?_⟩⟩
    · show fw S k.1 k.2 ≤ 0
      rw [show k.1 = [] from e]
      exact Int.le_refl _
    · show fw S k.1 k.2 ≤ jump S k.2 one + fw S (rm k.1 one) one
      rw [fw_eq hkn (List.ne_nil_of_mem (free_sub ho))]
      exact minL_le (List.mem_map.mpr ⟨one, ho, rfl⟩)
  · rw [okRow_iff]
    refine ⟨fun _ h => (by cases h), fun one ho => ⟨_, look_rowsOf ((P.iff _).mpr (KR.start ho)), ?_⟩⟩
    obtain ⟨s, g1, g2⟩ := fw_att so _ (rm sb one) one rfl (rm_nodup hsb)
    have := h2 (one :: s) ⟨ho, g1⟩
    show most ≤ 0 + fw S (rm sb one) one
    have g2 : jumps S (one :: s) = fw S (rm sb one) one := g2
    omega
theorem nomore (hne : sb ≠ []) {most : Int} (h1 : ∃ s, LE S sb s ∧ jumps S s = most) {rows : List Row} : rightB S sb rows (most + 1) = false := by
  cases h : rightB S sb rows (most + 1) with
  | false => rfl
  | true =>
    obtain ⟨s, g1, g2⟩ := h1
    have := sound h hne g1
    omega
end

/-! ### all orders, step by step -/
section
variable {S : Nat → Nat → Bool} {sb : List Nat}
def left0 (sb o : List Nat) : List Nat := sb.filter fun y => !decide (y ∈ o)
def stepO (S : Nat → Nat → Bool) (sb : List Nat) (found : List (List Nat)) : List (List Nat) := found.flatMap fun o => (free S (left0 sb o)).map fun one => o ++ [one]
def ordsN (S : Nat → Nat → Bool) (sb : List Nat) : Nat → List (List Nat)
  | 0 => [[]]
  | k + 1 => stepO S sb (ordsN S sb k)
theorem mem_ordsN : ∀ {k : Nat} {o : List Nat}, o ∈ ordsN S sb k ↔ o.length = k ∧ ∃ rest, Pre S sb o rest
  | 0, o => by
    show o ∈ [[]] ↔ _
    constructor
    · intro h
      have : o = [] := by simpa using h
      subst this
      exact ⟨rfl, sb, rfl⟩
    · rintro ⟨h, _⟩
      rw [List.length_eq_zero_iff.mp h]
      exact List.mem_cons_self
  | k + 1, o => by
    show o ∈ (ordsN S sb k).flatMap _ ↔ _
    rw [List.mem_flatMap]
    constructor
    · rintro ⟨p, hp, h⟩
      obtain ⟨one, ho, rfl⟩ := List.mem_map.mp h
      obtain ⟨h1, rest, h2⟩ := mem_ordsN.mp hp
      have : left0 sb p = rest := h2.rest.symm
      rw [this] at ho
      exact ⟨by rw [List.length_append, h1]; rfl, _, h2.snoc ho⟩
    · rintro ⟨h, rest, hp⟩
      have hne : o ≠ [] := fun e => by subst e; cases h
      obtain ⟨p, x, rfl⟩ : ∃ p x, o = p ++ [x] := ⟨o.dropLast, o.getLast hne, (List.dropLast_concat_getLast hne).symm⟩
      obtain ⟨r0, g1, g2, g3⟩ := hp.snoc_inv
      refine ⟨p, mem_ordsN.mpr ⟨by simpa using h, r0, g1⟩, List.mem_map.mpr ⟨x, ?_, rfl⟩⟩
      have : left0 sb p = r0 := g1.rest.symm
      rw [this]
      exact g2
theorem mem_ords (hn : sb.Nodup) {o : List Nat} : o ∈ ordsN S sb sb.length ↔ LE S sb o := by
  rw [mem_ordsN, LE_iff]
  constructor
  · rintro ⟨h, rest, hp⟩
    have := hp.len hn
    have : rest = [] := List.length_eq_zero_iff.mp (by omega)
    subst this
    exact hp
  · intro h
    refine ⟨?_, _, h⟩
    have := h.len hn
    simpa using this
theorem ords_ne (so : SO S) (hn : sb.Nodup) : ordsN S sb sb.length ≠ [] := by
  obtain ⟨s, h, _⟩ := fw_att so _ sb 0 rfl hn
  exact List.ne_nil_of_mem ((mem_ords hn).mpr h)
/-- how many orders may be: a bound -/
theorem ordsN_len (hn : sb.Nodup) : ∀ {k : Nat}, (ordsN S sb k).length ≤ sb.length ^ k
  | 0 => Nat.le_refl _
  | k + 1 => by
    show ((ordsN S sb k).flatMap _).length ≤ _
    have ih := ordsN_len hn (k := k)
    have key : ∀ l : List (List Nat), (l.flatMap fun o => (free S (left0 sb o)).map fun one => o ++ [one]).length ≤ l.length * sb.length := by
      intro l
      induction l with
      | nil => simp
      | cons o l ihl =>
        rw [List.flatMap_cons, List.length_append, List.length_map, List.length_cons, Nat.succ_mul]
        have : (free S (left0 sb o)).length ≤ sb.length := by
          refine Nat.le_trans (List.length_filter_le _ _) (List.length_filter_le _ _)
        omega
    refine Nat.le_trans (key _) ?_
    rw [Nat.pow_succ]
    exact Nat.mul_le_mul_right _ ih

/-! ### the jumps of an order, counted by places -/
def jumpsN (S : Nat → Nat → Bool) (o : List Nat) : Nat := ((List.range (o.length - 1)).filter fun i => !S (o.getD i 0) (o.getD (i + 1) 0)).length
theorem filter_range_succ (f : Nat → Bool) (n : Nat) : ((List.range (n + 1)).filter f).length = (if f 0 = true then 1 else 0) + ((List.range n).filter fun i => f (i + 1)).length := by
  rw [List.range_succ_eq_map, List.filter_cons]
  have : ((List.map Nat.succ (List.range n)).filter f).length = ((List.range n).filter fun i => f (i + 1)).length := by
    rw [List.filter_map, List.length_map]
    rfl
  split
  · rw [List.length_cons, this]; omega
  · rw [this]; omega
theorem jumpsN_eq : ∀ o : List Nat, (jumpsN S o : Int) = jumps S o
  | [] => rfl
  | [a] => rfl
  | a :: b :: s => by
    have ih := jumpsN_eq (b :: s)
    unfold jumpsN at ih ⊢
    rw [show (a :: b :: s).length - 1 = (b :: s).length - 1 + 1 by simp, filter_range_succ]
    have e : ∀ i, (a :: b :: s).getD (i + 1) 0 = (b :: s).getD i 0 := fun i => by simp
    simp only [e]
    show _ = jump S a b + jl S b s
    have ih : _ = jl S b s := ih
    rw [← ih]
    show (((if (!S a b) = true then 1 else 0) + _ : Nat) : Int) = (if S a b = true then 0 else 1) + _
    cases S a b <;> simp <;> omega
end
end Qw
end
section
set_option autoImplicit false
set_option linter.all false
namespace Qw

/-! ### before: one or more edges, one behind the other -/
inductive TC (adj : Nat → List Nat) (a : Nat) : Nat → Prop
  | one {b : Nat} : b ∈ adj a → TC adj a b
  | step {b c : Nat} : TC adj a b → c ∈ adj b → TC adj a c
section
variable {adj : Nat → List Nat} {a b c v : Nat}
theorem TC.trans (h1 : TC adj a b) (h2 : TC adj b c) : TC adj a c := by
  induction h2 with
  | one h => exact .step h1 h
  | step _ h ih => exact .step ih h
theorem TC.closed {found : List Nat} (h0 : ∀ y ∈ adj v, y ∈ found) (h1 : ∀ x ∈ found, ∀ y ∈ adj x, y ∈ found) {y : Nat} (h : TC adj v y) : y ∈ found := by
  induction h with
  | one h => exact h0 _ h
  | step _ h ih => exact h1 _ ih _ h
theorem TC.lt {n : Nat} (hn : ∀ a b, b ∈ adj a → b < n) (h : TC adj a b) : b < n := by
  cases h with
  | one h => exact hn _ _ h
  | step _ h => exact hn _ _ h
end
open Classical in
noncomputable def tcB (adj : Nat → List Nat) (a b : Nat) : Bool := decide (TC adj a b)
noncomputable def stB (adj : Nat → List Nat) (a b : Nat) : Bool := tcB adj a b && !tcB adj b a
theorem tcB_iff {adj : Nat → List Nat} {a b : Nat} : tcB adj a b = true ↔ TC adj a b := by
  unfold tcB
  simp
theorem so_stB (adj : Nat → List Nat) : SO (stB adj) where
  irr := fun a => by unfold stB; cases tcB adj a a <;> rfl
  tr := fun a b c h1 h2 => by
    unfold stB at *
    simp only [Bool.and_eq_true, Bool.not_eq_true', tcB_iff] at *
    obtain ⟨h1, h1'⟩ := h1
    obtain ⟨h2, h2'⟩ := h2
    refine ⟨h1.trans h2, ?_⟩
    cases h : tcB adj c a with
    | false => rfl
    | true =>
      have := h2.trans (tcB_iff.mp h)
      rw [tcB_iff.mpr this] at h1'
      cases h1'

/-! ### the walk from v: what is found, what waits -/
structure DW (adj : Nat → List Nat) (n v : Nat) (found waiting : List Nat) : Prop where
  nd : found.Nodup
  lt : ∀ x ∈ found, x < n
  wl : ∀ x ∈ waiting, x < n
  ok : ∀ x ∈ found, TC adj v x
  wt : ∀ x ∈ waiting, x = v ∨ x ∈ found
  cl : ∀ x, (x = v ∨ x ∈ found) → x ∉ waiting → ∀ y ∈ adj x, y ∈ found
/-- .. while the lines behind u are looked at, those of done are -/
structure DI (adj : Nat → List Nat) (n v u : Nat) (done found waiting : List Nat) : Prop where
  nd : found.Nodup
  lt : ∀ x ∈ found, x < n
  wl : ∀ x ∈ waiting, x < n
  ok : ∀ x ∈ found, TC adj v x
  wt : ∀ x ∈ waiting, x = v ∨ x ∈ found
  cl : ∀ x, (x = v ∨ x ∈ found) → x ∉ waiting → x ≠ u → ∀ y ∈ adj x, y ∈ found
  dn : ∀ y ∈ done, y ∈ found
section
variable {adj : Nat → List Nat} {n v u x : Nat} {found waiting done : List Nat}
theorem DW.start (hv : v < n) : DW adj n v [] [v] :=
  ⟨List.nodup_nil, fun _ h => (nomatch h), fun x h => by rw [List.mem_singleton.mp h]; exact hv, fun _ h => (nomatch h), fun x h => .inl (List.mem_singleton.mp h), fun x h hn => by
    rcases h with h | h
    · exact absurd (by rw [h]; exact List.mem_singleton.mpr rfl) hn
    · cases h⟩
theorem DW.pop (h : DW adj n v found (waiting ++ [u])) : DI adj n v u [] found waiting := by
  refine ⟨h.nd, h.lt, fun x hx => h.wl x (List.mem_append_left _ hx), h.ok, fun x hx => h.wt x (List.mem_append_left _ hx), fun x hx hn hu => h.cl x hx ?_, fun _ h => nomatch h⟩
  intro hm
  rcases List.mem_append.mp hm with hm | hm
  · exact hn hm
  · exact hu (List.mem_singleton.mp hm)
theorem DI.old (h : DI adj n v u done found waiting) (hx : x ∈ found) : DI adj n v u (done ++ [x]) found waiting :=
  ⟨h.nd, h.lt, h.wl, h.ok, h.wt, h.cl, fun y hy => by
    rcases List.mem_append.mp hy with hy | hy
    · exact h.dn y hy
    · rw [List.mem_singleton.mp hy]; exact hx⟩
theorem DI.more (h : DI adj n v u done found waiting) (hu : u = v ∨ u ∈ found) (hx : x ∉ found) (ha : x ∈ adj u) (hl : x < n) : DI adj n v u (done ++ [x]) (found ++ [x]) (waiting ++ [x]) := by
  have tcx : TC adj v x := by
    rcases hu with e | hu
    · subst e; exact .one ha
    · exact .step (h.ok u hu) ha
  refine ⟨?_, fun y hy => ?_, fun y hy => ?_, fun y hy => ?_, fun y hy => ?_, fun y hy hn hne => ?_, fun y hy => ?_⟩
  · rw [List.nodup_append]
    refine ⟨h.nd, by simp, fun a ha b hb => ?_⟩
    rw [List.mem_singleton.mp hb]
    exact fun e => hx (e ▸ ha)
  · rcases List.mem_append.mp hy with hy | hy
    · exact h.lt y hy
    · rw [List.mem_singleton.mp hy]; exact hl
  · rcases List.mem_append.mp hy with hy | hy
    · exact h.wl y hy
    · rw [List.mem_singleton.mp hy]; exact hl
  · rcases List.mem_append.mp hy with hy | hy
    · exact h.ok y hy
    · rw [List.mem_singleton.mp hy]; exact tcx
  · rcases List.mem_append.mp hy with hy | hy
    · rcases h.wt y hy with e | e
      · exact .inl e
      · exact .inr (List.mem_append_left _ e)
    · exact .inr (List.mem_append_right _ hy)
  · have hyx : y ≠ x := fun e => hn (List.mem_append_right _ (by rw [e]; exact List.mem_singleton.mpr rfl))
    have hyf : y = v ∨ y ∈ found := by
      rcases hy with e | hy
      · exact .inl e
      · rcases List.mem_append.mp hy with hy | hy
        · exact .inr hy
        · exact absurd (List.mem_singleton.mp hy) hyx
    exact fun z hz => List.mem_append_left _ (h.cl y hyf (fun hm => hn (List.mem_append_left _ hm)) hne z hz)
  · rcases List.mem_append.mp hy with hy | hy
    · exact List.mem_append_left _ (h.dn y hy)
    · exact List.mem_append_right _ hy
theorem DI.done_ (h : DI adj n v u (adj u) found waiting) : DW adj n v found waiting :=
  ⟨h.nd, h.lt, h.wl, h.ok, h.wt, fun x hx hn y hy => by
    by_cases e : x = u
    · subst e; exact h.dn y hy
    · exact h.cl x hx hn e y hy⟩
theorem DW.fin (h : DW adj n v found []) (y : Nat) : y ∈ found ↔ TC adj v y :=
  ⟨h.ok y, fun t => t.closed (h.cl v (.inl rfl) (by simp)) fun x hx => h.cl x (.inr hx) (by simp)⟩
/-- no more than n different numbers below n -/
theorem nodup_len : ∀ (n : Nat) (l : List Nat), l.Nodup → (∀ x ∈ l, x < n) → l.length ≤ n
  | 0, l, _, hl => by
    cases l with
    | nil => exact Nat.le_refl _
    | cons a r => exact absurd (hl a List.mem_cons_self) (Nat.not_lt_zero _)
  | n + 1, l, hn, hl => by
    by_cases h : n ∈ l
    · have e := rm_length hn h
      have ih := nodup_len n (rm l n) (rm_nodup hn) fun x hx => by
        obtain ⟨h1, h2⟩ := mem_rm.mp hx
        have := hl x h1
        omega
      omega
    · have ih := nodup_len n l hn fun x hx => by
        have := hl x hx
        have : x ≠ n := fun e => h (e ▸ hx)
        omega
      omega
end
end Qw
end
section
set_option autoImplicit false
set_option linter.all false
namespace Qw
/-! ### how many keys there may be -/
section
variable {α : Type} [DecidableEq α]
theorem nodup_sub : ∀ (l m : List α), l.Nodup → (∀ x ∈ l, x ∈ m) → l.length ≤ m.length
  | [], _, _, _ => Nat.zero_le _
  | a :: r, m, hn, hs => by
    rw [List.nodup_cons] at hn
    have ha : a ∈ m := hs a List.mem_cons_self
    have ih := nodup_sub r (m.erase a) hn.2 fun x hx => by
      have hxa : x ≠ a := fun e => hn.1 (e ▸ hx)
      exact (List.mem_erase_of_ne hxa).mpr (hs x (List.mem_cons_of_mem _ hx))
    rw [List.length_erase_of_mem ha] at ih
    have : 0 < m.length := List.length_pos_of_mem ha
    rw [List.length_cons]
    omega
end
def subs : List Nat → List (List Nat)
  | [] => [[]]
  | a :: r => subs r ++ (subs r).map fun s => a :: s
theorem mem_subs : ∀ {l s : List Nat}, s.Sublist l → s ∈ subs l
  | [], s, h => by
    have : s = [] := List.sublist_nil.mp h
    subst this
    exact List.mem_cons_self
  | a :: r, s, h => by
    cases h with
    | cons _ h => exact List.mem_append_left _ (mem_subs h)
    | cons_cons _ h => exact List.mem_append_right _ (List.mem_map.mpr ⟨_, mem_subs h, rfl⟩)
theorem len_subs : ∀ l : List Nat, (subs l).length = 2 ^ l.length
  | [] => rfl
  | a :: r => by
    unfold subs
    rw [List.length_append, List.length_map, len_subs r, List.length_cons, Nat.pow_succ]
    omega
theorem len_prod (A : List (List Nat)) (B : List Nat) : (A.flatMap fun s => B.map fun a => (s, a)).length = A.length * B.length := by
  induction A with
  | nil => simp
  | cons s A ih =>
    rw [List.flatMap_cons, List.length_append, List.length_map, ih, List.length_cons, Nat.succ_mul]
    omega
theorem keys_len {S : Nat → Nat → Bool} {sb : List Nat} {ks : List KeyT} (hn : ks.Nodup) (h : ∀ k ∈ ks, KR S sb k) : ks.length ≤ 2 ^ sb.length * sb.length := by
  have := nodup_sub ks ((subs sb).flatMap fun s => sb.map fun a => (s, a)) hn fun k hk => by
    have hr := h k hk
    exact List.mem_flatMap.mpr ⟨k.1, mem_subs hr.sub, List.mem_map.mpr ⟨k.2, hr.last, rfl⟩⟩
  rwa [len_prod, len_subs] at this
theorem keys_len6 {S : Nat → Nat → Bool} {sb : List Nat} {ks : List KeyT} (hn : ks.Nodup) (h : ∀ k ∈ ks, KR S sb k) (h6 : sb.length ≤ 6) : ks.length ≤ 384 := by
  have h1 := keys_len hn h
  have h2 : 2 ^ sb.length ≤ 2 ^ 6 := Nat.pow_le_pow_right (by decide) h6
  have h3 : 2 ^ sb.length * sb.length ≤ 2 ^ 6 * 6 := Nat.mul_le_mul h2 h6
  omega
end Qw
end
section
set_option Elab.async false
set_option linter.all false
set_option maxRecDepth 100000
set_option maxHeartbeats 1000000
/-! dicts whose keys are nested tuples, over the hand layer -/
namespace QN
open PySem L2 PySem.Spec PyProof.Rows

mutual
/-- the value v is the key k, by tracked tuples -/
inductive KP (H : Hp) : NestedKey → V → Prop
  | num (i : Int) : KP H (.num i) (.int i)
  | text (x : Str) : KP H (.text x) (.str x)
  | tup {a : Addr} {vs : List V} {ks : List NestedKey} : H a = some (.tup vs) → KPs H ks vs → KP H (.tup ks) (.ref a)
inductive KPs (H : Hp) : List NestedKey → List V → Prop
  | nil : KPs H [] []
  | cons {k : NestedKey} {v : V} {ks : List NestedKey} {vs : List V} : KP H k v → KPs H ks vs → KPs H (k :: ks) (v :: vs)
end
/-- tuples stay -/
def TKeep (H H' : Hp) : Prop := ∀ a vs, H a = some (.tup vs) → H' a = some (.tup vs)
mutual
theorem KP.mono {H H' : Hp} (m : TKeep H H') : ∀ {k : NestedKey} {v : V}, KP H k v → KP H' k v
  | _, _, .num i => .num i
  | _, _, .text x => .text x
  | _, _, .tup h t => .tup (m _ _ h) (KPs.mono m t)
theorem KPs.mono {H H' : Hp} (m : TKeep H H') : ∀ {ks : List NestedKey} {vs : List V}, KPs H ks vs → KPs H' ks vs
  | _, _, .nil => .nil
  | _, _, .cons h t => .cons (KP.mono m h) (KPs.mono m t)
end
section
variable {P : Program} {w : World} {H : Hp} {h : Heap}
mutual
theorem KP.nested (ok : HOk P w H h) : ∀ {k : NestedKey} {v : V} {u : Value}, KP H k v → RelV v u → NestedIs h k u
  | _, _, _, .num i, r => by obtain ⟨t, rfl⟩ := r; exact .int i t
  | _, _, _, .text x, r => by obtain ⟨t, rfl⟩ := r; exact .text x t
  | _, _, _, .tup (a := a) (vs := vs) e t, r => by
    cases r
    obtain ⟨_, its, rv, o, h1, h2, n, h3⟩ := (show ObjOk P w H h a (.tup vs) from ok a _ e)
    exact .tup h1 h2 h3 (by simpa using KPs.nested ok t rv)
theorem KPs.nested (ok : HOk P w H h) : ∀ {ks : List NestedKey} {vs : List V} {us : List Value}, KPs H ks vs → Vals vs us → NestedAll h ks us
  | _, _, _, .nil, r => by cases r; exact .nil
  | _, _, _, .cons e t, r => by
    cases r with
    | cons r1 r2 => exact .cons (KP.nested ok e r1) (KPs.nested ok t r2)
end
end
mutual
theorem KP.dp {K : PySem.W.Frag} {H : Hp} : ∀ {k : NestedKey} {v : V}, KP H k v → Dp K H v k.data
  | _, _, .num i => .int i
  | _, _, .text x => .str x
  | _, _, .tup e t => by
    rw [NestedKey.data]
    exact .tup (Or.inl (Or.inl e)) (KPs.dp t)
theorem KPs.dp {K : PySem.W.Frag} {H : Hp} : ∀ {ks : List NestedKey} {vs : List V}, KPs H ks vs → DpAll K H vs (NestedKey.datas ks)
  | _, _, .nil => by rw [NestedKey.datas]; exact .nil
  | _, _, .cons e t => by
    rw [NestedKey.datas]
    exact .cons (KP.dp e) (KPs.dp t)
end

/-! ### the table at d: keys, where the keys' tuples stand, values -/
abbrev Ent := NestedKey × Addr × V
abbrev EntR : List Ent → List (NestedKey × Addr × Value) → Prop := Paired fun p q => p.1 = q.1 ∧ p.2.1 = q.2.1 ∧ RelV p.2.2 q.2.2
def entN (w : World) (y : NestedKey × Addr × Value) : DictEntry := ⟨y.1.hash w, .ref y.2.1, y.2.2⟩
def PhiN (w : World) (d : Addr) (xs : List Ent) (h : Heap) : Prop :=
  xs.length ≤ sizeLine ∧ (d == sysModules) = false ∧ ∃ ys, EntR xs ys ∧ ∃ o es ep, h.get? d = some o ∧ o.ExactDict ∧ o.data = .dict es ep ∧ es.toList = ys.map (entN w) ∧ (ys.map (·.1)).Nodup
def dN (w : World) (d : Addr) (xs : List Ent) : HO := .ext (PhiN w d xs)
def atN (xs : List Ent) (k : NestedKey) : Option V := (xs.find? fun x => decide (x.1 = k)).map (·.2.2)
def putN (xs : List Ent) (k : NestedKey) (b : Addr) (v : V) : List Ent := if (atN xs k).isSome = true then xs.map (fun x => if x.1 = k then (x.1, x.2.1, v) else x) else xs ++ [(k, b, v)]
/-- the keys stand where they are told -/
def KAll (H : Hp) (xs : List Ent) : Prop := ∀ x ∈ xs, KP H x.1 (.ref x.2.1) ∧ x.1.depth ≤ 8
theorem KAll.mono {H H' : Hp} {xs : List Ent} (m : TKeep H H') (k : KAll H xs) : KAll H' xs := fun x hx => ⟨(k x hx).1.mono m, (k x hx).2⟩
theorem KAll.nil {H : Hp} : KAll H [] := fun _ h => nomatch h
theorem mem_putN {xs : List Ent} {k : NestedKey} {b : Addr} {v : V} {x : Ent} (h : x ∈ putN xs k b v) : (∃ y ∈ xs, x.1 = y.1 ∧ x.2.1 = y.2.1) ∨ (x.1 = k ∧ x.2.1 = b) := by
  unfold putN at h
  split at h
  · obtain ⟨y, hy, e⟩ := List.mem_map.mp h
    refine .inl ⟨y, hy, ?_⟩
    split at e <;> subst e <;> exact ⟨rfl, rfl⟩
  · rcases List.mem_append.mp h with h | h
    · exact .inl ⟨x, h, rfl, rfl⟩
    · have : x = (k, b, v) := by simpa using h
      subst this
      exact .inr ⟨rfl, rfl⟩
theorem KAll.put {H : Hp} {xs : List Ent} {k : NestedKey} {b : Addr} {v : V} (ka : KAll H xs) (hk : KP H k (.ref b)) (hd : k.depth ≤ 8) : KAll H (putN xs k b v) := fun x hx => by
  rcases mem_putN hx with ⟨y, hy, e1, e2⟩ | ⟨e1, e2⟩
  · rw [e1, e2]; exact ka y hy
  · rw [e1, e2]; exact ⟨hk, hd⟩
theorem EntR.at {xs : List Ent} {ys : List (NestedKey × Addr × Value)} (r : EntR xs ys) (k : NestedKey) : RelO (atN xs k) ((atKey ys k).map (·.2)) := by
  induction r with
  | nil => exact True.intro
  | @cons p q ps qs h t ih =>
    obtain ⟨h1, _, h3⟩ := h
    by_cases e : p.1 = k
    · have e' : q.1 = k := h1.symm.trans e
      have l : atN (p :: ps) k = some p.2.2 := by simp [atN, List.find?_cons, e]
      have r : atKey (q :: qs) k = some q.2 := by simp [atKey, List.find?_cons, e']
      rw [l, r]; exact h3
    · have e' : ¬ q.1 = k := fun z => e (h1.trans z)
      have l : atN (p :: ps) k = atN ps k := by simp [atN, List.find?_cons, e]
      have r : atKey (q :: qs) k = atKey qs k := by simp [atKey, List.find?_cons, e']
      rw [l, r]; exact ih
theorem EntR.map {xs : List Ent} {ys : List (NestedKey × Addr × Value)} (r : EntR xs ys) (k : NestedKey) {v : V} {u : Value} (rv : RelV v u) : EntR (xs.map fun x => if x.1 = k then (x.1, x.2.1, v) else x) (ys.map (putAt k u)) := by
  induction r with
  | nil => exact .nil
  | @cons p q ps qs h t ih =>
    rw [List.map_cons, List.map_cons]
    refine .cons ?_ ih
    obtain ⟨h1, h2, h3⟩ := h
    unfold putAt
    by_cases e : p.1 = k
    · rw [if_pos e, if_pos (h1.symm.trans e)]; exact ⟨h1, h2, rv⟩
    · rw [if_neg e, if_neg (fun z => e (h1.trans z))]; exact ⟨h1, h2, h3⟩
theorem EntR.put {xs : List Ent} {ys : List (NestedKey × Addr × Value)} (r : EntR xs ys) (k : NestedKey) (b : Addr) {v : V} {u : Value} (rv : RelV v u) : EntR (putN xs k b v) (storedH ys k b u) := by
  have e : (atN xs k).isSome = (atKey ys k).isSome := by rw [(r.at k).isSome_eq, Option.isSome_map]
  unfold putN storedH
  rw [e]
  by_cases q : (atKey ys k).isSome = true
  · rw [if_pos q, if_pos q]; exact r.map k rv
  · rw [if_neg q, if_neg q]; exact Paired.snoc r ⟨rfl, rfl, rv⟩
theorem length_putN (xs : List Ent) (k : NestedKey) (b : Addr) (v : V) : (putN xs k b v).length ≤ xs.length + 1 := by
  unfold putN
  split
  · rw [List.length_map]; omega
  · rw [List.length_append]; exact Nat.le_refl _

theorem dN_obj {P : Program} {w : World} {H : Hp} {h : Heap} {d : Addr} {xs : List Ent} (p : PhiN w d xs h) : ObjOk P w H h d (dN w d xs) := by
  refine ⟨p, ?_, fun h1 h2 q k => ?_⟩
  · obtain ⟨_, _, _, _, o, _, _, e, _⟩ := p
    exact ⟨o, e⟩
  · obtain ⟨z, hd, ys, r, o, es, ep, e, t⟩ := q
    exact ⟨z, hd, ys, r, o, es, ep, k o e, t⟩

section
variable {X : Cx} {pins : List (Addr × Obj)} {σ : L2.St} {H : Hp} {s : Shared} {d b : Addr} {xs : List Ent} {k : NestedKey} {v : V} {u : Value} {A : Around} {E : Value → Shared → Prop}
theorem n_rd (I : Inv X pins σ H s) (r : Rd H d (dN X.w d xs)) (ka : KAll H xs) : xs.length ≤ sizeLine ∧ (d == sysModules) = false ∧ ∃ ys, EntR xs ys ∧ s.heap.DictOfH (nestedKind X.prog X.w) d ys := by
  obtain ⟨⟨z, hd, ys, rel, o, es, ep, h1, h2, h3, h4, h5⟩, _⟩ := (show ObjOk X.prog X.w H s.heap d (dN X.w d xs) from r.ok I.hok)
  refine ⟨z, hd, ys, rel, o, es, ep, h1, h2, h3, h4, ?_, h5⟩
  rename_i rest
  clear h4 h5 z r rest
  induction rel with
  | nil => intro x hx; exact nomatch hx
  | @cons p q ps qs hq t ih =>
    intro x hx
    rcases List.mem_cons.mp hx with e | hx
    · subst e
      obtain ⟨k1, k2⟩ := ka p List.mem_cons_self
      rw [← hq.1, ← hq.2.1]
      exact ⟨k1.nested I.hok rfl, k2⟩
    · exact ih (fun y hy => ka y (List.mem_cons_of_mem _ hy)) x hx
theorem n_key (I : Inv X pins σ H s) (hk : KP H k (.ref b)) (hd : k.depth ≤ 8) : (nestedKind X.prog X.w).is s.heap k b := ⟨hk.nested I.hok rfl, hd⟩
theorem n_room (hu : A.units + 64 < cLine) : (nestedKind X.prog X.w).room A.in1 := by
  show A.units + 1 + 8 < cLine
  omega

/-- y in d, y not in d, d[y], by values -/
def NGet (w : World) (H : Hp) (x y : V) (r : Option V) : Prop := ∃ d xs k b, x = .ref d ∧ y = .ref b ∧ Rd H d (dN w d xs) ∧ KAll H xs ∧ KP H k (.ref b) ∧ k.depth ≤ 8 ∧ r = atN xs k
theorem op_nin (hu : X.A.units + 64 < cLine) : OpR X (compareOp .In) (fun y x H Q => ∃ r, NGet X.w H x y r ∧ Q (.bl r.isSome) H) := by
  intro pins s σ H y x uy ux Q I ry rx h
  obtain ⟨r, ⟨d, xs, k, b, rfl, rfl, hr, ka, hk, hkd, rfl⟩, q⟩ := h
  cases ry; cases rx
  obtain ⟨_, hd, ys, rel, dd⟩ := n_rd I hr ka
  refine wpAny_in_heap (n_room hu) (n_key I hk hkd) hd dd ?_
  refine ⟨.bl (atN xs k).isSome, H, I.tok _, ?_, q⟩
  show Value.bool _ = Value.bool _
  rw [(rel.at k).isSome_eq, Option.isSome_map]
theorem op_nnotin (hu : X.A.units + 64 < cLine) : OpR X (compareOp .NotIn) (fun y x H Q => ∃ r, NGet X.w H x y r ∧ Q (.bl (!r.isSome)) H) := by
  intro pins s σ H y x uy ux Q I ry rx h
  obtain ⟨r, ⟨d, xs, k, b, rfl, rfl, hr, ka, hk, hkd, rfl⟩, q⟩ := h
  cases ry; cases rx
  obtain ⟨_, hd, ys, rel, dd⟩ := n_rd I hr ka
  refine wpAny_notIn_heap (n_room hu) (n_key I hk hkd) hd dd ?_
  refine ⟨.bl (!(atN xs k).isSome), H, I.tok _, ?_, q⟩
  show Value.bool _ = Value.bool _
  rw [(rel.at k).isSome_eq, Option.isSome_map]
theorem n_getItem (hu : A.units + 64 < cLine) {Q : Value → Shared → Prop} {o : V} (I : Inv X pins σ H s) (hr : Rd H d (dN X.w d xs)) (ka : KAll H xs) (hk : KP H k (.ref b)) (hkd : k.depth ≤ 8) (hv : atN xs k = some o)
    (h : ∀ u' s', Inv X pins σ H s' → RelV o u' → Q u' s') : wpAny (model X.prog X.w) A (getItem (.ref d) (.ref b)) Q E s := by
  obtain ⟨_, hd, ys, rel, dd⟩ := n_rd I hr ka
  obtain ⟨u', hu', ru⟩ := RelO.some_of (v := o) (o := (atKey ys k).map (·.2)) (by rw [← hv]; exact rel.at k)
  obtain ⟨p, hp, hp2⟩ := Option.map_eq_some_iff.mp hu'
  refine wpAny_getItem_heap (n_room hu) (n_key I hk hkd) dd hp ?_
  rw [hp2]
  exact h u' _ (I.tok _) ru
theorem n_type (I : Inv X pins σ H s) (hr : Rd H d (dN X.w d xs)) (ka : KAll H xs) : s.TypeIs (.ref d) "dict" ∧ ∀ a, Value.ref d = .ref a → ∃ ob, s.heap.get? a = some ob ∧ ob.dict = none := by
  obtain ⟨_, _, ys, _, dd⟩ := n_rd I hr ka
  refine ⟨dd.typeIs, fun a e => ?_⟩
  cases e
  obtain ⟨o, _, _, h1, h2, _⟩ := dd
  exact ⟨o, h1, h2.2.1⟩

/-- d[k] -/
theorem pe_nget {o i : Expr} {pos : Pos} {td ty : TE} (hu : X.A.units + 64 < cLine) (ho : PE X o td) (hi : PE X i ty) (hs : NoSl i) : PE X (.Subscript o i pos) (tOp (fun x y H Q => ∃ v, NGet X.w H x y (some v) ∧ Q v H) td ty) := by
  refine ⟨fun pins s σ H Q I h => ?_⟩
  refine subD_of PySem.F.slot_dict_getitem.lookup hs (thn (ho.run pins s σ H _ I h) fun u s1 hq => ?_)
  obtain ⟨x, H1, I1, rx, q1⟩ := hq
  refine thn (hi.run pins s1 σ H1 _ I1 q1) fun iv s2 hq => ?_
  obtain ⟨y, H2, I2, ry, o', ⟨d, xs, k, b, ex, ey, hr, ka, hk, hkd, e⟩, q⟩ := hq
  subst ex
  subst ey
  cases rx
  cases ry
  exact ⟨(n_type I2 hr ka).1, n_getItem hu I2 hr ka hk hkd e.symm fun u' s' I' r' => ⟨o', H2, I', r', q⟩⟩
theorem n_write {h' : Heap} {t' : Nat} {ob : HO} {mu : Mut (H d)} (I : Inv X pins σ H s) (hs : Heap.SameBut d s.heap h') (he : ∃ q, h'.get? d = some q) (new : ObjOk X.prog X.w (upd H d ob) h' d ob) :
    Inv X pins σ (upd H d ob) { s with heap := h', toks := t' } :=
  I.write (x := d) (e := d) mu (Or.inl rfl) (fun c o hc e => Eq.trans (hs.2 c hc) e) he new
/-- d[k] = v -/
def rNPut (w : World) : TSet := fun o i v H Q => ∃ d xs k b, o = .ref d ∧ i = .ref b ∧ H d = some (dN w d xs) ∧ KAll H xs ∧ KP H k (.ref b) ∧ k.depth ≤ 8 ∧ xs.length < sizeLine ∧ Q (upd H d (dN w d (putN xs k b v)))
theorem n_phi {P : Program} {w : World} {h' : Heap} {ys : List (NestedKey × Addr × Value)} (z : xs.length ≤ sizeLine) (hd : (d == sysModules) = false) (rel : EntR xs ys) (dd : h'.DictOfH (nestedKind P w) d ys) : PhiN w d xs h' := by
  obtain ⟨o, es, ep, h1, h2, h3, h4, _, h5⟩ := dd
  exact ⟨z, hd, ys, rel, o, es, ep, h1, h2, h3, h4, h5⟩
theorem n_there {P : Program} {w : World} {h' : Heap} {ys : List (NestedKey × Addr × Value)} (dd : h'.DictOfH (nestedKind P w) d ys) : ∃ q, h'.get? d = some q := let ⟨q, _, _, e, _⟩ := dd; ⟨q, e⟩
theorem set_n (hu : X.A.units + 64 < cLine) : PSet X (rNPut X.w) := by
  intro pins s σ H o i v ov iv u Q I ro ri rv h
  obtain ⟨d, xs, k, b, rfl, rfl, hd0, ka, hk, hkd, hl, q⟩ := h
  cases ro; cases ri
  obtain ⟨z, hd, ys, rel, dd⟩ := n_rd I (Or.inl hd0) ka
  have hz : ys.length ≤ sizeLine := by rw [← Paired.length rel]; exact z
  refine wpAny_setItem_heap (hsz := hz) (n_room hu) (n_key I hk hkd) dd fun h' dd' hs => ⟨_, n_write (mu := by rw [hd0]; exact True.intro) I hs (n_there dd') (dN_obj (n_phi ?_ hd (rel.put k b rv) dd')), q⟩
  have := length_putN xs k b v
  omega
/-- {} that is to have such keys -/
theorem pe_nnew {pos : Pos} : PE X (.Dict [] [] pos) (fun _ H Q => ∀ p, H p = none → Q (.ref p) (upd H p (dN X.w p []))) := by
  refine ⟨fun pins s σ H Q I h => wpAny_Dict_empty ⟨.ref s.heap.objs.size, _, I.laid (a := s.heap.objs.size) (o := dN X.w s.heap.objs.size []) (t' := s.toks) (fun _ _ q => Heap.get?_push_of_some _ q) (Nat.le_refl _) (dN_obj ?_), rfl, h _ I.fresh⟩⟩
  exact n_phi (P := X.prog) (Nat.zero_le _) (beq_eq_false_iff_ne.mpr (Nat.ne_of_gt I.big)) .nil (Heap.DictOfH.new s.heap)
/-- len(d) -/
theorem call_nlen : CallR X (.builtin "len") (fun vs H Q => ∃ d xs, vs = [.ref d] ∧ Rd H d (dN X.w d xs) ∧ KAll H xs ∧ Q (.int xs.length) H) := by
  intro pins s σ H vs us Q I r h
  obtain ⟨d, xs, rfl, hr, ka, q⟩ := h
  have := Vals.ref1 r
  subst this
  obtain ⟨z, hd, ys, rel, dd⟩ := n_rd I hr ka
  obtain ⟨es, ep, hrw, hsz, _⟩ := dd.raw
  have hl : es.size = xs.length := by rw [hsz, ← Paired.length rel]
  refine PyProof.Rows.call_len_slot (n := es.size) dd.typeIs PySem.F.slot_dict_len (fun Q' hq => call_len_raw hd hrw hq) (by omega) (by rw [sizeLine_eq] at z; omega) ?_
  rw [hl]
  exact ⟨.int xs.length, H, I.tok _, ⟨_, rfl⟩, q⟩
/-- d.get(k, x) -/
def tNGet2 (w : World) (td ty tx : TE) : TE := fun σ H Q => td σ H fun x H1 => (∃ d xs, x = .ref d ∧ Rd H1 d (dN w d xs) ∧ KAll H1 xs) ∧ ty σ H1 fun y H2 => tx σ H2 fun z H3 => ∃ r, NGet w H3 x y r ∧ Q (r.getD z) H3
theorem pe_nget2 {o e f : Expr} {td ty tx : TE} {apos cpos : Pos} (hu : X.A.units + 64 < cLine) (ho : PE X o td) (he : PE X e ty) (hf : PE X f tx) (m : M2 X o "get" apos e f cpos) : PE X (.Call (.Attribute o "get" apos) [e, f] [] cpos) (tNGet2 X.w td ty tx) := by
  refine ⟨fun pins s σ H Q I h => ?_⟩
  refine wpAny_Call_method m.base m.few m.line PySem.F.plainAttrs_dict PySem.F.slot_dict_get PySem.F.type_dict_get (thn (ho.run pins s σ H _ I h) fun u s1 hq => ?_)
  obtain ⟨x, H1, I1, rx, ⟨d, xs, rfl, hr, ka⟩, q1⟩ := hq
  cases rx
  refine ⟨(n_type I1 hr ka).1, (n_type I1 hr ka).2, ?_⟩
  rw [m.trees]
  refine Calls.callWith_builtin rfl (Calls.evalArgs_plain (Calls.spliced_cons (thn (he.run pins s1 σ H1 _ I1 q1) fun iv s2 hq => ?_)))
  obtain ⟨y, H2, I2, ry, q2⟩ := hq
  refine Calls.spliced_cons (thn (hf.run pins s2 σ H2 _ I2 q2) fun fv s3 hq => Calls.spliced_nil ?_)
  obtain ⟨z, H3, I3, rz, r, ⟨d', xs', k, b, ed, ey, hr', ka', hk, hkd, er⟩, q3⟩ := hq
  cases ed
  subst ey
  cases ry
  obtain ⟨_, hd, ys, rel, dd⟩ := n_rd I3 hr' ka'
  refine call_meetsIn PySem.F.slot_dict_get dd.typeIs PySem.F.entry_dict_get (PySem.F.args_dict_get_3 _ _ _) (meetsH_dict_get_default (nestedKind X.prog X.w) d b hd fv) ⟨n_room hu, k, ys, n_key I3 hk hkd, dd, ?_⟩
  refine ⟨r.getD z, H3, I3.tok _, ?_, q3⟩
  rw [er]
  exact (rel.at k).getD rz
end
end QN
end
section
set_option Elab.async false
set_option linter.all false
set_option maxRecDepth 100000
set_option maxHeartbeats 1000000
/-! dicts with nested keys walked by their keys; list(d) -/
namespace QN
open PySem L2 PySem.Spec PyProof.Rows

theorem paired_of {α β : Type} {F : α → β → Prop} : ∀ {l : List α} {m : List β}, l.length = m.length → (∀ (i : Nat) (a : α) (b : β), l[i]? = some a → m[i]? = some b → F a b) → Paired F l m
  | [], [], _, _ => .nil
  | [], _ :: _, h, _ => by cases h
  | _ :: _, [], h, _ => by cases h
  | a :: l, b :: m, h, f => .cons (f 0 a b rfl rfl) (paired_of (by simpa using h) fun i x y e1 e2 => f (i + 1) x y (by simpa using e1) (by simpa using e2))
section
variable {X : Cx} {pins : List (Addr × Obj)} {σ : L2.St} {H : Hp} {s : Shared} {d : Addr} {o : Obj} {xs : List Ent}
/-- the object of a locked dict, entry by entry -/
structure RawN (o : Obj) (xs : List Ent) (es : Array DictEntry) (ep : Nat) : Prop where
  exact_ : o.ExactDict
  data : o.data = .dict es ep
  size : es.size = xs.length
  key : ∀ (i : Nat) (e : Ent), xs[i]? = some e → ∃ en : DictEntry, es[i]? = some en ∧ en.key = .ref e.2.1
theorem phi_raw {w : World} {h : Heap} (p : PhiN w d xs h) : (d == sysModules) = false ∧ ∃ o es ep, h.get? d = some o ∧ RawN o xs es ep := by
  obtain ⟨_, hd, ys, rel, o, es, ep, h1, h2, h3, h4, _⟩ := p
  have hl : es.size = ys.length := by rw [← Array.length_toList, h4, List.length_map]
  refine ⟨hd, o, es, ep, h1, h2, h3, by rw [hl, ← Paired.length rel], fun i e he => ?_⟩
  obtain ⟨y, hy, _, e2, _⟩ := paired_get rel he
  refine ⟨entN w y, ?_, by rw [e2]; rfl⟩
  rw [← Array.getElem?_toList, h4, List.getElem?_map, hy]
  rfl
theorem frz_raw (I : Inv X pins σ H s) (hf : H d = some (.frz o (dN X.w d xs))) : (d == sysModules) = false ∧ s.heap.get? d = some o ∧ ∃ es ep, RawN o xs es ep := by
  obtain ⟨g, p, _⟩ := (show ObjOk X.prog X.w H s.heap d (.frz o (dN X.w d xs)) from I.hok d _ hf)
  obtain ⟨hd, o', es, ep, h1, r⟩ := phi_raw p
  rw [g] at h1
  cases h1
  exact ⟨hd, g, es, ep, r⟩
end

def ItN (w : World) (d : Addr) (o : Obj) (xs : List Ent) : It where
  go := fun i H => H d = some (.frz o (dN w d xs)) ∧ i < xs.length
  yld := fun i H x H' => H' = H ∧ ∃ e, xs[i]? = some e ∧ x = .ref e.2.1
  stop := fun i H => H d = some (.frz o (dN w d xs)) ∧ xs.length ≤ i
section
variable {P : Program} {w : World} {K : PySem.W.Frag} {tg : Expr} {d : Addr} {o : Obj} {xs : List Ent}
theorem turn_N {es : Array DictEntry} {ep : Nat} (it : Addr) (R : RawN o xs es ep) : Turn P w K tg (ItN w d o xs) [it] it (fun i h => h.IsKeyIter it d i xs.length ep) where
  mem := List.mem_singleton.mpr rfl
  obj := by
    rintro i h ⟨oi, e, _, dd⟩ b hb
    rw [List.mem_singleton.mp hb]
    exact ⟨oi, e, fun v z => by rw [dd] at z; cases z⟩
  keep := fun i h h' t k => t.at fun oi e => k it (List.mem_singleton.mpr rfl) oi e
  item := by
    rintro Y rfl rfl rfl hcalm i pn t τ G Er J hfp ti ⟨hg, hi⟩
    obtain ⟨_, g, es', ep', R'⟩ := frz_raw J hg
    obtain ⟨e1, e2⟩ := dict_ep R.data R'.data
    subst e1; subst e2
    obtain ⟨en, h1, h2⟩ := R.key i xs[i] (List.getElem?_eq_getElem hi)
    obtain ⟨f0, f1, _, f3, f4, f5⟩ := hfp it (List.mem_singleton.mpr rfl)
    refine next_key_item ti g R.data R.size h1 fun h' ti' sb => ?_
    obtain ⟨oi, e, c, dd⟩ := id ti'
    refine ⟨en.key, rfl, go_of (s := { t with heap := h' }) e c dd (by decide) ⟨.ref xs[i].2.1, G, ?_, ?_, ⟨rfl, xs[i], List.getElem?_eq_getElem hi, rfl⟩, ti', fun b hb => (hfp b hb).1⟩⟩
    · exact J.turned (t' := t.toks) (fun b ob hb q => Eq.trans (sb.2 b hb) q) f0 f1 f3 f4 f5
    · exact h2
  done := by
    rintro Y rfl rfl rfl hcalm i pn t τ G Er J hfp ti ⟨hg, hi⟩
    obtain ⟨_, g, es', ep', R'⟩ := frz_raw J hg
    obtain ⟨e1, e2⟩ := dict_ep R.data R'.data
    subst e1; subst e2
    obtain ⟨f0, f1, _, f3, f4, f5⟩ := hfp it (List.mem_singleton.mpr rfl)
    exact next_key_end (J.ok.hd hcalm) ti g R.data R.size hi fun h' eb => ⟨rfl, J.turned (t' := t.toks) (fun b ob hb q => eb b ob hb q) f0 f1 f3 f4 f5⟩
  self := fun A i s Q E ti h => by
    refine wpAny_pyIter_slot ti.typeIs F.slot_dict_keyiterator_iter (wpAny_call_entry F.slot_dict_keyiterator_iter ti.typeIs F.entry_dict_keyiterator_iter ?_ (F.args_dict_keyiterator_iter_1 _))
    show wpAny (model P w) _ (pure (PySem.Fin.done (.ret (.ref it)))) _ _ s
    refine wpAny_pure ?_
    exact ⟨_, rfl, "dict_keyiterator", _, ti.typeIs, F.slot_dict_keyiterator_next.lookup, h⟩
theorem walk_N : Walk (ItN w d o xs) xs.length (fun H => H d = some (.frz o (dN w d xs))) (fun i H x H' => H' = H ∧ ∃ e, xs[i]? = some e ∧ x = .ref e.2.1) :=
  ⟨fun _ _ hi g => ⟨g, hi⟩, fun _ g => ⟨g, Nat.le_refl _⟩, fun _ _ _ _ _ _ y => y⟩
end
section
variable {X : Cx}
/-- for k in d, d locked -/
def iN (w : World) (td : TE) : TI := fun σ H R => td σ H fun x H1 => ∃ d o xs, x = .ref d ∧ H1 d = some (.frz o (dN w d xs)) ∧ R (ItN w d o xs) H1
theorem pi_N {tg e : Expr} {td : TE} (he : PE X e td) : PI X tg e (iN X.w td) := by
  refine ⟨fun pn t τ G Rr J h => thn (he.run pn t τ G _ J h) fun u t1 hq => ?_⟩
  obtain ⟨x, G1, J1, rx, d, o, xs, ex, hf, q⟩ := hq
  subst ex
  cases rx
  obtain ⟨hd, g, es, ep, R⟩ := frz_raw J1 hf
  refine iter_keys hd g R.exact_ R.data (pi_one (tk := t1.toks) J1 _ (turn_N _ R) ⟨_, Heap.get?_push_size _ rfl, rfl, ?_⟩ q)
  rw [R.size]
  rfl
/-- list(d): its keys, as they stand in it -/
theorem call_nlist (hc : X.calm = true) : CallR X (.type "list") (fun vs H Q => ∃ d xs, vs = [.ref d] ∧ Rd H d (dN X.w d xs) ∧ ∀ p, H p = none → Q (.ref p) (upd H p (.lst (xs.map fun e => V.ref e.2.1)))) := by
  intro pins s σ H vs us Q I r h
  obtain ⟨d, xs, rfl, hr, q⟩ := h
  have := Vals.ref1 r
  subst this
  obtain ⟨p, _⟩ := (show ObjOk X.prog X.w H s.heap d (dN X.w d xs) from hr.ok I.hok)
  have z : xs.length ≤ sizeLine := p.1
  obtain ⟨hd, o, es, ep, g, R⟩ := phi_raw p
  refine PySem.W.kdl_call (KdlSrc.rawDict (es := es) (ep := ep) hd) (I.ok.hd hc) ⟨o, g, R.exact_, R.data⟩ (by rw [R.size]; exact z) fun h' tk acc c' hk hD hacc => ?_
  refine ⟨.ref s.heap.objs.size, _, I.laid (a := s.heap.objs.size) (o := .lst (xs.map fun e => V.ref e.2.1)) (t' := tk) hk (Nat.le_refl _) ⟨by rw [List.length_map]; exact z, acc.toList, c', ?_, ?_⟩, rfl, q _ I.fresh⟩
  · refine paired_of ?_ ?_
    · rw [List.length_map, Array.length_toList]
      exact (Eq.trans hacc.1 R.size).symm
    · intro i v u e1 e2
      rw [List.getElem?_map] at e1
      cases e3 : xs[i]? with
      | none => rw [e3] at e1; cases e1
      | some e =>
        rw [e3] at e1
        cases e1
        obtain ⟨hi, hu⟩ := hacc.2 i u (by rw [← Array.getElem?_toList]; exact e2)
        obtain ⟨en, h1, h2⟩ := R.key i e e3
        have : en = es[i] := by rw [Array.getElem?_eq_getElem hi] at h1; exact (Option.some.inj h1).symm
        subst this
        rw [hu, h2]
        rfl
  · exact hD
end
end QN
end
section
set_option Elab.async false
set_option linter.all false
set_option maxRecDepth 100000
set_option maxHeartbeats 1000000
/-! sorted of lists of data and of dicts with nested keys -/
namespace QN
open PySem L2 PySem.Spec PyProof.Rows

section
variable {β : Type} {val : β → V} {enc : β → PyData}
theorem each_vals {bs : List β} : ∀ {us : List Value}, Vals (bs.map val) us → PySem.W.EachIs (fun v b => RelV (val b) v) us bs := by
  induction bs with
  | nil => intro us r; cases r; exact .nil
  | cons b bs ih =>
    intro us r
    cases r with
    | cons r1 r2 => exact .cons r1 (ih r2)
theorem vals_each {bs : List β} : ∀ {us : List Value}, PySem.W.EachIs (fun v b => RelV (val b) v) us bs → Vals (bs.map val) us := by
  induction bs with
  | nil => intro us r; cases r; exact .nil
  | cons b bs ih =>
    intro us r
    cases r with
    | cons r1 r2 => exact .cons r1 (ih r2)
theorem each_with {R S : Value → β → Prop} : ∀ {us : List Value} {bs : List β}, PySem.W.EachIs R us bs → (∀ u b, b ∈ bs → R u b → S u b) → PySem.W.EachIs S us bs
  | _, _, .nil, _ => .nil
  | _, _, .cons h t, f => .cons (f _ _ List.mem_cons_self h) (each_with t fun u b hb r => f u b (List.mem_cons_of_mem _ hb) r)
end
section
variable {X : Cx}
/-- what is asked of items that are to be sorted -/
structure SortOk (K : PySem.W.Frag) (H : Hp) {β : Type} (val : β → V) (enc : β → PyData) (bs : List β) : Prop where
  dp : ∀ b ∈ bs, Dp K H (val b) (enc b)
  alike : PySem.W.AllAlike (bs.map enc)
  sortable : PySem.W.Sortable (bs.map enc)
  depth : ∀ b ∈ bs, (enc b).depth ≤ 60
theorem call_sortedL {β : Type} (val : β → V) (enc : β → PyData) (hu : X.A.units + 64 < cLine) : CallR X (.builtin "sorted") (fun vs H Q => ∃ (a : Addr) (bs : List β), vs = [.ref a] ∧ SqL X.K H a (bs.map val) ∧ SortOk X.K H val enc bs ∧
    ∀ p, H p = none → Q (.ref p) (upd H p (.lst ((bs.mergeSort (PySem.W.dataLe false enc)).map val)))) := by
  intro pins s σ H vs us Q I r h
  obtain ⟨a, bs, rfl, hl, ok, q⟩ := h
  have := Vals.ref1 r
  subst this
  obtain ⟨its, rv, pl, hz⟩ := I.list hl
  have hlen : bs.length ≤ sizeLine := by rw [← List.length_map (f := val)]; exact hz
  have e1 := each_vals rv
  refine PySem.W.sorted_data pl.isList e1 (each_with e1 fun u b hb r => Dp.reads I (enc b) (val b) u (ok.dp b hb) r) ok.alike ok.sortable hlen (fun b hb => by have := ok.depth b hb; omega) fun out ho e2 => ?_
  have hH : H (s.heap.objs.size + 1) = none := I.hok.fresh (Nat.le_succ _)
  obtain ⟨ep, hat⟩ := PyProof.Rows.sortedAll_at s.heap its out.toArray
  refine ⟨.ref (s.heap.objs.size + 1), _, I.laid (a := s.heap.objs.size + 1) (o := .lst ((bs.mergeSort (PySem.W.dataLe false enc)).map val)) (t' := s.toks) (fun c o e => PyProof.Rows.sortedAll_old e) (Nat.le_succ _) ⟨?_, out, ep, vals_each e2, hat⟩, rfl, q _ hH⟩
  rw [List.length_map, List.length_mergeSort]
  exact hlen
/-- sorted(d) of a dict whose keys are nested tuples: its keys -/
theorem call_sortedN {β : Type} (key : β → NestedKey) (hu : X.A.units + 64 < cLine) (hc : X.calm = true) : CallR X (.builtin "sorted") (fun vs H Q => ∃ (d : Addr) (xs : List Ent) (bs : List (β × Addr)), vs = [.ref d] ∧ Rd H d (dN X.w d xs) ∧ xs.map (fun e => V.ref e.2.1) = bs.map (fun b => V.ref b.2) ∧
    SortOk X.K H (fun b : β × Addr => V.ref b.2) (fun b => (key b.1).data) bs ∧
    ∀ p, H p = none → Q (.ref p) (upd H p (.lst ((bs.mergeSort (PySem.W.dataLe false fun b => (key b.1).data)).map fun b => V.ref b.2)))) := by
  intro pins s σ H vs us Q I r h
  obtain ⟨d, xs, bs, rfl, hr, hbs, ok, q⟩ := h
  have := Vals.ref1 r
  subst this
  obtain ⟨p, _⟩ := (show ObjOk X.prog X.w H s.heap d (dN X.w d xs) from hr.ok I.hok)
  have z : xs.length ≤ sizeLine := p.1
  obtain ⟨hd, o, es, ep, g, R⟩ := phi_raw p
  have hlb : xs.length = bs.length := by
    have := congrArg List.length hbs
    simpa using this
  refine Calls.call_function_entry PyProof.Rows.kind_sorted PyProof.Rows.plain_sorted PyProof.Rows.entry_sorted (PyProof.Rows.args_sorted1 _) ?_
  unfold Builtin.«sorted»
  refine wpAny_bind (m := checkCount "sorted" 1 1 _) (wpAny_pure ?_)
  refine wpAny_bind (PySem.W.kdu_collect (KdlSrc.rawDict (es := es) (ep := ep) hd) (I.ok.hd hc) ⟨o, g, R.exact_, R.data⟩ (by rw [R.size]; exact z) fun h1 tk acc hk hacc => ?_)
  have hal : acc.toList.length = xs.length := by rw [Array.length_toList]; exact Eq.trans hacc.1 R.size
  have rv : Vals (bs.map fun b => V.ref b.2) acc.toList := by
    rw [← hbs]
    refine paired_of (by rw [List.length_map, hal]) fun i v u e1 e2 => ?_
    rw [List.getElem?_map] at e1
    cases e3 : xs[i]? with
    | none => rw [e3] at e1; cases e1
    | some e =>
      rw [e3] at e1
      cases e1
      obtain ⟨hi, hu'⟩ := hacc.2 i u (by rw [← Array.getElem?_toList]; exact e2)
      obtain ⟨en, g1, g2⟩ := R.key i e e3
      have : en = es[i] := by rw [Array.getElem?_eq_getElem hi] at g1; exact (Option.some.inj g1).symm
      subst this
      rw [hu', g2]
      rfl
  have I1 : L2.Inv X pins σ H { s with heap := h1, toks := tk } := I.kept hk
  refine wpAny_bind (wpAny_newList ?_ (by rw [hal]; exact z))
  have hL : (h1.push (seqObj "list" acc.toList.toArray 0)).get? h1.objs.size = some (seqObj "list" acc.toList.toArray 0) := Heap.get?_push_size _ rfl
  have I2 : L2.Inv X pins σ H { s with heap := h1.push (seqObj "list" acc.toList.toArray 0), toks := tk } := I1.kept fun b o e => Heap.get?_push_of_some _ e
  have e1 := each_vals (val := fun b : β × Addr => V.ref b.2) rv
  show wpAny (model X.prog X.w) _ _ _ _ { s with heap := h1.push (seqObj "list" acc.toList.toArray 0), toks := tk }
  have kk : ∀ (b : Addr) (o : Obj), (h1.push (seqObj "list" acc.toList.toArray 0)).get? b = some o → b ≠ h1.objs.size → (PySem.W.sortingHeap (h1.push (seqObj "list" acc.toList.toArray 0)) h1.objs.size acc.toList).get? b = some o := fun b o e hb => PySem.W.sortingHeap_old hb e
  have rd : PySem.W.EachIs (fun v (b : β × Addr) => ∃ as, Reads (PySem.W.sortingHeap (h1.push (seqObj "list" acc.toList.toArray 0)) h1.objs.size acc.toList) v (key b.1).data as) acc.toList bs := by
    refine each_with e1 fun u b hb r => ?_
    obtain ⟨as, rr⟩ := Dp.reads I1 _ _ u (ok.dp b hb) r
    exact ⟨as, PyProof.Rows.Reads.keeps (fun b o e => kk b o (Heap.get?_push_of_some _ e) (Nat.ne_of_lt (Heap.lt_size e))) rr⟩
  refine wpAny_bind (wpAny_holding (wpAny_call_entry PyProof.Rows.slot_list_sort ⟨_, hL, rfl⟩ PyProof.Rows.entry_list_sort
    (PySem.W.list_sort_vals (κ := PySem.W.dataKind (PySem.W.sortingHeap (h1.push (seqObj "list" acc.toList.toArray 0)) h1.objs.size acc.toList) (bs.map fun b => (key b.1).data)) (s := { s with heap := h1.push (seqObj "list" acc.toList.toArray 0), toks := tk }) hL
      (PySem.W.SortsAt.data (s := { s with heap := PySem.W.sortingHeap (h1.push (seqObj "list" acc.toList.toArray 0)) h1.objs.size acc.toList, toks := tk }) (PySem.W.each_map (R := fun v d => ∃ as, Reads (PySem.W.sortingHeap (h1.push (seqObj "list" acc.toList.toArray 0)) h1.objs.size acc.toList) v d as) (fun b : β × Addr => (key b.1).data) rd) ok.alike ok.sortable
        (PySem.W.bound_map (enc := fun b : β × Addr => (key b.1).data) fun b hb => by have := ok.depth b hb; show X.A.units + 1 + 1 + _ < _; omega))
      (by rw [hal]; exact z) ⟨_, rfl, ?_⟩)
    (PyProof.Rows.args_list_sort _)))
  have e2 := PySem.W.sortVals_data (h' := PySem.W.sortingHeap (h1.push (seqObj "list" acc.toList.toArray 0)) h1.objs.size acc.toList) (enc := fun b : β × Addr => (key b.1).data) false e1 rd ok.alike
  obtain ⟨ep', hat⟩ := PyProof.Rows.sortedHeap_at (vs := acc.toList) (out := (PySem.W.sortVals (PySem.W.dataKind (PySem.W.sortingHeap (h1.push (seqObj "list" acc.toList.toArray 0)) h1.objs.size acc.toList) (bs.map fun b => (key b.1).data)) false acc.toList acc.toList).toArray) hL
  refine wpAny_pure ⟨_, rfl, .ref h1.objs.size, _, I1.laid (a := h1.objs.size) (o := .lst ((bs.mergeSort (PySem.W.dataLe false fun b => (key b.1).data)).map fun b => V.ref b.2)) (t' := tk) (fun b o e => ?_) (Nat.le_refl _) ⟨?_, _, ep', vals_each (val := fun b : β × Addr => V.ref b.2) e2, hat⟩, rfl, q _ (I1.hok.fresh (Nat.le_refl _))⟩
  · have hb : b < h1.objs.size := Heap.lt_size e
    rw [PyProof.Rows.sortedHeap_old (Nat.ne_of_lt hb) (by rw [Heap.size_push]; exact Nat.lt_succ_of_lt hb)]
    exact Heap.get?_push_of_some _ e
  · rw [List.length_map, List.length_mergeSort, ← hlb]
    exact z
end
end QN
end
section
set_option Elab.async false
set_option linter.all false
set_option maxRecDepth 100000
set_option maxHeartbeats 1000000
/-! min, list.remove, repr over nested data -/
namespace QN
open PySem L2 PySem.Spec PyProof.Rows

section
variable {X : Cx}
/-- min of a list of data that can be compared: one of its items -/
theorem call_minD (hu : X.A.units + 64 < cLine) (hc : X.calm = true) : CallR X (.builtin "min") (fun vs H Q => ∃ (a : Addr) (ys : List V) (d : PyData) (ds : List PyData), vs = [.ref a] ∧ SqL X.K H a ys ∧ DpAll X.K H ys (d :: ds) ∧ PySem.W.AlikeAll (d :: ds) ∧ PyData.depthAll (d :: ds) ≤ 60 ∧
    ∀ y ∈ ys, Q y H) := by
  intro pins s σ H vs us Q I r h
  obtain ⟨a, ys, d, ds, rfl, hl, hd, al, hdep, q⟩ := h
  have := Vals.ref1 r
  subst this
  obtain ⟨its, rv, pl, hz⟩ := I.list hl
  obtain ⟨as, rs⟩ := Dp.readsAll I (d :: ds) ys its hd rv
  refine PySem.W.min_list_data (I.ok.hd hc) pl.isList (by simpa using rs) al (by omega) fun i v h' tk bs hv _ hk => ?_
  have hv' : its[i]? = some v := by simpa using hv
  have hi : i < its.length := (List.getElem?_eq_some_iff.mp hv').1
  have hl' := rv.length
  have hy : ys[i]? = some ys[i] := List.getElem?_eq_getElem (by omega)
  obtain ⟨u, hu', ru⟩ := rv.get hy
  rw [hv'] at hu'
  cases hu'
  exact ⟨ys[i], H, I.kept hk, ru, q _ (List.getElem_mem _)⟩
/-- l.remove(y), y in l: the first item that is equal to y is gone -/
theorem mt_removeD (hu : X.A.units + 64 < cLine) : MtR X "list.remove" (fun x vs H Q => ∃ (l : Addr) (ys : List V) (y : V) (ds : List PyData) (d : PyData) (j : Nat), x = .ref l ∧ vs = [y] ∧ H l = some (.lst ys) ∧ DpAll X.K H ys ds ∧ Dp X.K H y d ∧ PyData.plainAll ds = true ∧ d.plain = true ∧ d.depth ≤ 60 ∧
    SeqAt.dataPlace ds d = some j ∧ Q .non (upd H l (.lst (ys.eraseIdx j)))) := by
  intro pins s σ H x vs v us Q I rx r h
  obtain ⟨l, ys, y, ds, d, j, rfl, rfl, hl, hds, hd, p1, p2, hdep, hp, q⟩ := h
  cases rx
  obtain ⟨u, rfl, ru⟩ := Vals.one r
  obtain ⟨z, its, n, rv, hlen, ho⟩ := I.lstM hl
  obtain ⟨as, rs⟩ := Dp.readsAll I ds ys its hds rv
  obtain ⟨bs, rd⟩ := Dp.reads I d y u hd ru
  have pl : s.heap.IsList l its.toArray := ⟨_, ho, rfl, n, rfl⟩
  refine SeqAt.remove_list_data (j := j) pl (by simpa using rs) rd p1 p2 ?_ hp (by rw [List.size_toArray, ← hlen]; exact z) ?_
  · have : min (PyData.depthAll ds) d.depth ≤ d.depth := Nat.min_le_right _ _
    omega
  refine ⟨.non, _, I.lset (its' := its.eraseIdx j) (f := fun zs => zs.eraseIdxIfInBounds j) hl ho ?_ (rv.eraseIdx j) ?_, rfl, q⟩
  · rw [List.eraseIdxIfInBounds_toArray]
  · exact Nat.le_trans (len_erase ys j) z
/-- repr of a list of data -/
theorem call_reprD (hg : X.A.guards = some []) (hu : X.A.units + 64 < cLine) : CallR X (.builtin "repr") (fun vs H Q => ∃ (a : Addr) (d : PyData), vs = [.ref a] ∧ Dp X.K H (.ref a) d ∧ d.showable = true ∧ d.hasDict = false ∧ d.depth ≤ 60 ∧ d.shown.length ≤ sizeLine ∧ Q (.str d.shown) H) := by
  intro pins s σ H vs us Q I r h
  obtain ⟨a, d, rfl, hd, h1, h2, h3, h4, q⟩ := h
  have := Vals.ref1 r
  subst this
  obtain ⟨as, rd⟩ := Dp.reads I d (.ref a) _ hd rfl
  refine repr_of_reads' rd h1 (fun e => by rw [h2] at e; cases e) hg (by omega) (fun _ _ e => e) (fun h' u tk hk => ?_) h4
  exact ⟨.str d.shown, H, I.kept hk, ⟨u, rfl⟩, q⟩
/-- repr of a bool -/
theorem call_reprB : CallR X (.builtin "repr") (fun vs H Q => ∃ b : Bool, vs = [.bl b] ∧ Q (.str (if b then "True" else "False")) H) := by
  intro pins s σ H vs us Q I r h
  obtain ⟨b, rfl, q⟩ := h
  obtain ⟨u, rfl, ru⟩ := Vals.one r
  cases ru
  exact PySem.P.repr_of_bool ⟨.str (if b then "True" else "False"), H, I.tok _, ⟨_, rfl⟩, q⟩
end
end QN
end
section
set_option Elab.async false
set_option linter.all false
set_option maxRecDepth 100000
set_option maxHeartbeats 2000000
/-! dict comprehensions whose keys are nested tuples (one for, no if) -/
namespace QN
open PySem L2 PySem.Spec PyProof.Rows

/-- one entry more, by the block's own store -/
theorem n_dictSet {X : Cx} {pins : List (Addr × Obj)} {σ : L2.St} {H : Hp} {s : Shared} {E : Value → Shared → Prop} {d b : Addr} {xs : List Ent} {k : NestedKey} {v : V} {r : Value} {Q : Unit → Shared → Prop} (hu : X.A.units + 64 < cLine) (I : L2.Inv X pins σ H s) (hd0 : H d = some (dN X.w d xs)) (ka : KAll H xs)
    (hk : KP H k (.ref b)) (hkd : k.depth ≤ 8) (hl : xs.length < sizeLine) (rv : RelV v r) (h : ∀ s', L2.Inv X pins σ (upd H d (dN X.w d (putN xs k b v))) s' → Q () s') : wpAny (model X.prog X.w) X.A (dictSet d (.ref b) r) Q E s := by
  obtain ⟨z, hd, ys, rel, dd⟩ := n_rd I (Or.inl hd0) ka
  have hz : ys.length ≤ sizeLine := by rw [← Paired.length rel]; exact z
  have room : (nestedKind X.prog X.w).room X.A := by show X.A.units + 8 < cLine; omega
  refine wpAny_dictSet_heap (hsz := hz) room (n_key I hk hkd) dd fun h' dd' hs => h _ ?_
  refine n_write (mu := by rw [hd0]; exact True.intro) I hs (n_there dd') (dN_obj (n_phi ?_ hd (rel.put k b rv) dd'))
  have := length_putN xs k b v
  omega
section
variable {X : Cx}
/-- what a turn reaches: the key's tuple at b, the value, the table -/
def putGoal (w : World) (D : Addr) (N : Hp → Prop) (y z : V) (G : Hp) : Prop := ∃ xs k b, y = .ref b ∧ G D = some (dN w D xs) ∧ KAll G xs ∧ KP G k (.ref b) ∧ k.depth ≤ 8 ∧ xs.length < sizeLine ∧ N (upd G D (dN w D (putN xs k b z)))
def tDcN (w : World) (wi : TI) (g : TG) (tk tv : TE) (vs : List Nat) : TE := fun σ H Q => wi σ H fun J H1 => ∀ D, H1 D = none → ∃ W : Nat → Nat → Hp → Prop, (∃ m, W 0 m (upd H1 D (dN w D []))) ∧ ∀ i m G, W i m G →
  (J.stop i G ∧ Q (.ref D) G) ∨ (J.go i G ∧ ∃ N : Hp → Prop, (∀ G', N G' → ∃ m', m' < m ∧ W (i + 1) m' G') ∧
    ∀ x G', J.yld i G x G' → g x (wipe σ vs) G' fun τ G2 => wipe τ vs = wipe σ vs ∧ tk τ G2 fun y G3 => tv τ G3 fun z G4 => putGoal w D N y z G4)
variable {kx vx tg iter : Expr} {scope : Scope} {own : List (Str × Nat)} {pos : Pos} {wi : TI} {g : TG} {tk tv : TE}
/-- the block's loop -/
theorem dcN_loop (hu : X.A.units + 64 < cLine) (hc : X.calm = true) {s3 : Shared} {H3 : Hp} {ce : Env} {fp : List Addr} {it D : Addr} {tn : Nat → Heap → Prop} {J : It} {τ0 : L2.St} {R : Result → Shared → Prop}
    (T : Turn X.prog X.w X.K tg J fp it tn) (pg : PG (X.blk s3 H3 scope ce fp) tg g) (pk : PE (X.blk s3 H3 scope ce fp) kx tk) (pv' : PE (X.blk s3 H3 scope ce fp) vx tv) (W : Nat → Nat → Hp → Prop)
    (turn : ∀ i m G, W i m G → (J.stop i G ∧ ∀ t, L2.Inv (X.blk s3 H3 scope ce fp) [] (wipe τ0 (own.map (·.2))) G t → R (.ok .next) t) ∨ (J.go i G ∧ ∃ N : Hp → Prop, (∀ G', N G' → ∃ m', m' < m ∧ W (i + 1) m' G') ∧
      ∀ x G', J.yld i G x G' → g x (wipe τ0 (own.map (·.2))) G' fun τ G2 => wipe τ (own.map (·.2)) = wipe τ0 (own.map (·.2)) ∧ tk τ G2 fun y G3 => tv τ G3 fun z G4 => putGoal X.w D N y z G4))
    {m0 : Nat} {t0 : Shared} {G0 : Hp} (J0 : L2.Inv (X.blk s3 H3 scope ce fp) [] (wipe τ0 (own.map (·.2))) G0 t0) (st0 : tn 0 t0.heap) (n0 : ∀ b ∈ fp, G0 b = none) (w0 : W 0 m0 G0) :
    codeAny (model X.prog X.w) X.A (.compLoop (.DictComp kx vx [⟨tg, iter, [], 0⟩] scope pos) 0 (.ref it) (.ref D) ce) R t0 := by
  refine compLoop_anyD (fun n t => ∃ i G, L2.Inv (X.blk s3 H3 scope ce fp) [] (wipe τ0 (own.map (·.2))) G t ∧ tn i t.heap ∧ (∀ b ∈ fp, G b = none) ∧ W i n G) ?_ m0 ⟨0, G0, J0, st0, n0, w0⟩
  rintro n t ⟨i, G, K1, ti, nf, wt⟩
  have stand : ∀ {τ : L2.St} {G' : Hp} {t' : Shared}, L2.Inv (X.blk s3 H3 scope ce fp) [] τ G' t' → (∀ b ∈ fp, G' b = none) → ∀ b ∈ fp, FpOk (X.blk s3 H3 scope ce fp) [] G' b := by
    intro τ G' t' K' hn b hb
    refine ⟨hn b hb, (K'.ok.exf b hb).1, K'.ok.exfs b hb, Or.inl hb, fun x c e => (K'.ok.exf b hb).2 x c e, fun p hp => ?_⟩
    have hp : p ∈ ([] : List (Addr × Obj)) ++ [] := hp
    simp at hp
  rcases turn i n G wt with ⟨stop, fin⟩ | ⟨go, N, hN, step⟩
  · refine thnF (T.done (X.blk s3 H3 scope ce fp) rfl rfl rfl hc i [] t _ G (fun _ _ => False) K1 (stand K1 nf) ti stop) fun r t1 hr => ?_
    obtain ⟨e, K2⟩ := hr
    subst e
    exact fin t1 K2
  · refine thnF (T.item (X.blk s3 H3 scope ce fp) rfl rfl rfl hc i [] t _ G (fun _ _ => False) K1 (stand K1 nf) ti go) fun r t1 hr => ?_
    obtain ⟨u, e, h1⟩ := hr
    subst e
    refine thnF h1 fun _ t2 h2 => ?_
    obtain ⟨x, G2, K2, r2, y2, ti2, nf2⟩ := h2
    have K3 := K2.pinned (stand K2 nf2) (T.obj _ _ ti2)
    refine thnF (pg.run _ t2 _ G2 x u _ K3 r2 (step x G2 y2)) fun _ t3 h3 => ?_
    obtain ⟨τ, G3, K4, hw, q3⟩ := h3
    refine wpAny_tests_nil ?_
    simp only [if_true]
    refine thnF (pk.run _ t3 τ G3 _ K4 q3) fun kv t4 h4 => ?_
    obtain ⟨y, G4, K5, ry, q4⟩ := h4
    refine thnF (pv'.run _ t4 τ G4 _ K5 q4) fun vv t5 h5 => ?_
    obtain ⟨z, G5, K6, rz, xs, k, b, ey, hD, ka, hk, hkd, hz, nx⟩ := h5
    subst ey
    cases ry
    refine n_dictSet (X := X.blk s3 H3 scope ce fp) hu K6 hD ka hk hkd hz rz fun t6 K7 => ?_
    obtain ⟨m', hm, w'⟩ := hN _ nx
    have kept : ∀ c ∈ fp, ∀ o, t2.heap.get? c = some o → t6.heap.get? c = some o ∧ (upd G5 D (dN X.w D (putN xs k b z))) c = none := by
      intro c hcf o e
      have := K7.pin (c, o) (List.mem_append_right _ (List.mem_append_right _ (mem_pinsAt hcf e)))
      exact ⟨this.1, this.2.1⟩
    have hlen : (wipe τ0 (own.map (·.2))).length = τ.length := by rw [← hw, wipe_length]
    refine ⟨m', hm, i + 1, _, L2.Inv.weak (L2.Inv.unpinned (pins := []) K7) hlen (fun j v e => ?_), T.keep _ _ _ ti2 fun c hcf o e => (kept c hcf o e).1, fun c hcf => ?_, w'⟩
    · rw [← hw] at e
      exact (wipe_some e).1
    · obtain ⟨o, e, _⟩ := T.obj _ _ ti2 c hcf
      exact (kept c hcf o e).2
/-- the comprehension's run, its end told by R -/
theorem dcN_core {use : Option (Value → Sem Unit)} {Qf : Value → Shared → Prop} {pn : List (Addr × Obj)} {t0 : Shared} {τ : L2.St} {G0 : Hp} {Q : VK} {ps : Pos} (hu : X.A.units + 64 < cLine) (hc : X.calm = true) (nd : X.N.Nodup) (I0 : L2.Inv X pn τ G0 t0) (hi : PI X tg iter wi) (ok : BlkOk X.N X.env.scope scope own)
    (hg : ∀ (t : Shared) (G : Hp) (C : Addr) (cl : List (Str × Addr)) (fp : List Addr), PG (X.blk t G scope (compEnvC scope cl C X.env) fp) tg g)
    (hk : ∀ (t : Shared) (G : Hp) (C : Addr) (cl : List (Str × Addr)) (fp : List Addr), PE (X.blk t G scope (compEnvC scope cl C X.env) fp) kx tk)
    (hv : ∀ (t : Shared) (G : Hp) (C : Addr) (cl : List (Str × Addr)) (fp : List Addr), PE (X.blk t G scope (compEnvC scope cl C X.env) fp) vx tv) (hfold : ∀ x, foldedSetIterable iter X.env x = pure x)
    (hq : tDcN X.w wi g tk tv (own.map (·.2)) τ G0 Q)
    (hR : ∀ D C t m G, L2.Inv X pn τ G t → Q (.ref D) G → t.heap.Ns C m → FpOk X pn G C → compPost (model X.prog X.w) X.A X.xe use Qf (.ref D) C (.ok .next) t) :
    wpAny (model X.prog X.w) X.A (comprehension (.DictComp kx vx [⟨tg, iter, [], 0⟩] scope pos) scope X.env ps newDict false (eval iter X.env) use) Qf X.xe t0 := by
  have clo : ∀ y ∈ scope.names, y.2 = .free → ∃ c, X.env.cells.lookup y.1 = some c := by
    intro y hy e
    rcases ok.free y hy e with q | q
    · exact I0.ok.has _ (Or.inl q)
    · exact I0.ok.has _ (Or.inr q)
  refine wpAny_comprehension_free (use := use) rfl hfold (closure_ok clo) ok.kind (fun y hy e => by rw [ok.uniq y hy, e]) ?_
  refine thn (hi.run pn t0 τ G0 _ I0 hq) fun xv t1 h1 => thn h1 fun itv t2 h2 => ?_
  obtain ⟨it, fp, tn, J, G2, e, I2, T, st2, f2, q⟩ := h2
  subst e
  refine wpAny_newObj_type (newEnv_comp ?_)
  have hDn : G2 t2.heap.objs.size = none := I2.fresh
  obtain ⟨W, ⟨m0, w0⟩, turn⟩ := q t2.heap.objs.size hDn
  have fpS : ∀ b ∈ fp, b < t2.heap.objs.size := fun b hb => by
    obtain ⟨o, e, _⟩ := T.obj _ _ st2 b hb
    exact Heap.lt_size e
  -- the new dict, empty
  have I3 : L2.Inv X pn τ (upd G2 t2.heap.objs.size (dN X.w t2.heap.objs.size [])) { t2 with heap := t2.heap.push { cls := .type "dict", data := .dict #[] } } :=
    I2.laid (t' := t2.toks) (fun b o e => Heap.get?_push_of_some _ e) (Nat.le_refl _) (dN_obj (n_phi (P := X.prog) (Nat.zero_le _) (beq_eq_false_iff_ne.mpr (Nat.ne_of_gt I2.big)) .nil (Heap.DictOfH.new t2.heap)))
  generalize ht3 : ({ t2 with heap := t2.heap.push { cls := .type "dict", data := .dict #[] } } : Shared) = t3 at I3 ⊢
  have hp3 : t3.heap = t2.heap.push { cls := .type "dict", data := .dict #[] } := by rw [← ht3]
  have hsz3 : t3.heap.objs.size = t2.heap.objs.size + 1 := by rw [hp3, Heap.size_push]
  have nf3 : ∀ b ∈ fp, (upd G2 t2.heap.objs.size (dN X.w t2.heap.objs.size [])) b = none := fun b hb => by
    rw [upd_ne (Nat.ne_of_lt (fpS b hb))]
    exact (f2 b hb).1
  have f3 : ∀ b ∈ fp, FpOk X pn (upd G2 t2.heap.objs.size (dN X.w t2.heap.objs.size [])) b ∧ b < t3.heap.objs.size := fun b hb =>
    ⟨⟨nf3 b hb, (f2 b hb).2⟩, by rw [hsz3]; exact Nat.lt_succ_of_lt (fpS b hb)⟩
  have st3 : tn 0 t3.heap := T.keep _ _ _ st2 fun b _ o e => by rw [hp3]; exact Heap.get?_push_of_some _ e
  have I4 := block_start I3 ok nd f3
  have pg := hg t3 (upd G2 t2.heap.objs.size (dN X.w t2.heap.objs.size [])) t3.heap.objs.size (cellsFrom (t3.heap.objs.size + 1) scope.names (cloFrom X.env.cells scope.names [])) fp
  have pk := hk t3 (upd G2 t2.heap.objs.size (dN X.w t2.heap.objs.size [])) t3.heap.objs.size (cellsFrom (t3.heap.objs.size + 1) scope.names (cloFrom X.env.cells scope.names [])) fp
  have pvv := hv t3 (upd G2 t2.heap.objs.size (dN X.w t2.heap.objs.size [])) t3.heap.objs.size (cellsFrom (t3.heap.objs.size + 1) scope.names (cloFrom X.env.cells scope.names [])) fp
  have st4 : tn 0 (pushCells (t3.heap.push { cls := .type "dict", data := .dict #[] }) scope.names) := T.keep _ _ _ st3 fun b _ o e => pushCells_keeps _ _ _ _ (Heap.get?_push_of_some _ e)
  have goal : codeAny (model X.prog X.w) X.A (.compLoop (.DictComp kx vx [⟨tg, iter, [], 0⟩] scope pos) 0 (.ref it) (.ref t2.heap.objs.size) (compEnvC scope (cellsFrom (t3.heap.objs.size + 1) scope.names (cloFrom X.env.cells scope.names [])) t3.heap.objs.size X.env))
      (compPost (model X.prog X.w) X.A X.xe use Qf (.ref t2.heap.objs.size) t3.heap.objs.size) { t3 with heap := pushCells (t3.heap.push { cls := .type "dict", data := .dict #[] }) scope.names } := by
    refine dcN_loop hu hc T pg pk pvv W (fun i m G wt => ?_) I4 st4 nf3 w0
    rcases turn i m G wt with ⟨stop, fin⟩ | more
    · refine Or.inl ⟨stop, fun t5 K5 => ?_⟩
      have I5 : L2.Inv X pn τ G t5 := I3.call' (ch := fp) K5.os K5.base K5.hok K5.bare fun b hb => ⟨(f3 b hb).1.2.2.2.1, (f3 b hb).1.2.1, (f3 b hb).1.2.2.2.2.1, (f3 b hb).1.2.2.2.2.2⟩
      have nC : G t3.heap.objs.size = none := K5.free
      obtain ⟨m', hn, _⟩ := K5.loc
      exact hR t2.heap.objs.size t3.heap.objs.size t5 m' G I5 fin hn (I3.fpOk (H' := G) (Nat.le_refl _) nC)
    · exact Or.inr more
  exact codeAny_compStart_dict goal (T.self X.A 0 _ _ _ st4 goal)
/-- {k: v for target in iter}, the keys nested tuples -/
theorem pe_dcN (hu : X.A.units + 64 < cLine) (hc : X.calm = true) (nd : X.N.Nodup) (hi : PI X tg iter wi) (ok : BlkOk X.N X.env.scope scope own)
    (hg : ∀ (t : Shared) (G : Hp) (C : Addr) (cl : List (Str × Addr)) (fp : List Addr), PG (X.blk t G scope (compEnvC scope cl C X.env) fp) tg g)
    (hk : ∀ (t : Shared) (G : Hp) (C : Addr) (cl : List (Str × Addr)) (fp : List Addr), PE (X.blk t G scope (compEnvC scope cl C X.env) fp) kx tk)
    (hv : ∀ (t : Shared) (G : Hp) (C : Addr) (cl : List (Str × Addr)) (fp : List Addr), PE (X.blk t G scope (compEnvC scope cl C X.env) fp) vx tv) (hfold : ∀ x, foldedSetIterable iter X.env x = pure x := by intro _; rfl) :
    PE X (.DictComp kx vx [⟨tg, iter, [], 0⟩] scope pos) (tDcN X.w wi g tk tv (own.map (·.2))) := by
  refine ⟨fun pn t0 τ G0 Q I0 hq => ?_⟩
  rw [arm_eval_DictComp]
  refine dcN_core hu hc nd I0 hi ok hg hk hv hfold hq fun D C t m G I5 fin hn f => ⟨m, hn, fun h'' sb => ?_⟩
  obtain ⟨c0, c1, _, c3, c4, c5⟩ := f
  exact ⟨.ref D, G, I5.turned (t' := t.toks) (fun b o hb e => Eq.trans (sb.2 b hb) e) c0 c1 c3 c4 c5, rfl, fin⟩
/-- name = {k: v for target in iter}, on one row, the name a plain local one -/
theorem ps_setDcN {i : Nat} {y : Str} {py spos : Pos} (hu : X.A.units + 64 < cLine) (hc : X.calm = true) (nd : X.N.Nodup) (hy : X.N[i]? = some y) (hyl : X.env.scope.names.lookup y = some .local)
    (hsw : swapsWith (.DictComp kx vx [⟨tg, iter, [], 0⟩] scope pos) (some (.Name y py)) spos.line X.env = pure true) (hi : PI X tg iter wi) (ok : BlkOk X.N X.env.scope scope own)
    (hg : ∀ (t : Shared) (G : Hp) (C : Addr) (cl : List (Str × Addr)) (fp : List Addr), PG (X.blk t G scope (compEnvC scope cl C X.env) fp) tg g)
    (hk : ∀ (t : Shared) (G : Hp) (C : Addr) (cl : List (Str × Addr)) (fp : List Addr), PE (X.blk t G scope (compEnvC scope cl C X.env) fp) kx tk)
    (hv : ∀ (t : Shared) (G : Hp) (C : Addr) (cl : List (Str × Addr)) (fp : List Addr), PE (X.blk t G scope (compEnvC scope cl C X.env) fp) vx tv) (hfold : ∀ x, foldedSetIterable iter X.env x = pure x := by intro _; rfl) :
    PS X (.Assign [.Name y py] (.DictComp kx vx [⟨tg, iter, [], 0⟩] scope pos) spos) (tAsg (tDcN X.w wi g tk tv (own.map (·.2))) (gName i)) := by
  refine ⟨fun pn t0 τ G0 Dn I0 hq => ?_⟩
  rw [exec_Assign_Name_used _ _ _ _ hsw]
  refine wpAny_bind (wpAny_standAt (wpAny_bind ?_))
  show wpAny _ X.A (do let _ ← comprehension (.DictComp kx vx [⟨tg, iter, [], 0⟩] scope pos) scope X.env (firstIterPos [⟨tg, iter, [], 0⟩] pos) newDict false (eval iter X.env) (some (assign (.Name y py) X.env))) _ _ t0
  have hq : tDcN X.w wi g tk tv (own.map (·.2)) τ G0 (fun x H1 => gName i x τ H1 Dn.nx) := hq
  refine wpAny_bind (thn (dcN_core (Qf := fun _ t' => SP X pn Dn .next t') hu hc nd I0 hi ok hg hk hv hfold hq fun D C t m G I5 fin hn f => ?_) fun _ t' hz => wpAny_pure (wpAny_pure hz))
  show wpAny _ _ (assign (.Name y py) X.env (.ref D)) _ _ _
  refine wpAny_assign_Name (store_ok2 (v := V.ref D) I5 nd hy (Or.inl hyl) rfl (fun t2 I6 ⟨a, sb, ha⟩ => ?_) (Or.inr hyl))
  obtain ⟨c0, c1, c2, c3, c4, c5⟩ := f
  have apart : C ≠ a := by
    rcases ha with z | z
    · rw [z]; exact c1
    · exact fun e => c4 y a z (Eq.symm e)
  refine ⟨m, hn.sameBut sb apart, fun h3 sb3 => ⟨_, G, ?_, fin⟩⟩
  exact I6.turned (t' := t2.toks) (fun b o hb e => Eq.trans (sb3.2 b hb) e) c0 c1 c3 c4 c5
end
theorem swD_true {kx vx : Expr} {gs : List Comprehension} {scope : Scope} {pos py : Pos} {y : Str} {l : Nat} {env : Env} (hk : env.scope.kind = .function) (hy : env.scope.names.lookup y = some .local) (hl : (py.line == pos.line) = true)
    (ha : (scope.names.any fun (n, k) => n == y && (k == .local || k == .cell)) = false) : swapsWith (.DictComp kx vx gs scope pos) (some (.Name y py)) l env = pure true := by
  have k1 : env.kindOf y = some .local := hy
  have k2 : env.blockKind = .function := by unfold Env.blockKind; rw [hk]; rfl
  unfold swapsWith
  simp only [k2, k1, ha, Expr.pos, hl]
  rfl
end QN
end
section
set_option Elab.async false
set_option linter.all false
set_option maxRecDepth 100000
set_option maxHeartbeats 1000000
/-! the lines of a run: numbers k, each with its one tuple at L k -/
namespace QW
open PySem L2 QN Qw

/-! ### a line as a key and as data -/
def nmK : NestedKey := .tup [.tup [.text "label", .num 0, .tup []], .text "ann", .num 1]
def lk (k : Nat) : NestedKey := .tup [nmK, .num 1, .num k]
def ld (k : Nat) : PyData := (lk k).data
def nmD : PyData := .tuple [.tuple [.str "label", .int 0, .tuple []], .str "ann", .int 1]
theorem ld_eq (k : Nat) : ld k = .tuple [nmD, .int 1, .int k] := by
  simp only [ld, lk, nmK, nmD, NestedKey.data, NestedKey.datas]
theorem lk_depth (k : Nat) : (lk k).depth = 4 := by
  simp only [lk, nmK, NestedKey.depth, NestedKey.depthAll]
  decide
theorem lk_inj {a b : Nat} (h : lk a = lk b) : a = b := by
  unfold lk at h
  injection h with h
  injection h with _ h
  injection h with _ h
  injection h with h _
  injection h with h
  omega
theorem nmD_eqv : PyData.eqv nmD nmD = true := by
  simp [nmD, PyData.eqv, PyData.eqvAll]
theorem ld_eqv (a b : Nat) : PyData.eqv (ld a) (ld b) = decide (a = b) := by
  rw [ld_eq, ld_eq]
  simp only [PyData.eqv, PyData.eqvAll, nmD_eqv, Bool.true_and, beq_self_eq_true, Bool.and_true]
  by_cases h : a = b
  · subst h; simp
  · have : ((a : Int) == (b : Int)) = false := beq_eq_false_iff_ne.mpr (by omega)
    rw [this, decide_eq_false h]
theorem nmD_alike : PySem.W.alike nmD nmD = true := by simp [nmD, PySem.W.alike, PySem.W.alikeAll]
theorem ld_alike (a b : Nat) : PySem.W.alike (ld a) (ld b) = true := by
  rw [ld_eq, ld_eq]
  simp [PySem.W.alike, PySem.W.alikeAll, nmD_alike]
theorem ld_depth (k : Nat) : (ld k).depth = 4 := by
  rw [ld_eq]
  simp [nmD, PyData.depth, PyData.depthAll]
theorem ld_lay (k : Nat) : (ld k).canLay0 = true := by
  rw [ld_eq]
  simp only [nmD, PyData.canLay0, PyData.canLayAll0, Bool.and_true, Bool.true_and]
  decide +kernel
theorem ld_shaped (k : Nat) : SeqAt.shaped (ld k) = true := by
  show ((ld k).canLay0 && decide ((ld k).depth ≤ 64)) = true
  rw [ld_lay, ld_depth]
  rfl
theorem lds_lay : ∀ l : List Nat, PyData.canLayAll0 (l.map ld) = true
  | [] => by simp [PyData.canLayAll0]
  | a :: l => by simp [PyData.canLayAll0, ld_lay a, lds_lay l]
theorem lds_depth : ∀ l : List Nat, PyData.depthAll (l.map ld) ≤ 4
  | [] => by simp [PyData.depthAll]
  | a :: l => by
    have h1 := lds_depth l
    have h2 := ld_depth a
    simp only [List.map_cons, PyData.depthAll]
    omega
theorem lds_eqv : ∀ a b : List Nat, PyData.eqvAll (a.map ld) (b.map ld) = decide (a = b)
  | [], [] => by simp [PyData.eqvAll]
  | [], _ :: _ => by simp [PyData.eqvAll]
  | _ :: _, [] => by simp [PyData.eqvAll]
  | x :: a, y :: b => by
    have ih := lds_eqv a b
    simp only [List.map_cons, PyData.eqvAll, ld_eqv, ih]
    by_cases h1 : x = y <;> by_cases h2 : a = b <;> simp [h1, h2]

/-! ### where they stand -/
abbrev lv (L : Nat → Addr) (k : Nat) : V := .ref (L k)
structure LW (H : Hp) (L : Nat → Addr) (n : Nat) : Prop where
  at_ : ∀ k, k < n → KP H (lk k) (.ref (L k))
theorem LW.mono {H H' : Hp} {L : Nat → Addr} {n : Nat} (m : TKeep H H') (w : LW H L n) : LW H' L n := ⟨fun k hk => (w.at_ k hk).mono m⟩
section
variable {K : PySem.W.Frag} {H : Hp} {L : Nat → Addr} {n : Nat}
theorem LW.dp (w : LW H L n) {k : Nat} (hk : k < n) : Dp K H (lv L k) (ld k) := (w.at_ k hk).dp
theorem LW.dps (w : LW H L n) : ∀ {l : List Nat}, (∀ k ∈ l, k < n) → DpAll K H (l.map (lv L)) (l.map ld)
  | [], _ => .nil
  | a :: l, h => .cons (w.dp (h a List.mem_cons_self)) (LW.dps w fun k hk => h k (List.mem_cons_of_mem _ hk))
theorem LW.kps (w : LW H L n) : ∀ {l : List Nat}, (∀ k ∈ l, k < n) → KPs H (l.map lk) (l.map (lv L))
  | [], _ => .nil
  | a :: l, h => .cons (w.at_ a (h a List.mem_cons_self)) (LW.kps w fun k hk => h k (List.mem_cons_of_mem _ hk))
/-- two lines stand apart -/
theorem KP.uniq {H : Hp} : ∀ {k k' : NestedKey} {v : V}, KP H k v → KP H k' v → k = k' := by
  have main : ∀ {k : NestedKey} {v : V}, KP H k v → ∀ {k' : NestedKey}, KP H k' v → k = k' := by
    intro k v h
    refine KP.rec (motive_1 := fun k v _ => ∀ {k' : NestedKey}, KP H k' v → k = k') (motive_2 := fun ks vs _ => ∀ {ks' : List NestedKey}, KPs H ks' vs → ks = ks') ?_ ?_ ?_ ?_ ?_ h
    · intro i k' h'; cases h'; rfl
    · intro x k' h'; cases h'; rfl
    · intro a vs ks e _ ih k' h'
      cases h' with
      | tup e' t' =>
        rw [e] at e'
        cases e'
        rw [ih t']
    · intro ks' h'; cases h'; rfl
    · intro k v ks vs _ _ ih1 ih2 ks' h'
      cases h' with
      | cons a b => rw [ih1 a, ih2 b]
  intro k k' v h h'
  exact main h h'
theorem LW.inj (w : LW H L n) {a b : Nat} (ha : a < n) (hb : b < n) (e : L a = L b) : a = b := by
  have h1 := w.at_ a ha
  have h2 := w.at_ b hb
  rw [← e] at h2
  exact lk_inj (KP.uniq h1 h2)
/-- in, of a line and a list of lines -/
theorem any_ld (x : Nat) (l : List Nat) : ((l.map ld).any fun z => PyData.eqv z (ld x)) = decide (x ∈ l) := by
  rw [List.any_map]
  induction l with
  | nil => rfl
  | cons a l ih =>
    rw [List.any_cons, ih]
    show (PyData.eqv (ld a) (ld x) || _) = _
    rw [ld_eqv]
    by_cases h1 : a = x
    · subst h1; simp
    · have : ¬ x = a := fun e => h1 e.symm
      simp [h1, this]
theorem lds_shaped (l : List Nat) : SeqAt.shaped (.list (l.map ld)) = true := by
  have h1 := lds_depth l
  have h2 := lds_lay l
  show (PyData.canLay0 (.list (l.map ld)) && decide (PyData.depth (.list (l.map ld)) ≤ 64)) = true
  rw [Bool.and_eq_true]
  refine ⟨by simpa [PyData.canLay0] using h2, decide_eq_true ?_⟩
  simp only [PyData.depth]
  omega
end

/-! ### dicts whose keys are lines -/
def dL (w : World) (L : Nat → Addr) (d : Addr) (kvs : List (Nat × V)) : HO := dN w d (kvs.map fun p => (lk p.1, L p.1, p.2))
theorem atN_lines (L : Nat → Addr) (k : Nat) : ∀ kvs : List (Nat × V), atN (kvs.map fun p => (lk p.1, L p.1, p.2)) (lk k) = valV kvs k
  | [] => rfl
  | p :: kvs => by
    have ih := atN_lines L k kvs
    by_cases e : p.1 = k
    · rw [valV_pos e]
      simp [atN, List.find?_cons, e]
    · have e' : ¬ lk p.1 = lk k := fun h => e (lk_inj h)
      rw [valV_neg e, ← ih]
      simp [atN, List.find?_cons, e']
theorem putN_lines (L : Nat → Addr) (k : Nat) (v : V) (kvs : List (Nat × V)) : putN (kvs.map fun p => (lk p.1, L p.1, p.2)) (lk k) (L k) v = (putK kvs k v).map fun p => (lk p.1, L p.1, p.2) := by
  unfold putN putK
  rw [atN_lines, valV_any]
  split
  · rw [List.map_map, List.map_map]
    refine List.map_congr_left fun p _ => ?_
    by_cases e : p.1 = k
    · simp [e]
    · have e' : ¬ lk p.1 = lk k := fun h => e (lk_inj h)
      simp [e, e']
  · rw [List.map_append]
    rfl
section
variable {H : Hp} {L : Nat → Addr} {n : Nat} {w : World} {d : Addr} {kvs : List (Nat × V)} {k : Nat}
theorem LW.kall (lw : LW H L n) (hk : ∀ p ∈ kvs, p.1 < n) : KAll H (kvs.map fun p => (lk p.1, L p.1, p.2)) := by
  intro x hx
  obtain ⟨p, hp, rfl⟩ := List.mem_map.mp hx
  exact ⟨lw.at_ _ (hk p hp), by rw [lk_depth]; decide⟩
theorem LW.get (lw : LW H L n) (hk : ∀ p ∈ kvs, p.1 < n) (hr : Rd H d (dL w L d kvs)) (hn : k < n) : NGet w H (.ref d) (lv L k) (valV kvs k) :=
  ⟨d, _, lk k, L k, rfl, rfl, hr, lw.kall hk, lw.at_ k hn, by rw [lk_depth]; decide, (atN_lines L k kvs).symm⟩
/-- d[line] = v -/
theorem LW.put {Q : Hp → Prop} {v : V} (lw : LW H L n) (hk : ∀ p ∈ kvs, p.1 < n) (hd : H d = some (dL w L d kvs)) (hn : k < n) (hl : kvs.length < sizeLine) (q : Q (upd H d (dL w L d (putK kvs k v)))) : rNPut w (.ref d) (lv L k) v H Q := by
  refine ⟨d, _, lk k, L k, rfl, rfl, hd, lw.kall hk, lw.at_ k hn, by rw [lk_depth]; decide, by rw [List.length_map]; exact hl, ?_⟩
  rw [putN_lines]
  exact q
theorem putK_keys {p : Nat × V} {v : V} (hk : ∀ p ∈ kvs, p.1 < n) (hn : k < n) (h : p ∈ putK kvs k v) : p.1 < n := by
  unfold putK at h
  split at h
  · obtain ⟨q, hq, e⟩ := List.mem_map.mp h
    split at e
    · subst e; exact hk q hq
    · subst e; exact hk q hq
  · rcases List.mem_append.mp h with h | h
    · exact hk p h
    · have : p = (k, v) := by simpa using h
      subst this
      exact hn
end

/-! ### lines are sorted as their numbers -/
theorem dataLt_ld (a b : Nat) : PySem.W.dataLt (ld a) (ld b) = decide (a < b) := by
  rw [ld_eq, ld_eq, PySem.W.dataLt_tuple]
  rw [PySem.W.dataLt_cons nmD_alike, if_pos nmD_eqv]
  rw [PySem.W.dataLt_cons (by simp [PySem.W.alike]), if_pos (by simp [PyData.eqv])]
  rw [PySem.W.dataLt_cons (by simp [PySem.W.alike])]
  by_cases e : a = b
  · subst e
    rw [if_pos (by simp [PyData.eqv])]
    have : PyProof.Rows.lexLt PyProof.Rows.itemOrd (PySem.W.keyToksAll []) (PySem.W.keyToksAll []) = false := PyProof.Rows.lex_irrefl _
    rw [this]
    simp
  · rw [if_neg (by simp [PyData.eqv]; omega), PySem.W.dataLt_int]
    by_cases h : a < b
    · rw [decide_eq_true h, decide_eq_true (by omega)]
    · rw [decide_eq_false h, decide_eq_false (by omega)]
theorem dataLe_ld : PySem.W.dataLe false ld = fun a b => decide (a ≤ b) := by
  funext a b
  rw [PySem.W.dataLe_eq]
  show (!PySem.W.dataLt (ld b) (ld a)) = _
  rw [dataLt_ld]
  by_cases h : a ≤ b
  · rw [decide_eq_true h, decide_eq_false (by omega)]; rfl
  · rw [decide_eq_false h, decide_eq_true (by omega)]; rfl
end QW
end
section
set_option Elab.async false
set_option linter.all false
set_option maxRecDepth 100000
set_option maxHeartbeats 1000000
/-! what stays of a heap; comprehensions that pick lines; what is known of a def -/
namespace QW
open PySem L2 QN Qw

def topS (i : Nat) : Stmt := PySem.Challenge.pw_quiltward_k46_whole_potentials_show_that.main.body.getD i (.Pass ⟨0, 0, 0, 0⟩)

/-- all that was tracked is as it was, but what stands at D; tuples stay -/
structure Fr (D : List Addr) (H H' : Hp) : Prop where
  keep : ∀ a o, H a = some o → a ∉ D → H' a = some o
  tk : TKeep H H'
section
variable {D D' : List Addr} {H H' H1 H2 : Hp} {p a : Addr} {o : HO} {K : PySem.W.Frag}
theorem Fr.refl (H : Hp) : Fr D H H := ⟨fun _ _ e _ => e, fun _ _ e => e⟩
theorem Fr.trans (a : Fr D H H1) (b : Fr D H1 H2) : Fr D H H2 := ⟨fun c o e hc => b.keep c o (a.keep c o e hc) hc, fun c vs e => b.tk c vs (a.tk c vs e)⟩
theorem Fr.mono (h : Fr D H H') (hs : ∀ a ∈ D, a ∈ D') : Fr D' H H' := ⟨fun a o e ha => h.keep a o e fun z => ha (hs a z), h.tk⟩
theorem Fr.new (h : H p = none) : Fr D H (upd H p o) :=
  ⟨fun a u e _ => by rw [upd_ne (ne_of_none e h)]; exact e, fun a vs e => by rw [upd_ne (ne_of_none e h)]; exact e⟩
theorem ntup (h : H p = some o) (ho : ∀ vs, o ≠ .tup vs) : ∀ vs, H p ≠ some (.tup vs) := fun vs e => by rw [h] at e; cases e; exact ho vs rfl
theorem Fr.mut (h : Fr D H H') (hp : H p = none) : Fr D H (upd H' p o) := by
  refine ⟨fun a u e ha => ?_, fun a vs e => ?_⟩
  · rw [upd_ne (ne_of_none e hp)]; exact h.keep a u e ha
  · rw [upd_ne (ne_of_none e hp)]; exact h.tk a vs e
theorem Fr.mutD (h : Fr D H H') (hp : p ∈ D) (ht : ∀ vs, H' p ≠ some (.tup vs)) : Fr D H (upd H' p o) := by
  refine ⟨fun a u e ha => ?_, fun a vs e => ?_⟩
  · rw [upd_ne (fun z => ha (by rw [z]; exact hp))]; exact h.keep a u e ha
  · have := h.tk a vs e
    rw [upd_ne (fun z => ht vs (by rw [← z]; exact this))]; exact this
theorem Fr.back (h : Fr D H H') (hp : H' p = none) (hD : p ∉ D) : H p = none := by
  cases e : H p with
  | none => rfl
  | some o => rw [h.keep p o e hD] at hp; cases hp
theorem Fr.rd {u : HO} (h : Fr D H H') (ha : a ∉ D) (r : Rd H a u) : Rd H' a u := by
  rcases r with r | ⟨o, r⟩
  · exact .inl (h.keep a _ r ha)
  · exact .inr ⟨o, h.keep a _ r ha⟩
theorem Fr.sq {xs : List V} (h : Fr D H H') (ha : a ∉ D) (r : SqL K H a xs) : SqL K H' a xs := by
  rcases r with r | r
  · exact .inl (h.rd ha r)
  · exact .inr r
theorem sqL (h : H a = some (.lst xs)) : SqL K H a xs := .inl (.inl h)
theorem sqT (h : H a = some (.tup xs)) : SqT K H a xs := .inl (.inl h)
theorem Fr.lw {L : Nat → Addr} {n : Nat} (h : Fr D H H') (w : LW H L n) : LW H' L n := w.mono h.tk
end

/-- what a step over heaps that J holds of keeps, as far as new lists are concerned -/
structure Rl (J : Hp → Prop) (R : Hp → Hp → Prop) : Prop where
  rf : ∀ {H}, J H → R H H
  j : ∀ {H H'}, R H H' → J H'
  tr : ∀ {H H1 H2}, R H H1 → R H1 H2 → R H H2
  nw : ∀ {H : Hp} {p : Addr} {xs : List V}, J H → H p = none → R H (upd H p (.lst xs))
  mt : ∀ {H H' : Hp} {p : Addr} {xs ys : List V}, J H → R H H' → H p = none → H' p = some (.lst xs) → R H (upd H' p (.lst ys))
  li : ∀ {H H' : Hp} {p : Addr} {xs : List V}, J H → R H H' → H p = some (.lst xs) → H' p = some (.lst xs)
theorem rl_fr : Rl (fun _ => True) (Fr []) := ⟨fun _ => Fr.refl _, fun _ => trivial, Fr.trans, fun _ => Fr.new, fun _ h hp _ => h.mut hp, fun _ h e => h.keep _ _ e (by simp)⟩

section
variable {J : Hp → Prop} {R : Hp → Hp → Prop} {K : PySem.W.Frag} {a : Addr} {σ : L2.St} {H H0 : Hp} {D : Addr} {tt : TT} {te : TE} {vs : List Nat} {j : Nat} {Qd : Hp → Prop}
/-- [x for x in xs if t]: xs.filter f -/
theorem lc_fil {β : Type} (val : β → V) (rl : Rl J R) (jH : J H) {xs : List β} (f : β → Bool) (hz : xs.length ≤ 100000) (hD : H D = none) (hw : ∀ x, wipe ((wipe σ vs).set j (some x)) vs = wipe σ vs) (hv : ∀ x, ((wipe σ vs).set j (some x))[j]? = some (some x))
    (hx : SqL K H a (xs.map val)) (hk : ∀ H', R H H' → SqL K H a (xs.map val) → SqL K H' a (xs.map val))
    (ht : ∀ x ∈ xs, ∀ H', R H H' → ∀ Q : Bool → Hp → Prop, (∀ H2, R H' H2 → Q (f x) H2) → tt ((wipe σ vs).set j (some (val x))) H' Q)
    (hd : ∀ H', R H H' → H' D = some (.lst ((xs.filter f).map val)) → Qd H') :
    ∃ W : Nat → Nat → Hp → Prop, (∃ m, W 0 m (upd H D (.lst []))) ∧ ∀ i m H, W i m H →
      ((Itl K a).stop i H ∧ Qd H) ∨ ((Itl K a).go i H ∧ ∃ Nx : Hp → Prop, (∀ H', Nx H' → ∃ m', m' < m ∧ W (i + 1) m' H') ∧ ∀ x H', (Itl K a).yld i H x H' → gName j x (wipe σ vs) H' fun σ2 H2 => wipe σ2 vs = wipe σ vs ∧ tt σ2 H2 fun b H3 =>
        if b = true then tVar j σ2 H3 fun y H4 => ∃ acc, H4 D = some (.lst acc) ∧ acc.length < sizeLine ∧ Nx (upd H4 D (.lst (acc ++ [y]))) else Nx H3) := by
  refine lc_list (xs := xs.map val) (fun i H' => R H H' ∧ H' D = some (.lst (((xs.take i).filter f).map val))) ⟨rl.nw jH hD, upd_same⟩ (fun i H' _ p => hk H' p.1 hx) (fun i y H' hi p => ?_) (fun H' p => ?_)
  · obtain ⟨p1, p2⟩ := p
    rw [List.getElem?_map] at hi
    obtain ⟨x, hxi, rfl⟩ := Option.map_eq_some_iff.mp hi
    have hmem := List.mem_of_getElem? hxi
    have htake : xs.take (i + 1) = xs.take i ++ [x] := by rw [List.take_add_one, hxi]; rfl
    refine ⟨hw _, ht x hmem H' p1 _ fun H2 r2 => ?_⟩
    have h2 := rl.li (rl.j p1) r2 p2
    cases hf : f x with
    | true =>
      refine iteT ⟨val x, hv _, _, h2, ?_, rl.mt jH (rl.tr p1 r2) hD h2, ?_⟩
      · rw [List.length_map]
        have h3 : ((xs.take i).filter f).length ≤ xs.length := Nat.le_trans (List.length_filter_le _ _) (by rw [List.length_take]; omega)
        have : sizeLine = 16777216 := sizeLine_eq
        omega
      · rw [upd_same, htake, List.filter_append, List.map_append, List.filter_cons, if_pos hf]
        rfl
    | false =>
      refine iteF ⟨rl.tr p1 r2, ?_⟩
      rw [h2, htake, List.filter_append, List.filter_cons, if_neg (by rw [hf]; decide)]
      simp
  · refine hd H' p.1 ?_
    rw [p.2, List.length_map, List.take_length]
end

/-- what is known of a def: its promise, where it stands, how it is called -/
structure Kn (P : Program) (w : World) (K : PySem.W.Frag) (mg : Str → Option Value) (base : Heap) (x : Str) (k : Nat) (f : Addr) (fd : FuncData) (ps : List Str) (sp : Sp) : Prop where
  ok : FnOk P w K mg base CX0 k f fd ps sp
  mg : mg x = some (.ref f)
  kp : PySem.W.keepIn K (.ref f) = true
  b : Binds K fd ps []
structure KnM (P : Program) (w : World) (K : PySem.W.Frag) (mg : Str → Option Value) (base : Heap) (C : Addr) (x : Str) (k : Nat) (f : Addr) (fd : FuncData) (ps : List Str) (sp : Sp) : Prop where
  ok : FnOk P w K mg base CX0 k f fd ps sp
  m : Meth K C x f
  b : Binds K fd ps []
/-- the built-ins' names are not the module's -/
structure Bi (mg : Str → Option Value) : Prop where
  len : mg "len" = none
  sorted : mg "sorted" = none
  list : mg "list" = none
  tuple : mg "tuple" = none
  range : mg "range" = none
  min : mg "min" = none
  max : mg "max" = none
  abs : mg "abs" = none
  int : mg "int" = none
  repr : mg "repr" = none
end QW
end
section
set_option Elab.async false
set_option linter.all false
set_option maxRecDepth 100000
set_option maxHeartbeats 1000000
/-! the graph of lines in the heap -/
namespace QW
open PySem L2 QN Qw

/-- what is fixed of a graph: the world, its lines, who is behind whom by one edge, its object's class and place, its edges' and its memory's dict -/
structure GC where
  w : World
  L : Nat → Addr
  n : Nat
  adj : Nat → List Nat
  C : Addr
  g : Addr
  ed : Addr
  dk : Addr
def gF (vl vp ve vk : V) : List (Str × V) := putF "known" vk (putF "edges" ve (putF "present" vp (putF "lines" vl [])))
theorem s1 : ¬ (("lines" : Str) = "known") := by decide +kernel
theorem s2 : ¬ (("edges" : Str) = "known") := by decide +kernel
theorem s3 : ¬ (("present" : Str) = "known") := by decide +kernel
theorem gF_known (vl vp ve vk : V) : (gF vl vp ve vk).lookup ("known" : Str) = some vk := by
  unfold gF
  rw [lookup_putF, if_pos rfl]
theorem gF_edges (vl vp ve vk : V) : (gF vl vp ve vk).lookup ("edges" : Str) = some ve := by
  unfold gF
  rw [lookup_putF, if_neg (by decide +kernel), lookup_putF, if_pos rfl]
theorem gF_no (vl vp ve vk : V) {m : Str} (h1 : ¬ m = "known") (h2 : ¬ m = "edges") (h3 : ¬ m = "present") (h4 : ¬ m = "lines") : (gF vl vp ve vk).lookup m = none := by
  unfold gF
  rw [lookup_putF, if_neg h1, lookup_putF, if_neg h2, lookup_putF, if_neg h3, lookup_putF, if_neg h4]
  rfl
/-- the lines right behind k, as the edges' dict tells -/
def EdAt (G : GC) (H : Hp) (k : Nat) : Option V → Prop
  | none => G.adj k = []
  | some v => ∃ l o, v = .ref l ∧ H l = some (.frz o (.lst ((G.adj k).map (lv G.L))))
structure GStat (G : GC) (H : Hp) : Prop where
  lw : LW H G.L G.n
  ob : ∃ dx vl vp, H G.g = some (.ins G.C dx (gF vl vp (.ref G.ed) (.ref G.dk)))
  ed : ∃ od ekvs, H G.ed = some (.frz od (dL G.w G.L G.ed ekvs)) ∧ (∀ p ∈ ekvs, p.1 < G.n) ∧ ∀ k, k < G.n → EdAt G H k (valV ekvs k)
/-- a found dict: the lines that k is before -/
def FAt (G : GC) (H : Hp) (k : Nat) (v : V) : Prop := ∃ (f : Addr) (o : Obj) (js : List Nat), v = .ref f ∧ H f = some (.frz o (dL G.w G.L f (js.map fun j => (j, V.bl true)))) ∧ (∀ j ∈ js, j < G.n) ∧ ∀ j, j ∈ js ↔ TC G.adj k j
def GDyn (G : GC) (H : Hp) : Prop := ∃ kvs, H G.dk = some (dL G.w G.L G.dk kvs) ∧ (∀ p ∈ kvs, p.1 < G.n) ∧ (kvs.map (·.1)).Nodup ∧ ∀ p ∈ kvs, FAt G H p.1 p.2
structure GI (G : GC) (H : Hp) : Prop where
  st : GStat G H
  dy : GDyn G H
  small : G.n ≤ 1000
  lt : ∀ a b, b ∈ G.adj a → b < G.n
  few : ∀ a, (G.adj a).length ≤ 1000
section
variable {G : GC} {H H' : Hp} {p : Addr} {o : HO}
theorem GI.frzd (h : GI G H) {f : Addr} {od : Obj} {u : HO} (hf : H f = some (.frz od u)) : f ≠ G.dk := by
  obtain ⟨kvs, e, _⟩ := h.dy
  exact ne_of hf e (by intro z; cases z)
/-- it stays where all frozen, all tuples and the object stay, and the memory's dict -/
theorem GI.stay (h : GI G H) (kf : ∀ a od u, H a = some (.frz od u) → H' a = some (.frz od u)) (kt : TKeep H H') (kg : ∀ C dx fs, H G.g = some (.ins C dx fs) → H' G.g = some (.ins C dx fs)) (kd : ∀ xs, H G.dk = some (dN G.w G.dk xs) → H' G.dk = some (dN G.w G.dk xs)) : GI G H' := by
  obtain ⟨⟨lw, ⟨dx, vl, vp, ob⟩, od, ekvs, ed, e1, e2⟩, ⟨kvs, d1, d2, d3, d4⟩, sm, lt, fe⟩ := h
  refine ⟨⟨lw.mono kt, ⟨dx, vl, vp, kg _ _ _ ob⟩, od, ekvs, kf _ _ _ ed, e1, fun k hk => ?_⟩, ⟨kvs, kd _ d1, d2, d3, fun q hq => ?_⟩, sm, lt, fe⟩
  · have := e2 k hk
    cases hv : valV ekvs k with
    | none => rw [hv] at this; exact this
    | some v =>
      rw [hv] at this
      obtain ⟨l, o, a, b⟩ := this
      exact ⟨l, o, a, kf _ _ _ b⟩
  · obtain ⟨f, o, js, a, b, c⟩ := d4 q hq
    exact ⟨f, o, js, a, kf _ _ _ b, c⟩
theorem GI.chg (h : GI G H) (h1 : ∀ od u, H p ≠ some (.frz od u)) (h2 : ∀ vs, H p ≠ some (.tup vs)) (h3 : ∀ C dx fs, H p ≠ some (.ins C dx fs)) (h4 : p ≠ G.dk) : GI G (upd H p o) := by
  refine h.stay (fun a od u e => ?_) (fun a vs e => ?_) (fun C dx fs e => ?_) (fun xs e => ?_)
  · rw [upd_ne (fun z => h1 od u (by rw [← z]; exact e))]; exact e
  · rw [upd_ne (fun z => h2 vs (by rw [← z]; exact e))]; exact e
  · rw [upd_ne (fun z => h3 C dx fs (by rw [← z]; exact e))]; exact e
  · rw [upd_ne (Ne.symm h4)]; exact e
theorem GI.dkd (h : GI G H) : ∃ xs, H G.dk = some (dN G.w G.dk xs) := by
  obtain ⟨kvs, e, _⟩ := h.dy
  exact ⟨_, e⟩
theorem GI.new (h : GI G H) (hp : H p = none) : GI G (upd H p o) := by
  obtain ⟨xs, e⟩ := h.dkd
  exact h.chg (by simp [hp]) (by simp [hp]) (by simp [hp]) (fun z => by rw [z, e] at hp; cases hp)
theorem GI.lst (h : GI G H) {xs : List V} (hp : H p = some (.lst xs)) : GI G (upd H p o) := by
  obtain ⟨ys, e⟩ := h.dkd
  exact h.chg (by simp [hp]) (by simp [hp]) (by simp [hp]) (ne_of hp e (by intro z; cases z))
theorem GI.ext (h : GI G H) {xs : List Ent} {d : Addr} (hp : H p = some (dN G.w d xs)) (hd : p ≠ G.dk) : GI G (upd H p o) :=
  h.chg (by simp [hp, dN]) (by simp [hp, dN]) (by simp [hp, dN]) hd
/-- what a call that asks the graph keeps -/
def GR (G : GC) (H H' : Hp) : Prop := Fr [G.dk] H H' ∧ GI G H'
theorem GI.nl (h : GI G H) {a : Addr} {xs : List V} (e : H a = some (.lst xs)) : a ∉ [G.dk] := by
  obtain ⟨ys, e'⟩ := h.dkd
  rw [List.mem_singleton]
  exact ne_of e e' (by intro z; cases z)
theorem GI.nn (h : GI G H) {a : Addr} (e : H a = none) : a ∉ [G.dk] := by
  obtain ⟨ys, e'⟩ := h.dkd
  rw [List.mem_singleton]
  intro z
  rw [z, e'] at e
  cases e
theorem rl_g (G : GC) : Rl (GI G) (GR G) where
  rf := fun h => ⟨Fr.refl _, h⟩
  j := fun r => r.2
  tr := fun a b => ⟨a.1.trans b.1, b.2⟩
  nw := fun h hp => ⟨Fr.new hp, h.new hp⟩
  mt := fun h r hp e => ⟨r.1.mut hp, r.2.lst e⟩
  li := fun h r e => r.1.keep _ _ e (h.nl e)
end

/-! ### the promises -/
def spBehind (G : GC) : Sp := fun vs H Q _ => ∃ k, vs = [.ref G.g, lv G.L k] ∧ k < G.n ∧ GI G H ∧ ∀ v H', GR G H H' → FAt G H' k v → Q v H'
def spBefore (G : GC) : Sp := fun vs H Q _ => ∃ a b, vs = [.ref G.g, lv G.L a, lv G.L b] ∧ a < G.n ∧ b < G.n ∧ GI G H ∧ ∀ H', GR G H H' → Q (.bl (tcB G.adj a b)) H'
def spStrictly (G : GC) : Sp := fun vs H Q _ => ∃ a b, vs = [.ref G.g, lv G.L a, lv G.L b] ∧ a < G.n ∧ b < G.n ∧ GI G H ∧ ∀ H', GR G H H' → Q (.bl (stB G.adj a b)) H'
/-- the class of graphs, as the top has made it -/
structure GTx (K : PySem.W.Frag) (C : Addr) : Prop where
  cl : Cls K C
  nl : NoAttr K C "lines"
  np : NoAttr K C "present"
  ne : NoAttr K C "edges"
  nk : NoAttr K C "known"
end QW
end
section
set_option Elab.async false
set_option linter.all false
set_option maxRecDepth 100000
set_option maxHeartbeats 4000000
/-! FileGraph.behind, before, strictly -/
namespace QW
open PySem L2 QN Qw

/-- a statement, behind which one thing that may change is locked for good -/
def tFrz (t : TS) : TS := fun D σ H => t { D with nx := fun σ' H' => ∃ d u, H' d = some u ∧ Mut (some u) ∧ ∀ od, D.nx σ' (upd H' d (.frz od u)) } σ H
theorem ps_frz {X : Cx} {st : Stmt} {t : TS} (h : PS X st t) : PS X st (tFrz t) := by
  refine ⟨fun pn s τ G D I hq => thn (h.run pn s τ G _ I hq) fun f s1 q => ?_⟩
  cases f with
  | next =>
    obtain ⟨τ', G', I', d, u, hd, mu, q⟩ := q
    obtain ⟨od, I2⟩ := I'.lock hd mu
    exact ⟨τ', _, I2, q od⟩
  | ret v => exact q
  | brk => exact q
  | cont => exact q

abbrev sBehind : Stmt := inClass (topS 8) 1
abbrev sBefore : Stmt := inClass (topS 8) 2
abbrev sStrictly : Stmt := inClass (topS 8) 3
section
variable {P : Program} {w : World} {K : PySem.W.Frag} {mg : Str → Option Value} {base : Heap}

theorem scBefore : FnScope ["self", "one", "other"] ["self", "one", "other"] (defScope sBefore) := ⟨rfl, rfl, rfl, by decide +kernel, rfl, by decide +kernel, by decide +kernel⟩
theorem ok_before {G : GC} {f fB : Addr} {fd fdB : FuncData} (hw : G.w = w) (F : Fun K "before" "FileGraph.before" sBefore f fd) (T : GTx K G.C) (B : KnM P w K mg base G.C "behind" 1 fB fdB ["self", "vertex"] (spBehind G)) : FnOk P w K mg base CX0 2 f fd ["self", "one", "other"] (spBefore G) := by
  subst hw
  refine F.ok scBefore (fun vs H Q E h => ?_) (fun cdv A outer s H vs Q E hr h => ?_)
  · obtain ⟨a, b, rfl, _⟩ := h
    rfl
  · obtain ⟨a, b, rfl, ha, hb, I, q⟩ := h
    -- return other in self.behind(one)
    refine ⟨_, pss_one (ps_ret (pe_cmpR (op_nin hr.units) (pv 2) (pe_meth (pv 0) T.cl B.m B.ok hr B.b .nil pass0 (pa_cons (pv 1) pa_nil)) rfl)), ?_⟩
    obtain ⟨dx, vl, vp, hg⟩ := I.st.ob
    refine ⟨_, rfl, _, rfl, G.g, dx, _, rfl, hg, gF_no _ _ _ _ (by decide +kernel) (by decide +kernel) (by decide +kernel) (by decide +kernel), _, rfl, a, rfl, ha, I, fun v H' r fa => ?_⟩
    obtain ⟨fo, od, js, rfl, hf, hl, hj⟩ := fa
    refine ⟨_, LW.get r.2.st.lw (fun p hp => ?_) (Or.inr ⟨od, hf⟩) hb, ?_⟩
    · obtain ⟨j, hj', rfl⟩ := List.mem_map.mp hp
      exact hl j hj'
    · have e : (valV (js.map fun j => (j, V.bl true)) b).isSome = tcB G.adj a b := by
        rw [← valV_any]
        rw [Bool.eq_iff_iff, tcB_iff, ← hj b, List.any_eq_true]
        constructor
        · rintro ⟨p, hp, e⟩
          obtain ⟨j, hj', rfl⟩ := List.mem_map.mp hp
          rw [← of_decide_eq_true e]
          exact hj'
        · intro h
          exact ⟨(b, V.bl true), List.mem_map.mpr ⟨b, h, rfl⟩, by simp⟩
      rw [e]
      exact q H' r
theorem scStrictly : FnScope ["self", "one", "other"] ["self", "one", "other"] (defScope sStrictly) := ⟨rfl, rfl, rfl, by decide +kernel, rfl, by decide +kernel, by decide +kernel⟩
theorem ok_strictly {G : GC} {f fB : Addr} {fd fdB : FuncData} (hw : G.w = w) (F : Fun K "strictly" "FileGraph.strictly" sStrictly f fd) (T : GTx K G.C) (B : KnM P w K mg base G.C "before" 2 fB fdB ["self", "one", "other"] (spBefore G)) : FnOk P w K mg base CX0 3 f fd ["self", "one", "other"] (spStrictly G) := by
  subst hw
  refine F.ok scStrictly (fun vs H Q E h => ?_) (fun cdv A outer s H vs Q E hr h => ?_)
  · obtain ⟨a, b, rfl, _⟩ := h
    rfl
  · obtain ⟨a, b, rfl, ha, hb, I, q⟩ := h
    -- return self.before(one, other) and not self.before(other, one)
    refine ⟨_, pss_one (ps_ret (pe_and (pe_meth (pv 0) T.cl B.m B.ok hr B.b .nil pass0 (pa_cons (pv 1) (pa_cons (pv 2) pa_nil))) (pe_one (pe_not (pe_meth (pv 0) T.cl B.m B.ok hr B.b .nil pass0 (pa_cons (pv 2) (pa_cons (pv 1) pa_nil))))))), ?_⟩
    obtain ⟨dx, vl, vp, hg⟩ := I.st.ob
    refine ⟨_, rfl, G.g, dx, _, rfl, hg, gF_no _ _ _ _ (by decide +kernel) (by decide +kernel) (by decide +kernel) (by decide +kernel), _, rfl, _, rfl, a, b, rfl, ha, hb, I, fun H1 r1 => ⟨_, rfl, ?_⟩⟩
    cases e1 : tcB G.adj a b with
    | false =>
      refine iteF ?_
      have : stB G.adj a b = false := by unfold stB; rw [e1]; rfl
      rw [← this]
      exact q H1 r1
    | true =>
      refine iteT ?_
      obtain ⟨dx', vl', vp', hg'⟩ := r1.2.st.ob
      refine ⟨_, rfl, G.g, dx', _, rfl, hg', gF_no _ _ _ _ (by decide +kernel) (by decide +kernel) (by decide +kernel) (by decide +kernel), _, rfl, _, rfl, b, a, rfl, hb, ha, r1.2, fun H2 r2 => ⟨_, rfl, ?_⟩⟩
      have : stB G.adj a b = !tcB G.adj b a := by unfold stB; rw [e1]; rfl
      rw [← this]
      exact q H2 ((rl_g G).tr r1 r2)
end
end QW
end
section
set_option Elab.async false
set_option linter.all false
set_option maxRecDepth 100000
set_option maxHeartbeats 4000000
/-! FileGraph.behind -/
namespace QW
open PySem L2 QN Qw
section
variable {P : Program} {w : World} {K : PySem.W.Frag} {mg : Str → Option Value} {base : Heap}

def tjs (js : List Nat) : List (Nat × V) := js.map fun j => (j, V.bl true)
theorem tjs_val (js : List Nat) (k : Nat) : (valV (tjs js) k).isSome = decide (k ∈ js) := by
  rw [← valV_any, Bool.eq_iff_iff, List.any_eq_true, decide_eq_true_iff]
  constructor
  · rintro ⟨p, hp, e⟩
    obtain ⟨j, hj', rfl⟩ := List.mem_map.mp hp
    rw [← of_decide_eq_true e]
    exact hj'
  · intro h
    exact ⟨(k, V.bl true), List.mem_map.mpr ⟨k, h, rfl⟩, by simp⟩
theorem tjs_put {js : List Nat} {k : Nat} (h : k ∉ js) : putK (tjs js) k (.bl true) = tjs (js ++ [k]) := by
  have : valV (tjs js) k = none := by
    have e := tjs_val js k
    rw [decide_eq_false h] at e
    cases q : valV (tjs js) k with
    | none => rfl
    | some v => rw [q] at e; cases e
  rw [putK_new _ this]
  unfold tjs
  rw [List.map_append]
  rfl
theorem tjs_lt {js : List Nat} {n : Nat} (h : ∀ j ∈ js, j < n) : ∀ p ∈ tjs js, p.1 < n := by
  intro p hp
  obtain ⟨j, hj, rfl⟩ := List.mem_map.mp hp
  exact h j hj
/-- the state of the walk between two turns -/
structure BS (G : GC) (k : Nat) (f wt : Addr) (H0 H : Hp) (js ws : List Nat) : Prop where
  fr : GR G H0 H
  hf : H f = some (dL G.w G.L f (tjs js))
  hw : H wt = some (.lst (ws.map (lv G.L)))
  nf : H0 f = none
  nw : H0 wt = none
  ne : f ≠ wt
theorem BS.fne {G : GC} {k : Nat} {f wt : Addr} {H0 H : Hp} {js ws : List Nat} (I : GI G H0) (b : BS G k f wt H0 H js ws) : f ≠ G.dk := by
  have := I.nn b.nf
  simpa using this
/-- f gets one more, or the list at wt changes -/
theorem BS.putW {G : GC} {k : Nat} {f wt : Addr} {H0 H : Hp} {js ws ws' : List Nat} (b : BS G k f wt H0 H js ws) : BS G k f wt H0 (upd H wt (.lst (ws'.map (lv G.L)))) js ws' :=
  ⟨⟨b.fr.1.mut b.nw, b.fr.2.lst b.hw⟩, by rw [upd_ne b.ne]; exact b.hf, upd_same, b.nf, b.nw, b.ne⟩
theorem BS.putF {G : GC} {k : Nat} {f wt : Addr} {H0 H : Hp} {js js' ws : List Nat} (I : GI G H0) (b : BS G k f wt H0 H js ws) : BS G k f wt H0 (upd H f (dL G.w G.L f (tjs js'))) js' ws :=
  ⟨⟨b.fr.1.mut b.nf, b.fr.2.ext b.hf (b.fne I)⟩, upd_same, by rw [upd_ne b.ne.symm]; exact b.hw, b.nf, b.nw, b.ne⟩
theorem BS.newO {G : GC} {k : Nat} {f wt p : Addr} {o : HO} {H0 H : Hp} {js ws : List Nat} (b : BS G k f wt H0 H js ws) (hp : H p = none) : BS G k f wt H0 (upd H p o) js ws :=
  ⟨⟨b.fr.1.trans (Fr.new hp), b.fr.2.new hp⟩, by rw [upd_ne (ne_of_none b.hf hp)]; exact b.hf, by rw [upd_ne (ne_of_none b.hw hp)]; exact b.hw, b.nf, b.nw, b.ne⟩

/-- the list that a turn walks -/
def Src (a wt : Addr) (xs : List V) (H : Hp) : Prop := (∃ o, H a = some (.frz o (.lst xs))) ∨ (H a = some (.lst xs) ∧ a ≠ wt)
theorem Src.sq {K : PySem.W.Frag} {a wt : Addr} {xs : List V} {H : Hp} (s : Src a wt xs H) : SqL K H a xs := by
  rcases s with ⟨o, e⟩ | ⟨e, _⟩
  · exact .inl (.inr ⟨o, e⟩)
  · exact .inl (.inl e)
theorem Src.ext {a wt f : Addr} {xs : List V} {H : Hp} {w : World} {es : List Ent} {o : HO} (s : Src a wt xs H) (hf : H f = some (dN w f es)) : Src a wt xs (upd H f o) := by
  rcases s with ⟨od, e⟩ | ⟨e, n⟩
  · exact .inl ⟨od, by rw [upd_ne (ne_of e hf (by intro z; cases z))]; exact e⟩
  · exact .inr ⟨by rw [upd_ne (ne_of e hf (by intro z; cases z))]; exact e, n⟩
theorem Src.lst {a wt : Addr} {xs ys : List V} {H : Hp} {o : HO} (s : Src a wt xs H) (hw : H wt = some (.lst ys)) : Src a wt xs (upd H wt o) := by
  rcases s with ⟨od, e⟩ | ⟨e, n⟩
  · exact .inl ⟨od, by rw [upd_ne (ne_of e hw (by intro z; cases z))]; exact e⟩
  · exact .inr ⟨by rw [upd_ne n]; exact e, n⟩

theorem scBehind : FnScope ["self", "vertex", "found", "waiting", "other"] ["self", "vertex"] (defScope sBehind) := ⟨rfl, rfl, rfl, by decide +kernel, rfl, by decide +kernel, by decide +kernel⟩
theorem ok_behind {G : GC} {f : Addr} {fd : FuncData} (hwG : G.w = w) (F : Fun K "behind" "FileGraph.behind" sBehind f fd) (T : GTx K G.C) (B : Bi mg) : FnOk P w K mg base CX0 1 f fd ["self", "vertex"] (spBehind G) := by
  subst hwG
  refine F.ok scBehind (fun vs H Q E h => ?_) (fun cdv A outer s H vs Q E hr h => ?_)
  · obtain ⟨k, rfl, _⟩ := h
    rfl
  · obtain ⟨k, rfl, hk, I, q⟩ := h
    have hu := hr.units
    refine ⟨_, pss_cons (ps_if (pt_cmpR (op_nnotin hu) (pv 1) (pe_fld (pv 0) rfl) rfl)
        (pss_cons (ps_set (i := 2) scBehind.nd rfl (Or.inl rfl) pe_nnew)
        (pss_cons (ps_set (i := 3) scBehind.nd rfl (Or.inl rfl) (pe_lst (pa_cons (pv 1) pa_nil)))
        (pss_cons (ps_frz (ps_while PassesOwn.never (pt_cmpR op_gt (pe_callB call_len_seq (by rfl) B.len PySem.boot_len (pa_cons (pv 3) pa_nil)) pe_int (nomark _))
          (pss_one (ps_for PassesOwn.never rfl (pi_list (pe_nget2 hu (pe_fld (pv 0) rfl) (pe_bm0 PySem.F.plainAttrs_list PySem.F.slot_list_pop PySem.F.type_list_pop mt_pop (pv 3)) (pe_lst pa_nil) ⟨rfl, rfl, rfl, rfl⟩)) (pg_name (i := 4) scBehind.nd rfl (Or.inl rfl))
            (pss_one (ps_if (pt_cmpR (op_nnotin hu) (pv 4) (pv 2) rfl)
              (pss_cons (ps_asg pe_bl (pg_sub (pv 2) (pv 4) (set_n hu)))
              (pss_one (ps_expr (pe_bm PySem.F.plainAttrs_list PySem.F.slot_list_append PySem.F.type_list_append mt_append (pv 3) (pa_cons (pv 4) pa_nil)))))
              pss_nil))))))
        (pss_one (ps_asg (pv 2) (pg_sub (pe_fld (pv 0) rfl) (pv 1) (set_n hu)))))))
        pss_nil)
      (pss_one (ps_ret (pe_nget hu (pe_fld (pv 0) rfl) (pv 1) (fun _ _ => rfl)))), ?_⟩
    obtain ⟨dx, vl, vp, hg⟩ := I.st.ob
    obtain ⟨kvs, hdk, hkl, hnd, hfa⟩ := id I.dy
    refine ⟨_, rfl, _, rfl, G.g, G.C, dx, _, _, rfl, hg, T.cl, T.nk, gF_known _ _ _ _, _, I.st.lw.get hkl (Or.inl hdk) hk, _, rfl, ?_⟩
    cases hval : valV kvs k with
    | some v =>
      -- it is known
      refine iteF ?_
      refine ⟨_, rfl, G.g, G.C, dx, _, _, rfl, hg, T.cl, T.nk, gF_known _ _ _ _, _, rfl, v, ?_, ?_⟩
      · rw [← hval]
        exact I.st.lw.get hkl (Or.inl hdk) hk
      · refine q v H ⟨Fr.refl _, I⟩ ?_
        obtain ⟨p, hp, e⟩ := Option.map_eq_some_iff.mp hval
        have h1 := List.find?_some hp
        have h1 : p.1 = k := of_decide_eq_true h1
        have h2 := hfa p (List.mem_of_find?_eq_some hp)
        rw [h1, e] at h2
        exact h2
    | none =>
      refine iteT ?_
      intro f0 hf0
      refine ⟨_, rfl, (by show 1 ≤ sizeLine; decide), fun wt hwt => ?_⟩
      have nef : f0 ≠ wt := fun z => by rw [← z, upd_same] at hwt; cases hwt
      have hwt0 : H wt = none := by rw [upd_ne nef.symm] at hwt; exact hwt
      have b0 : BS G k f0 wt H (upd (upd H f0 (dN G.w f0 [])) wt (.lst [lv G.L k])) [] [k] :=
        ⟨⟨(Fr.new hf0).trans (Fr.new hwt), (I.new hf0).new hwt⟩, by rw [upd_ne nef]; exact upd_same, upd_same, hf0, hwt0, nef⟩
      refine ⟨fun m τ H' => ∃ js ws oth, τ = [some (.ref G.g), some (lv G.L k), some (.ref f0), some (.ref wt), oth] ∧ BS G k f0 wt H H' js ws ∧ DW G.adj G.n k js ws ∧ 2 * (G.n - js.length) + ws.length ≤ 2 * G.n + 1 ∧ m = 2 * (G.n - js.length) + ws.length, ⟨_, [], [k], none, rfl, b0, DW.start hk, Nat.le_refl _, rfl⟩, ?_⟩
      rintro m τ H1 ⟨js, ws, oth, rfl, b, dw, mle, rfl⟩
      have I1 := b.fr.2
      obtain ⟨dx1, vl1, vp1, hg1⟩ := I1.st.ob
      refine ⟨_, rfl, wt, _, rfl, Or.inl (sqL b.hw), _, _, rfl, rfl, _, rfl, ?_⟩
      rcases List.eq_nil_or_concat ws with rfl | ⟨ws', u, rfl⟩
      · -- nothing waits: found is the whole
        refine iteF ?_
        refine ⟨f0, _, b.hf, True.intro, fun od => ?_⟩
        have hfd := b.fne I
        have gr2 : GR G H (upd H1 f0 (.frz od (dL G.w G.L f0 (tjs js)))) := ⟨b.fr.1.mut b.nf, I1.ext b.hf hfd⟩
        have I2 := gr2.2
        obtain ⟨dx2, vl2, vp2, hg2⟩ := I2.st.ob
        obtain ⟨kvs2, hdk2, hkl2, hnd2, hfa2⟩ := id I2.dy
        refine ⟨_, rfl, _, rfl, G.g, G.C, dx2, _, _, rfl, hg2, T.cl, T.nk, gF_known _ _ _ _, _, rfl, ?_⟩
        have hlen : kvs2.length ≤ G.n := by
          have := nodup_len G.n _ hnd2 (fun x hx => by obtain ⟨p, hp, rfl⟩ := List.mem_map.mp hx; exact hkl2 p hp)
          rwa [List.length_map] at this
        have hsm := I.small
        refine I2.st.lw.put hkl2 hdk2 hk (by rw [sizeLine_eq]; omega) ?_
        -- behind the store
        have hfr : FAt G (upd H1 f0 (.frz od (dL G.w G.L f0 (tjs js)))) k (.ref f0) := ⟨f0, od, js, rfl, upd_same, dw.lt, dw.fin⟩
        have fz : ∀ (a : Addr) (od' : Obj) (u : HO), (upd H1 f0 (.frz od (dL G.w G.L f0 (tjs js)))) a = some (.frz od' u) → a ≠ G.dk := fun a od' u e => I2.frzd e
        have I3 : GI G (upd (upd H1 f0 (.frz od (dL G.w G.L f0 (tjs js)))) G.dk (dL G.w G.L G.dk (putK kvs2 k (.ref f0)))) := by
          have st3 : GStat G (upd (upd H1 f0 (.frz od (dL G.w G.L f0 (tjs js)))) G.dk (dL G.w G.L G.dk (putK kvs2 k (.ref f0)))) := by
            obtain ⟨lw, ob, odd, ekvs, he, e1, e2⟩ := I2.st
            have gd : G.g ≠ G.dk := by
              obtain ⟨a, b, c, e⟩ := ob
              exact ne_of e hdk2 (by intro z; cases z)
            refine ⟨lw.mono fun a vs e => ?_, ?_, odd, ekvs, ?_, e1, fun j hj => ?_⟩
            · rw [upd_ne (ne_of e hdk2 (by intro z; cases z))]; exact e
            · obtain ⟨a, b, c, e⟩ := ob
              exact ⟨a, b, c, by rw [upd_ne gd]; exact e⟩
            · rw [upd_ne (I2.frzd he)]; exact he
            · have := e2 j hj
              cases hv : valV ekvs j with
              | none => rw [hv] at this; exact this
              | some v =>
                rw [hv] at this
                obtain ⟨l, o, a, b⟩ := this
                exact ⟨l, o, a, by rw [upd_ne (I2.frzd b)]; exact b⟩
          refine ⟨st3, ⟨_, upd_same, fun p hp => putK_keys hkl2 hk hp, ?_, fun p hp => ?_⟩, I.small, I.lt, I.few⟩
          · cases hv2 : valV kvs2 k with
            | none => exact nd_putK _ hnd2 hv2
            | some v =>
              have : (putK kvs2 k (V.ref f0)).map (·.1) = kvs2.map (·.1) := by
                unfold putK
                rw [valV_any, hv2]
                simp only [Option.isSome_some, if_true]
                rw [List.map_map]
                refine List.map_congr_left fun p _ => ?_
                show (if p.1 = k then (p.1, V.ref f0) else p).1 = p.1
                split <;> rfl
              rw [this]
              exact hnd2
          · have back : ∀ j v, FAt G (upd H1 f0 (.frz od (dL G.w G.L f0 (tjs js)))) j v → FAt G (upd (upd H1 f0 (.frz od (dL G.w G.L f0 (tjs js)))) G.dk (dL G.w G.L G.dk (putK kvs2 k (.ref f0)))) j v := by
              rintro j v ⟨f, o, js', a, b, c⟩
              exact ⟨f, o, js', a, by rw [upd_ne (I2.frzd b)]; exact b, c⟩
            unfold putK at hp
            split at hp
            · obtain ⟨p', hp', e⟩ := List.mem_map.mp hp
              split at e
              · rename_i hpk
                subst e
                rw [hpk]
                exact back _ _ hfr
              · subst e
                exact back _ _ (hfa2 p' hp')
            · rcases List.mem_append.mp hp with hp | hp
              · exact back _ _ (hfa2 p hp)
              · have : p = (k, V.ref f0) := by simpa using hp
                subst this
                exact back _ _ hfr
        have gr3 : GR G H (upd (upd H1 f0 (.frz od (dL G.w G.L f0 (tjs js)))) G.dk (dL G.w G.L G.dk (putK kvs2 k (.ref f0)))) :=
          ⟨gr2.1.mutD (by simp) (ntup hdk2 (by intro vs z; cases z)), I3⟩
        obtain ⟨dx3, vl3, vp3, hg3⟩ := I3.st.ob
        refine ⟨_, rfl, G.g, G.C, dx3, _, _, rfl, hg3, T.cl, T.nk, gF_known _ _ _ _, _, rfl, V.ref f0, ?_, ?_⟩
        · have e := I3.st.lw.get (k := k) (fun p hp => putK_keys hkl2 hk hp) (Or.inl upd_same) hk
          rw [valV_put, if_pos rfl] at e
          exact e
        · refine q _ _ gr3 ⟨f0, od, js, rfl, ?_, dw.lt, dw.fin⟩
          rw [upd_ne hfd]
          exact upd_same
      · -- u is taken
        rw [List.concat_eq_append] at b dw mle ⊢
        have hpos : decide ((0 : Int) < ((List.map (lv G.L) (ws' ++ [u])).length : Nat)) = true := by
          rw [List.length_map, List.length_append]
          exact decide_eq_true (by simp only [List.length_cons, List.length_nil]; omega)
        rw [hpos]
        refine iteT ?_
        have hu' : u < G.n := dw.wl u (List.mem_append_right _ (List.mem_singleton.mpr rfl))
        have huk := dw.wt u (List.mem_append_right _ (List.mem_singleton.mpr rfl))
        have di := dw.pop
        refine ⟨fun τ' H' => ∃ js2 ws2 oth2, τ' = [some (.ref G.g), some (lv G.L k), some (.ref f0), some (.ref wt), oth2] ∧ BS G k f0 wt H H' js2 ws2 ∧ DW G.adj G.n k js2 ws2 ∧ 2 * (G.n - js2.length) + ws2.length < 2 * (G.n - js.length) + (ws' ++ [u]).length, ?_, ?_⟩
        · rintro τ' H' ⟨js2, ws2, oth2, e, b2, dw2, lt2⟩
          exact ⟨_, lt2, js2, ws2, oth2, e, b2, dw2, by omega, rfl⟩
        obtain ⟨ode, ekvs, he, e1, e2⟩ := I1.st.ed
        have hlast : ((ws' ++ [u]).map (lv G.L))[((ws' ++ [u]).map (lv G.L)).length - 1]? = some (lv G.L u) := by
          rw [List.map_append, List.length_append]
          simp
        refine ⟨_, rfl, G.g, G.C, dx1, _, _, rfl, hg1, T.cl, T.ne, gF_edges _ _ _ _, ⟨G.ed, _, rfl, Or.inr ⟨ode, he⟩, I1.st.lw.kall e1⟩, _, rfl, Or.inl ⟨rfl, _, sqL b.hw⟩, wt, _, lv G.L u, rfl, rfl, b.hw, hlast, ?_⟩
        have hdl : ((ws' ++ [u]).map (lv G.L)).dropLast = ws'.map (lv G.L) := by
          rw [List.map_append]
          simp
        rw [hdl]
        have b1 : BS G k f0 wt H (upd H1 wt (.lst (ws'.map (lv G.L)))) js ws' := b.putW
        refine ⟨Nat.zero_le _, fun p hp => ?_⟩
        have b2 : BS G k f0 wt H (upd (upd H1 wt (.lst (ws'.map (lv G.L)))) p (.lst [])) js ws' := b1.newO hp
        have I2 := b2.fr.2
        obtain ⟨ode2, ekvs2, he2, e12, e22⟩ := I2.st.ed
        refine ⟨_, I2.st.lw.get e12 (Or.inr ⟨ode2, he2⟩) hu', ?_⟩
        have src : ∃ a, (valV ekvs2 u).getD (V.ref p) = .ref a ∧ Src a wt ((G.adj u).map (lv G.L)) (upd (upd H1 wt (.lst (ws'.map (lv G.L)))) p (.lst [])) := by
          have h2 := e22 u hu'
          cases hv : valV ekvs2 u with
          | none =>
            rw [hv] at h2
            have h2 : G.adj u = [] := h2
            refine ⟨p, rfl, Or.inr ⟨?_, ?_⟩⟩
            · rw [h2]; exact upd_same
            · intro z
              rw [z, upd_same] at hp
              cases hp
          | some v =>
            rw [hv] at h2
            obtain ⟨l, o, a, b⟩ := h2
            exact ⟨l, a, Or.inl ⟨o, b⟩⟩
        obtain ⟨a, ea, sa⟩ := src
        rw [ea]
        have hlenj : js.length ≤ G.n := nodup_len G.n js dw.nd dw.lt
        refine ⟨a, rfl, ⟨_, sa.sq⟩, for_list (K := K) (a := a) (xs := (G.adj u).map (lv G.L)) (fun i τ' H' => ∃ js2 ws2 oth2, τ' = [some (.ref G.g), some (lv G.L k), some (.ref f0), some (.ref wt), oth2] ∧ BS G k f0 wt H H' js2 ws2 ∧
            DI G.adj G.n k u ((G.adj u).take i) js2 ws2 ∧ Src a wt ((G.adj u).map (lv G.L)) H' ∧ (u = k ∨ u ∈ js2) ∧ 2 * (G.n - js2.length) + ws2.length < 2 * (G.n - js.length) + (ws' ++ [u]).length)
          ⟨js, ws', oth, rfl, b2, di, sa, huk, by rw [List.length_append]; simp⟩ (fun i τ' H' _ ⟨_, _, _, _, _, _, s, _⟩ => s.sq) ?_ ?_⟩
        · rintro i y τ' H' hi ⟨js2, ws2, oth2, rfl, b3, di3, s3, hu3, lt3⟩
          rw [List.getElem?_map] at hi
          obtain ⟨x, hx, rfl⟩ := Option.map_eq_some_iff.mp hi
          have hxa : x ∈ G.adj u := List.mem_of_getElem? hx
          have hxn : x < G.n := I.lt u x hxa
          have htk : (G.adj u).take (i + 1) = (G.adj u).take i ++ [x] := by rw [List.take_add_one, hx]; rfl
          have I3 := b3.fr.2
          -- if other not in found
          refine ⟨_, rfl, _, rfl, _, I3.st.lw.get (kvs := tjs js2) (tjs_lt di3.lt) (Or.inl b3.hf) hxn, _, rfl, ?_⟩
          rw [tjs_val]
          by_cases hm : x ∈ js2
          · rw [decide_eq_true hm]
            refine iteF ?_
            exact ⟨js2, ws2, _, rfl, b3, by rw [htk]; exact di3.old hm, s3, hu3, lt3⟩
          · rw [decide_eq_false hm]
            refine iteT ?_
            have hlen2 : js2.length < G.n := by
              have h5 := nodup_len G.n (js2 ++ [x]) (di3.more hu3 hm hxa hxn).nd (di3.more hu3 hm hxa hxn).lt
              rw [List.length_append] at h5
              simp at h5
              omega
            have hsm := I.small
            refine ⟨_, rfl, _, rfl, I3.st.lw.put (kvs := tjs js2) (tjs_lt di3.lt) b3.hf hxn (by rw [sizeLine_eq]; unfold tjs; rw [List.length_map]; omega) ?_⟩
            rw [tjs_put hm]
            have b4 := b3.putF I (js' := js2 ++ [x])
            refine ⟨_, rfl, Or.inl ⟨rfl, _, sqL b4.hw⟩, _, rfl, wt, _, _, rfl, rfl, b4.hw, ?_, ?_⟩
            · rw [List.length_map, sizeLine_eq]
              omega
            · have b5 := b4.putW (ws' := ws2 ++ [x])
              rw [List.map_append] at b5
              refine ⟨js2 ++ [x], ws2 ++ [x], _, rfl, ?_, by rw [htk]; exact di3.more hu3 hm hxa hxn, (s3.ext b3.hf).lst b4.hw, ?_, ?_⟩
              · exact b5
              · rcases hu3 with e | e
                · exact Or.inl e
                · exact Or.inr (List.mem_append_left _ e)
              · simp only [List.length_append, List.length_cons, List.length_nil] at lt3 ⊢
                omega
        · rintro τ' H' ⟨js2, ws2, oth2, rfl, b3, di3, s3, hu3, lt3⟩
          rw [List.length_map, List.take_length] at di3
          exact ⟨js2, ws2, oth2, rfl, b3, di3.done_, lt3⟩
end
end QW
end
section
set_option Elab.async false
set_option linter.all false
set_option maxRecDepth 100000
set_option maxHeartbeats 4000000
/-! free_lines, jump -/
namespace QW
open PySem L2 QN Qw

/-! ### the test that no line of some lines passes a test -/
def rLenQ (K : PySem.W.Frag) : List V → Hp → VK → Prop := fun xs H Q => ∃ p ys, xs = [.ref p] ∧ (SqL K H p ys ∨ SqT K H p ys) ∧ Q (.int ys.length) H
theorem pe_len {X : Cx} {e : Expr} {te : TE} {p1 p2 : Pos} (hm : X.mg "len" = none) (hg : Gl X "len") (h : PE X e te) (he : starEach (e :: []) X.env = (false, eval e X.env) :: starEach [] X.env := by rfl) (hes : ∀ p, backTo p (starEach [e] X.env) = (false, eval e X.env) :: backTo p (starEach [] X.env) := by intro _; rfl) : PE X (.Call (.Name "len" p1) [e] [] p2) (tCB (rLenQ X.K) (tCons te tNil)) :=
  pe_callB (call_len_seq (X := X)) hg hm PySem.boot_len (pa_cons h pa_nil he) (he := he)
/-- [x for x in iter if test] -/
theorem pe_fil {X : Cx} {x : Str} {i : Nat} {iter test : Expr} {scope : Scope} {pos p1 p2 : Pos} {wi : TI} {tt : TT} (hc : X.calm = true) (nd : X.N.Nodup) (hi : PI X (.Name x p1) iter wi) (ok : BlkOk X.N X.env.scope scope [(x, i)])
    (hx : ∀ (t : Shared) (G : Hp) (C : Addr) (cl : List (Str × Addr)) (fp : List Addr), Loc (X.blk t G scope (compEnvC scope cl C X.env) fp).env.scope x)
    (ht : ∀ (t : Shared) (G : Hp) (C : Addr) (cl : List (Str × Addr)) (fp : List Addr), PT (X.blk t G scope (compEnvC scope cl C X.env) fp) test tt)
    (hf : ∀ (t : Shared) (G : Hp) (C : Addr) (cl : List (Str × Addr)) (fp : List Addr), (X.blk t G scope (compEnvC scope cl C X.env) fp).fn x = true ∨ (X.blk t G scope (compEnvC scope cl C X.env) fp).env.scope.names.lookup x = some .local := by intro _ _ _ _ _; first | exact .inl rfl | exact .inr rfl)
    (hd : (x == ("__debug__" : Str)) = false := by decide) (hcd : (x == ("__classdict__" : Str)) = false := by decide) (hs : ∀ x, foldedSetIterable iter X.env x = pure x := by intro _; rfl) :
    PE X (.ListComp (.Name x p2) [⟨.Name x p1, iter, [test], 0⟩] scope pos) (tLc wi (gName i) tt (tVar i) [i]) :=
  have hix : X.N[i]? = some x := ok.ix (x, i) List.mem_cons_self
  pe_lc (own := [(x, i)]) (g := gName i) hc nd hi ok (fun t G C cl fp => pg_name (i := i) nd hix (hx t G C cl fp) (hf t G C cl fp)) (fun t G C cl fp => pts_one (ht t G C cl fp)) (fun t G C cl fp => pe_var hix (by
    rcases hx t G C cl fp with h | h
    · exact Or.inl h
    · exact Or.inr (Or.inl h)) hd hcd) hs
/-- len(e) == 0 -/
def tLen0 (K : PySem.W.Frag) (te : TE) : TT := tTest (tOp rEq (tCB (rLenQ K) (tCons te tNil)) (tC (.int 0)))
/-- a.strictly(b, c) by slots -/
def tStrM (G : GC) (i j l : Nat) : TT := tB (tMeth G.C "strictly" (spStrictly G) [] E0 (tVar i) (tCons (tVar j) (tCons (tVar l) tNil)))
section
variable {J : Hp → Prop} {R : Hp → Hp → Prop} {K : PySem.W.Frag} {a : Addr} {σ : L2.St} {H : Hp} {tt : TT} {te : TE} {vs : List Nat} {j il : Nat}
theorem run_len0 {Q : Bool → Hp → Prop} (h : te σ H fun v H1 => ∃ p ys, v = .ref p ∧ H1 p = some (.lst ys) ∧ Q (ys.isEmpty) H1) (mono : ∀ Q Q' : VK, (∀ v H1, Q v H1 → Q' v H1) → te σ H Q → te σ H Q') : tLen0 K te σ H Q := by
  refine mono _ _ (fun v H1 hq => ?_) h
  obtain ⟨p, ys, rfl, hp, q⟩ := hq
  refine ⟨p, ys, rfl, Or.inl (sqL hp), rfl, _, rfl, ?_⟩
  have : decide (V.int (ys.length : Int) = V.int 0) = ys.isEmpty := by
    cases ys with
    | nil => rfl
    | cons y ys =>
      refine decide_eq_false fun e => ?_
      injection e with e
      rw [List.length_cons] at e
      omega
  rw [this]
  exact q
/-- [x for x in xs if t], xs a list at a slot -/
theorem run_fil {β : Type} (val : β → V) (rl : Rl J R) (jH : J H) {xs : List β} (f : β → Bool) {Q : VK} (hs : σ[il]? = some (some (.ref a))) (hz : xs.length ≤ 100000) (hw : ∀ x, wipe ((wipe σ vs).set j (some x)) vs = wipe σ vs) (hv : ∀ x, ((wipe σ vs).set j (some x))[j]? = some (some x))
    (hx : SqL K H a (xs.map val)) (hk : ∀ H', R H H' → SqL K H a (xs.map val) → SqL K H' a (xs.map val))
    (ht : ∀ x ∈ xs, ∀ H', R H H' → ∀ Q : Bool → Hp → Prop, (∀ H2, R H' H2 → Q (f x) H2) → tt ((wipe σ vs).set j (some (val x))) H' Q)
    (hd : ∀ D H', H D = none → R H H' → H' D = some (.lst ((xs.filter f).map val)) → Q (.ref D) H') : tLc (iList K (tVar il)) (gName j) tt (tVar j) vs σ H Q :=
  ⟨.ref a, hs, a, rfl, ⟨_, hx⟩, fun D hD => lc_fil val rl jH f hz hD hw hv hx hk ht (hd D · hD)⟩
theorem mono_lc {Q Q' : VK} {wi : TI} {g : TG} (hq : ∀ v H1, Q v H1 → Q' v H1) (mw : ∀ (R R' : It → Hp → Prop), (∀ J H, R J H → R' J H) → wi σ H R → wi σ H R') (h : tLc wi g tt te vs σ H Q) : tLc wi g tt te vs σ H Q' := by
  refine mw _ _ (fun J H1 hD D hn => ?_) h
  obtain ⟨W, w0, turn⟩ := hD D hn
  refine ⟨W, w0, fun i m H2 w2 => ?_⟩
  rcases turn i m H2 w2 with ⟨s, q⟩ | r
  · exact Or.inl ⟨s, hq _ _ q⟩
  · exact Or.inr r
theorem mono_iList {R R' : It → Hp → Prop} (h : ∀ J H, R J H → R' J H) (w : iList K (tVar il) σ H R) : iList K (tVar il) σ H R' := by
  obtain ⟨v, e, a, ev, hx, r⟩ := w
  exact ⟨v, e, a, ev, hx, h _ _ r⟩
/-- len([y for y in xs if S y x]) == 0 -/
theorem run_free {β : Type} (val : β → V) (rl : Rl J R) (jH : J H) {xs : List β} (f : β → Bool) {Q : Bool → Hp → Prop} (hs : σ[il]? = some (some (.ref a))) (hz : xs.length ≤ 100000) (hw : ∀ x, wipe ((wipe σ vs).set j (some x)) vs = wipe σ vs) (hv : ∀ x, ((wipe σ vs).set j (some x))[j]? = some (some x))
    (hx : SqL K H a (xs.map val)) (hk : ∀ H', R H H' → SqL K H a (xs.map val) → SqL K H' a (xs.map val))
    (ht : ∀ x ∈ xs, ∀ H', R H H' → ∀ Q : Bool → Hp → Prop, (∀ H2, R H' H2 → Q (f x) H2) → tt ((wipe σ vs).set j (some (val x))) H' Q)
    (hd : ∀ H', R H H' → Q ((xs.filter f).isEmpty) H') : tLen0 K (tLc (iList K (tVar il)) (gName j) tt (tVar j) vs) σ H Q := by
  refine run_len0 (run_fil val rl jH f hs hz hw hv hx hk ht fun D H' hD r hl => ⟨D, _, rfl, hl, ?_⟩) (fun Q Q' hq h => mono_lc hq (fun R R' hr w => mono_iList hr w) h)
  have : ((xs.filter f).map val).isEmpty = (xs.filter f).isEmpty := by cases xs.filter f <;> rfl
  rw [this]
  exact hd H' r
end
abbrev sFree : Stmt := topS 2
abbrev sJump : Stmt := topS 3
def spFree (G : GC) : Sp := fun vs H Q _ => ∃ a l, vs = [.ref G.g, .ref a] ∧ H a = some (.lst (l.map (lv G.L))) ∧ (∀ k ∈ l, k < G.n) ∧ l.length ≤ 1000 ∧ GI G H ∧
  ∀ p H', GR G H H' → H p = none → H' p = some (.lst ((free (stB G.adj) l).map (lv G.L))) → Q (.ref p) H'
def spJump (G : GC) : Sp := fun vs H Q _ => ∃ a b, vs = [.ref G.g, lv G.L a, lv G.L b] ∧ a < G.n ∧ b < G.n ∧ GI G H ∧ ∀ H', GR G H H' → Q (.int (jump (stB G.adj) a b)) H'
section
variable {P : Program} {w : World} {K : PySem.W.Frag} {mg : Str → Option Value} {base : Heap}
theorem scFree : FnScope ["graph", "left", "one", "other"] ["graph", "left"] (defScope sFree) := ⟨rfl, rfl, rfl, by decide +kernel, rfl, by decide +kernel, by decide +kernel⟩
theorem ok_free {G : GC} {f fS : Addr} {fd fdS : FuncData} (hwG : G.w = w) (F : Fun K "free_lines" "free_lines" sFree f fd) (T : GTx K G.C) (B : Bi mg) (S : KnM P w K mg base G.C "strictly" 3 fS fdS ["self", "one", "other"] (spStrictly G)) : FnOk P w K mg base CX0 4 f fd ["graph", "left"] (spFree G) := by
  subst hwG
  refine F.ok scFree (fun vs H Q E h => ?_) (fun cdv A outer s H vs Q E hr h => ?_)
  · obtain ⟨a, l, rfl, _⟩ := h
    rfl
  · obtain ⟨a, l, rfl, ha, hl, hz, I, q⟩ := h
    refine ⟨_, pss_one (ps_ret (pe_fil (i := 2) (tt := tLen0 K (tLc (iList K (tVar 1)) (gName 3) (tStrM G 0 3 2) (tVar 3) [3])) rfl scFree.nd (pi_list (pv 1)) (blkOk_by (by rfl)) (fun _ _ _ _ _ => Or.inr rfl) (fun _ _ _ _ _ => pt_cmpR op_eq (pe_len B.len rfl
        (pe_fil (i := 3) rfl scFree.nd (pi_list (pv 1)) (blkOk_by (by rfl)) (fun _ _ _ _ _ => Or.inl rfl) (fun _ _ _ _ _ => pt_val (pe_meth (pv 0) T.cl S.m S.ok hr S.b .nil pass0 (pa_cons (pv 3) (pa_cons (pv 2) pa_nil)))))) pe_int (nomark _)))), ?_⟩
    refine run_fil (lv G.L) (rl_g G) I (isFree (stB G.adj) l) rfl (by omega) (fun _ => rfl) (fun _ => rfl) (sqL ha) (fun H' r _ => sqL (r.1.keep _ _ ha (I.nl ha))) (fun x hx H1 r1 Q1 q1 => ?_) (fun D H' hD r hl => q D H' r hD hl)
    have hxn := hl x hx
    refine run_free (lv G.L) (rl_g G) r1.2 (fun y => stB G.adj y x) rfl (by omega) (fun _ => rfl) (fun _ => rfl) (sqL (r1.1.keep _ _ ha (I.nl ha))) (fun H' r _ => sqL (r.1.keep _ _ (r1.1.keep _ _ ha (I.nl ha)) (r1.2.nl (r1.1.keep _ _ ha (I.nl ha))))) (fun y hy H2 r2 Q2 q2 => ?_) (fun H' r => q1 H' r)
    obtain ⟨dx, vl, vp, hg⟩ := r2.2.st.ob
    exact ⟨_, rfl, G.g, dx, _, rfl, hg, gF_no _ _ _ _ (by decide +kernel) (by decide +kernel) (by decide +kernel) (by decide +kernel), _, rfl, _, rfl, y, x, rfl, hl y hy, hxn, r2.2, fun H3 r3 => ⟨_, rfl, q2 H3 r3⟩⟩
theorem scJump : FnScope ["graph", "one", "other"] ["graph", "one", "other"] (defScope sJump) := ⟨rfl, rfl, rfl, by decide +kernel, rfl, by decide +kernel, by decide +kernel⟩
theorem ok_jump {G : GC} {f fS : Addr} {fd fdS : FuncData} (hwG : G.w = w) (F : Fun K "jump" "jump" sJump f fd) (T : GTx K G.C) (S : KnM P w K mg base G.C "strictly" 3 fS fdS ["self", "one", "other"] (spStrictly G)) : FnOk P w K mg base CX0 4 f fd ["graph", "one", "other"] (spJump G) := by
  subst hwG
  refine F.ok scJump (fun vs H Q E h => ?_) (fun cdv A outer s H vs Q E hr h => ?_)
  · obtain ⟨a, b, rfl, _⟩ := h
    rfl
  · obtain ⟨a, b, rfl, ha, hb, I, q⟩ := h
    refine ⟨_, pss_one (ps_ret (pe_ifExp (pt_val (pe_meth (pv 0) T.cl S.m S.ok hr S.b .nil pass0 (pa_cons (pv 1) (pa_cons (pv 2) pa_nil)))) pe_int pe_int)), ?_⟩
    obtain ⟨dx, vl, vp, hg⟩ := I.st.ob
    refine ⟨_, rfl, G.g, dx, _, rfl, hg, gF_no _ _ _ _ (by decide +kernel) (by decide +kernel) (by decide +kernel) (by decide +kernel), _, rfl, _, rfl, a, b, rfl, ha, hb, I, fun H1 r1 => ⟨_, rfl, ?_⟩⟩
    have := q H1 r1
    unfold jump at this
    cases e : stB G.adj a b with
    | true => rw [e, if_pos rfl] at this; exact iteT this
    | false => rw [e, if_neg Bool.false_ne_true] at this; exact iteF this
end
end QW
end
section
set_option Elab.async false
set_option linter.all false
set_option maxRecDepth 100000
set_option maxHeartbeats 2000000
/-! the settler's memory in the heap; triples in the heap -/
namespace QW
open PySem L2 QN Qw

/-! ### keys: (the lines that are left, the last one) -/
def keyN (k : KeyT) : NestedKey := .tup [.tup (k.1.map lk), lk k.2]
theorem lks_inj : ∀ {a b : List Nat}, a.map lk = b.map lk → a = b
  | [], [], _ => rfl
  | [], _ :: _, h => by simp at h
  | _ :: _, [], h => by simp at h
  | x :: a, y :: b, h => by
    rw [List.map_cons, List.map_cons] at h
    injection h with h1 h2
    rw [lk_inj h1, lks_inj h2]
theorem keyN_inj {a b : KeyT} (h : keyN a = keyN b) : a = b := by
  unfold keyN at h
  injection h with h
  injection h with h1 h2
  injection h1 with h1
  injection h2 with h2 _
  exact Prod.ext (lks_inj h1) (lk_inj h2)
theorem lks_depth : ∀ l : List Nat, NestedKey.depthAll (l.map lk) ≤ 4
  | [] => by simp [NestedKey.depthAll]
  | a :: l => by
    have := lks_depth l
    have := lk_depth a
    simp only [List.map_cons, NestedKey.depthAll]
    omega
theorem keyN_depth (k : KeyT) : (keyN k).depth ≤ 8 := by
  have h1 := lks_depth k.1
  have h2 := lk_depth k.2
  simp only [keyN, NestedKey.depth, NestedKey.depthAll]
  omega
theorem lks_data : ∀ l : List Nat, NestedKey.datas (l.map lk) = l.map ld
  | [] => by rw [List.map_nil, NestedKey.datas]; rfl
  | a :: l => by
    rw [List.map_cons, NestedKey.datas, lks_data l]
    rfl
def md (k : KeyT) : PyData := .tuple [.tuple (k.1.map ld), ld k.2]
theorem keyN_data (k : KeyT) : (keyN k).data = md k := by
  unfold keyN md
  rw [NestedKey.data, NestedKey.datas, NestedKey.datas, NestedKey.datas, NestedKey.data, lks_data]
  rfl
/-- the key's tuple stands at b -/
def KAt (H : Hp) (L : Nat → Addr) (k : KeyT) (b : Addr) : Prop := ∃ T, H b = some (.tup [.ref T, lv L k.2]) ∧ H T = some (.tup (k.1.map (lv L)))
theorem KAt.mono {H H' : Hp} {L : Nat → Addr} {k : KeyT} {b : Addr} (m : TKeep H H') (h : KAt H L k b) : KAt H' L k b := by
  obtain ⟨T, h1, h2⟩ := h
  exact ⟨T, m _ _ h1, m _ _ h2⟩
theorem KAt.kp {H : Hp} {L : Nat → Addr} {n : Nat} {k : KeyT} {b : Addr} (h : KAt H L k b) (lw : LW H L n) (h1 : ∀ j ∈ k.1, j < n) (h2 : k.2 < n) : KP H (keyN k) (.ref b) := by
  obtain ⟨T, e1, e2⟩ := h
  exact .tup e1 (.cons (.tup e2 (lw.kps h1)) (.cons (lw.at_ _ h2) .nil))

abbrev MEnt := KeyT × Addr × V
def dM (w : World) (d : Addr) (es : List MEnt) : HO := dN w d (es.map fun e => (keyN e.1, e.2.1, e.2.2))
def valM (es : List MEnt) (k : KeyT) : Option V := (es.find? fun e => decide (e.1 = k)).map (·.2.2)
theorem atN_M (k : KeyT) : ∀ es : List MEnt, atN (es.map fun e => (keyN e.1, e.2.1, e.2.2)) (keyN k) = valM es k
  | [] => rfl
  | e :: es => by
    have ih := atN_M k es
    by_cases h : e.1 = k
    · simp [atN, valM, List.find?_cons, h]
    · have h' : ¬ keyN e.1 = keyN k := fun z => h (keyN_inj z)
      have l : atN (((e :: es).map fun e => (keyN e.1, e.2.1, e.2.2))) (keyN k) = atN (es.map fun e => (keyN e.1, e.2.1, e.2.2)) (keyN k) := by simp [atN, List.find?_cons, h']
      have r : valM (e :: es) k = valM es k := by simp [valM, List.find?_cons, h]
      rw [l, r, ih]
theorem valM_none {es : List MEnt} {k : KeyT} : valM es k = none ↔ k ∉ es.map (·.1) := by
  unfold valM
  rw [Option.map_eq_none_iff, List.find?_eq_none]
  constructor
  · intro h hm
    obtain ⟨e, he, rfl⟩ := List.mem_map.mp hm
    exact h e he (by simp)
  · intro h e he hk
    exact h (List.mem_map.mpr ⟨e, he, of_decide_eq_true hk⟩)
theorem valM_some {es : List MEnt} {k : KeyT} {v : V} (h : valM es k = some v) : ∃ b, (k, b, v) ∈ es := by
  unfold valM at h
  obtain ⟨e, he, hv⟩ := Option.map_eq_some_iff.mp h
  have h1 := List.find?_some he
  have h1 : e.1 = k := of_decide_eq_true h1
  refine ⟨e.2.1, ?_⟩
  have := List.mem_of_find?_eq_some he
  rw [← h1, ← hv]
  exact this
theorem valM_isSome (es : List MEnt) (k : KeyT) : (valM es k).isSome = decide (k ∈ es.map (·.1)) := by
  cases h : valM es k with
  | none => rw [decide_eq_false (valM_none.mp h)]; rfl
  | some v =>
    obtain ⟨b, hb⟩ := valM_some h
    rw [decide_eq_true (List.mem_map.mpr ⟨_, hb, rfl⟩)]
    rfl
theorem putN_M {es : List MEnt} {k : KeyT} {b : Addr} {v : V} (h : k ∉ es.map (·.1)) : putN (es.map fun e => (keyN e.1, e.2.1, e.2.2)) (keyN k) b v = (es ++ [(k, b, v)]).map fun e => (keyN e.1, e.2.1, e.2.2) := by
  unfold putN
  rw [atN_M, valM_none.mpr h, if_neg (by decide), List.map_append]
  rfl
section
variable {H : Hp} {L : Nat → Addr} {n : Nat} {w : World} {d b : Addr} {es : List MEnt} {k : KeyT}
/-- all keys are of lines of the world and stand where they are told -/
structure MAll (H : Hp) (L : Nat → Addr) (n : Nat) (es : List MEnt) : Prop where
  at_ : ∀ e ∈ es, KAt H L e.1 e.2.1
  lt1 : ∀ e ∈ es, ∀ j ∈ e.1.1, j < n
  lt2 : ∀ e ∈ es, e.1.2 < n
theorem MAll.mono {H' : Hp} (m : TKeep H H') (h : MAll H L n es) : MAll H' L n es := ⟨fun e he => (h.at_ e he).mono m, h.lt1, h.lt2⟩
theorem MAll.kall (h : MAll H L n es) (lw : LW H L n) : KAll H (es.map fun e => (keyN e.1, e.2.1, e.2.2)) := by
  intro x hx
  obtain ⟨e, he, rfl⟩ := List.mem_map.mp hx
  exact ⟨(h.at_ e he).kp lw (h.lt1 e he) (h.lt2 e he), keyN_depth _⟩
theorem MAll.get (h : MAll H L n es) (lw : LW H L n) (hr : Rd H d (dM w d es)) (hk : KAt H L k b) (h1 : ∀ j ∈ k.1, j < n) (h2 : k.2 < n) : NGet w H (.ref d) (.ref b) (valM es k) :=
  ⟨d, _, keyN k, b, rfl, rfl, hr, h.kall lw, hk.kp lw h1 h2, keyN_depth _, (atN_M k es).symm⟩
theorem MAll.put {Q : Hp → Prop} {v : V} (h : MAll H L n es) (lw : LW H L n) (hd : H d = some (dM w d es)) (hk : KAt H L k b) (h1 : ∀ j ∈ k.1, j < n) (h2 : k.2 < n) (hn : k ∉ es.map (·.1)) (hl : es.length < sizeLine) (q : Q (upd H d (dM w d (es ++ [(k, b, v)])))) : rNPut w (.ref d) (.ref b) v H Q := by
  refine ⟨d, _, keyN k, b, rfl, rfl, hd, h.kall lw, hk.kp lw h1 h2, keyN_depth _, by rw [List.length_map]; exact hl, ?_⟩
  rw [putN_M hn]
  exact q
end

/-! ### the settler -/
def sF (vg vk : V) : List (Str × V) := putF "known" vk (putF "graph" vg [])
theorem sF_known (vg vk : V) : (sF vg vk).lookup ("known" : Str) = some vk := by
  unfold sF
  rw [lookup_putF, if_pos rfl]
theorem sF_graph (vg vk : V) : (sF vg vk).lookup ("graph" : Str) = some vg := by
  unfold sF
  rw [lookup_putF, if_neg (by decide +kernel), lookup_putF, if_pos rfl]
theorem sF_no (vg vk : V) {m : Str} (h1 : ¬ m = "known") (h2 : ¬ m = "graph") : (sF vg vk).lookup m = none := by
  unfold sF
  rw [lookup_putF, if_neg h1, lookup_putF, if_neg h2]
  rfl
structure STx (K : PySem.W.Frag) (C : Addr) : Prop where
  cl : Cls K C
  ng : NoAttr K C "graph"
  nk : NoAttr K C "known"
structure SC where
  G : GC
  sb : List Nat
  C : Addr
  sa : Addr
  sk : Addr
noncomputable abbrev SC.S (c : SC) : Nat → Nat → Bool := stB c.G.adj
/-- the settler's memory: the keys that it has, right numbers, all that follow -/
structure SI (c : SC) (H : Hp) (es : List MEnt) : Prop where
  ob : ∃ dx, H c.sa = some (.ins c.C dx (sF (.ref c.G.g) (.ref c.sk)))
  dk : H c.sk = some (dM c.G.w c.sk es)
  ma : MAll H c.G.L c.G.n es
  nd : (es.map (·.1)).Nodup
  kr : ∀ e ∈ es, KR c.S c.sb e.1
  vl : ∀ e ∈ es, e.2.2 = .int (fw c.S e.1.1 e.1.2)
  cl : ∀ e ∈ es, ∀ one ∈ free c.S e.1.1, (rm e.1.1 one, one) ∈ es.map (·.1)
  ne : c.sk ≠ c.G.dk
/-- the block is fixed: sorted lines, few -/
structure SB (c : SC) : Prop where
  nd : c.sb.Nodup
  lt : ∀ k ∈ c.sb, k < c.G.n
  few : c.sb.length ≤ 6
def keys (es : List MEnt) : List KeyT := es.map (·.1)
theorem SI.len {c : SC} {H : Hp} {es : List MEnt} (h : SI c H es) (b : SB c) : es.length ≤ 384 := by
  have := keys_len6 h.nd (fun k hk => by obtain ⟨e, he, rfl⟩ := List.mem_map.mp hk; exact h.kr e he) b.few
  rwa [List.length_map] at this
theorem SI.val {c : SC} {H : Hp} {es : List MEnt} {k : KeyT} (h : SI c H es) (hk : k ∈ keys es) : valM es k = some (.int (fw c.S k.1 k.2)) := by
  cases e : valM es k with
  | none => exact absurd hk (valM_none.mp e)
  | some v =>
    obtain ⟨b, hb⟩ := valM_some e
    have := h.vl _ hb
    rw [show v = _ from this]
/-- it stays where its object, its memory and the tuples stay -/
theorem SI.stay {c : SC} {H H' : Hp} {es : List MEnt} (h : SI c H es) (k1 : ∀ C dx fs, H c.sa = some (.ins C dx fs) → H' c.sa = some (.ins C dx fs)) (k2 : ∀ xs, H c.sk = some (dN c.G.w c.sk xs) → H' c.sk = some (dN c.G.w c.sk xs)) (k3 : TKeep H H') : SI c H' es := by
  obtain ⟨⟨dx, ob⟩, dk, ma, r1, r2, r3, r4, r5⟩ := h
  exact ⟨⟨dx, k1 _ _ _ ob⟩, k2 _ dk, ma.mono k3, r1, r2, r3, r4, r5⟩
theorem SI.gr {c : SC} {H H' : Hp} {es : List MEnt} (h : SI c H es) (gi : GI c.G H) (r : GR c.G H H') : SI c H' es := by
  obtain ⟨xs, e'⟩ := gi.dkd
  refine h.stay (fun C dx fs e => r.1.keep _ _ e ?_) (fun xs e => r.1.keep _ _ e ?_) r.1.tk
  · rw [List.mem_singleton]; exact ne_of e e' (by intro z; cases z)
  · rw [List.mem_singleton]; exact h.ne
theorem SI.new {c : SC} {H : Hp} {es : List MEnt} {p : Addr} {o : HO} (h : SI c H es) (hp : H p = none) : SI c (upd H p o) es :=
  h.stay (fun C dx fs e => by rw [upd_ne (ne_of_none e hp)]; exact e) (fun xs e => by rw [upd_ne (ne_of_none e hp)]; exact e) fun a vs e => by rw [upd_ne (ne_of_none e hp)]; exact e
theorem SI.lst {c : SC} {H : Hp} {es : List MEnt} {p : Addr} {o : HO} {xs : List V} (h : SI c H es) (hp : H p = some (.lst xs)) : SI c (upd H p o) es :=
  h.stay (fun C dx fs e => by rw [upd_ne (ne_of e hp (by intro z; cases z))]; exact e) (fun xs e => by rw [upd_ne (ne_of e hp (by intro z; cases z))]; exact e) fun a vs e => by rw [upd_ne (ne_of e hp (by intro z; cases z))]; exact e
/-- what a call of the settler keeps -/
structure SR (c : SC) (H H' : Hp) (es es' : List MEnt) : Prop where
  fr : Fr [c.G.dk, c.sk] H H'
  gi : GI c.G H'
  si : SI c H' es'
  more : ∀ k ∈ keys es, k ∈ keys es'
theorem SR.trans {c : SC} {H H1 H2 : Hp} {es e1 e2 : List MEnt} (a : SR c H H1 es e1) (b : SR c H1 H2 e1 e2) : SR c H H2 es e2 := ⟨a.fr.trans b.fr, b.gi, b.si, fun k hk => b.more k (a.more k hk)⟩
theorem SR.refl {c : SC} {H : Hp} {es : List MEnt} (g : GI c.G H) (s : SI c H es) : SR c H H es es := ⟨Fr.refl _, g, s, fun _ h => h⟩
theorem SR.gr {c : SC} {H H1 H2 : Hp} {es e1 : List MEnt} (a : SR c H H1 es e1) (r : GR c.G H1 H2) : SR c H H2 es e1 :=
  ⟨a.fr.trans (r.1.mono (by simp)), r.2, a.si.gr a.gi r, a.more⟩
theorem SR.new {c : SC} {H H1 : Hp} {es e1 : List MEnt} {p : Addr} {o : HO} (a : SR c H H1 es e1) (hp : H1 p = none) : SR c H (upd H1 p o) es e1 :=
  ⟨a.fr.trans (Fr.new hp), a.gi.new hp, a.si.new hp, a.more⟩
theorem SR.mut {c : SC} {H H1 : Hp} {es e1 : List MEnt} {p : Addr} {o : HO} {xs : List V} (a : SR c H H1 es e1) (hp : H p = none) (h1 : H1 p = some (.lst xs)) : SR c H (upd H1 p o) es e1 :=
  ⟨a.fr.mut hp, a.gi.lst h1, a.si.lst h1, a.more⟩
theorem SR.lst {c : SC} {H H1 : Hp} {es e1 : List MEnt} {p : Addr} {xs : List V} (gi : GI c.G H) (si : SI c H es) (a : SR c H H1 es e1) (hp : H p = some (.lst xs)) : H1 p = some (.lst xs) := by
  refine a.fr.keep _ _ hp ?_
  obtain ⟨ys, e⟩ := gi.dkd
  simp only [List.mem_cons, List.not_mem_nil, or_false, not_or]
  exact ⟨ne_of hp e (by intro z; cases z), ne_of hp si.dk (by intro z; cases z)⟩
end QW
end
section
set_option Elab.async false
set_option linter.all false
set_option maxRecDepth 100000
set_option maxHeartbeats 8000000
/-! Settler.fewest -/
namespace QW
open PySem L2 QN Qw
abbrev sFewest : Stmt := inClass (topS 4) 1
def spFewest (c : SC) (d : Nat) : Sp := fun vs H Q _ => ∃ T left last es, vs = [.ref c.sa, .ref T, lv c.G.L last] ∧ H T = some (.tup (left.map (lv c.G.L))) ∧ left.length < d ∧ KR c.S c.sb (left, last) ∧ SB c ∧ GI c.G H ∧ SI c H es ∧
  ∀ H' es', SR c H H' es es' → (left, last) ∈ keys es' → Q (.int (fw c.S left last)) H'
/-- [y for y in xs if y != x], x a line at a slot -/
theorem pe_rm {X : Cx} {x y : Str} {i j : Nat} {iter : Expr} {scope : Scope} {pos p1 p2 p3 p4 p5 : Pos} {wi : TI} (hu : X.A.units + 64 < cLine) (hc : X.calm = true) (nd : X.N.Nodup) (hi : PI X (.Name x p1) iter wi) (ok : BlkOk X.N X.env.scope scope [(x, i)])
    (hx : ∀ (t : Shared) (G : Hp) (C : Addr) (cl : List (Str × Addr)) (fp : List Addr), Loc (X.blk t G scope (compEnvC scope cl C X.env) fp).env.scope x) (hy : X.N[j]? = some y)
    (hv : ∀ (t : Shared) (G : Hp) (C : Addr) (cl : List (Str × Addr)) (fp : List Addr), Vis (X.blk t G scope (compEnvC scope cl C X.env) fp).env.scope y)
    (hf : ∀ (t : Shared) (G : Hp) (C : Addr) (cl : List (Str × Addr)) (fp : List Addr), (X.blk t G scope (compEnvC scope cl C X.env) fp).fn x = true ∨ (X.blk t G scope (compEnvC scope cl C X.env) fp).env.scope.names.lookup x = some .local := by intro _ _ _ _ _; first | exact .inl rfl | exact .inr rfl)
    (hd : (x == ("__debug__" : Str)) = false := by decide) (hcd : (x == ("__classdict__" : Str)) = false := by decide) (hd2 : (y == ("__debug__" : Str)) = false := by decide) (hcd2 : (y == ("__classdict__" : Str)) = false := by decide) (hs : ∀ x, foldedSetIterable iter X.env x = pure x := by intro _; rfl) :
    PE X (.ListComp (.Name x p2) [⟨.Name x p1, iter, [.Compare (.Name x p3) [.NotEq] [.Name y p4] p5], 0⟩] scope pos) (tLc wi (gName i) (tTest (tOp (rNeD X.K) (tVar i) (tVar j))) (tVar i) [i]) :=
  have hix : X.N[i]? = some x := ok.ix (x, i) List.mem_cons_self
  pe_fil (i := i) hc nd hi ok hx (fun t G C cl fp => pt_cmpR (op_neD (X := X.blk t G scope (compEnvC scope cl C X.env) fp) hu) (pe_var hix (by
    rcases hx t G C cl fp with h | h
    · exact Or.inl h
    · exact Or.inr (Or.inl h)) hd hcd) (pe_var hy (hv t G C cl fp) hd2 hcd2) (nomark _)) hf hd hcd hs
/-- what it gives -/
theorem run_ne {K : PySem.W.Frag} {H : Hp} {L : Nat → Addr} {n x y i j : Nat} {σ : L2.St} {Q : Bool → Hp → Prop} (lw : LW H L n) (hx : x < n) (hy : y < n) (h1 : σ[i]? = some (some (lv L x))) (h2 : σ[j]? = some (some (lv L y))) (q : Q (!decide (x = y)) H) : tTest (tOp (rNeD K) (tVar i) (tVar j)) σ H Q := by
  refine ⟨_, h1, _, h2, _, _, lw.dp hx, lw.dp hy, ld_shaped x, ld_shaped y, _, rfl, ?_⟩
  rw [ld_eqv]
  exact q
theorem fn_never {P : Program} {w : World} {K : PySem.W.Frag} {mg : Str → Option Value} {base : Heap} {CX : CXT} {k : Nat} {f : Addr} {fd : FuncData} {ps : List Str} {sp : Sp} (h : ∀ vs H Q E, sp vs H Q E → False) : FnOk P w K mg base CX k f fd ps sp :=
  ⟨fun vs H Q E z => (h _ _ _ _ z).elim, fun A outer s H args us vs Q E hr e0 hb r z => (h _ _ _ _ z).elim⟩
theorem upd_none {H : Hp} {a b : Addr} {o : HO} (h : upd H a o b = none) : b ≠ a ∧ H b = none := by
  by_cases e : b = a
  · rw [e, upd_same] at h; cases h
  · rw [upd_ne e] at h; exact ⟨e, h⟩
/-! ### the memory gets one more -/
theorem putN_M_same {es : List MEnt} {k : KeyT} {b : Addr} {v : V} (hk : k ∈ es.map (·.1)) (hv : ∀ e ∈ es, e.1 = k → e.2.2 = v) : putN (es.map fun e => (keyN e.1, e.2.1, e.2.2)) (keyN k) b v = es.map fun e => (keyN e.1, e.2.1, e.2.2) := by
  unfold putN
  rw [atN_M, valM_isSome, decide_eq_true hk, if_pos rfl, List.map_map]
  refine List.map_congr_left fun e he => ?_
  show (if keyN e.1 = keyN k then (keyN e.1, e.2.1, v) else (keyN e.1, e.2.1, e.2.2)) = _
  by_cases h : e.1 = k
  · rw [if_pos (by rw [h]), hv e he h]
  · rw [if_neg (fun z => h (keyN_inj z))]
theorem SI.put {c : SC} {H : Hp} {es : List MEnt} {k : KeyT} {b : Addr} {Q : Hp → Prop} (si : SI c H es) (gi : GI c.G H) (sb : SB c) (hk : KAt H c.G.L k b) (kr : KR c.S c.sb k) (hc : ∀ one ∈ free c.S k.1, (rm k.1 one, one) ∈ keys es)
    (q : ∀ e2, SR c H (upd H c.sk (dM c.G.w c.sk e2)) es e2 → k ∈ keys e2 → Q (upd H c.sk (dM c.G.w c.sk e2))) : rNPut c.G.w (.ref c.sk) (.ref b) (.int (fw c.S k.1 k.2)) H Q := by
  have lw := gi.st.lw
  have h1 : ∀ j ∈ k.1, j < c.G.n := fun j hj => sb.lt j (kr.sub.subset hj)
  have h2 : k.2 < c.G.n := sb.lt _ kr.last
  have hz := si.len sb
  have base : ∀ e2 : List MEnt, SI c (upd H c.sk (dM c.G.w c.sk e2)) e2 → (∀ k ∈ keys es, k ∈ keys e2) → SR c H (upd H c.sk (dM c.G.w c.sk e2)) es e2 := fun e2 s2 m =>
    ⟨(Fr.refl H).mutD (by simp) (ntup si.dk (by intro vs z; cases z)), gi.ext si.dk si.ne, s2, m⟩
  have tk : ∀ o, TKeep H (upd H c.sk o) := fun o a vs e => by rw [upd_ne (ne_of e si.dk (by intro z; cases z))]; exact e
  have ob' : ∀ o, ∃ dx, (upd H c.sk o) c.sa = some (.ins c.C dx (sF (.ref c.G.g) (.ref c.sk))) := fun o => by
    obtain ⟨dx, e⟩ := si.ob
    exact ⟨dx, by rw [upd_ne (ne_of e si.dk (by intro z; cases z))]; exact e⟩
  by_cases hin : k ∈ keys es
  · refine ⟨c.sk, _, keyN k, b, rfl, rfl, si.dk, si.ma.kall lw, hk.kp lw h1 h2, keyN_depth _, by rw [List.length_map, sizeLine_eq]; omega, ?_⟩
    rw [putN_M_same hin fun e he hek => by rw [si.vl e he, hek]]
    exact q es (base es ⟨ob' _, upd_same, si.ma.mono (tk _), si.nd, si.kr, si.vl, si.cl, si.ne⟩ fun _ h => h) hin
  · refine si.ma.put lw si.dk hk h1 h2 hin (by rw [sizeLine_eq]; omega) ?_
    refine q _ (base _ ⟨ob' _, upd_same, ?_, ?_, fun e he => ?_, fun e he => ?_, fun e he one ho => ?_, si.ne⟩ fun x hx => ?_) ?_
    · refine ⟨fun e he => ?_, fun e he => ?_, fun e he => ?_⟩
      · rcases List.mem_append.mp he with he | he
        · exact (si.ma.at_ e he).mono (tk _)
        · have : e = (k, b, V.int (fw c.S k.1 k.2)) := by simpa using he
          subst this
          exact hk.mono (tk _)
      · rcases List.mem_append.mp he with he | he
        · exact si.ma.lt1 e he
        · have : e = (k, b, V.int (fw c.S k.1 k.2)) := by simpa using he
          subst this
          exact h1
      · rcases List.mem_append.mp he with he | he
        · exact si.ma.lt2 e he
        · have : e = (k, b, V.int (fw c.S k.1 k.2)) := by simpa using he
          subst this
          exact h2
    · rw [List.map_append]
      exact nd_snoc si.nd hin
    · rcases List.mem_append.mp he with he | he
      · exact si.kr e he
      · have : e = (k, b, V.int (fw c.S k.1 k.2)) := by simpa using he
        subst this
        exact kr
    · rcases List.mem_append.mp he with he | he
      · exact si.vl e he
      · have : e = (k, b, V.int (fw c.S k.1 k.2)) := by simpa using he
        subst this
        rfl
    · rw [List.map_append]
      rcases List.mem_append.mp he with he | he
      · exact List.mem_append_left _ (si.cl e he one ho)
      · have : e = (k, b, V.int (fw c.S k.1 k.2)) := by simpa using he
        subst this
        exact List.mem_append_left _ (hc one ho)
    · unfold keys
      rw [List.map_append]
      exact List.mem_append_left _ hx
    · unfold keys
      rw [List.map_append]
      exact List.mem_append_right _ (List.mem_singleton.mpr rfl)
/-- what the settler's calls keep, as a relation -/
theorem rl_s (c : SC) (es : List MEnt) : Rl (fun H => GI c.G H ∧ SI c H es) (fun H H' => SR c H H' es es) where
  rf := fun h => SR.refl h.1 h.2
  j := fun r => ⟨r.gi, r.si⟩
  tr := fun a b => a.trans b
  nw := fun h hp => (SR.refl h.1 h.2).new hp
  mt := fun h r hp e => r.mut hp e
  li := fun h r e => r.lst h.1 h.2 e
section
variable {J : Hp → Prop} {R : Hp → Hp → Prop} {K : PySem.W.Frag} {a : Addr} {σ : L2.St} {H : Hp} {tt : TT} {vs : List Nat} {j il : Nat}
/-- [x for x in t if t], t a tuple at a slot -/
theorem run_filT {β : Type} (val : β → V) (rl : Rl J R) (jH : J H) {xs : List β} (f : β → Bool) {Q : VK} (hs : σ[il]? = some (some (.ref a))) (hz : xs.length ≤ 100000) (hw : ∀ x, wipe ((wipe σ vs).set j (some x)) vs = wipe σ vs) (hv : ∀ x, ((wipe σ vs).set j (some x))[j]? = some (some x))
    (hx : SqT K H a (xs.map val)) (hk : ∀ H', R H H' → SqT K H a (xs.map val) → SqT K H' a (xs.map val))
    (ht : ∀ x ∈ xs, ∀ H', R H H' → ∀ Q : Bool → Hp → Prop, (∀ H2, R H' H2 → Q (f x) H2) → tt ((wipe σ vs).set j (some (val x))) H' Q)
    (hd : ∀ D H', H D = none → R H H' → H' D = some (.lst ((xs.filter f).map val)) → Q (.ref D) H') : tLc (iTup K (tVar il)) (gName j) tt (tVar j) vs σ H Q := by
  refine ⟨.ref a, hs, a, rfl, ⟨_, hx⟩, fun D hD => ?_⟩
  refine lc_tup (xs := xs.map val) (fun i H' => R H H' ∧ H' D = some (.lst (((xs.take i).filter f).map val))) ⟨rl.nw jH hD, upd_same⟩ (fun i H' _ p => hk H' p.1 hx) (fun i y H' hi p => ?_) (fun H' p => ?_)
  · obtain ⟨p1, p2⟩ := p
    rw [List.getElem?_map] at hi
    obtain ⟨x, hxi, rfl⟩ := Option.map_eq_some_iff.mp hi
    have htake : xs.take (i + 1) = xs.take i ++ [x] := by rw [List.take_add_one, hxi]; rfl
    refine ⟨hw _, ht x (List.mem_of_getElem? hxi) H' p1 _ fun H2 r2 => ?_⟩
    have h2 := rl.li (rl.j p1) r2 p2
    cases hf : f x with
    | true =>
      refine iteT ⟨val x, hv _, _, h2, ?_, rl.mt jH (rl.tr p1 r2) hD h2, ?_⟩
      · rw [List.length_map, sizeLine_eq]
        have h3 : ((xs.take i).filter f).length ≤ xs.length := Nat.le_trans (List.length_filter_le _ _) (by rw [List.length_take]; omega)
        omega
      · rw [upd_same, htake, List.filter_append, List.map_append, List.filter_cons, if_pos hf]
        rfl
    | false =>
      refine iteF ⟨rl.tr p1 r2, ?_⟩
      rw [h2, htake, List.filter_append, List.filter_cons, if_neg (by rw [hf]; decide)]
      simp
  · refine hd D H' hD p.1 ?_
    rw [p.2, List.length_map, List.take_length]
end
section
variable {P : Program} {w : World} {K : PySem.W.Frag} {mg : Str → Option Value} {base : Heap}
theorem scFewest : FnScope ["self", "left", "last", "counts", "one", "rest", "other"] ["self", "left", "last"] (defScope sFewest) := ⟨rfl, rfl, rfl, by decide +kernel, rfl, by decide +kernel, by decide +kernel⟩
theorem ok_fewest {c : SC} {f fF fJ : Addr} {fd fdF fdJ : FuncData} (hwG : c.G.w = w) (F : Fun K "fewest" "Settler.fewest" sFewest f fd) (T : STx K c.C) (B : Bi mg) (M : Meth K c.C "fewest" f) (bF : Binds K fd ["self", "left", "last"] [])
    (FR : Kn P w K mg base "free_lines" 4 fF fdF ["graph", "left"] (spFree c.G)) (JU : Kn P w K mg base "jump" 4 fJ fdJ ["graph", "one", "other"] (spJump c.G)) : ∀ d, FnOk P w K mg base CX0 (5 + d) f fd ["self", "left", "last"] (spFewest c d)
  | 0 => fn_never fun vs H Q E ⟨_, _, _, _, _, _, h, _⟩ => absurd h (Nat.not_lt_zero _)
  | d + 1 => by
    have ih := ok_fewest hwG F T B M bF FR JU d
    subst hwG
    refine F.ok scFewest (fun vs H Q E h => ?_) (fun cdv A outer s H vs Q E hr h => ?_)
    · obtain ⟨T0, left, last, es, rfl, _⟩ := h
      rfl
    · obtain ⟨T0, left, last, es, rfl, hT, hlen, hkr, sbk, I, si, q⟩ := h
      have hu := hr.units
      have hr4 : Room 4 (A.deeper (PyProof.Rows.envOfC "Settler.fewest" (defScope sFewest) s.heap.objs.size f cdv)) := hr.mono (by show 4 ≤ 5 + d; omega)
      refine ⟨_, pss_cons (ps_if (pt_cmpR (op_nnotin hu) (pe_tup (pa_cons (pv 1) (pa_cons (pv 2) pa_nil))) (pe_fld (pv 0) rfl) rfl)
          (pss_cons (ps_set (i := 3) scFewest.nd rfl (Or.inl rfl) (pe_lst (pa_cons pe_int pa_nil)))
          (pss_cons (ps_if (pt_cmpR op_gt (pe_callB call_len_seq (by rfl) B.len PySem.boot_len (pa_cons (pv 1) pa_nil)) pe_int (nomark _))
            (pss_cons (ps_set (i := 3) scFewest.nd rfl (Or.inl rfl) (pe_lst pa_nil))
            (pss_one (ps_for PassesOwn.never rfl (pi_list (pe_call FR.ok hr4 rfl FR.mg FR.kp FR.b .nil pass0 (pa_cons (pe_fld (pv 0) rfl) (pa_cons (pe_callTy call_list_of (by rfl) B.list PyProof.Rows.boot_list (pa_cons (pv 1) pa_nil)) pa_nil)))) (pg_name (i := 4) scFewest.nd rfl (Or.inr rfl))
              (pss_cons (ps_set (i := 5) scFewest.nd rfl (Or.inl rfl) (pe_callTy call_tuple_of (by rfl) B.tuple PyProof.Rows.boot_tuple (pa_cons
                (pe_rm (i := 6) (j := 4) hu rfl scFewest.nd (pi_tup (pv 1)) (blkOk_by (by rfl)) (fun _ _ _ _ _ => Or.inl rfl) rfl (fun _ _ _ _ _ => Or.inr (Or.inl rfl))) pa_nil)))
              (pss_one (ps_expr (pe_bm PySem.F.plainAttrs_list PySem.F.slot_list_append PySem.F.type_list_append mt_append (pv 3) (pa_cons
                (pe_op op_add (pe_call JU.ok hr4 rfl JU.mg JU.kp JU.b .nil pass0 (pa_cons (pe_fld (pv 0) rfl) (pa_cons (pv 2) (pa_cons (pv 4) pa_nil))))
                  (pe_meth (pv 0) T.cl M ih hr bF .nil pass0 (pa_cons (pv 5) (pa_cons (pv 4) pa_nil)))) pa_nil))))))))
            pss_nil)
          (pss_one (ps_asg (pe_callB (cr_min rfl) (by rfl) B.min PyProof.Rows.boot_min (pa_cons (pv 3) pa_nil)) (pg_sub (pe_fld (pv 0) rfl) (pe_tup (pa_cons (pv 1) (pa_cons (pv 2) pa_nil))) (set_n hu))))))
          pss_nil)
        (pss_one (ps_ret (pe_nget hu (pe_fld (pv 0) rfl) (pe_tup (pa_cons (pv 1) (pa_cons (pv 2) pa_nil))) (fun _ _ => rfl)))), ?_⟩
      have hkn : left.Nodup := hkr.sub.nodup sbk.nd
      have hl1 : ∀ j ∈ left, j < c.G.n := fun j hj => sbk.lt j (hkr.sub.subset hj)
      have hl2 : last < c.G.n := sbk.lt _ hkr.last
      -- the value is read back
      have fin : ∀ (H1 : Hp) (e1 : List MEnt) (o3 o4 o5 o6 : Option V), SR c H H1 es e1 → (left, last) ∈ keys e1 → H1 T0 = some (.tup (left.map (lv c.G.L))) →
          tOp (fun x y H Q => ∃ v, NGet c.G.w H x y (some v) ∧ Q v H) (tFld K (tVar 0) "known") (tTup (tCons (tVar 1) (tCons (tVar 2) tNil))) [some (.ref c.sa), some (.ref T0), some (lv c.G.L last), o3, o4, o5, o6] H1 Q := by
        intro H1 e1 o3 o4 o5 o6 sr hin hT1
        obtain ⟨dx, ob⟩ := sr.si.ob
        refine ⟨_, rfl, c.sa, c.C, dx, _, _, rfl, ob, T.cl, T.nk, sF_known _ _, _, rfl, _, rfl, (by show 2 ≤ sizeLine; decide), fun p hp => ?_⟩
        have sr2 : SR c H (upd H1 p (.tup [.ref T0, lv c.G.L last])) es e1 := sr.new hp
        refine ⟨_, ?_, q _ _ sr2 hin⟩
        rw [← sr2.si.val hin]
        exact sr2.si.ma.get sr2.gi.st.lw (Or.inl sr2.si.dk) ⟨T0, upd_same, by rw [upd_ne (ne_of_none hT1 hp)]; exact hT1⟩ hl1 hl2
      refine ⟨_, rfl, _, rfl, (by show 2 ≤ sizeLine; decide), fun p hp => ?_⟩
      have sr0 : SR c H (upd H p (.tup [.ref T0, lv c.G.L last])) es es := (SR.refl I si).new hp
      have hT0 : (upd H p (.tup [.ref T0, lv c.G.L last])) T0 = some (.tup (left.map (lv c.G.L))) := by rw [upd_ne (ne_of_none hT hp)]; exact hT
      obtain ⟨dx0, ob0⟩ := sr0.si.ob
      refine ⟨_, rfl, c.sa, c.C, dx0, _, _, rfl, ob0, T.cl, T.nk, sF_known _ _, _, sr0.si.ma.get (k := (left, last)) sr0.gi.st.lw (Or.inl sr0.si.dk) ⟨T0, upd_same, hT0⟩ hl1 hl2, _, rfl, ?_⟩
      rw [valM_isSome]
      by_cases hin : (left, last) ∈ es.map (·.1)
      · rw [decide_eq_true hin]
        refine iteF ?_
        exact fin _ es none none none none sr0 hin hT0
      · rw [decide_eq_false hin]
        refine iteT ?_
        refine ⟨(by show 1 ≤ sizeLine; decide), fun p3 hp3 => ?_⟩
        have sr3 : SR c H (upd (upd H p (.tup [.ref T0, lv c.G.L last])) p3 (.lst [.int 0])) es es := sr0.new hp3
        have hT3 : (upd (upd H p (.tup [.ref T0, lv c.G.L last])) p3 (.lst [.int 0])) T0 = some (.tup (left.map (lv c.G.L))) := by rw [upd_ne (ne_of_none hT0 hp3)]; exact hT0
        -- the least of counts is stored
        have store : ∀ (H1 : Hp) (e1 : List MEnt) (pc : Addr) (ns : List Int) (o4 o5 o6 : Option V), SR c H H1 es e1 → H1 T0 = some (.tup (left.map (lv c.G.L))) → H1 pc = some (.lst (ns.map V.int)) → ns ≠ [] → minL ns = fw c.S left last → (∀ one ∈ free c.S left, (rm left one, one) ∈ keys e1) →
            tAsg (tCB (rMin K) (tCons (tVar 3) tNil)) (gSub (tFld K (tVar 0) "known") (tTup (tCons (tVar 1) (tCons (tVar 2) tNil))) (rNPut c.G.w))
              { nx := fun σ' H' => tOp (fun x y H Q => ∃ v, NGet c.G.w H x y (some v) ∧ Q v H) (tFld K (tVar 0) "known") (tTup (tCons (tVar 1) (tCons (tVar 2) tNil))) σ' H' Q, rt := Q } [some (.ref c.sa), some (.ref T0), some (lv c.G.L last), some (.ref pc), o4, o5, o6] H1 := by
          intro H1 e1 pc ns o4 o5 o6 sr hT1 hpc hne hmin hcl
          refine ⟨_, rfl, pc, ns, rfl, sqL hpc, List.length_pos_iff.mpr hne, fun m hm hle => ?_⟩
          have em : m = fw c.S left last := by rw [← hmin]; exact (minL_eq hm hle).symm
          subst em
          obtain ⟨dx, ob⟩ := sr.si.ob
          refine ⟨_, rfl, c.sa, c.C, dx, _, _, rfl, ob, T.cl, T.nk, sF_known _ _, _, rfl, _, rfl, (by show 2 ≤ sizeLine; decide), fun p5 hp5 => ?_⟩
          have sr5 : SR c H (upd H1 p5 (.tup [.ref T0, lv c.G.L last])) es e1 := sr.new hp5
          have hT5 : (upd H1 p5 (.tup [.ref T0, lv c.G.L last])) T0 = some (.tup (left.map (lv c.G.L))) := by rw [upd_ne (ne_of_none hT1 hp5)]; exact hT1
          refine sr5.si.put (k := (left, last)) sr5.gi sbk ⟨T0, upd_same, hT5⟩ hkr hcl fun e2 sr6 hin6 => ?_
          exact fin _ e2 _ o4 o5 o6 (sr5.trans sr6) hin6 (sr6.fr.tk _ _ hT5)
        refine ⟨_, rfl, T0, _, rfl, Or.inr (sqT hT3), _, _, rfl, rfl, _, rfl, ?_⟩
        by_cases hne : left = []
        · subst hne
          refine iteF ?_
          exact store _ es p3 [0] none none none sr3 hT3 upd_same (by simp) rfl (fun one h => absurd (free_sub h) (by simp))
        · have hpos : decide ((0 : Int) < ((left.map (lv c.G.L)).length : Nat)) = true := by
            rw [List.length_map]
            have := List.length_pos_iff.mpr hne
            exact decide_eq_true (by omega)
          rw [hpos]
          refine iteT ?_
          refine ⟨Nat.zero_le _, fun p4 hp4 => ?_⟩
          have sr4 : SR c H (upd (upd (upd H p (.tup [.ref T0, lv c.G.L last])) p3 (.lst [.int 0])) p4 (.lst [])) es es := sr3.new hp4
          have hT4 : (upd (upd (upd H p (.tup [.ref T0, lv c.G.L last])) p3 (.lst [.int 0])) p4 (.lst [])) T0 = some (.tup (left.map (lv c.G.L))) := by rw [upd_ne (ne_of_none hT3 hp4)]; exact hT3
          have hp4H : H p4 = none := by
            exact (upd_none (upd_none hp4).2).2
          generalize hHA : (upd (upd (upd H p (.tup [.ref T0, lv c.G.L last])) p3 (.lst [.int 0])) p4 (.lst [])) = HA at sr4 hT4
          have hA4 : HA p4 = some (.lst []) := by rw [← hHA]; exact upd_same
          -- for one in free_lines(self.graph, list(left))
          obtain ⟨dxA, obA⟩ := sr4.si.ob
          refine ⟨_, rfl, c.sa, c.C, dxA, _, _, rfl, obA, T.cl, T.ng, sF_graph _ _, _, rfl, T0, _, rfl, Or.inr (sqT hT4), fun pl hpl => ?_⟩
          have srB : SR c H (upd HA pl (.lst (left.map (lv c.G.L)))) es es := sr4.new hpl
          have hTB : (upd HA pl (.lst (left.map (lv c.G.L)))) T0 = some (.tup (left.map (lv c.G.L))) := by rw [upd_ne (ne_of_none hT4 hpl)]; exact hT4
          have hB4 : (upd HA pl (.lst (left.map (lv c.G.L)))) p4 = some (.lst []) := by rw [upd_ne (ne_of_none hA4 hpl)]; exact hA4
          have hll : left.length ≤ 6 := Nat.le_trans hkr.sub.length_le sbk.few
          refine ⟨pl, left, rfl, upd_same, hl1, by omega, srB.gi, fun pf HC rC hpf hC => ?_⟩
          have srC : SR c H HC es es := srB.gr rC
          have hC4 : HC p4 = some (.lst []) := rC.1.keep _ _ hB4 (srB.gi.nl hB4)
          have hTC := rC.1.tk _ _ hTB
          have npf : p4 ≠ pf := fun z => by rw [z] at hB4; rw [hB4] at hpf; cases hpf
          have hfl : (free c.S left).length ≤ 6 := Nat.le_trans (List.length_filter_le _ _) hll
          refine ⟨pf, rfl, ⟨_, sqL hC⟩, for_list (K := K) (a := pf) (xs := (free c.S left).map (lv c.G.L)) (fun i τ' H' => ∃ e1 o4 o5 o6, τ' = [some (.ref c.sa), some (.ref T0), some (lv c.G.L last), some (.ref p4), o4, o5, o6] ∧ SR c H H' es e1 ∧ H' T0 = some (.tup (left.map (lv c.G.L))) ∧
              H' p4 = some (.lst ((((free c.S left).take i).map fun one => jump c.S last one + fw c.S (rm left one) one).map V.int)) ∧ (∀ one ∈ (free c.S left).take i, (rm left one, one) ∈ keys e1) ∧ H' pf = some (.lst ((free c.S left).map (lv c.G.L))))
            ⟨es, none, none, none, rfl, srC, hTC, hC4, fun _ h => (nomatch h), hC⟩ (fun i τ' H' _ ⟨_, _, _, _, _, _, _, _, _, h⟩ => sqL h) ?_ ?_⟩
          · rintro i y τ' H1 hi ⟨e1, o4, o5, o6, rfl, sr1, hT1, h14, hk1, h1f⟩
            rw [List.getElem?_map] at hi
            obtain ⟨x, hx, rfl⟩ := Option.map_eq_some_iff.mp hi
            have hxf : x ∈ free c.S left := List.mem_of_getElem? hx
            have hxl : x ∈ left := free_sub hxf
            have hxn := hl1 x hxl
            have htk : (free c.S left).take (i + 1) = (free c.S left).take i ++ [x] := by rw [List.take_add_one, hx]; rfl
            -- rest = tuple([other for other in left if other != one])
            dsimp only [gName, tSeq, tAsg, tCB, tCons, tNil, List.set]
            refine run_filT (lv c.G.L) (rl_s c e1) ⟨sr1.gi, sr1.si⟩ (fun y => !decide (y = x)) rfl (by omega) (fun _ => rfl) (fun _ => rfl) (sqT hT1) (fun H' r _ => sqT (r.fr.tk _ _ hT1)) (fun y hy H2 r2 Q2 q2 => ?_) (fun D2 H2 hD2 r2 hl2' => ?_)
            · exact run_ne r2.gi.st.lw (hl1 y hy) hxn rfl rfl (q2 H2 (SR.refl r2.gi r2.si))
            · refine ⟨D2, _, rfl, Or.inl ⟨sqL hl2', fun pt hpt => ?_⟩⟩
              have sr2 : SR c H H2 es e1 := sr1.trans r2
              have sr3' : SR c H (upd H2 pt (.tup ((left.filter fun y => !decide (y = x)).map (lv c.G.L)))) es e1 := sr2.new hpt
              have h24 := r2.lst sr1.gi sr1.si h14
              have h2f := r2.lst sr1.gi sr1.si h1f
              have h34 := Eq.trans (upd_ne (o := HO.tup ((left.filter fun y => !decide (y = x)).map (lv c.G.L))) (ne_of_none h24 hpt)) h24
              have h3f := Eq.trans (upd_ne (o := HO.tup ((left.filter fun y => !decide (y = x)).map (lv c.G.L))) (ne_of_none h2f hpt)) h2f
              have hT2 := r2.fr.tk _ _ hT1
              have hT3' := Eq.trans (upd_ne (o := HO.tup ((left.filter fun y => !decide (y = x)).map (lv c.G.L))) (ne_of_none hT2 hpt)) hT2
              -- counts.append(jump(..) + self.fewest(rest, one))
              obtain ⟨dx3, ob3⟩ := sr3'.si.ob
              refine ⟨_, rfl, Or.inl ⟨rfl, _, sqL h34⟩, _, rfl, c.sa, c.C, dx3, _, _, rfl, ob3, T.cl, T.ng, sF_graph _ _, _, rfl, _, rfl, last, x, rfl, hl2, hxn, sr3'.gi, fun H4 r4 => ?_⟩
              have sr4' : SR c H H4 es e1 := sr3'.gr r4
              obtain ⟨dx4, ob4⟩ := sr4'.si.ob
              have hlen' := rm_length hkn hxl
              refine ⟨_, rfl, c.sa, dx4, _, rfl, ob4, sF_no _ _ (by decide +kernel) (by decide +kernel), _, rfl, _, rfl, pt, rm left x, x, e1, rfl, r4.1.tk _ _ upd_same, by omega, hkr.next hxf, sbk, sr4'.gi, sr4'.si, fun H5 e5 sr5 hk5 => ?_⟩
              have h44 := r4.1.keep _ _ h34 (sr3'.gi.nl h34)
              have h54 := sr5.lst sr4'.gi sr4'.si h44
              have h4f := r4.1.keep _ _ h3f (sr3'.gi.nl h3f)
              have h5f := sr5.lst sr4'.gi sr4'.si h4f
              refine ⟨_, _, rfl, rfl, p4, _, _, rfl, rfl, h54, ?_, ?_⟩
              · rw [List.length_map, List.length_map, List.length_take, sizeLine_eq]
                omega
              · refine ⟨e5, _, _, _, rfl, (sr4'.trans sr5).mut hp4H h54, ?_, ?_, fun one ho => ?_, ?_⟩
                · rw [upd_ne (ne_of (sr5.fr.tk _ _ (r4.1.tk _ _ hT3')) h54 (by intro z; cases z))]
                  exact sr5.fr.tk _ _ (r4.1.tk _ _ hT3')
                · rw [upd_same, htk, List.map_append, List.map_append]
                  rfl
                · rw [htk] at ho
                  rcases List.mem_append.mp ho with ho | ho
                  · exact sr5.more _ (hk1 one ho)
                  · rw [List.mem_singleton.mp ho]
                    exact hk5
                · rw [upd_ne npf.symm]
                  exact h5f
          · rintro τ' H1 ⟨e1, o4, o5, o6, rfl, sr1, hT1, h14, hk1, h1f⟩
            rw [List.length_map, List.take_length] at h14 hk1
            refine store H1 e1 p4 _ o4 o5 o6 sr1 hT1 h14 ?_ (fw_eq hkn hne).symm hk1
            intro z
            exact free_ne_nil (so_stB c.G.adj) hne (List.map_eq_nil_iff.mp z)
end
end QW
end
section
set_option Elab.async false
set_option linter.all false
set_option maxRecDepth 100000
set_option maxHeartbeats 8000000
/-! Settler.__init__, starts -/
namespace QW
open PySem L2 QN Qw
abbrev sSInit : Stmt := inClass (topS 4) 0
abbrev sStarts : Stmt := inClass (topS 4) 2
/-- the lines in their order -/
def srt (l : List Nat) : List Nat := l.mergeSort fun a b => decide (a ≤ b)
theorem srt_perm (l : List Nat) : (srt l).Perm l := List.mergeSort_perm l _
theorem srt_mem {l : List Nat} {x : Nat} : x ∈ srt l ↔ x ∈ l := (srt_perm l).mem_iff
theorem srt_nodup {l : List Nat} (h : l.Nodup) : (srt l).Nodup := (srt_perm l).nodup_iff.mpr h
theorem srt_len (l : List Nat) : (srt l).length = l.length := (srt_perm l).length_eq
theorem lines_sortOk {K : PySem.W.Frag} {H : Hp} {L : Nat → Addr} {n : Nat} {l : List Nat} (lw : LW H L n) (h : ∀ k ∈ l, k < n) : SortOk K H (lv L) ld l where
  dp := fun b hb => lw.dp (h b hb)
  alike := by
    intro d hd d' hd'
    obtain ⟨a, _, rfl⟩ := List.mem_map.mp hd
    obtain ⟨b, _, rfl⟩ := List.mem_map.mp hd'
    exact ld_alike a b
  sortable := .inl fun d hd => by
    obtain ⟨a, _, rfl⟩ := List.mem_map.mp hd
    exact ⟨_, _, ld_eq a⟩
  depth := fun b _ => by rw [ld_depth]; decide
/-- sorted(l) of lines -/
def rSrt (K : PySem.W.Frag) (L : Nat → Addr) (n : Nat) : List V → Hp → VK → Prop := fun vs H Q => ∃ a l, vs = [.ref a] ∧ SqL K H a (l.map (lv L)) ∧ (∀ k ∈ l, k < n) ∧ LW H L n ∧ ∀ p, H p = none → Q (.ref p) (upd H p (.lst ((srt l).map (lv L))))
theorem call_srt {X : Cx} (L : Nat → Addr) (n : Nat) (hu : X.A.units + 64 < cLine) : CallR X (.builtin "sorted") (rSrt X.K L n) := by
  intro pins s σ H vs us Q I r h
  obtain ⟨a, l, rfl, hl, hn, lw, q⟩ := h
  refine call_sortedL (lv L) ld hu pins s σ H [.ref a] us Q I r ⟨a, l, rfl, hl, lines_sortOk lw hn, fun p hp => ?_⟩
  rw [dataLe_ld]
  exact q p hp

def spSInit (c : SC) : Sp := fun vs H Q _ => ∃ x dx, vs = [.ref x, .ref c.G.g] ∧ H x = some (.ins c.C dx []) ∧ ∀ sk H', H sk = none → H' sk = some (dN c.G.w sk []) → H' x = some (.ins c.C dx (sF (.ref c.G.g) (.ref sk))) → (∀ b o, H b = some o → b ≠ x → H' b = some o) → Q .non H'
def spStarts (c : SC) : Sp := fun vs H Q _ => ∃ a bl, vs = [.ref c.sa, .ref a] ∧ H a = some (.lst (bl.map (lv c.G.L))) ∧ c.sb = srt bl ∧ SB c ∧ GI c.G H ∧ SI c H [] ∧ ∀ v H' es', SR c H H' [] es' → (∀ one ∈ free c.S c.sb, (rm c.sb one, one) ∈ keys es') → Q v H'
/-- [x for x in xs if t], xs a new list -/
theorem run_filN {J : Hp → Prop} {R : Hp → Hp → Prop} {K : PySem.W.Frag} {σ : L2.St} {H : Hp} {tl : TE} {tt : TT} {vs : List Nat} {j : Nat} {β : Type} (val : β → V) (rl : Rl J R) (jH : J H) {xs : List β} (f : β → Bool) {Q : VK} (htl : ∀ Q' : VK, (∀ a H1, R H H1 → H1 a = some (.lst (xs.map val)) → Q' (.ref a) H1) → tl σ H Q')
    (hz : xs.length ≤ 100000) (hw : ∀ x, wipe ((wipe σ vs).set j (some x)) vs = wipe σ vs) (hv : ∀ x, ((wipe σ vs).set j (some x))[j]? = some (some x))
    (ht : ∀ x ∈ xs, ∀ H', R H H' → ∀ Q : Bool → Hp → Prop, (∀ H2, R H' H2 → Q (f x) H2) → tt ((wipe σ vs).set j (some (val x))) H' Q)
    (hd : ∀ D H', R H H' → H' D = some (.lst ((xs.filter f).map val)) → Q (.ref D) H') : tLc (iList K tl) (gName j) tt (tVar j) vs σ H Q := by
  refine htl _ fun a H1 r1 ha => ⟨a, rfl, ⟨_, sqL ha⟩, fun D hD => ?_⟩
  refine lc_fil val rl (rl.j r1) f hz hD hw hv (sqL ha) (fun H' r _ => sqL (rl.li (rl.j r1) r ha)) (fun x hx H' r Q2 q2 => ht x hx H' (rl.tr r1 r) Q2 q2) fun H' r hl => hd D H' (rl.tr r1 r) hl
section
variable {P : Program} {w : World} {K : PySem.W.Frag} {mg : Str → Option Value} {base : Heap}
theorem scSInit : FnScope ["self", "graph"] ["self", "graph"] (defScope sSInit) := ⟨rfl, rfl, rfl, by decide +kernel, rfl, by decide +kernel, by decide +kernel⟩
theorem ok_sinit {c : SC} {f : Addr} {fd : FuncData} (hwG : c.G.w = w) (F : Fun K "__init__" "Settler.__init__" sSInit f fd) (T : STx K c.C) : FnOk P w K mg base CX0 1 f fd ["self", "graph"] (spSInit c) := by
  subst hwG
  refine F.ok scSInit (fun vs H Q E h => ?_) (fun cdv A outer s H vs Q E hr h => ?_)
  · obtain ⟨x, dx, rfl, _⟩ := h
    rfl
  · obtain ⟨x, dx, rfl, hx, q⟩ := h
    refine ⟨_, pss_cons (ps_fld (pv 0) (pv 1) rfl) (pss_one (ps_fld (pv 0) pe_nnew rfl)), ?_⟩
    refine ⟨_, rfl, _, rfl, x, c.C, dx, [], rfl, hx, T.cl, T.ng, (by show 0 < 1000; decide), ?_⟩
    intro p hp
    obtain ⟨npx, hpH⟩ := upd_none hp
    refine ⟨_, rfl, x, c.C, dx, _, rfl, (by rw [upd_ne (ne_of_none upd_same hp)]; exact upd_same), T.cl, T.nk, (by show 1 < 1000; decide), ?_⟩
    refine q p _ hpH ?_ upd_same fun b o e hb => ?_
    · rw [upd_ne npx, upd_same]
      rfl
    · rw [upd_ne hb, upd_ne (ne_of_none e hpH), upd_ne hb]
      exact e
theorem scStarts : FnScope ["self", "block", "found", "one", "rest", "other"] ["self", "block"] (defScope sStarts) := ⟨rfl, rfl, rfl, by decide +kernel, rfl, by decide +kernel, by decide +kernel⟩
theorem ok_starts {c : SC} {f fF fW : Addr} {fd fdF fdW : FuncData} (hwG : c.G.w = w) (F : Fun K "starts" "Settler.starts" sStarts f fd) (T : STx K c.C) (B : Bi mg)
    (FR : Kn P w K mg base "free_lines" 4 fF fdF ["graph", "left"] (spFree c.G)) (W : KnM P w K mg base c.C "fewest" 12 fW fdW ["self", "left", "last"] (spFewest c 7)) : FnOk P w K mg base CX0 13 f fd ["self", "block"] (spStarts c) := by
  subst hwG
  refine F.ok scStarts (fun vs H Q E h => ?_) (fun cdv A outer s H vs Q E hr h => ?_)
  · obtain ⟨a, bl, rfl, _⟩ := h
    rfl
  · obtain ⟨a, bl, rfl, ha, hsb, sbk, I, si, q⟩ := h
    have hu := hr.units
    have hr4 : Room 4 (A.deeper (PyProof.Rows.envOfC "Settler.starts" (defScope sStarts) s.heap.objs.size f cdv)) := hr.mono (by decide)
    refine ⟨_, pss_cons (ps_set (i := 2) scStarts.nd rfl (Or.inl rfl) (pe_lst pa_nil))
      (pss_cons (ps_for PassesOwn.never rfl (pi_list (pe_call FR.ok hr4 rfl FR.mg FR.kp FR.b .nil pass0 (pa_cons (pe_fld (pv 0) rfl) (pa_cons (pe_callB (call_srt c.G.L c.G.n hu) (by rfl) B.sorted PyProof.Rows.boot_sorted (pa_cons (pv 1) pa_nil)) pa_nil)))) (pg_name (i := 3) scStarts.nd rfl (Or.inr rfl))
        (pss_cons (ps_set (i := 4) scStarts.nd rfl (Or.inl rfl) (pe_callTy call_tuple_of (by rfl) B.tuple PyProof.Rows.boot_tuple (pa_cons
          (pe_rm (i := 5) (j := 3) hu rfl scStarts.nd (pi_list (pe_callB (call_srt c.G.L c.G.n hu) (by rfl) B.sorted PyProof.Rows.boot_sorted (pa_cons (pv 1) pa_nil))) (blkOk_by (by rfl)) (fun _ _ _ _ _ => Or.inl rfl) rfl (fun _ _ _ _ _ => Or.inr (Or.inl rfl))) pa_nil)))
        (pss_one (ps_expr (pe_bm PySem.F.plainAttrs_list PySem.F.slot_list_append PySem.F.type_list_append mt_append (pv 2) (pa_cons (pe_tup (pa_cons
          (pe_meth (pv 0) T.cl W.m W.ok hr W.b .nil pass0 (pa_cons (pv 4) (pa_cons (pv 3) pa_nil))) (pa_cons (pv 3) pa_nil))) pa_nil))))))
      (pss_one (ps_ret (pv 2)))), ?_⟩
    have hbl : ∀ k ∈ bl, k < c.G.n := fun k hk => sbk.lt k (by rw [hsb]; exact srt_mem.mpr hk)
    have hlen : bl.length ≤ 6 := by have := sbk.few; rw [hsb, srt_len] at this; exact this
    refine ⟨Nat.zero_le _, fun p2 hp2 => ?_⟩
    have sr0 : SR c H (upd H p2 (.lst [])) [] [] := (SR.refl I si).new hp2
    have ha0 := Eq.trans (upd_ne (o := HO.lst []) (ne_of_none ha hp2)) ha
    generalize hHA : upd H p2 (.lst []) = HA at sr0 ha0
    have hA2 : HA p2 = some (.lst []) := by rw [← hHA]; exact upd_same
    obtain ⟨dxA, obA⟩ := sr0.si.ob
    refine ⟨_, rfl, c.sa, c.C, dxA, _, _, rfl, obA, T.cl, T.ng, sF_graph _ _, _, rfl, a, bl, rfl, sqL ha0, hbl, sr0.gi.st.lw, fun pl hpl => ?_⟩
    rw [← hsb]
    have srB : SR c H (upd HA pl (.lst (c.sb.map (lv c.G.L)))) [] [] := sr0.new hpl
    have haB := Eq.trans (upd_ne (o := HO.lst (c.sb.map (lv c.G.L))) (ne_of_none ha0 hpl)) ha0
    have hB2 := Eq.trans (upd_ne (o := HO.lst (c.sb.map (lv c.G.L))) (ne_of_none hA2 hpl)) hA2
    refine ⟨pl, c.sb, rfl, upd_same, sbk.lt, by have := sbk.few; omega, srB.gi, fun pf HC rC hpf hC => ?_⟩
    have srC : SR c H HC [] [] := srB.gr rC
    have hC2 : HC p2 = some (.lst []) := rC.1.keep _ _ hB2 (srB.gi.nl hB2)
    have haC := rC.1.keep _ _ haB (srB.gi.nl haB)
    have npf : p2 ≠ pf := fun z => by rw [z] at hB2; rw [hB2] at hpf; cases hpf
    have hfl : (free c.S c.sb).length ≤ 6 := Nat.le_trans (List.length_filter_le _ _) sbk.few
    refine ⟨pf, rfl, ⟨_, sqL hC⟩, for_list (K := K) (a := pf) (xs := (free c.S c.sb).map (lv c.G.L)) (fun i τ' H' => ∃ e1 vs1 o3 o4 o5, τ' = [some (.ref c.sa), some (.ref a), some (.ref p2), o3, o4, o5] ∧ SR c H H' [] e1 ∧ H' a = some (.lst (bl.map (lv c.G.L))) ∧
        H' p2 = some (.lst vs1) ∧ vs1.length ≤ i ∧ (∀ one ∈ (free c.S c.sb).take i, (rm c.sb one, one) ∈ keys e1) ∧ H' pf = some (.lst ((free c.S c.sb).map (lv c.G.L))))
      ⟨[], [], none, none, none, rfl, srC, haC, hC2, Nat.le_refl _, fun _ h => (nomatch h), hC⟩ (fun i τ' H' _ ⟨_, _, _, _, _, _, _, _, _, _, _, h⟩ => sqL h) ?_ ?_⟩
    · rintro i y τ' H1 hi ⟨e1, vs1, o3, o4, o5, rfl, sr1, ha1, h12, hvl, hk1, h1f⟩
      rw [List.getElem?_map] at hi
      obtain ⟨x, hx, rfl⟩ := Option.map_eq_some_iff.mp hi
      have hil : i < (free c.S c.sb).length := (List.getElem?_eq_some_iff.mp hx).1
      have hxf : x ∈ free c.S c.sb := List.mem_of_getElem? hx
      have hxl : x ∈ c.sb := free_sub hxf
      have hxn := sbk.lt x hxl
      have htk : (free c.S c.sb).take (i + 1) = (free c.S c.sb).take i ++ [x] := by rw [List.take_add_one, hx]; rfl
      dsimp only [gName, tSeq, tAsg, tCB, tCons, tNil, List.set]
      refine run_filN (lv c.G.L) (rl_s c e1) ⟨sr1.gi, sr1.si⟩ (xs := c.sb) (fun y => !decide (y = x)) (fun Q' hQ' => ?_) (by have := sbk.few; omega) (fun _ => rfl) (fun _ => rfl) (fun y hy H2 r2 Q2 q2 => ?_) (fun D2 H2 r2 hl2' => ?_)
      · refine ⟨_, rfl, a, bl, rfl, sqL ha1, hbl, sr1.gi.st.lw, fun ps hps => ?_⟩
        rw [← hsb]
        exact hQ' ps _ ((SR.refl sr1.gi sr1.si).new hps) upd_same
      · exact run_ne r2.gi.st.lw (sbk.lt y hy) hxn rfl rfl (q2 H2 (SR.refl r2.gi r2.si))
      · refine ⟨D2, _, rfl, Or.inl ⟨sqL hl2', fun pt hpt => ?_⟩⟩
        have sr2 : SR c H H2 [] e1 := sr1.trans r2
        have sr3 : SR c H (upd H2 pt (.tup ((c.sb.filter fun y => !decide (y = x)).map (lv c.G.L)))) [] e1 := sr2.new hpt
        have h22 := r2.lst sr1.gi sr1.si h12
        have h2f := r2.lst sr1.gi sr1.si h1f
        have h2a := r2.lst sr1.gi sr1.si ha1
        have h32 := Eq.trans (upd_ne (o := HO.tup ((c.sb.filter fun y => !decide (y = x)).map (lv c.G.L))) (ne_of_none h22 hpt)) h22
        have h3f := Eq.trans (upd_ne (o := HO.tup ((c.sb.filter fun y => !decide (y = x)).map (lv c.G.L))) (ne_of_none h2f hpt)) h2f
        have h3a := Eq.trans (upd_ne (o := HO.tup ((c.sb.filter fun y => !decide (y = x)).map (lv c.G.L))) (ne_of_none h2a hpt)) h2a
        obtain ⟨dx3, ob3⟩ := sr3.si.ob
        have hlen' := rm_length sbk.nd hxl
        refine ⟨_, rfl, Or.inl ⟨rfl, _, sqL h32⟩, _, rfl, c.sa, dx3, _, rfl, ob3, sF_no _ _ (by decide +kernel) (by decide +kernel), _, rfl, _, rfl, pt, rm c.sb x, x, e1, rfl, upd_same, (by have := sbk.few; omega), KR.start hxf, sbk, sr3.gi, sr3.si, fun H5 e5 sr5 hk5 => ?_⟩
        have h52 := sr5.lst sr3.gi sr3.si h32
        have h5f := sr5.lst sr3.gi sr3.si h3f
        have h5a := sr5.lst sr3.gi sr3.si h3a
        refine ⟨_, rfl, (by show 2 ≤ sizeLine; decide), fun p6 hp6 => ?_⟩
        have h62 := Eq.trans (upd_ne (o := HO.tup [V.int (fw c.S (rm c.sb x) x), lv c.G.L x]) (ne_of_none h52 hp6)) h52
        have h6f := Eq.trans (upd_ne (o := HO.tup [V.int (fw c.S (rm c.sb x) x), lv c.G.L x]) (ne_of_none h5f hp6)) h5f
        have h6a := Eq.trans (upd_ne (o := HO.tup [V.int (fw c.S (rm c.sb x) x), lv c.G.L x]) (ne_of_none h5a hp6)) h5a
        refine ⟨p2, _, _, rfl, rfl, h62, by rw [sizeLine_eq]; omega, ?_⟩
        have nap : a ≠ p2 := fun z => by rw [z, hp2] at ha; cases ha
        refine ⟨e5, _, _, _, _, rfl, ((sr3.trans sr5).new hp6).mut hp2 h62, ?_, upd_same, ?_, fun one ho => ?_, ?_⟩
        · rw [upd_ne nap]; exact h6a
        · rw [List.length_append]; simp; omega
        · rw [htk] at ho
          rcases List.mem_append.mp ho with ho | ho
          · exact sr5.more _ (hk1 one ho)
          · rw [List.mem_singleton.mp ho]
            exact hk5
        · rw [upd_ne npf.symm]
          exact h6f
    · rintro τ' H1 ⟨e1, vs1, o3, o4, o5, rfl, sr1, ha1, h12, hvl, hk1, h1f⟩
      rw [List.length_map, List.take_length] at hk1
      exact ⟨_, rfl, q _ H1 e1 sr1 hk1⟩
end
end QW
end
section
set_option Elab.async false
set_option linter.all false
set_option maxRecDepth 100000
set_option maxHeartbeats 1000000
/-! keys in their order -/
namespace QW
open PySem L2 QN Qw
theorem lds_alike : ∀ a b : List Nat, PySem.W.alikeAll (a.map ld) (b.map ld) = true
  | [], _ => by simp [PySem.W.alikeAll]
  | _ :: _, [] => by simp [PySem.W.alikeAll]
  | x :: a, y :: b => by
    have ih := lds_alike a b
    simp [PySem.W.alikeAll, ld_alike x y, ih]
theorem md_alike (a b : KeyT) : PySem.W.alike (md a) (md b) = true := by
  simp [md, PySem.W.alike, PySem.W.alikeAll, lds_alike, ld_alike]
theorem md_eqv (a b : KeyT) : PyData.eqv (md a) (md b) = decide (a = b) := by
  obtain ⟨a1, a2⟩ := a
  obtain ⟨b1, b2⟩ := b
  simp only [md, PyData.eqv, PyData.eqvAll, lds_eqv, ld_eqv]
  by_cases h1 : a1 = b1 <;> by_cases h2 : a2 = b2 <;> simp [h1, h2]
theorem md_depth (k : KeyT) : (md k).depth ≤ 8 := by
  have h1 := lds_depth k.1
  have h2 := ld_depth k.2
  simp only [md, PyData.depth, PyData.depthAll]
  omega
theorem mds_alike (ks : List KeyT) : PySem.W.AllAlike (ks.map md) := PySem.W.AllAlike.of md_alike
def leK : KeyT → KeyT → Bool := PySem.W.dataLe false md
theorem leK_eq (a b : KeyT) : leK a b = !PySem.W.dataLt (md b) (md a) := rfl
theorem leK_total (a b : KeyT) : (leK a b || leK b a) = true := by
  rw [leK_eq, leK_eq]
  cases h1 : PySem.W.dataLt (md b) (md a) with
  | false => rfl
  | true =>
    cases h2 : PySem.W.dataLt (md a) (md b) with
    | false => rfl
    | true =>
      have := PyProof.Rows.lex_trans _ _ _ h1 h2
      rw [PyProof.Rows.lex_irrefl] at this
      cases this
theorem leK_trans (a b c : KeyT) (h1 : leK a b = true) (h2 : leK b c = true) : leK a c = true := by
  rw [leK_eq] at *
  cases h : PySem.W.dataLt (md c) (md a) with
  | false => rfl
  | true =>
    rcases PyProof.Rows.lex_negTrans _ (PySem.W.keyToks (md b)) _ h with h | h
    · have h2 : (!PySem.W.dataLt (md c) (md b)) = true := h2
      unfold PySem.W.dataLt at h2
      rw [h] at h2
      cases h2
    · have h1 : (!PySem.W.dataLt (md b) (md a)) = true := h1
      unfold PySem.W.dataLt at h1
      rw [h] at h1
      cases h1
theorem leK_anti {a b : KeyT} (h1 : leK a b = true) (h2 : leK b a = true) : a = b := by
  rw [leK_eq] at *
  have h1 : PySem.W.dataLt (md b) (md a) = false := by simpa using h1
  have h2 : PySem.W.dataLt (md a) (md b) = false := by simpa using h2
  have e := PyProof.Rows.lex_total _ _ h2 h1
  by_cases h : a = b
  · exact h
  · have hq := (PySem.W.toks_eqv (md a) (md b) (md_alike a b)).2 (by rw [md_eqv, decide_eq_false h])
    exfalso
    have h3 := hq [.inl 0] [.inl 1]
    rw [e, PySem.W.lex_pre, PyProof.Rows.lex_irrefl] at h3
    rw [PyProof.Rows.lex_diff (by decide)] at h3
    revert h3
    decide
def srtK (ks : List KeyT) : List KeyT := ks.mergeSort leK
theorem srtK_perm (ks : List KeyT) : (srtK ks).Perm ks := List.mergeSort_perm ks _
theorem srtK_mem {ks : List KeyT} {k : KeyT} : k ∈ srtK ks ↔ k ∈ ks := (srtK_perm ks).mem_iff
theorem srtK_nodup {ks : List KeyT} (h : ks.Nodup) : (srtK ks).Nodup := (srtK_perm ks).nodup_iff.mpr h
theorem srtK_eq {a b : List KeyT} (ha : a.Nodup) (hb : b.Nodup) (h : ∀ k, k ∈ a ↔ k ∈ b) : srtK a = srtK b := by
  refine List.Perm.eq_of_pairwise (le := fun x y => leK x y = true) (fun x y _ _ h1 h2 => leK_anti h1 h2) ?_ ?_ ?_
  · exact List.pairwise_mergeSort leK_trans leK_total a
  · exact List.pairwise_mergeSort leK_trans leK_total b
  · refine List.Perm.trans (srtK_perm a) (List.Perm.trans ?_ (srtK_perm b).symm)
    exact (List.perm_ext_iff_of_nodup ha hb).mpr h
/-- pairs of a key and its place -/
theorem srtK_pairs (bs : List (KeyT × Addr)) : (bs.mergeSort (PySem.W.dataLe false fun b => (keyN b.1).data)).map (·.1) = srtK (bs.map (·.1)) := by
  refine List.map_mergeSort fun a _ b _ => ?_
  show (!PySem.W.dataLt (keyN b.1).data (keyN a.1).data) = leK a.1 b.1
  rw [keyN_data, keyN_data]
  rfl

/-! ### rows in the heap -/
/-- a row's tuple, and its list, which is none of N -/
def RowA (N : List Addr) (H : Hp) (L : Nat → Addr) (r : Row) (v : V) : Prop := ∃ t l, v = .ref t ∧ l ∉ N ∧ H t = some (.tup [.ref l, lv L r.2.1, .int r.2.2]) ∧ H l = some (.lst (r.1.map (lv L)))
abbrev RowsIn (N : List Addr) (H : Hp) (L : Nat → Addr) (rows : List Row) (vs : List V) : Prop := PySem.Paired (RowA N H L) rows vs
section
variable {N N' D : List Addr} {H H' : Hp} {L : Nat → Addr} {r : Row} {v : V} {a : Addr} {o : HO} {rows : List Row} {vs : List V}
theorem RowA.less (h : RowA N H L r v) (hs : ∀ a ∈ N', a ∈ N) : RowA N' H L r v := by
  obtain ⟨t, l, e, hl, h1, h2⟩ := h
  exact ⟨t, l, e, fun z => hl (hs _ z), h1, h2⟩
theorem RowA.fr (h : RowA N H L r v) (f : Fr D H H') (hD : ∀ b ∈ D, b ∈ N) : RowA N H' L r v := by
  obtain ⟨t, l, e, hl, h1, h2⟩ := h
  exact ⟨t, l, e, hl, f.tk _ _ h1, f.keep _ _ h2 fun z => hl (hD _ z)⟩
theorem RowA.addN (h : RowA N H L r v) (ha : ∀ xs, H a ≠ some (.lst xs)) : RowA (a :: N) H L r v := by
  obtain ⟨t, l, e, hl, h1, h2⟩ := h
  refine ⟨t, l, e, fun z => ?_, h1, h2⟩
  rcases List.mem_cons.mp z with rfl | z
  · exact ha _ h2
  · exact hl z
theorem RowA.upd (h : RowA N H L r v) (ha : a ∈ N) (ht : ∀ xs, H a ≠ some (.tup xs)) : RowA N (upd H a o) L r v := by
  obtain ⟨t, l, e, hl, h1, h2⟩ := h
  refine ⟨t, l, e, hl, ?_, ?_⟩
  · rw [upd_ne (fun z => ht _ (by rw [← z]; exact h1))]; exact h1
  · rw [upd_ne (fun z => hl (by rw [z]; exact ha))]; exact h2
theorem RowsIn.less (h : RowsIn N H L rows vs) (hs : ∀ a ∈ N', a ∈ N) : RowsIn N' H L rows vs := h.mono fun _ _ r => r.less hs
theorem RowsIn.fr (h : RowsIn N H L rows vs) (f : Fr D H H') (hD : ∀ b ∈ D, b ∈ N) : RowsIn N H' L rows vs := h.mono fun _ _ r => r.fr f hD
theorem RowsIn.addN (h : RowsIn N H L rows vs) (ha : ∀ xs, H a ≠ some (.lst xs)) : RowsIn (a :: N) H L rows vs := h.mono fun _ _ r => r.addN ha
theorem RowsIn.upd (h : RowsIn N H L rows vs) (ha : a ∈ N) (ht : ∀ xs, H a ≠ some (.tup xs)) : RowsIn N (upd H a o) L rows vs := h.mono fun _ _ r => r.upd ha ht
theorem RowsIn.gr {G : GC} (h : RowsIn N H L rows vs) (g : GI G H) (f : GR G H H') : RowsIn N H' L rows vs := by
  obtain ⟨xs, e⟩ := g.dkd
  refine PySem.Paired.mono (fun r v q => ?_) h
  have q2 := (q.addN (a := G.dk) fun ys z => by rw [e] at z; cases z).fr f.1 (by simp)
  exact q2.less fun b hb => List.mem_cons_of_mem _ hb
end
theorem fr_drop {D : List Addr} {H H1 H2 : Hp} {x : Addr} (f : Fr D H H1) (g : Fr (x :: D) H1 H2) (hx : H x = none ∨ x ∈ D) : Fr D H H2 := by
  refine ⟨fun a o e ha => ?_, fun a vs e => g.tk _ _ (f.tk _ _ e)⟩
  refine g.keep _ _ (f.keep _ _ e ha) fun z => ?_
  rcases List.mem_cons.mp z with rfl | z
  · rcases hx with hx | hx
    · rw [hx] at e; cases e
    · exact ha hx
  · exact ha z
theorem fn_any {P : Program} {w : World} {K : PySem.W.Frag} {mg : Str → Option Value} {base : Heap} {CX : CXT} {k : Nat} {f : Addr} {fd : FuncData} {ps : List Str} {ι : Sort _} {sp : ι → Sp} (h : ∀ i, FnOk P w K mg base CX k f fd ps (sp i)) : FnOk P w K mg base CX k f fd ps (fun vs H Q E => ∃ i, sp i vs H Q E) :=
  ⟨fun vs H Q E ⟨i, q⟩ => (h i).len vs H Q E q, fun A outer s H args us vs Q E hr he hb hv ⟨i, hs⟩ => (h i).run A outer s H args us vs Q E hr he hb hv hs⟩
end QW
end
section
set_option Elab.async false
set_option linter.all false
set_option maxRecDepth 100000
set_option maxHeartbeats 8000000
/-! potentials -/
namespace QW
open PySem L2 QN Qw
abbrev sPot : Stmt := topS 5
/-- what the potentials are: the reached keys in their order, each with the fewest -/
def potR (S : Nat → Nat → Bool) (ks : List KeyT) : List Row := rowsOf S (srtK ks)
def spPot (G : GC) : Sp := fun vs H Q _ => ∃ a bl N, vs = [.ref G.g, .ref a] ∧ H a = some (.lst (bl.map (lv G.L))) ∧ bl.Nodup ∧ (∀ k ∈ bl, k < G.n) ∧ bl.length ≤ 6 ∧ GI G H ∧ (∀ b ∈ N, ∃ xs, H b = some (.lst xs)) ∧
  ∀ p H' ks us, GR G H H' → H p = none → Pots (stB G.adj) (srt bl) ks → H' p = some (.lst us) → RowsIn (G.dk :: p :: N) H' G.L (potR (stB G.adj) ks) us → Q (.ref p) H'
theorem sw2 {x y a : Addr} (h : a ∈ [x, y]) : a ∈ [y, x] := by
  simp only [List.mem_cons, List.not_mem_nil, or_false] at h ⊢
  exact h.symm
abbrev SCI (G : GC) (C : Addr) : Type := {c : SC // c.G = G ∧ c.C = C}
def rListOf (K : PySem.W.Frag) : List V → Hp → VK → Prop := fun xs H Q => ∃ p ys, xs = [.ref p] ∧ (SqL K H p ys ∨ SqT K H p ys) ∧ ∀ l, H l = none → Q (.ref l) (upd H l (.lst ys))
def rGetN (w : World) : R2 := fun x y H Q => ∃ v, NGet w H x y (some v) ∧ Q v H
theorem rowsOf_snoc (S : Nat → Nat → Bool) (ks : List KeyT) (k : KeyT) : rowsOf S (ks ++ [k]) = rowsOf S ks ++ [(k.1, k.2, fw S k.1 k.2)] := by
  unfold rowsOf
  rw [List.map_append]
  rfl
section
variable {P : Program} {w : World} {K : PySem.W.Frag} {mg : Str → Option Value} {base : Heap}
theorem scPot : FnScope ["graph", "block", "settler", "left", "last"] ["graph", "block"] (defScope sPot) := ⟨rfl, rfl, rfl, by decide +kernel, rfl, by decide +kernel, by decide +kernel⟩
theorem ok_pot {G : GC} {Cs f fI fS : Addr} {fd fdI fdS : FuncData} (hwG : G.w = w) (F : Fun K "potentials" "potentials" sPot f fd) (T : STx K Cs) (B : Bi mg) (hm : mg "Settler" = some (.ref Cs)) (M : Mk K Cs fI)
    (I0 : FnOk P w K mg base CX0 1 fI fdI ["self", "graph"] (spSInit ⟨G, [], Cs, 0, 0⟩)) (bI : Binds K fdI ["self", "graph"] [])
    (W : KnM P w K mg base Cs "starts" 13 fS fdS ["self", "block"] (fun vs H Q E => ∃ c : SCI G Cs, spStarts c.1 vs H Q E)) : FnOk P w K mg base CX0 14 f fd ["graph", "block"] (spPot G) := by
  subst hwG
  refine F.ok scPot (fun vs H Q E h => ?_) (fun cdv A outer s H vs Q E hr h => ?_)
  · obtain ⟨a, bl, N, rfl, _⟩ := h
    rfl
  · obtain ⟨a, bl, N, rfl, ha, hnd, hlt, hlen, I, hN, q⟩ := h
    have hu := hr.units
    have hr2 : Room (1 + 1) (A.deeper (PyProof.Rows.envOfC "potentials" (defScope sPot) s.heap.objs.size f cdv)) := hr.mono (by decide)
    have hr13 : Room 13 (A.deeper (PyProof.Rows.envOfC "potentials" (defScope sPot) s.heap.objs.size f cdv)) := hr.mono (by decide)
    refine ⟨_, pss_cons (ps_set (i := 2) scPot.nd rfl (Or.inr rfl) (pe_make M I0 hr2 rfl hm bI .nil pass0 (pa_cons (pv 0) pa_nil)))
      (pss_cons (ps_expr (pe_meth (pv 2) T.cl W.m W.ok hr13 W.b .nil pass0 (pa_cons (pv 1) pa_nil)))
      (pss_one (ps_ret (pe_lc (own := [("left", 3), ("last", 4)]) (g := gTup K 2 (gCons (gName 3) (gCons (gName 4) gNil)))
        (te := tTup (tCons (tCB (rListOf K) (tCons (tVar 3) tNil)) (tCons (tVar 4) (tCons (tOp (rGetN G.w) (tFld K (tVar 2) "known") (tTup (tCons (tVar 3) (tCons (tVar 4) tNil)))) tNil))))
        rfl scPot.nd (pi_list (pe_callB (call_sortedN keyN hu rfl) (by rfl) B.sorted PyProof.Rows.boot_sorted (pa_cons (pe_fld (pv 2) rfl) pa_nil))) (blkOk_by (by rfl))
        (fun _ _ _ _ _ => pg_tup rfl (pgs_cons (pg_name (i := 3) scPot.nd rfl (Or.inl rfl)) (pgs_cons (pg_name (i := 4) scPot.nd rfl (Or.inl rfl)) pgs_nil)))
        (fun _ _ _ _ _ => pts_nil)
        (fun _ _ _ _ _ => pe_tup (pa_cons (pe_callTy call_list_of (by rfl) B.list PyProof.Rows.boot_list (pa_cons (pv 3) pa_nil)) (pa_cons (pv 4) (pa_cons (pe_nget hu (pe_fld (pv 2) rfl) (pe_tup (pa_cons (pv 3) (pa_cons (pv 4) pa_nil))) (fun _ _ => rfl)) pa_nil)))))))), ?_⟩
    have hsb : ∀ k, k ∈ srt bl ↔ k ∈ bl := fun k => srt_mem
    refine ⟨_, rfl, fun x dx hx hdx hne => ?_⟩
    refine ⟨x, dx, rfl, upd_same, fun sk H2 hsk h2k h2x h2o => ⟨rfl, ?_⟩⟩
    obtain ⟨nskx, hsk1⟩ := upd_none hsk
    obtain ⟨nskd, hskH⟩ := upd_none hsk1
    have hold : ∀ b o, H b = some o → H2 b = some o := fun b o e => h2o b o (by rw [upd_ne (ne_of_none e hx), upd_ne (ne_of_none e hdx)]; exact e) (ne_of_none e hx)
    have fr2 : Fr [G.dk] H H2 := ⟨fun b o e _ => hold b o e, fun b vs e => hold b _ e⟩
    have I2 : GI G H2 := I.stay (fun b od u e => hold b _ e) (fun b vs e => hold b _ e) (fun C dx fs e => hold _ _ e) (fun xs e => hold _ _ e)
    have ndk : sk ≠ G.dk := by
      obtain ⟨ys, e⟩ := I.dkd
      exact (ne_of_none e hskH).symm
    let c : SC := ⟨G, srt bl, Cs, x, sk⟩
    have sbk : SB c := ⟨srt_nodup hnd, fun k hk => hlt k (srt_mem.mp hk), by show (srt bl).length ≤ 6; rw [srt_len]; exact hlen⟩
    have si2 : SI c H2 [] := ⟨⟨dx, h2x⟩, h2k, ⟨fun e h => (nomatch h), fun e h => (nomatch h), fun e h => (nomatch h)⟩, List.nodup_nil, fun e h => (nomatch h), fun e h => (nomatch h), fun e h => (nomatch h), ndk⟩
    refine ⟨_, rfl, x, dx, _, rfl, h2x, sF_no _ _ (by decide +kernel) (by decide +kernel), _, rfl, ⟨c, rfl, rfl⟩, a, bl, rfl, hold _ _ ha, rfl, sbk, I2, si2, fun v H3 es sr3 hst => ?_⟩
    have hP : Pots (stB G.adj) (srt bl) (keys es) := ⟨sr3.si.nd, fun k => ⟨fun hk => by obtain ⟨e, he, rfl⟩ := List.mem_map.mp hk; exact sr3.si.kr e he, fun hk => KR.mem hst (fun k hk => by obtain ⟨e, he, rfl⟩ := List.mem_map.mp hk; exact sr3.si.cl e he) hk⟩⟩
    obtain ⟨dx3, ob3⟩ := sr3.si.ob
    refine ⟨_, rfl, x, Cs, dx3, _, _, rfl, ob3, T.cl, T.nk, sF_known _ _, sk, _, es.map (fun e => (e.1, e.2.1)), rfl, Or.inl sr3.si.dk, ?_, ?_, fun ps hps => ?_⟩
    · rw [List.map_map, List.map_map]
      rfl
    · exact {
        dp := fun b hb => by
          obtain ⟨e, he, rfl⟩ := List.mem_map.mp hb
          exact ((sr3.si.ma.at_ e he).kp sr3.gi.st.lw (sr3.si.ma.lt1 e he) (sr3.si.ma.lt2 e he)).dp
        alike := by
          refine PySem.W.AllAlike.of (enc := fun b : KeyT × Addr => (keyN b.1).data) fun b b' => ?_
          rw [keyN_data, keyN_data]
          exact md_alike _ _
        sortable := PySem.W.Sortable.tuples (enc := fun b : KeyT × Addr => (keyN b.1).data) fun b => ⟨_, _, keyN_data _⟩
        depth := fun b _ => by
          rw [keyN_data]
          have := md_depth b.1
          omega }
    · generalize hbs : (es.map fun e => (e.1, e.2.1)).mergeSort (PySem.W.dataLe false fun b => (keyN b.1).data) = bs at hps ⊢
      have hfst : bs.map (·.1) = srtK (keys es) := by
        rw [← hbs, srtK_pairs, List.map_map]
        rfl
      have hin : ∀ b ∈ bs, ∃ e ∈ es, b = (e.1, e.2.1) := by
        intro b hb
        rw [← hbs] at hb
        obtain ⟨e, he, e2⟩ := List.mem_map.mp ((List.mergeSort_perm _ _).mem_iff.mp hb)
        exact ⟨e, he, e2.symm⟩
      have hbl : bs.length ≤ 384 := by
        rw [← hbs, List.length_mergeSort, List.length_map]
        exact sr3.si.len sbk
      have sr4 : SR c H2 (upd H3 ps (.lst (bs.map fun b => V.ref b.2))) [] es := sr3.new hps
      generalize hH4 : upd H3 ps (.lst (bs.map fun b => V.ref b.2)) = H4 at sr4
      have h4s : H4 ps = some (.lst (bs.map fun b => V.ref b.2)) := by rw [← hH4]; exact upd_same
      refine ⟨ps, rfl, ⟨_, sqL h4s⟩, fun D hD => ?_⟩
      refine lc_list (xs := bs.map fun b => V.ref b.2) (fun i H' => SR c H4 H' es es ∧ ∃ vs, H' D = some (.lst vs) ∧ vs.length ≤ i ∧ RowsIn (G.dk :: D :: N) H' G.L (rowsOf (stB G.adj) ((bs.take i).map (·.1))) vs)
        ⟨(SR.refl sr4.gi sr4.si).new hD, [], upd_same, Nat.le_refl _, .nil⟩ (fun i H' _ p => sqL (p.1.lst sr4.gi sr4.si h4s)) (fun i y H5 hi p => ?_) (fun H5 p => ?_)
      · obtain ⟨sr5, vs, h5D, hvl, hrs⟩ := p
        rw [List.getElem?_map] at hi
        obtain ⟨b, hb, rfl⟩ := Option.map_eq_some_iff.mp hi
        have hbi : i < bs.length := (List.getElem?_eq_some_iff.mp hb).1
        obtain ⟨e, he, rfl⟩ := hin b (List.mem_of_getElem? hb)
        have htk : bs.take (i + 1) = bs.take i ++ [(e.1, e.2.1)] := by rw [List.take_add_one, hb]; rfl
        obtain ⟨Ta, k10, k20⟩ := sr4.si.ma.at_ e he
        have k1 := sr5.fr.tk _ _ k10
        have k2 := sr5.fr.tk _ _ k20
        have hl1 := sr5.si.ma.lt1 e he
        have hl2 := sr5.si.ma.lt2 e he
        refine ⟨e.2.1, _, rfl, sqT k1, rfl, _, _, rfl, _, _, rfl, rfl, rfl, ?_⟩
        dsimp only [tYes]
        rw [if_pos rfl]
        -- list(left)
        refine ⟨_, rfl, Ta, _, rfl, Or.inr (sqT k2), fun l hl => ?_⟩
        have sr6 := sr5.new (o := HO.lst (e.1.1.map (lv G.L))) hl
        have nlD : l ≠ D := (ne_of_none h5D hl).symm
        have h6D := Eq.trans (upd_ne (o := HO.lst (e.1.1.map (lv G.L))) (ne_of_none h5D hl)) h5D
        have h6l : upd H5 l (HO.lst (e.1.1.map (lv G.L))) l = _ := upd_same
        have hrs6 := hrs.fr (Fr.new (D := []) (o := HO.lst (e.1.1.map (lv G.L))) hl) (by simp)
        generalize upd H5 l (HO.lst (e.1.1.map (lv G.L))) = H6 at sr6 h6D h6l hrs6
        obtain ⟨dx6, ob6⟩ := sr6.si.ob
        refine ⟨_, rfl, _, rfl, x, Cs, dx6, _, _, rfl, ob6, T.cl, T.nk, sF_known _ _, _, rfl, _, rfl, (by show 2 ≤ sizeLine; decide), fun p7 hp7 => ?_⟩
        have sr7 := sr6.new (o := HO.tup [.ref Ta, lv G.L e.1.2]) hp7
        have h7D := Eq.trans (upd_ne (o := HO.tup [.ref Ta, lv G.L e.1.2]) (ne_of_none h6D hp7)) h6D
        have h7l := Eq.trans (upd_ne (o := HO.tup [.ref Ta, lv G.L e.1.2]) (ne_of_none h6l hp7)) h6l
        have hrs7 := hrs6.fr (Fr.new (D := []) (o := HO.tup [.ref Ta, lv G.L e.1.2]) hp7) (by simp)
        have hkin : e.1 ∈ keys es := List.mem_map.mpr ⟨e, he, rfl⟩
        have hget := sr7.si.ma.get (w := G.w) (d := sk) sr7.gi.st.lw (Or.inl sr7.si.dk) (k := e.1) (b := p7) ⟨Ta, upd_same, sr7.fr.tk _ _ k20⟩ hl1 hl2
        rw [sr7.si.val hkin] at hget
        refine ⟨_, hget, (by show 3 ≤ sizeLine; decide), fun p8 hp8 => ?_⟩
        have sr8 := sr7.new (o := HO.tup [.ref l, lv G.L e.1.2, .int (fw (stB G.adj) e.1.1 e.1.2)]) hp8
        have h8D := Eq.trans (upd_ne (o := HO.tup [.ref l, lv G.L e.1.2, .int (fw (stB G.adj) e.1.1 e.1.2)]) (ne_of_none h7D hp8)) h7D
        have h8l := Eq.trans (upd_ne (o := HO.tup [.ref l, lv G.L e.1.2, .int (fw (stB G.adj) e.1.1 e.1.2)]) (ne_of_none h7l hp8)) h7l
        have hrs8 := hrs7.fr (Fr.new (D := []) (o := HO.tup [.ref l, lv G.L e.1.2, .int (fw (stB G.adj) e.1.1 e.1.2)]) hp8) (by simp)
        refine ⟨vs, h8D, by rw [sizeLine_eq]; omega, ?_⟩
        refine ⟨?_, vs ++ [.ref p8], upd_same, by rw [List.length_append]; simp; omega, ?_⟩
        · exact sr8.mut hD h8D
        · rw [htk, List.map_append]
          show RowsIn _ _ _ (rowsOf (stB G.adj) ((bs.take i).map (·.1) ++ [e.1])) _
          rw [rowsOf_snoc]
          refine PySem.Paired.snoc (hrs8.upd (by simp) (by simp [h8D])) ?_
          refine ⟨p8, l, rfl, ?_, ?_, ?_⟩
          · simp only [List.mem_cons, not_or]
            obtain ⟨ys, e'⟩ := sr5.gi.dkd
            refine ⟨(ne_of_none e' hl).symm, nlD, fun hm => ?_⟩
            obtain ⟨xs, hx⟩ := hN l hm
            have hx3 := sr3.lst I2 si2 (hold _ _ hx)
            have hx4 : H4 l = some (.lst xs) := by rw [← hH4, upd_ne (ne_of_none hx3 hps)]; exact hx3
            have hx5 := sr5.lst sr4.gi sr4.si hx4
            rw [hx5] at hl
            cases hl
          · rw [upd_ne (ne_of upd_same h8D (by intro z; cases z))]
            exact upd_same
          · rw [upd_ne nlD]
            exact h8l
      · obtain ⟨sr5, vs, h5D, hvl, hrs⟩ := p
        rw [List.length_map, List.take_length, hfst] at hrs
        have frA : Fr [G.dk] H H3 := fr_drop (x := sk) fr2 (sr3.fr.mono (fun _ => sw2)) (Or.inl hskH)
        have frB : Fr [G.dk] H H4 := by rw [← hH4]; exact frA.trans (Fr.new hps)
        have frC : Fr [G.dk] H H5 := fr_drop (x := sk) frB (sr5.fr.mono (fun _ => sw2)) (Or.inl hskH)
        refine q D H5 (keys es) vs ⟨frC, sr5.gi⟩ ?_ hP h5D hrs
        cases hh : H D with
        | none => rfl
        | some o =>
          have := frB.keep D o hh
          by_cases hz : D = G.dk
          · obtain ⟨ys, e'⟩ := sr4.gi.dkd
            rw [hz, e'] at hD
            cases hD
          · rw [this (by simpa using hz)] at hD
            cases hD
end
end QW
end
section
set_option Elab.async false
set_option linter.all false
set_option maxRecDepth 100000
set_option maxHeartbeats 2000000
/-! the dict of the rows; when the rows are not right; frames -/
namespace QW
open PySem L2 QN Qw

/-! ### one row more -/
def putM (es : List MEnt) (k : KeyT) (b : Addr) (v : V) : List MEnt := if k ∈ keys es then es.map (fun e => if e.1 = k then (e.1, e.2.1, v) else e) else es ++ [(k, b, v)]
theorem keys_putM (es : List MEnt) (k : KeyT) (b : Addr) (v : V) : keys (putM es k b v) = if k ∈ keys es then keys es else keys es ++ [k] := by
  unfold putM
  split
  · unfold keys
    rw [List.map_map]
    refine List.map_congr_left fun e _ => ?_
    show (if e.1 = k then (e.1, e.2.1, v) else e).1 = e.1
    split <;> rfl
  · unfold keys
    rw [List.map_append]
    rfl
theorem putN_putM (es : List MEnt) (k : KeyT) (b : Addr) (v : V) : putN (es.map fun e => (keyN e.1, e.2.1, e.2.2)) (keyN k) b v = (putM es k b v).map fun e => (keyN e.1, e.2.1, e.2.2) := by
  unfold putN putM
  rw [atN_M, valM_isSome]
  by_cases h : k ∈ keys es
  · rw [if_pos h, decide_eq_true (show k ∈ es.map (·.1) from h), if_pos rfl, List.map_map, List.map_map]
    refine List.map_congr_left fun e _ => ?_
    by_cases e1 : e.1 = k
    · simp [e1]
    · have e2 : ¬ keyN e.1 = keyN k := fun z => e1 (keyN_inj z)
      simp [e1, e2]
  · rw [if_neg h, decide_eq_false (show ¬ k ∈ es.map (·.1) from h), if_neg Bool.false_ne_true, List.map_append]
    rfl
theorem MAll.putRow {H : Hp} {L : Nat → Addr} {n : Nat} {es : List MEnt} {k : KeyT} {b : Addr} {v : V} (h : MAll H L n es) (hk : KAt H L k b) (h1 : ∀ j ∈ k.1, j < n) (h2 : k.2 < n) : MAll H L n (putM es k b v) := by
  have key : ∀ e ∈ putM es k b v, (∃ e' ∈ es, e.1 = e'.1 ∧ e.2.1 = e'.2.1) ∨ (e.1 = k ∧ e.2.1 = b) := by
    intro e he
    unfold QW.putM at he
    split at he
    · obtain ⟨e', he', rfl⟩ := List.mem_map.mp he
      refine Or.inl ⟨e', he', ?_⟩
      split <;> exact ⟨rfl, rfl⟩
    · rcases List.mem_append.mp he with he | he
      · exact Or.inl ⟨e, he, rfl, rfl⟩
      · rw [List.mem_singleton] at he
        subst he
        exact Or.inr ⟨rfl, rfl⟩
  refine ⟨fun e he => ?_, fun e he => ?_, fun e he => ?_⟩
  · rcases key e he with ⟨e', h', a1, a2⟩ | ⟨a1, a2⟩
    · rw [a1, a2]; exact h.at_ e' h'
    · rw [a1, a2]; exact hk
  · rcases key e he with ⟨e', h', a1, a2⟩ | ⟨a1, a2⟩
    · rw [a1]; exact h.lt1 e' h'
    · rw [a1]; exact h1
  · rcases key e he with ⟨e', h', a1, a2⟩ | ⟨a1, a2⟩
    · rw [a1]; exact h.lt2 e' h'
    · rw [a1]; exact h2
/-- what the dict of some rows has -/
structure KD (rows : List Row) (es : List MEnt) : Prop where
  nd : (keys es).Nodup
  mem : ∀ k, k ∈ keys es ↔ k ∈ rows.map keyOf
  val : (rows.map keyOf).Nodup → es.map (fun e => (e.1, e.2.2)) = rows.map fun r => (keyOf r, V.int r.2.2)
theorem KD.nil : KD [] [] := ⟨List.nodup_nil, fun _ => Iff.rfl, fun _ => rfl⟩
theorem KD.snoc {rows : List Row} {es : List MEnt} {r : Row} {b : Addr} (h : KD rows es) : KD (rows ++ [r]) (putM es (keyOf r) b (.int r.2.2)) := by
  refine ⟨?_, fun k => ?_, fun hn => ?_⟩
  · rw [keys_putM]
    split
    · exact h.nd
    · rename_i hk
      refine List.nodup_append.mpr ⟨h.nd, by simp, fun a ha c hc => ?_⟩
      rw [List.mem_singleton] at hc
      subst hc
      intro e
      subst e
      exact hk ha
  · rw [keys_putM, List.map_append, List.mem_append]
    split
    · rename_i hk
      rw [h.mem]
      constructor
      · exact Or.inl
      · rintro (z | z)
        · exact z
        · have : k = keyOf r := by simpa using z
          rw [this]
          exact (h.mem _).mp hk
    · rw [List.mem_append, h.mem]
      simp
  · rw [List.map_append] at hn
    obtain ⟨h1, h2, h3⟩ := List.nodup_append.mp hn
    have hk : keyOf r ∉ keys es := fun z => h3 _ ((h.mem _).mp z) (keyOf r) (by simp) rfl
    unfold putM
    rw [if_neg hk, List.map_append, List.map_append, h.val h1]
    rfl
theorem len_lt {α : Type} [DecidableEq α] : ∀ (l m : List α), ¬ l.Nodup → m.Nodup → (∀ x ∈ m, x ∈ l) → m.length < l.length
  | [], m, h, _, _ => absurd List.nodup_nil h
  | a :: l, m, h, hm, hs => by
    by_cases hl : l.Nodup
    · have ha : a ∈ l := by
        refine Classical.byContradiction fun z => h ?_
        exact List.nodup_cons.mpr ⟨z, hl⟩
      have := nodup_sub m l hm fun x hx => by
        rcases List.mem_cons.mp (hs x hx) with e | e
        · rw [e]; exact ha
        · exact e
      rw [List.length_cons]
      omega
    · have ih := len_lt l (m.erase a) hl (hm.erase a) fun x hx => by
        have h1 := (List.Nodup.mem_erase_iff hm).mp hx
        rcases List.mem_cons.mp (hs x h1.2) with e | e
        · exact absurd e h1.1
        · exact e
      have : m.length ≤ (m.erase a).length + 1 := by
        rw [List.length_erase]
        split <;> omega
      rw [List.length_cons]
      omega
theorem KD.len {rows : List Row} {es : List MEnt} (h : KD rows es) : es.length ≤ rows.length := by
  have := nodup_sub (keys es) (rows.map keyOf) h.nd fun k hk => (h.mem k).mp hk
  simpa [keys] using this
theorem KD.lt {rows : List Row} {es : List MEnt} (h : KD rows es) (hn : ¬ (rows.map keyOf).Nodup) : es.length < rows.length := by
  have := len_lt (rows.map keyOf) (keys es) hn h.nd fun k hk => (h.mem k).mp hk
  simpa [keys] using this
theorem KD.eq {rows : List Row} {es : List MEnt} (h : KD rows es) (hn : (rows.map keyOf).Nodup) : es.length = rows.length := by
  have := congrArg List.length (h.val hn)
  simpa using this
theorem find_pairs (k : KeyT) : ∀ es : List MEnt, valM es k = ((es.map fun e => (e.1, e.2.2)).find? fun p => decide (p.1 = k)).map (·.2)
  | [] => rfl
  | e :: es => by
    have ih := find_pairs k es
    unfold valM at ih ⊢
    rw [List.map_cons]
    by_cases h : e.1 = k
    · rw [List.find?_cons_of_pos (by simpa using h), List.find?_cons_of_pos (by simpa using h)]
      rfl
    · rw [List.find?_cons_of_neg (by simpa using h), List.find?_cons_of_neg (by simpa using h)]
      exact ih
theorem find_rows (k : KeyT) : ∀ rows : List Row, ((rows.map fun r => (keyOf r, V.int r.2.2)).find? fun p => decide (p.1 = k)).map (·.2) = (look rows k).map V.int
  | [] => rfl
  | r :: rows => by
    have ih := find_rows k rows
    unfold look at ih ⊢
    rw [List.map_cons]
    by_cases h : keyOf r = k
    · rw [List.find?_cons_of_pos (by simpa using h), List.find?_cons_of_pos (by simpa using h)]
      rfl
    · rw [List.find?_cons_of_neg (by simpa using h), List.find?_cons_of_neg (by simpa using h)]
      exact ih
theorem KD.look {rows : List Row} {es : List MEnt} (h : KD rows es) (hn : (rows.map keyOf).Nodup) (k : KeyT) : valM es k = (Qw.look rows k).map V.int := by
  rw [find_pairs, h.val hn, find_rows]

/-! ### when rows are not right -/
section
variable {S : Nat → Nat → Bool} {rows : List Row} {sb left : List Nat} {count num : Int} {last : Option Nat} {l one : Nat}
theorem right_dup (h : ¬ (rows.map keyOf).Nodup) : rightB S sb rows count = false := by
  cases e : rightB S sb rows count with
  | false => rfl
  | true => exact absurd (right_iff.mp e).1 h
theorem right_row {r : Row} (hr : r ∈ rows) (h : okRow S rows r.1 (some r.2.1) r.2.2 = false) : rightB S sb rows count = false := by
  cases e : rightB S sb rows count with
  | false => rfl
  | true => rw [(right_iff.mp e).2.1 r hr] at h; cases h
theorem right_start (h : okRow S rows sb none count = false) : rightB S sb rows count = false := by
  cases e : rightB S sb rows count with
  | false => rfl
  | true => rw [(right_iff.mp e).2.2] at h; cases h
theorem right_ok (h1 : (rows.map keyOf).Nodup) (h2 : ∀ r ∈ rows, okRow S rows r.1 (some r.2.1) r.2.2 = true) (h3 : okRow S rows sb none count = true) : rightB S sb rows count = true := right_iff.mpr ⟨h1, h2, h3⟩
theorem row_empty (h : left = []) (hn : 0 < num) : okRow S rows left (some l) num = false := by
  cases e : okRow S rows left (some l) num with
  | false => rfl
  | true =>
    have := (okRow_iff.mp e).1 h rfl
    omega
theorem row_none (h : one ∈ free S left) (hl : Qw.look rows (rm left one, one) = none) : okRow S rows left last num = false := by
  cases e : okRow S rows left last num with
  | false => rfl
  | true =>
    obtain ⟨v, h1, _⟩ := (okRow_iff.mp e).2 one h
    rw [hl] at h1
    cases h1
theorem row_more {v : Int} (h : one ∈ free S left) (hl : Qw.look rows (rm left one, one) = some v) (hv : cost S last one + v < num) : okRow S rows left last num = false := by
  cases e : okRow S rows left last num with
  | false => rfl
  | true =>
    obtain ⟨v', h1, h2⟩ := (okRow_iff.mp e).2 one h
    rw [hl] at h1
    cases h1
    omega
end

/-! ### loops of dict comprehensions over a list -/
theorem dcN_list {w : World} {K : PySem.W.Frag} {a : Addr} {xs : List V} {g : TG} {tk tv : TE} {vs : List Nat} {σ : L2.St} {H1 : Hp} {D : Addr} {Qd : Hp → Prop} (Pv : Nat → Hp → Prop) (h0 : Pv 0 (upd H1 D (dN w D []))) (hl : ∀ i H, i ≤ xs.length → Pv i H → SqL K H a xs)
    (hs : ∀ i x H, xs[i]? = some x → Pv i H → g x (wipe σ vs) H fun σ2 H2 => wipe σ2 vs = wipe σ vs ∧ tk σ2 H2 fun y H3 => tv σ2 H3 fun z H4 => putGoal w D (Pv (i + 1)) y z H4) (hd : ∀ H, Pv xs.length H → Qd H) :
    ∃ W : Nat → Nat → Hp → Prop, (∃ m, W 0 m (upd H1 D (dN w D []))) ∧ ∀ i m G, W i m G →
      ((Itl K a).stop i G ∧ Qd G) ∨ ((Itl K a).go i G ∧ ∃ N : Hp → Prop, (∀ G', N G' → ∃ m', m' < m ∧ W (i + 1) m' G') ∧
        ∀ x G', (Itl K a).yld i G x G' → g x (wipe σ vs) G' fun τ G2 => wipe τ vs = wipe σ vs ∧ tk τ G2 fun y G3 => tv τ G3 fun z G4 => putGoal w D N y z G4) := by
  refine ⟨fun i m G => m = xs.length - i ∧ i ≤ xs.length ∧ Pv i G, ⟨xs.length, by simp, Nat.zero_le _, h0⟩, ?_⟩
  rintro i m G ⟨rfl, hi, pv'⟩
  have qs := hl i G hi pv'
  by_cases lt : i < xs.length
  · refine Or.inr ⟨⟨xs, xs[i], qs, by simp [lt]⟩, Pv (i + 1), fun G' p' => ⟨xs.length - (i + 1), by omega, rfl, lt, p'⟩, fun x G' y => ?_⟩
    obtain ⟨rfl, y⟩ := y
    exact hs i x _ (y xs qs) pv'
  · have e : i = xs.length := by omega
    subst e
    exact Or.inl ⟨⟨xs, qs, Nat.le_refl _⟩, hd G pv'⟩

/-! ### frames of calls that ask the graph -/
section
variable {G : GC} {H H1 H2 : Hp} {p a : Addr} {o : HO} {xs : List V}
theorem GR.refl (g : GI G H) : GR G H H := ⟨Fr.refl _, g⟩
theorem GR.trans (r : GR G H H1) (q : GR G H1 H2) : GR G H H2 := ⟨r.1.trans q.1, q.2⟩
theorem GR.new (r : GR G H H1) (hp : H1 p = none) : GR G H (upd H1 p o) := ⟨r.1.trans (Fr.new hp), r.2.new hp⟩
theorem GR.lst (g : GI G H) (r : GR G H H1) (e : H a = some (.lst xs)) : H1 a = some (.lst xs) := r.1.keep _ _ e (g.nl e)
theorem GR.keep (r : GR G H H1) (e : H a = some o) (hne : a ≠ G.dk) : H1 a = some o := r.1.keep _ _ e (by simpa using hne)
end
end QW
end
section
set_option Elab.async false
set_option linter.all false
set_option maxRecDepth 100000
set_option maxHeartbeats 8000000
/-! potentials_right -/
namespace QW
open PySem L2 QN Qw
abbrev sRight : Stmt := topS 6
structure RowsOk (n : Nat) (rows : List Row) : Prop where
  lt1 : ∀ r ∈ rows, ∀ j ∈ r.1, j < n
  lt2 : ∀ r ∈ rows, r.2.1 < n
  few : rows.length ≤ 1000
  short : ∀ r ∈ rows, r.1.length ≤ 1000
def spRight (G : GC) : Sp := fun vs H Q _ => ∃ a bl p us rows count, vs = [.ref G.g, .ref a, .ref p, .int count] ∧ H a = some (.lst (bl.map (lv G.L))) ∧ (∀ k ∈ bl, k < G.n) ∧ bl.length ≤ 1000 ∧ H p = some (.lst us) ∧ RowsIn [] H G.L rows us ∧ RowsOk G.n rows ∧ GI G H ∧
  ∀ H', GR G H H' → Q (.bl (rightB (stB G.adj) (srt bl) rows count)) H'
def rTupOf (K : PySem.W.Frag) : List V → Hp → VK → Prop := fun xs H Q => ∃ p ys, xs = [.ref p] ∧ ((SqL K H p ys ∧ ∀ l, H l = none → Q (.ref l) (upd H l (.tup ys))) ∨ (SqT K H p ys ∧ Q (.ref p) H))
/-- the rows' dict -/
def KnownAt (G : GC) (H : Hp) (kd : Addr) (es : List MEnt) : Prop := H kd = some (dM G.w kd es) ∧ MAll H G.L G.n es ∧ kd ≠ G.dk
section
variable {G : GC} {H H' : Hp} {kd b : Addr} {es : List MEnt} {rows : List Row} {k : KeyT}
theorem KnownAt.gr (h : KnownAt G H kd es) (r : GR G H H') : KnownAt G H' kd es := ⟨r.keep h.1 h.2.2, h.2.1.mono r.1.tk, h.2.2⟩
theorem KnownAt.get (h : KnownAt G H kd es) (g : GI G H) (kd' : KD rows es) (hn : (rows.map keyOf).Nodup) (hk : KAt H G.L k b) (h1 : ∀ j ∈ k.1, j < G.n) (h2 : k.2 < G.n) : NGet G.w H (.ref kd) (.ref b) ((Qw.look rows k).map V.int) := by
  rw [← kd'.look hn k]
  exact h.2.1.get g.st.lw (Or.inl h.1) hk h1 h2
end
/-- len(xs) == 0 and num > 0, by slots -/
theorem run_empty {K : PySem.W.Frag} {i j : Nat} {σ : L2.St} {H : Hp} {l : Addr} {left : List Nat} {L : Nat → Addr} {num : Int} {Q : Bool → Hp → Prop} (hi : σ[i]? = some (some (.ref l))) (hl : H l = some (.lst (left.map (lv L)))) (hj : σ[j]? = some (some (.int num)))
    (q : Q (decide (left = [] ∧ 0 < num)) H) : tAnd (tLen0 K (tVar i)) (tTest (tOp (rI0 fun i j => .bl (decide (j < i))) (tVar j) (tC (.int 0)))) σ H Q := by
  refine ⟨_, hi, l, _, rfl, Or.inl (sqL hl), rfl, _, rfl, ?_⟩
  rw [List.length_map]
  by_cases h : left = []
  · subst h
    refine iteT ⟨_, hj, _, _, rfl, rfl, _, rfl, ?_⟩
    by_cases h2 : 0 < num
    · rw [decide_eq_true (show ([] : List Nat) = [] ∧ 0 < num from ⟨rfl, h2⟩)] at q
      rw [decide_eq_true h2]
      exact q
    · rw [decide_eq_false (show ¬(([] : List Nat) = [] ∧ 0 < num) from fun z => h2 z.2)] at q
      rw [decide_eq_false h2]
      exact q
  · have : decide (V.int (left.length : Int) = V.int 0) = false := by
      refine decide_eq_false fun e => ?_
      injection e with e
      exact h (List.length_eq_zero_iff.mp (by omega))
    rw [this]
    refine iteF ?_
    rw [decide_eq_false (show ¬(left = [] ∧ 0 < num) from fun z => h z.1)] at q
    exact q
theorem put_goal {G : GC} {H : Hp} {D b : Addr} {es : List MEnt} {k : KeyT} {z : V} {N : Hp → Prop} (hD : H D = some (dM G.w D es)) (ma : MAll H G.L G.n es) (lw : LW H G.L G.n) (hk : KAt H G.L k b) (h1 : ∀ j ∈ k.1, j < G.n) (h2 : k.2 < G.n) (hl : es.length < sizeLine)
    (hN : N (upd H D (dM G.w D (putM es k b z)))) : putGoal G.w D N (.ref b) z H := by
  refine ⟨_, keyN k, b, rfl, hD, ma.kall lw, hk.kp lw h1 h2, keyN_depth _, by rw [List.length_map]; exact hl, ?_⟩
  rw [putN_putM]
  exact hN
section
variable {P : Program} {w : World} {K : PySem.W.Frag} {mg : Str → Option Value} {base : Heap}
theorem scRight : FnScope ["graph", "block", "rows", "count", "known", "left", "last", "number", "one", "rest", "other"] ["graph", "block", "rows", "count"] (defScope sRight) := ⟨rfl, rfl, rfl, by decide +kernel, rfl, by decide +kernel, by decide +kernel⟩
theorem ok_right {G : GC} {f fF fJ : Addr} {fd fdF fdJ : FuncData} (hwG : G.w = w) (F : Fun K "potentials_right" "potentials_right" sRight f fd) (B : Bi mg)
    (FR : Kn P w K mg base "free_lines" 4 fF fdF ["graph", "left"] (spFree G)) (JU : Kn P w K mg base "jump" 4 fJ fdJ ["graph", "one", "other"] (spJump G)) : FnOk P w K mg base CX0 5 f fd ["graph", "block", "rows", "count"] (spRight G) := by
  subst hwG
  refine F.ok scRight (fun vs H Q E h => ?_) (fun cdv A outer s H vs Q E hr h => ?_)
  · obtain ⟨a, bl, p, us, rows, count, rfl, _⟩ := h
    rfl
  · obtain ⟨a, bl, p, us, rows, count, rfl, ha, hbl, hbz, hp, hrows, rok, I, q⟩ := h
    have hu := hr.units
    refine ⟨_, pss_cons (ps_setDcN (i := 4) (own := [("left", 5), ("last", 6), ("number", 7)]) (g := gTup K 3 (gCons (gName 5) (gCons (gName 6) (gCons (gName 7) gNil)))) (tk := tTup (tCons (tCB (rTupOf K) (tCons (tVar 5) tNil)) (tCons (tVar 6) tNil))) (tv := tVar 7)
        hu rfl scRight.nd rfl rfl (swD_true rfl rfl rfl rfl) (pi_list (pv 2)) (blkOk_by (by rfl))
        (fun _ _ _ _ _ => pg_tup rfl (pgs_cons (pg_name (i := 5) scRight.nd rfl (Or.inl rfl)) (pgs_cons (pg_name (i := 6) scRight.nd rfl (Or.inl rfl)) (pgs_cons (pg_name (i := 7) scRight.nd rfl (Or.inl rfl)) pgs_nil))))
        (fun _ _ _ _ _ => pe_tup (pa_cons (pe_callTy call_tuple_of (by rfl) B.tuple PyProof.Rows.boot_tuple (pa_cons (pv 5) pa_nil)) (pa_cons (pv 6) pa_nil)))
        (fun _ _ _ _ _ => pv 7))
      (pss_cons (ps_if (pt_cmpR op_lt (pe_callB call_nlen (by rfl) B.len PySem.boot_len (pa_cons (pv 4) pa_nil)) (pe_callB call_len_seq (by rfl) B.len PySem.boot_len (pa_cons (pv 2) pa_nil)) (nomark _)) (pss_one (ps_ret pe_bl)) pss_nil)
      (pss_cons (ps_for PassesOwn.never rfl (pi_list (pv 2)) (pg_tup rfl (pgs_cons (pg_name (i := 5) scRight.nd rfl (Or.inl rfl)) (pgs_cons (pg_name (i := 6) scRight.nd rfl (Or.inl rfl)) (pgs_cons (pg_name (i := 7) scRight.nd rfl (Or.inl rfl)) pgs_nil))))
        (pss_cons (ps_if (PW.pt (pw_and (pt_cmpR op_eq (pe_len B.len rfl (pv 5)) pe_int (nomark _)) (pw_and1 (pt_cmpR op_gt (pv 7) pe_int (nomark _))))) (pss_one (ps_ret pe_bl)) pss_nil)
        (pss_one (ps_for PassesOwn.never rfl (pi_list (pe_call FR.ok hr rfl FR.mg FR.kp FR.b .nil pass0 (pa_cons (pv 0) (pa_cons (pv 5) pa_nil)))) (pg_name (i := 8) scRight.nd rfl (Or.inr rfl))
          (pss_cons (ps_set (i := 9) scRight.nd rfl (Or.inl rfl) (pe_tup (pa_cons (pe_callTy call_tuple_of (by rfl) B.tuple PyProof.Rows.boot_tuple (pa_cons
              (pe_rm (i := 10) (j := 8) hu rfl scRight.nd (pi_list (pv 5)) (blkOk_by (by rfl)) (fun _ _ _ _ _ => Or.inl rfl) rfl (fun _ _ _ _ _ => Or.inr (Or.inl rfl))) pa_nil)) (pa_cons (pv 8) pa_nil))))
          (pss_one (ps_if (PW.pt (pw_or (pt_cmpR (op_nnotin hu) (pv 9) (pv 4) rfl) (pw_or1 (pt_cmpR op_gt (pv 7) (pe_op op_add (pe_call JU.ok hr rfl JU.mg JU.kp JU.b .nil pass0 (pa_cons (pv 0) (pa_cons (pv 6) (pa_cons (pv 8) pa_nil)))) (pe_nget hu (pv 4) (pv 9) (fun _ _ => rfl))) (nomark _)))))
            (pss_one (ps_ret pe_bl)) pss_nil)))))))
      (pss_cons (ps_for PassesOwn.never rfl (pi_list (pe_call FR.ok hr rfl FR.mg FR.kp FR.b .nil pass0 (pa_cons (pv 0) (pa_cons (pe_callB (call_srt G.L G.n hu) (by rfl) B.sorted PyProof.Rows.boot_sorted (pa_cons (pv 1) pa_nil)) pa_nil)))) (pg_name (i := 8) scRight.nd rfl (Or.inr rfl))
          (pss_cons (ps_set (i := 9) scRight.nd rfl (Or.inl rfl) (pe_tup (pa_cons (pe_callTy call_tuple_of (by rfl) B.tuple PyProof.Rows.boot_tuple (pa_cons
              (pe_rm (i := 10) (j := 8) hu rfl scRight.nd (pi_list (pe_callB (call_srt G.L G.n hu) (by rfl) B.sorted PyProof.Rows.boot_sorted (pa_cons (pv 1) pa_nil))) (blkOk_by (by rfl)) (fun _ _ _ _ _ => Or.inl rfl) rfl (fun _ _ _ _ _ => Or.inr (Or.inl rfl))) pa_nil)) (pa_cons (pv 8) pa_nil))))
          (pss_one (ps_if (PW.pt (pw_or (pt_cmpR (op_nnotin hu) (pv 9) (pv 4) rfl) (pw_or1 (pt_cmpR op_lt (pe_nget hu (pv 4) (pv 9) (fun _ _ => rfl)) (pv 3) (nomark _)))))
            (pss_one (ps_ret pe_bl)) pss_nil))))
      (pss_one (ps_ret pe_bl))))), ?_⟩
    have huslen : us.length = rows.length := hrows.length.symm
    have rowAt : ∀ (i : Nat) (r : Row), rows[i]? = some r → ∃ v, us[i]? = some v ∧ RowA [] H G.L r v := fun i r h => paired_get hrows h
    have rowOf : ∀ (i : Nat) (v : V), us[i]? = some v → ∃ r, rows[i]? = some r ∧ RowA [] H G.L r v := by
      intro i v hv
      have hi : i < us.length := (List.getElem?_eq_some_iff.mp hv).1
      have hr' : rows[i]? = some rows[i] := List.getElem?_eq_getElem (by omega)
      obtain ⟨v', h1, h2⟩ := rowAt i _ hr'
      rw [hv] at h1
      cases h1
      exact ⟨_, hr', h2⟩
    refine ⟨_, rfl, p, rfl, ⟨_, sqL hp⟩, fun D hD => ?_⟩
    have hDk : D ≠ G.dk := by
      obtain ⟨ys, e⟩ := I.dkd
      exact (ne_of_none e hD).symm
    refine dcN_list (xs := us) (fun i H' => GR G H H' ∧ ∃ es, H' D = some (dM G.w D es) ∧ MAll H' G.L G.n es ∧ KD (rows.take i) es)
      ⟨(GR.refl I).new hD, [], upd_same, ⟨fun e h => (nomatch h), fun e h => (nomatch h), fun e h => (nomatch h)⟩, KD.nil⟩ (fun i H' _ pp => sqL (pp.1.lst I hp)) (fun i y H2 hi pp => ?_) (fun H1 pp => ?_)
    · obtain ⟨r2, es, h2D, ma, kd⟩ := pp
      obtain ⟨r, hri, t, l, rfl, _, ht, hl⟩ := rowOf i y hi
      have hrm := List.mem_of_getElem? hri
      have htk : rows.take (i + 1) = rows.take i ++ [r] := by rw [List.take_add_one, hri]; rfl
      have hl2 := r2.lst I hl
      refine ⟨t, _, rfl, sqT (r2.1.tk _ _ ht), rfl, _, _, rfl, _, _, rfl, _, _, rfl, rfl, rfl, ?_⟩
      refine ⟨_, rfl, l, _, rfl, Or.inl ⟨sqL hl2, fun T hT => ?_⟩⟩
      refine ⟨_, rfl, (by show 2 ≤ sizeLine; decide), fun b hb => ⟨_, rfl, ?_⟩⟩
      have r3 := r2.new (o := HO.tup (r.1.map (lv G.L))) hT
      have r4 := r3.new (o := HO.tup [.ref T, lv G.L r.2.1]) hb
      have h3D := Eq.trans (upd_ne (o := HO.tup (r.1.map (lv G.L))) (ne_of_none h2D hT)) h2D
      have h4D := Eq.trans (upd_ne (o := HO.tup [.ref T, lv G.L r.2.1]) (ne_of_none h3D hb)) h3D
      have tk4 : TKeep H2 (upd (upd H2 T (.tup (r.1.map (lv G.L)))) b (.tup [.ref T, lv G.L r.2.1])) := fun c vs e => (Fr.new (D := []) hb).tk _ _ ((Fr.new (D := []) hT).tk _ _ e)
      have kat : KAt (upd (upd H2 T (.tup (r.1.map (lv G.L)))) b (.tup [.ref T, lv G.L r.2.1])) G.L (keyOf r) b := ⟨T, upd_same, by rw [upd_ne (ne_of_none upd_same hb)]; exact upd_same⟩
      have hes : es.length ≤ 1000 := by
        have := kd.len
        have := rok.few
        rw [List.length_take] at *
        omega
      refine put_goal (k := keyOf r) h4D (ma.mono tk4) r4.2.st.lw kat (rok.lt1 r hrm) (rok.lt2 r hrm) (by rw [sizeLine_eq]; omega) ?_
      have h5 : ∀ vs, (upd (upd H2 T (.tup (r.1.map (lv G.L)))) b (.tup [.ref T, lv G.L r.2.1])) D ≠ some (.tup vs) := by
        rw [h4D]
        intro vs e
        cases e
      have tk5 : TKeep (upd (upd H2 T (.tup (r.1.map (lv G.L)))) b (.tup [.ref T, lv G.L r.2.1])) (upd (upd (upd H2 T (.tup (r.1.map (lv G.L)))) b (.tup [.ref T, lv G.L r.2.1])) D (dM G.w D (putM es (keyOf r) b (.int r.2.2)))) := fun c vs e => by
        rw [upd_ne (fun z => h5 vs (by rw [← z]; exact e))]
        exact e
      refine ⟨⟨r4.1.mut hD, r4.2.ext h4D hDk⟩, _, upd_same, ?_, by rw [htk]; exact kd.snoc⟩
      exact ((ma.mono tk4).putRow kat (rok.lt1 r hrm) (rok.lt2 r hrm)).mono tk5
    · obtain ⟨r1, es, h1D, ma, kd⟩ := pp
      rw [huslen, List.take_length] at kd
      have kn : KnownAt G H1 D es := ⟨h1D, ma, hDk⟩
      have hp1 := r1.lst I hp
      have ha1 := r1.lst I ha
      refine ⟨_, rfl, D, _, rfl, Or.inl h1D, ma.kall r1.2.st.lw, _, rfl, p, us, rfl, Or.inl (sqL hp1), _, _, rfl, rfl, _, rfl, ?_⟩
      rw [List.length_map, huslen]
      by_cases hn : (rows.map keyOf).Nodup
      · rw [decide_eq_false (by rw [kd.eq hn]; omega)]
        refine iteF ?_
        have hrow1 : ∀ (i : Nat) (v : V), us[i]? = some v → ∀ H', GR G H1 H' → ∃ r t l, rows[i]? = some r ∧ v = .ref t ∧ H' t = some (.tup [.ref l, lv G.L r.2.1, .int r.2.2]) ∧ H' l = some (.lst (r.1.map (lv G.L))) := by
          intro i v hv H' r'
          obtain ⟨r, hri, t, l, e, _, ht, hl⟩ := rowOf i v hv
          exact ⟨r, t, l, hri, e, r'.1.tk _ _ (r1.1.tk _ _ ht), r'.lst r1.2 (r1.lst I hl)⟩
        refine ⟨_, rfl, p, rfl, ⟨_, sqL hp1⟩, for_list (K := K) (a := p) (xs := us) (fun i τ' H' => ∃ o5 o6 o7 o8 o9 o10, τ' = [some (.ref G.g), some (.ref a), some (.ref p), some (.int count), some (.ref D), o5, o6, o7, o8, o9, o10] ∧ GR G H1 H' ∧
            ∀ r ∈ rows.take i, okRow (stB G.adj) rows r.1 (some r.2.1) r.2.2 = true)
          ⟨none, none, none, none, none, none, rfl, GR.refl r1.2, fun _ h => (nomatch h)⟩ (fun i τ' H' _ ⟨_, _, _, _, _, _, _, h, _⟩ => sqL (h.lst r1.2 hp1)) ?_ ?_⟩
        · rintro i y τ' H2 hi ⟨o5, o6, o7, o8, o9, o10, rfl, r2, hok⟩
          obtain ⟨r, t, l, hri, rfl, ht, hl⟩ := hrow1 i y hi H2 r2
          have hrm := List.mem_of_getElem? hri
          have htk : rows.take (i + 1) = rows.take i ++ [r] := by rw [List.take_add_one, hri]; rfl
          have hl1 := rok.lt1 r hrm
          have hl2 := rok.lt2 r hrm
          have hsh := rok.short r hrm
          obtain ⟨left, last, num⟩ := r
          refine ⟨t, _, rfl, sqT ht, rfl, _, _, rfl, _, _, rfl, _, _, rfl, rfl, ?_⟩
          -- the return False of a row that is not right
          have bad : ∀ H', GR G H1 H' → okRow (stB G.adj) rows left (some last) num = false → Q (.bl false) H' := by
            intro H' r' hb
            have := q H' (r1.trans r')
            rw [right_row (sb := srt bl) (count := count) hrm hb] at this
            exact this
          refine run_empty (l := l) (left := left) (L := G.L) (num := num) rfl hl rfl ?_
          by_cases hb : left = [] ∧ 0 < num
          · rw [decide_eq_true hb]
            refine iteT ?_
            exact bad H2 r2 (row_empty hb.1 hb.2)
          · rw [decide_eq_false hb]
            refine iteF ?_
            refine ⟨_, rfl, _, rfl, l, left, rfl, hl, hl1, hsh, r2.2, fun pf H3 r3 hpf h3f => ?_⟩
            have r13 := r2.trans r3
            refine ⟨pf, rfl, ⟨_, sqL h3f⟩, for_list (K := K) (a := pf) (xs := (free (stB G.adj) left).map (lv G.L)) (fun j τ' H' => ∃ o8 o9 o10, τ' = [some (.ref G.g), some (.ref a), some (.ref p), some (.int count), some (.ref D), some (.ref l), some (lv G.L last), some (.int num), o8, o9, o10] ∧ GR G H3 H' ∧
                ∀ one ∈ (free (stB G.adj) left).take j, ∃ v, Qw.look rows (rm left one, one) = some v ∧ num ≤ jump (stB G.adj) last one + v)
              ⟨_, _, _, rfl, GR.refl r3.2, fun _ h => (nomatch h)⟩ (fun j τ' H' _ ⟨_, _, _, _, h, _⟩ => sqL (h.lst r3.2 h3f)) ?_ ?_⟩
            · rintro j y τ' H4 hj ⟨o8, o9, o10, rfl, r4, hon⟩
              rw [List.getElem?_map] at hj
              obtain ⟨x, hx, rfl⟩ := Option.map_eq_some_iff.mp hj
              have hxf : x ∈ free (stB G.adj) left := List.mem_of_getElem? hx
              have hxl := free_sub hxf
              have hxn := hl1 x hxl
              have htk2 : (free (stB G.adj) left).take (j + 1) = (free (stB G.adj) left).take j ++ [x] := by rw [List.take_add_one, hx]; rfl
              have h4l := r4.lst r3.2 (r3.lst r2.2 hl)
              dsimp only [gName, tSeq, tAsg, tTup, tCB, tCons, tNil, List.set]
              refine run_fil (lv G.L) (rl_g G) r4.2 (fun y => !decide (y = x)) rfl (by omega) (fun _ => rfl) (fun _ => rfl) (sqL h4l) (fun H' r' _ => sqL (r'.lst r4.2 h4l)) (fun y hy H5 r5 Q5 q5 => ?_) (fun D5 H5 hD5 r5 h5l => ?_)
              · exact run_ne r5.2.st.lw (hl1 y hy) hxn rfl rfl (q5 H5 (GR.refl r5.2))
              · refine ⟨D5, _, rfl, Or.inl ⟨sqL h5l, fun T hT => ?_⟩⟩
                refine ⟨_, rfl, (by show 2 ≤ sizeLine; decide), fun b hb => ?_⟩
                have r45 := r4.trans r5
                have r6 := (r45.new (o := HO.tup ((left.filter fun y => !decide (y = x)).map (lv G.L))) hT).new (o := HO.tup [.ref T, lv G.L x]) hb
                have kat : KAt (upd (upd H5 T (.tup ((left.filter fun y => !decide (y = x)).map (lv G.L)))) b (.tup [.ref T, lv G.L x])) G.L (rm left x, x) b := ⟨T, upd_same, by rw [upd_ne (ne_of_none upd_same hb)]; exact upd_same⟩
                generalize upd (upd H5 T (.tup ((left.filter fun y => !decide (y = x)).map (lv G.L)))) b (.tup [.ref T, lv G.L x]) = H6 at r6 kat
                have kn6 := kn.gr (r13.trans r6)
                have hk1 : ∀ k ∈ rm left x, k < G.n := fun k hk => hl1 k (mem_rm.mp hk).1
                refine ⟨_, rfl, _, rfl, _, kn6.get r6.2 kd hn kat hk1 hxn, _, rfl, ?_⟩
                rw [Option.isSome_map]
                cases hlk : Qw.look rows (rm left x, x) with
                | none =>
                  refine iteT (iteT ?_)
                  exact bad H6 (r13.trans r6) (row_none hxf hlk)
                | some v =>
                  refine iteF ?_
                  refine ⟨_, rfl, _, rfl, _, rfl, _, rfl, last, x, rfl, hl2, hxn, r6.2, fun H7 r7 => ⟨_, rfl, _, rfl, _, by have := (kn6.gr r7).get r7.2 kd hn (kat.mono r7.1.tk) hk1 hxn; rw [hlk] at this; exact this, _, _, rfl, rfl, _, _, rfl, rfl, _, rfl, ?_⟩⟩
                  by_cases hc : jump (stB G.adj) last x + v < num
                  · rw [decide_eq_true hc]
                    refine iteT ?_
                    exact bad H7 ((r13.trans r6).trans r7) (row_more hxf hlk hc)
                  · rw [decide_eq_false hc]
                    refine iteF ?_
                    refine ⟨_, _, _, rfl, r6.trans r7, fun one ho => ?_⟩
                    rw [htk2] at ho
                    rcases List.mem_append.mp ho with ho | ho
                    · exact hon one ho
                    · rw [List.mem_singleton.mp ho]
                      exact ⟨v, hlk, Int.not_lt.mp hc⟩
            · rintro τ' H4 ⟨o8, o9, o10, rfl, r4, hon⟩
              rw [List.length_map, List.take_length] at hon
              refine ⟨_, _, _, _, _, _, rfl, r13.trans r4, fun r' hr' => ?_⟩
              rw [htk] at hr'
              rcases List.mem_append.mp hr' with h | h
              · exact hok r' h
              · rw [List.mem_singleton.mp h]
                exact okRow_iff.mpr ⟨fun e _ => Int.not_lt.mp fun z => hb ⟨e, z⟩, hon⟩
        · rintro τ' H2 ⟨o5, o6, o7, o8, o9, o10, rfl, r2, hok⟩
          rw [huslen, List.take_length] at hok
          have ha2 := r2.lst r1.2 ha1
          have hsl : ∀ k ∈ srt bl, k < G.n := fun k hk => hbl k (srt_mem.mp hk)
          have hsz : (srt bl).length ≤ 1000 := by rw [srt_len]; exact hbz
          refine ⟨_, rfl, _, rfl, a, bl, rfl, sqL ha2, hbl, r2.2.st.lw, fun ps hps => ?_⟩
          have r3 := r2.new (o := HO.lst ((srt bl).map (lv G.L))) hps
          refine ⟨ps, srt bl, rfl, upd_same, hsl, hsz, r3.2, fun pf H4 r4 hpf h4f => ?_⟩
          have r14 := r3.trans r4
          -- the return False where the start is not right
          have bad : ∀ H', GR G H1 H' → okRow (stB G.adj) rows (srt bl) none count = false → Q (.bl false) H' := by
            intro H' r' hb
            have := q H' (r1.trans r')
            rw [right_start hb] at this
            exact this
          refine ⟨pf, rfl, ⟨_, sqL h4f⟩, for_list (K := K) (a := pf) (xs := (free (stB G.adj) (srt bl)).map (lv G.L)) (fun j τ' H' => ∃ o8 o9 o10, τ' = [some (.ref G.g), some (.ref a), some (.ref p), some (.int count), some (.ref D), o5, o6, o7, o8, o9, o10] ∧ GR G H4 H' ∧
              ∀ one ∈ (free (stB G.adj) (srt bl)).take j, ∃ v, Qw.look rows (rm (srt bl) one, one) = some v ∧ count ≤ 0 + v)
            ⟨_, _, _, rfl, GR.refl r4.2, fun _ h => (nomatch h)⟩ (fun j τ' H' _ ⟨_, _, _, _, h, _⟩ => sqL (h.lst r4.2 h4f)) ?_ ?_⟩
          · rintro j y τ' H5 hj ⟨o8, o9, o10, rfl, r5, hon⟩
            rw [List.getElem?_map] at hj
            obtain ⟨x, hx, rfl⟩ := Option.map_eq_some_iff.mp hj
            have hxf : x ∈ free (stB G.adj) (srt bl) := List.mem_of_getElem? hx
            have hxl := free_sub hxf
            have hxn := hsl x hxl
            have htk2 : (free (stB G.adj) (srt bl)).take (j + 1) = (free (stB G.adj) (srt bl)).take j ++ [x] := by rw [List.take_add_one, hx]; rfl
            have r15 := r14.trans r5
            have h5a := r15.lst r1.2 ha1
            dsimp only [gName, tSeq, tAsg, tTup, tCB, tCons, tNil, List.set]
            refine run_filN (lv G.L) (rl_g G) r5.2 (xs := srt bl) (fun y => !decide (y = x)) (fun Q' hQ' => ?_) (by omega) (fun _ => rfl) (fun _ => rfl) (fun y hy H6 r6 Q6 q6 => ?_) (fun D6 H6 r6 h6l => ?_)
            · exact ⟨_, rfl, a, bl, rfl, sqL h5a, hbl, r5.2.st.lw, fun pz hpz => hQ' pz _ ((GR.refl r5.2).new hpz) upd_same⟩
            · exact run_ne r6.2.st.lw (hsl y hy) hxn rfl rfl (q6 H6 (GR.refl r6.2))
            · refine ⟨D6, _, rfl, Or.inl ⟨sqL h6l, fun T hT => ?_⟩⟩
              refine ⟨_, rfl, (by show 2 ≤ sizeLine; decide), fun b hb => ?_⟩
              have r56 := r5.trans r6
              have r7 := (r56.new (o := HO.tup (((srt bl).filter fun y => !decide (y = x)).map (lv G.L))) hT).new (o := HO.tup [.ref T, lv G.L x]) hb
              have kat : KAt (upd (upd H6 T (.tup (((srt bl).filter fun y => !decide (y = x)).map (lv G.L)))) b (.tup [.ref T, lv G.L x])) G.L (rm (srt bl) x, x) b := ⟨T, upd_same, by rw [upd_ne (ne_of_none upd_same hb)]; exact upd_same⟩
              generalize upd (upd H6 T (.tup (((srt bl).filter fun y => !decide (y = x)).map (lv G.L)))) b (.tup [.ref T, lv G.L x]) = H7 at r7 kat
              have kn7 := kn.gr (r14.trans r7)
              have hk1 : ∀ k ∈ rm (srt bl) x, k < G.n := fun k hk => hsl k (mem_rm.mp hk).1
              have get7 := kn7.get r7.2 kd hn kat hk1 hxn
              refine ⟨_, rfl, _, rfl, _, get7, _, rfl, ?_⟩
              rw [Option.isSome_map]
              cases hlk : Qw.look rows (rm (srt bl) x, x) with
              | none =>
                refine iteT (iteT ?_)
                exact bad H7 (r14.trans r7) (row_none hxf hlk)
              | some v =>
                refine iteF ?_
                rw [hlk] at get7
                refine ⟨_, rfl, _, rfl, _, get7, _, rfl, _, _, rfl, rfl, _, rfl, ?_⟩
                by_cases hc : v < count
                · rw [decide_eq_true hc]
                  refine iteT ?_
                  exact bad H7 (r14.trans r7) (row_more hxf hlk (by show 0 + v < count; omega))
                · rw [decide_eq_false hc]
                  refine iteF ?_
                  refine ⟨_, _, _, rfl, r7, fun one ho => ?_⟩
                  rw [htk2] at ho
                  rcases List.mem_append.mp ho with ho | ho
                  · exact hon one ho
                  · rw [List.mem_singleton.mp ho]
                    exact ⟨v, hlk, by omega⟩
          · rintro τ' H5 ⟨o8, o9, o10, rfl, r5, hon⟩
            rw [List.length_map, List.take_length] at hon
            have := q H5 (r1.trans (r14.trans r5))
            rw [right_ok hn hok (okRow_iff.mpr ⟨fun _ h => (by cases h), hon⟩)] at this
            exact this
      · rw [decide_eq_true (by have := kd.lt hn; omega)]
        refine iteT ?_
        have := q H1 r1
        rw [right_dup hn] at this
        exact this
end
end QW
end
section
set_option Elab.async false
set_option linter.all false
set_option maxRecDepth 100000
set_option maxHeartbeats 8000000
/-! FileGraph.__init__ -/
namespace QW
open PySem L2 QN Qw
abbrev sGInit : Stmt := inClass (topS 8) 0
def spGInit (w : World) (C : Addr) : Sp := fun vs H Q _ => ∃ x dx vl vp ve, vs = [.ref x, vl, vp, ve] ∧ H x = some (.ins C dx []) ∧ ∀ dk H', H dk = none → H' dk = some (dN w dk []) → H' x = some (.ins C dx (gF vl vp ve (.ref dk))) → (∀ b o, H b = some o → b ≠ x → H' b = some o) → Q .non H'
section
variable {P : Program} {w : World} {K : PySem.W.Frag} {mg : Str → Option Value} {base : Heap}
theorem scGInit : FnScope ["self", "lines", "present", "edges"] ["self", "lines", "present", "edges"] (defScope sGInit) := ⟨rfl, rfl, rfl, by decide +kernel, rfl, by decide +kernel, by decide +kernel⟩
theorem ok_ginit {C f : Addr} {fd : FuncData} (F : Fun K "__init__" "FileGraph.__init__" sGInit f fd) (T : GTx K C) : FnOk P w K mg base CX0 1 f fd ["self", "lines", "present", "edges"] (spGInit w C) := by
  refine F.ok scGInit (fun vs H Q E h => ?_) (fun cdv A outer s H vs Q E hr h => ?_)
  · obtain ⟨x, dx, vl, vp, ve, rfl, _⟩ := h
    rfl
  · obtain ⟨x, dx, vl, vp, ve, rfl, hx, q⟩ := h
    refine ⟨_, pss_cons (ps_fld (pv 0) (pv 1) rfl) (pss_cons (ps_fld (pv 0) (pv 2) rfl) (pss_cons (ps_fld (pv 0) (pv 3) rfl) (pss_one (ps_fld (pv 0) pe_nnew rfl)))), ?_⟩
    refine ⟨_, rfl, _, rfl, x, C, dx, [], rfl, hx, T.cl, T.nl, (by show 0 < 1000; decide), ?_⟩
    refine ⟨_, rfl, _, rfl, x, C, dx, _, rfl, upd_same, T.cl, T.np, (by show 1 < 1000; decide), ?_⟩
    refine ⟨_, rfl, _, rfl, x, C, dx, _, rfl, upd_same, T.cl, T.ne, (by show 2 < 1000; decide), ?_⟩
    intro p hp
    obtain ⟨npx, hp1⟩ := upd_none hp
    obtain ⟨_, hp2⟩ := upd_none hp1
    obtain ⟨_, hpH⟩ := upd_none hp2
    refine ⟨_, rfl, x, C, dx, _, rfl, (by rw [upd_ne (ne_of_none upd_same hp)]; exact upd_same), T.cl, T.nk, (by show 3 < 1000; decide), ?_⟩
    refine q p _ hpH ?_ upd_same fun b o e hb => ?_
    · rw [upd_ne npx, upd_same]
      rfl
    · rw [upd_ne hb, upd_ne (ne_of_none e hpH), upd_ne hb, upd_ne hb, upd_ne hb]
      exact e
end
end QW
end
section
set_option Elab.async false
set_option linter.all false
set_option maxRecDepth 100000
set_option maxHeartbeats 8000000
/-! the law's side: what it knows of who is behind whom -/
namespace QW
open PySem L2 QN Qw
/-- what the law has found of the line k: nothing is behind it, or these are -/
def RAt (G : GC) (H : Hp) (k : Nat) : Option V → Prop
  | none => ∀ j, ¬ TC G.adj k j
  | some v => FAt G H k v
def RA (G : GC) (H : Hp) (R : Addr) : Prop := ∃ od kvs, H R = some (.frz od (dL G.w G.L R kvs)) ∧ (∀ p ∈ kvs, p.1 < G.n) ∧ ∀ k, k < G.n → RAt G H k (valV kvs k)
/-- .. with the lines of the world, few -/
structure LI (G : GC) (R : Addr) (H : Hp) : Prop where
  lw : LW H G.L G.n
  ra : RA G H R
  few : G.n ≤ 6
section
variable {G : GC} {R : Addr} {H H' : Hp} {D : List Addr}
theorem LI.keep (h : LI G R H) (kf : ∀ a od u, H a = some (.frz od u) → H' a = some (.frz od u)) (kt : TKeep H H') : LI G R H' := by
  obtain ⟨lw, ⟨od, kvs, h1, h2, h3⟩, fe⟩ := h
  refine ⟨lw.mono kt, ⟨od, kvs, kf _ _ _ h1, h2, fun k hk => ?_⟩, fe⟩
  have := h3 k hk
  cases hv : valV kvs k with
  | none => rw [hv] at this; exact this
  | some v =>
    rw [hv] at this
    obtain ⟨f, o, js, a, b, c⟩ := this
    exact ⟨f, o, js, a, kf _ _ _ b, c⟩
theorem LI.fr (h : LI G R H) (f : Fr D H H') (hD : ∀ a ∈ D, ∀ od u, H a ≠ some (.frz od u)) : LI G R H' :=
  h.keep (fun a od u e => f.keep _ _ e fun z => hD a z _ _ e) f.tk
theorem LI.fr0 (h : LI G R H) (f : Fr [] H H') : LI G R H' := h.fr f (by simp)
theorem LI.new {p : Addr} {o : HO} (h : LI G R H) (hp : H p = none) : LI G R (upd H p o) := h.fr0 (Fr.new hp)
theorem LI.get (h : LI G R H) {k : Nat} (hk : k < G.n) : ∃ r, NGet G.w H (.ref R) (lv G.L k) r ∧ RAt G H k r := by
  obtain ⟨lw, ⟨od, kvs, h1, h2, h3⟩, _⟩ := h
  exact ⟨_, lw.get h2 (Or.inr ⟨od, h1⟩) hk, h3 k hk⟩
theorem LI.len (h : LI G R H) {l : List Nat} (hn : l.Nodup) (hl : ∀ x ∈ l, x < G.n) : l.length ≤ 6 := Nat.le_trans (nodup_len _ l hn hl) h.few
theorem FAt.has {k b : Nat} {v : V} (h : FAt G H k v) (lw : LW H G.L G.n) (hb : b < G.n) : ∃ r, NGet G.w H v (lv G.L b) r ∧ r.isSome = tcB G.adj k b := by
  obtain ⟨fo, od, js, rfl, hf, hl, hj⟩ := h
  refine ⟨_, LW.get lw (tjs_lt hl) (Or.inr ⟨od, hf⟩) hb, ?_⟩
  rw [tjs_val, Bool.eq_iff_iff, decide_eq_true_iff, tcB_iff]
  exact hj b
end
abbrev sLBef : Stmt := topS 16
abbrev sLStr : Stmt := topS 17
def spLBef (G : GC) : Sp := fun vs H Q _ => ∃ R a b, vs = [.ref R, lv G.L a, lv G.L b] ∧ LI G R H ∧ a < G.n ∧ b < G.n ∧ Q (.bl (tcB G.adj a b)) H
def spLStr (G : GC) : Sp := fun vs H Q _ => ∃ R a b, vs = [.ref R, lv G.L a, lv G.L b] ∧ LI G R H ∧ a < G.n ∧ b < G.n ∧ Q (.bl (stB G.adj a b)) H
section
variable {P : Program} {w : World} {K : PySem.W.Frag} {mg : Str → Option Value} {base : Heap}
abbrev pN : List Str := ["_law_reach_here", "_law_one", "_law_other"]
theorem scLBef : FnScope pN pN (defScope sLBef) := ⟨rfl, rfl, rfl, by decide +kernel, rfl, by decide +kernel, by decide +kernel⟩
theorem ok_lbef {G : GC} {f : Addr} {fd : FuncData} (hwG : G.w = w) (F : Fun K "_law_before" "_law_before" sLBef f fd) : FnOk P w K mg base CX0 1 f fd pN (spLBef G) := by
  subst hwG
  refine F.ok scLBef (fun vs H Q E h => ?_) (fun cdv A outer s H vs Q E hr h => ?_)
  · obtain ⟨R, a, b, rfl, _⟩ := h
    rfl
  · obtain ⟨R, a, b, rfl, li, ha, hb, q⟩ := h
    have hu := hr.units
    refine ⟨_, pss_one (ps_ret (pe_and (pe_cmpR (op_nin hu) (pv 1) (pv 0) rfl) (pe_one (pe_cmpR (op_nin hu) (pv 2) (pe_nget hu (pv 0) (pv 1) (fun _ _ => rfl)) rfl)))), ?_⟩
    obtain ⟨r, hg, hra⟩ := li.get ha
    refine ⟨_, rfl, _, rfl, r, hg, _, rfl, ?_⟩
    cases r with
    | none =>
      refine iteF ?_
      have : tcB G.adj a b = false := by
        cases e : tcB G.adj a b with
        | false => rfl
        | true => exact absurd (tcB_iff.mp e) (hra b)
      rw [this] at q
      exact q
    | some v =>
      refine iteT ?_
      obtain ⟨r2, hg2, e2⟩ := hra.has li.lw hb
      refine ⟨_, rfl, _, rfl, _, rfl, v, hg, r2, hg2, ?_⟩
      rw [e2]
      exact q
theorem scLStr : FnScope pN pN (defScope sLStr) := ⟨rfl, rfl, rfl, by decide +kernel, rfl, by decide +kernel, by decide +kernel⟩
theorem ok_lstr {G : GC} {f fB : Addr} {fd fdB : FuncData} (hwG : G.w = w) (F : Fun K "_law_strictly" "_law_strictly" sLStr f fd) (B : Kn P w K mg base "_law_before" 1 fB fdB pN (spLBef G)) : FnOk P w K mg base CX0 2 f fd pN (spLStr G) := by
  subst hwG
  refine F.ok scLStr (fun vs H Q E h => ?_) (fun cdv A outer s H vs Q E hr h => ?_)
  · obtain ⟨R, a, b, rfl, _⟩ := h
    rfl
  · obtain ⟨R, a, b, rfl, li, ha, hb, q⟩ := h
    refine ⟨_, pss_one (ps_ret (pe_and (pe_call B.ok hr rfl B.mg B.kp B.b .nil pass0 (pa_cons (pv 0) (pa_cons (pv 1) (pa_cons (pv 2) pa_nil)))) (pe_one (pe_not (pe_call B.ok hr rfl B.mg B.kp B.b .nil pass0 (pa_cons (pv 0) (pa_cons (pv 2) (pa_cons (pv 1) pa_nil)))))))), ?_⟩
    refine ⟨_, rfl, _, rfl, _, rfl, R, a, b, rfl, li, ha, hb, _, rfl, ?_⟩
    cases e1 : tcB G.adj a b with
    | false =>
      refine iteF ?_
      have : stB G.adj a b = false := by unfold stB; rw [e1]; rfl
      rw [this] at q
      exact q
    | true =>
      refine iteT ?_
      refine ⟨_, rfl, _, rfl, _, rfl, R, b, a, rfl, li, hb, ha, _, rfl, ?_⟩
      have : stB G.adj a b = !tcB G.adj b a := by unfold stB; rw [e1]; rfl
      rw [this] at q
      exact q
end
/-- strictly(reach, y, x) by slots -/
def tLStr (G : GC) (i j l : Nat) : TT := tB (tCall (spLStr G) [] E0 (tCons (tVar i) (tCons (tVar j) (tCons (tVar l) tNil))))
theorem run_lstr {G : GC} {R : Addr} {H : Hp} {σ : L2.St} {i j l x y : Nat} {Q : Bool → Hp → Prop} (li : LI G R H) (hx : x < G.n) (hy : y < G.n) (h1 : σ[i]? = some (some (.ref R))) (h2 : σ[j]? = some (some (lv G.L x))) (h3 : σ[l]? = some (some (lv G.L y)))
    (q : Q (stB G.adj x y) H) : tLStr G i j l σ H Q := ⟨_, h1, _, h2, _, h3, R, x, y, rfl, li, hx, hy, _, rfl, q⟩
end QW
end
section
set_option Elab.async false
set_option linter.all false
set_option maxRecDepth 100000
set_option maxHeartbeats 8000000
/-! the law's jumps, circle -/
namespace QW
open PySem L2 QN Qw
theorem at_lv {L : Nat → Addr} {o : List Nat} {i : Nat} (h : i < o.length) : (o.map (lv L))[i]? = some (lv L (o.getD i 0)) := by
  rw [List.getElem?_map, List.getElem?_eq_getElem h]
  simp [List.getD, h]
abbrev sLJmp : Stmt := topS 20
def spLJmp (G : GC) : Sp := fun vs H Q _ => ∃ R a o, vs = [.ref R, .ref a] ∧ LI G R H ∧ H a = some (.lst (o.map (lv G.L))) ∧ (∀ k ∈ o, k < G.n) ∧ o.length ≤ 1000 ∧ ∀ H', Fr [] H H' → Q (.int (jumps (stB G.adj) o)) H'
def rIxLQ (K : PySem.W.Frag) : R2 := fun x y H Q => ∃ p xs i v, x = .ref p ∧ y = .int i ∧ SqL K H p xs ∧ atI xs i = some v ∧ Q v H
abbrev sLCir : Stmt := topS 21
def spLCir (G : GC) : Sp := fun vs H Q _ => ∃ (R a : Addr) (bl : List Nat), vs = [.ref R, .ref a] ∧ LI G R H ∧ H a = some (.lst (bl.map (lv G.L))) ∧ (∀ k ∈ bl, k < G.n) ∧ ∀ b, Q (.bl b) H
section
variable {P : Program} {w : World} {K : PySem.W.Frag} {mg : Str → Option Value} {base : Heap}
theorem scLJmp : FnScope ["_law_reach_here", "_law_order", "_law_k"] ["_law_reach_here", "_law_order"] (defScope sLJmp) := ⟨rfl, rfl, rfl, by decide +kernel, rfl, by decide +kernel, by decide +kernel⟩
theorem ok_ljmp {G : GC} {f fS : Addr} {fd fdS : FuncData} (hwG : G.w = w) (F : Fun K "_law_jumps" "_law_jumps" sLJmp f fd) (B : Bi mg) (S : Kn P w K mg base "_law_strictly" 2 fS fdS pN (spLStr G)) : FnOk P w K mg base CX0 3 f fd ["_law_reach_here", "_law_order"] (spLJmp G) := by
  subst hwG
  refine F.ok scLJmp (fun vs H Q E h => ?_) (fun cdv A outer s H vs Q E hr h => ?_)
  · obtain ⟨R, a, o, rfl, _⟩ := h
    rfl
  · obtain ⟨R, a, o, rfl, li, ha, hlt, hz, q⟩ := h
    refine ⟨_, pss_one (ps_ret (pe_len B.len rfl (pe_fil (i := 2) (tt := tNot (tB (tCall (spLStr G) [] E0 (tCons (tVar 0) (tCons (tOp (rIxLQ K) (tVar 1) (tOp (rI0 fun i j => .int (i - j)) (tVar 2) (tC (.int 1)))) (tCons (tOp (rIxLQ K) (tVar 1) (tVar 2)) tNil))))))
      rfl scLJmp.nd (pi_range2 rfl B.range (pa_cons pe_int (pa_cons (pe_len B.len rfl (pv 1)) pa_nil))) (blkOk_by (by rfl)) (fun _ _ _ _ _ => Or.inl rfl)
      (fun _ _ _ _ _ => pt_not (pt_val (pe_call S.ok hr rfl S.mg S.kp S.b .nil pass0 (pa_cons (pv 0) (pa_cons (pe_ix ix_list (pv 1) (pe_op op_sub (pv 2) pe_int) (fun _ _ => rfl)) (pa_cons (pe_ix ix_list (pv 1) (pv 2) (fun _ _ => rfl)) pa_nil))))))))), ?_⟩
    refine ⟨_, rfl, a, _, rfl, Or.inl (sqL ha), 1, _, rfl, ⟨by decide, by decide, by omega, by rw [List.length_map]; omega⟩, fun D hD => ?_⟩
    rw [List.length_map, show (((o.length : Nat) : Int) - 1).toNat = o.length - 1 by omega]
    refine lc_range (lo := 1) (n := o.length - 1) (fun i H' => Fr [] H H' ∧ H' D = some (.lst (((List.range i).filter fun k => !stB G.adj (o.getD k 0) (o.getD (k + 1) 0)).map fun k : Nat => V.int (1 + (k : Int))))) ⟨Fr.new hD, upd_same⟩ (fun i H' hi p => ?_) (fun H' p => ?_)
    · obtain ⟨f1, hD1⟩ := p
      have ha1 := f1.keep _ _ ha (by simp)
      have g1 : ∀ k, k < o.length → o.getD k 0 < G.n := fun k hk => hlt _ (by rw [List.getD, List.getElem?_eq_getElem hk]; exact List.getElem_mem hk)
      refine ⟨rfl, ?_⟩
      refine ⟨_, rfl, _, rfl, _, rfl, _, _, rfl, rfl, a, _, _, _, rfl, rfl, sqL ha1, ?_, _, rfl, _, rfl, a, _, _, _, rfl, rfl, sqL ha1, ?_, R, o.getD i 0, o.getD (i + 1) 0, rfl, li.fr0 f1, g1 i (by omega), g1 (i + 1) (by omega), _, rfl, ?_⟩
      · rw [show (1 + (i : Int)) - 1 = (i : Int) by omega]
        exact atI_nat (at_lv (by omega))
      · rw [show (1 + (i : Int)) = ((i + 1 : Nat) : Int) by omega]
        exact atI_nat (at_lv (by omega))
      · rw [List.range_succ, List.filter_append, List.map_append, List.filter_cons]
        cases hf : stB G.adj (o.getD i 0) (o.getD (i + 1) 0) with
        | true =>
          refine iteF ⟨f1, ?_⟩
          rw [if_neg (by decide)]
          simpa using hD1
        | false =>
          refine iteT ⟨_, rfl, _, hD1, ?_, f1.mut hD, ?_⟩
          · rw [List.length_map, sizeLine_eq]
            have := List.length_filter_le (fun k => !stB G.adj (o.getD k 0) (o.getD (k + 1) 0)) (List.range i)
            rw [List.length_range] at this
            omega
          · rw [if_pos (by decide), upd_same]
            rfl
    · obtain ⟨f1, hD1⟩ := p
      refine ⟨D, _, rfl, Or.inl (sqL hD1), ?_⟩
      have := q H' f1
      rw [← jumpsN_eq] at this
      rw [List.length_map]
      exact this
theorem scLCir : FnScope ["_law_reach_here", "_law_block", "_law_one", "_law_other"] ["_law_reach_here", "_law_block"] (defScope sLCir) := ⟨rfl, rfl, rfl, by decide +kernel, rfl, by decide +kernel, by decide +kernel⟩
theorem ok_lcir {G : GC} {f fB : Addr} {fd fdB : FuncData} (hwG : G.w = w) (F : Fun K "_law_circle" "_law_circle" sLCir f fd) (B : Kn P w K mg base "_law_before" 1 fB fdB pN (spLBef G)) : FnOk P w K mg base CX0 2 f fd ["_law_reach_here", "_law_block"] (spLCir G) := by
  subst hwG
  refine F.ok scLCir (fun vs H Q E h => ?_) (fun cdv A outer s H vs Q E hr h => ?_)
  · obtain ⟨R, a, bl, rfl, _⟩ := h
    rfl
  · obtain ⟨R, a, bl, rfl, li, ha, hlt, q⟩ := h
    have hu := hr.units
    refine ⟨_, pss_cons (ps_for PassesOwn.never rfl (pi_list (pv 1)) (pg_name (i := 2) scLCir.nd rfl (Or.inl rfl))
        (pss_one (ps_for PassesOwn.never rfl (pi_list (pv 1)) (pg_name (i := 3) scLCir.nd rfl (Or.inl rfl))
          (pss_one (ps_if (PW.pt (pw_and (pt_cmpR (op_neD hu) (pv 2) (pv 3) (nomark _)) (pw_and (pt_val (pe_call B.ok hr rfl B.mg B.kp B.b .nil pass0 (pa_cons (pv 0) (pa_cons (pv 2) (pa_cons (pv 3) pa_nil)))))
              (pw_and1 (pt_val (pe_call B.ok hr rfl B.mg B.kp B.b .nil pass0 (pa_cons (pv 0) (pa_cons (pv 3) (pa_cons (pv 2) pa_nil)))))))))
            (pss_one (ps_ret pe_bl)) pss_nil)))))
      (pss_one (ps_ret pe_bl)), ?_⟩
    refine ⟨_, rfl, a, rfl, ⟨_, sqL ha⟩, for_list (K := K) (a := a) (xs := bl.map (lv G.L)) (fun i τ' H' => ∃ o2 o3, τ' = [some (.ref R), some (.ref a), o2, o3] ∧ H' = H) ⟨none, none, rfl, rfl⟩ (fun i τ' H' _ ⟨_, _, _, h⟩ => by rw [h]; exact sqL ha) ?_ ?_⟩
    · rintro i y τ' H' hi ⟨o2, o3, rfl, rfl⟩
      rw [List.getElem?_map] at hi
      obtain ⟨x, hx, rfl⟩ := Option.map_eq_some_iff.mp hi
      have hxn := hlt x (List.mem_of_getElem? hx)
      refine ⟨_, rfl, a, rfl, ⟨_, sqL ha⟩, for_list (K := K) (a := a) (xs := bl.map (lv G.L)) (fun i τ' H'' => ∃ o3, τ' = [some (.ref R), some (.ref a), some (lv G.L x), o3] ∧ H'' = H') ⟨_, rfl, rfl⟩ (fun i τ' H' _ ⟨_, _, h⟩ => by rw [h]; exact sqL ha) ?_ ?_⟩
      · rintro j y τ' H'' hj ⟨o3, rfl, rfl⟩
        rw [List.getElem?_map] at hj
        obtain ⟨z, hz, rfl⟩ := Option.map_eq_some_iff.mp hj
        have hzn := hlt z (List.mem_of_getElem? hz)
        refine run_ne li.lw hxn hzn rfl rfl ?_
        cases hne : (!decide (x = z)) with
        | false =>
          refine iteF (iteF ?_)
          exact ⟨_, rfl, rfl⟩
        | true =>
          refine iteT ?_
          refine ⟨_, rfl, _, rfl, _, rfl, R, x, z, rfl, li, hxn, hzn, _, rfl, ?_⟩
          cases tcB G.adj x z with
          | false =>
            refine iteF (iteF ?_)
            exact ⟨_, rfl, rfl⟩
          | true =>
            refine iteT ?_
            refine ⟨_, rfl, _, rfl, _, rfl, R, z, x, rfl, li, hzn, hxn, _, rfl, ?_⟩
            cases tcB G.adj z x with
            | false =>
              refine iteF ?_
              exact ⟨_, rfl, rfl⟩
            | true =>
              refine iteT ?_
              exact q true
      · rintro τ' H'' ⟨o3, rfl, rfl⟩
        exact ⟨_, _, rfl, rfl⟩
    · rintro τ' H' ⟨o2, o3, rfl, rfl⟩
      exact q false
end
end QW
end
section
set_option Elab.async false
set_option linter.all false
set_option maxRecDepth 100000
set_option maxHeartbeats 8000000
/-! lists of orders in the heap; the law's orders -/
namespace QW
open PySem L2 QN Qw
/-- a list of lines, which stands at none of N -/
def OrdA (N : List Addr) (H : Hp) (L : Nat → Addr) (o : List Nat) (v : V) : Prop := ∃ a, v = .ref a ∧ a ∉ N ∧ H a = some (.lst (o.map (lv L)))
abbrev OrdsIn (N : List Addr) (H : Hp) (L : Nat → Addr) (os : List (List Nat)) (vs : List V) : Prop := PySem.Paired (OrdA N H L) os vs
section
variable {N N' D : List Addr} {H H' : Hp} {L : Nat → Addr} {o : List Nat} {v : V} {a : Addr} {u : HO} {os : List (List Nat)} {vs : List V}
theorem OrdA.less (h : OrdA N H L o v) (hs : ∀ a ∈ N', a ∈ N) : OrdA N' H L o v := by
  obtain ⟨l, e, hl, h1⟩ := h
  exact ⟨l, e, fun z => hl (hs _ z), h1⟩
theorem OrdA.fr (h : OrdA N H L o v) (f : Fr D H H') (hD : ∀ b ∈ D, b ∈ N) : OrdA N H' L o v := by
  obtain ⟨l, e, hl, h1⟩ := h
  exact ⟨l, e, hl, f.keep _ _ h1 fun z => hl (hD _ z)⟩
theorem OrdA.addN (h : OrdA N H L o v) (ha : ∀ xs, H a ≠ some (.lst xs)) : OrdA (a :: N) H L o v := by
  obtain ⟨l, e, hl, h1⟩ := h
  refine ⟨l, e, fun z => ?_, h1⟩
  rcases List.mem_cons.mp z with rfl | z
  · exact ha _ h1
  · exact hl z
theorem OrdA.upd (h : OrdA N H L o v) (ha : a ∈ N) : OrdA N (upd H a u) L o v := by
  obtain ⟨l, e, hl, h1⟩ := h
  exact ⟨l, e, hl, by rw [upd_ne (fun z => hl (by rw [z]; exact ha))]; exact h1⟩
theorem OrdsIn.less (h : OrdsIn N H L os vs) (hs : ∀ a ∈ N', a ∈ N) : OrdsIn N' H L os vs := PySem.Paired.mono (fun _ _ r => r.less hs) h
theorem OrdsIn.fr (h : OrdsIn N H L os vs) (f : Fr D H H') (hD : ∀ b ∈ D, b ∈ N) : OrdsIn N H' L os vs := PySem.Paired.mono (fun _ _ r => r.fr f hD) h
theorem OrdsIn.addN (h : OrdsIn N H L os vs) (ha : ∀ xs, H a ≠ some (.lst xs)) : OrdsIn (a :: N) H L os vs := PySem.Paired.mono (fun _ _ r => r.addN ha) h
theorem OrdsIn.upd (h : OrdsIn N H L os vs) (ha : a ∈ N) : OrdsIn N (upd H a u) L os vs := PySem.Paired.mono (fun _ _ r => r.upd ha) h
theorem OrdsIn.get (h : OrdsIn N H L os vs) {i : Nat} (hi : vs[i]? = some v) : ∃ o, os[i]? = some o ∧ OrdA N H L o v := by
  have hl := PySem.Paired.length h
  have hi' : i < vs.length := (List.getElem?_eq_some_iff.mp hi).1
  have hr : os[i]? = some os[i] := List.getElem?_eq_getElem (by omega)
  obtain ⟨v', h1, h2⟩ := paired_get h hr
  rw [hi] at h1
  cases h1
  exact ⟨_, hr, h2⟩
end
theorem stepO_len {S : Nat → Nat → Bool} {sb : List Nat} (l : List (List Nat)) : (stepO S sb l).length ≤ l.length * sb.length := by
  unfold stepO
  induction l with
  | nil => simp
  | cons o l ih =>
    rw [List.flatMap_cons, List.length_append, List.length_map, List.length_cons, Nat.succ_mul]
    have : (free S (left0 sb o)).length ≤ sb.length := Nat.le_trans (List.length_filter_le _ _) (List.length_filter_le _ _)
    omega
theorem stepO_snoc {S : Nat → Nat → Bool} {sb : List Nat} (l : List (List Nat)) (o : List Nat) : stepO S sb (l ++ [o]) = stepO S sb l ++ (free S (left0 sb o)).map fun one => o ++ [one] := by
  unfold stepO
  rw [List.flatMap_append]
  simp
theorem ords_few {S : Nat → Nat → Bool} {sb : List Nat} (hn : sb.Nodup) (h6 : sb.length ≤ 6) {k : Nat} (hk : k ≤ 6) : (ordsN S sb k).length ≤ 46656 := by
  refine Nat.le_trans (ordsN_len hn) (Nat.le_trans (Nat.pow_le_pow_left h6 k) ?_)
  exact Nat.pow_le_pow_right (n := 6) (by decide) hk

/-- [x for x in xs if t], xs a new list, nothing else changed: the list is new -/
theorem run_filF {K : PySem.W.Frag} {σ : L2.St} {H : Hp} {tl : TE} {tt : TT} {vs : List Nat} {j : Nat} {β : Type} (val : β → V) {xs : List β} (f : β → Bool) {Q : VK} (htl : ∀ Q' : VK, (∀ a H1, Fr [] H H1 → H1 a = some (.lst (xs.map val)) → Q' (.ref a) H1) → tl σ H Q')
    (hz : xs.length ≤ 100000) (hw : ∀ x, wipe ((wipe σ vs).set j (some x)) vs = wipe σ vs) (hv : ∀ x, ((wipe σ vs).set j (some x))[j]? = some (some x))
    (ht : ∀ x ∈ xs, ∀ H', Fr [] H H' → ∀ Q : Bool → Hp → Prop, (∀ H2, Fr [] H' H2 → Q (f x) H2) → tt ((wipe σ vs).set j (some (val x))) H' Q)
    (hd : ∀ D H', H D = none → Fr [] H H' → H' D = some (.lst ((xs.filter f).map val)) → Q (.ref D) H') : tLc (iList K tl) (gName j) tt (tVar j) vs σ H Q := by
  refine htl _ fun a H1 r1 ha => ⟨a, rfl, ⟨_, sqL ha⟩, fun D hD => ?_⟩
  refine lc_fil val rl_fr trivial f hz hD hw hv (sqL ha) (fun H' r h => r.sq (by simp) h) (fun x hx H' r Q2 q2 => ht x hx H' (r1.trans r) Q2 q2) fun H' r hl => hd D H' (r1.back hD (by simp)) (r1.trans r) hl
section
variable {G : GC} {K : PySem.W.Frag} {R a : Addr} {H : Hp} {σ : L2.St}
/-- len([y for y in xs if strictly(reach, y, x)]) == 0, by slots -/
theorem run_lfree {xs : List Nat} {x r il j l : Nat} {Q : Bool → Hp → Prop} (li : LI G R H) (hs : σ[il]? = some (some (.ref a))) (hx : H a = some (.lst (xs.map (lv G.L)))) (hlt : ∀ k ∈ xs, k < G.n) (hz : xs.length ≤ 1000) (hxn : x < G.n)
    (hw : ∀ y, wipe ((wipe σ [j]).set j (some y)) [j] = wipe σ [j]) (hv : ∀ y, ((wipe σ [j]).set j (some y))[j]? = some (some y)) (h1 : ∀ y, ((wipe σ [j]).set j (some y))[r]? = some (some (.ref R))) (h3 : ∀ y, ((wipe σ [j]).set j (some y))[l]? = some (some (lv G.L x)))
    (q : ∀ H', Fr [] H H' → Q (isFree (stB G.adj) xs x) H') : tLen0 K (tLc (iList K (tVar il)) (gName j) (tLStr G r j l) (tVar j) [j]) σ H Q :=
  run_free (lv G.L) rl_fr trivial (fun y => stB G.adj y x) hs (by omega) hw hv (sqL hx) (fun H' f h => f.sq (by simp) h) (fun y hy H2 f2 Q2 q2 => run_lstr (li.fr0 f2) (hlt y hy) hxn (h1 _) (hv _) (h3 _) (q2 H2 (Fr.refl _))) fun H' f => q H' f
/-- y not in zs, by slots -/
theorem run_notin {n : Nat} {L : Nat → Addr} {y i j : Nat} {zs : List Nat} {Q : Bool → Hp → Prop} (lw : LW H L n) (hy : y < n) (hz : ∀ k ∈ zs, k < n) (h1 : σ[i]? = some (some (lv L y))) (h2 : σ[j]? = some (some (.ref a))) (ha : H a = some (.lst (zs.map (lv L))))
    (q : Q (!decide (y ∈ zs)) H) : tTest (tOp (rNotInD K) (tVar i) (tVar j)) σ H Q := by
  refine ⟨_, h1, _, h2, _, _, lw.dp hy, .lst (sqL ha) (lw.dps hz), ld_shaped y, lds_shaped zs, _, rfl, ?_⟩
  rw [any_ld]
  exact q
end
abbrev sLOrd : Stmt := topS 19
def spLOrd (G : GC) : Sp := fun vs H Q _ => ∃ (R a : Addr) (bl : List Nat), vs = [.ref R, .ref a] ∧ LI G R H ∧ H a = some (.lst (bl.map (lv G.L))) ∧ bl.Nodup ∧ (∀ k ∈ bl, k < G.n) ∧
  ∀ p us H', Fr [] H H' → H p = none → H' p = some (.lst us) → OrdsIn [p] H' G.L (ordsN (stB G.adj) (srt bl) bl.length) us → Q (.ref p) H'
section
variable {P : Program} {w : World} {K : PySem.W.Frag} {mg : Str → Option Value} {base : Heap}
theorem scLOrd : FnScope ["_law_reach_here", "_law_block", "_law_found", "_law_turn", "_law_more", "_law_order", "_law_left", "_law_one", "_law_other"] ["_law_reach_here", "_law_block"] (defScope sLOrd) := ⟨rfl, rfl, rfl, by decide +kernel, rfl, by decide +kernel, by decide +kernel⟩
theorem ok_lord {G : GC} {f fS : Addr} {fd fdS : FuncData} (hwG : G.w = w) (F : Fun K "_law_orders" "_law_orders" sLOrd f fd) (B : Bi mg) (S : Kn P w K mg base "_law_strictly" 2 fS fdS pN (spLStr G)) : FnOk P w K mg base CX0 3 f fd ["_law_reach_here", "_law_block"] (spLOrd G) := by
  subst hwG
  refine F.ok scLOrd (fun vs H Q E h => ?_) (fun cdv A outer s H vs Q E hr h => ?_)
  · obtain ⟨R, a, bl, rfl, _⟩ := h
    rfl
  · obtain ⟨R, a, bl, rfl, li, ha, hnd, hlt, q⟩ := h
    have hu := hr.units
    have hu65 : (A.deeper (PyProof.Rows.envOfC "_law_orders" (defScope sLOrd) s.heap.objs.size f cdv)).units + 65 < cLine := by have := hr.un; omega
    refine ⟨_, pss_cons (ps_set (i := 2) scLOrd.nd rfl (Or.inl rfl) (pe_lst (pa_cons (pe_lst pa_nil) pa_nil)))
      (pss_cons (ps_for PassesOwn.never rfl (pi_range1 rfl B.range (pa_cons (pe_len B.len rfl (pv 1)) pa_nil)) (pg_name (i := 3) scLOrd.nd rfl (Or.inl rfl))
        (pss_cons (ps_set (i := 4) scLOrd.nd rfl (Or.inl rfl) (pe_lst pa_nil))
        (pss_cons (ps_for PassesOwn.never rfl (pi_list (pv 2)) (pg_name (i := 5) scLOrd.nd rfl (Or.inr rfl))
          (pss_cons (ps_setLc (i := 6) (own := [("_law_one", 7)]) (g := gName 7) (tt := tTest (tOp (rNotInD K) (tVar 7) (tVar 5))) (te := tVar 7) rfl scLOrd.nd rfl rfl (sw_true rfl rfl rfl rfl) (pi_list (pe_callB (call_srt G.L G.n hu) (by rfl) B.sorted PyProof.Rows.boot_sorted (pa_cons (pv 1) pa_nil)))
              (blkOk_by (by rfl)) (fun _ _ _ _ _ => pg_name (i := 7) scLOrd.nd rfl (Or.inl rfl)) (fun _ _ _ _ _ => pts_one (pt_cmpR (op_notInD hu65) (pv 7) (pv 5) rfl)) (fun _ _ _ _ _ => pv 7))
          (pss_one (ps_for PassesOwn.never rfl (pi_list (pv 6)) (pg_name (i := 7) scLOrd.nd rfl (Or.inr rfl))
            (pss_one (ps_if (pt_cmpR op_eq (pe_len B.len rfl (pe_fil (i := 8) (tt := tLStr G 0 8 7) rfl scLOrd.nd (pi_list (pv 6)) (blkOk_by (by rfl)) (fun _ _ _ _ _ => Or.inl rfl)
                (fun _ _ _ _ _ => pt_val (pe_call S.ok hr rfl S.mg S.kp S.b .nil pass0 (pa_cons (pv 0) (pa_cons (pv 8) (pa_cons (pv 7) pa_nil))))))) pe_int (nomark _))
              (pss_one (ps_expr (pe_bm PySem.F.plainAttrs_list PySem.F.slot_list_append PySem.F.type_list_append mt_append (pv 4) (pa_cons (pe_op op_cat (pv 5) (pe_lst (pa_cons (pv 7) pa_nil))) pa_nil))))
              pss_nil))))))
        (pss_one (ps_set (i := 2) scLOrd.nd rfl (Or.inl rfl) (pv 4))))))
      (pss_one (ps_ret (pv 2)))), ?_⟩
    have hsb : (srt bl).Nodup := srt_nodup hnd
    have hsl : ∀ k ∈ srt bl, k < G.n := fun k hk => hlt k (srt_mem.mp hk)
    have h6 : (srt bl).length ≤ 6 := li.len hsb hsl
    have hbl6 : bl.length ≤ 6 := by rw [srt_len] at h6; exact h6
    refine ⟨Nat.zero_le _, fun p0 hp0 => ⟨(by show 1 ≤ sizeLine; decide), fun p1 hp1 => ?_⟩⟩
    have f1 : Fr [] H (upd (upd H p0 (.lst [])) p1 (.lst [.ref p0])) := (Fr.new hp0).trans (Fr.new hp1)
    have hp1H := (upd_none hp1).2
    have ha1 := f1.keep _ _ ha (by simp)
    refine ⟨_, rfl, a, _, rfl, Or.inl (sqL ha1), _, rfl, by omega, by rw [List.length_map]; omega, ?_⟩
    rw [List.length_map, show (((bl.length : Nat) : Int)).toNat = bl.length by omega]
    refine for_range (lo := 0) (n := bl.length) (fun i τ' H' => ∃ p us o3 o4 o5 o6 o7 o8, τ' = [some (.ref R), some (.ref a), some (.ref p), o3, o4, o5, o6, o7, o8] ∧ Fr [] H H' ∧ H p = none ∧ H' p = some (.lst us) ∧ OrdsIn [p] H' G.L (ordsN (stB G.adj) (srt bl) i) us)
      ⟨p1, [.ref p0], none, none, none, none, none, none, rfl, f1, hp1H, upd_same, .cons ⟨p0, rfl, by simpa using ne_of_none (o := HO.lst []) upd_same hp1, by rw [upd_ne (ne_of_none (o := HO.lst []) upd_same hp1)]; exact upd_same⟩ .nil⟩ ?_ ?_
    · rintro i τ' H1 hi ⟨p, us, o3, o4, o5, o6, o7, o8, rfl, f1, hpH, h1p, hos⟩
      have hol := PySem.Paired.length hos
      have hof : us.length ≤ 46656 := by rw [← hol]; exact ords_few hsb h6 (by omega)
      refine ⟨Nat.zero_le _, fun pm hpm => ?_⟩
      have hmp : pm ≠ p := (ne_of_none h1p hpm).symm
      have f12 : Fr [] H1 (upd H1 pm (.lst [])) := Fr.new hpm
      refine ⟨_, rfl, p, rfl, ⟨_, sqL (f12.keep _ _ h1p (by simp))⟩, for_list (K := K) (a := p) (xs := us) (fun j τ' H' => ∃ vs o5 o6 o7 o8, τ' = [some (.ref R), some (.ref a), some (.ref p), some (.int (0 + (i : Int))), some (.ref pm), o5, o6, o7, o8] ∧ Fr [] H1 H' ∧ H' pm = some (.lst vs) ∧
          OrdsIn [pm] H' G.L (stepO (stB G.adj) (srt bl) ((ordsN (stB G.adj) (srt bl) i).take j)) vs)
        ⟨[], _, _, _, _, rfl, f12, upd_same, .nil⟩ (fun j τ' H' _ ⟨_, _, _, _, _, _, f, _⟩ => sqL (f.keep _ _ h1p (by simp))) ?_ ?_⟩
      · rintro j y τ' H2 hj ⟨vs, o5, o6, o7, o8, rfl, f2, h2m, hvs⟩
        obtain ⟨o, ho, ao, rfl, _, h1o⟩ := hos.get hj
        have hom := List.mem_of_getElem? ho
        obtain ⟨hol', rest, hpre⟩ := mem_ordsN.mp hom
        have hon : ∀ k ∈ o, k < G.n := fun k hk => hsl k (hpre.mem k hk)
        have htk : (ordsN (stB G.adj) (srt bl) i).take (j + 1) = (ordsN (stB G.adj) (srt bl) i).take j ++ [o] := by rw [List.take_add_one, ho]; rfl
        have hao2 := f2.keep _ _ h1o (by simp)
        have ha2 := (f1.trans f2).keep _ _ ha (by simp)
        have li2 := (li.fr0 f1).fr0 f2
        have hmo : pm ≠ ao := (ne_of_none h1o hpm).symm
        dsimp only [gName, tSeq, tAsg, tCB, tCons, tNil, List.set]
        refine run_filF (lv G.L) (xs := srt bl) (fun y => !decide (y ∈ o)) (fun Q' hQ' => ?_) (by omega) (fun _ => rfl) (fun _ => rfl) (fun y hy H3 f3 Q3 q3 => ?_) (fun pl H3 hpl f3 h3l => ?_)
        · exact ⟨_, rfl, a, bl, rfl, sqL ha2, hlt, li2.lw, fun ps hps => hQ' ps _ (Fr.new hps) upd_same⟩
        · exact run_notin (li2.fr0 f3).lw (hsl y hy) hon rfl rfl (f3.keep _ _ hao2 (by simp)) (q3 H3 (Fr.refl _))
        · have h3l : H3 pl = some (.lst ((left0 (srt bl) o).map (lv G.L))) := h3l
          have h3m := f3.keep _ _ h2m (by simp)
          have f13 := f2.trans f3
          have hvs3 := hvs.fr f3 (by simp)
          have hl0 : ∀ k ∈ left0 (srt bl) o, k < G.n := fun k hk => hsl k (List.mem_filter.mp hk).1
          have hl6 : (left0 (srt bl) o).length ≤ 6 := Nat.le_trans (List.length_filter_le _ _) h6
          have hmpl : pm ≠ pl := ne_of_none h2m hpl
          refine ⟨_, rfl, pl, rfl, ⟨_, sqL h3l⟩, for_list (K := K) (a := pl) (xs := (left0 (srt bl) o).map (lv G.L)) (fun k τ' H' => ∃ ws o7 o8, τ' = [some (.ref R), some (.ref a), some (.ref p), some (.int (0 + (i : Int))), some (.ref pm), some (.ref ao), some (.ref pl), o7, o8] ∧ Fr [] H1 H' ∧ H' pl = some (.lst ((left0 (srt bl) o).map (lv G.L))) ∧ H' pm = some (.lst ws) ∧
              OrdsIn [pm] H' G.L (stepO (stB G.adj) (srt bl) ((ordsN (stB G.adj) (srt bl) i).take j) ++ (((left0 (srt bl) o).take k).filter (isFree (stB G.adj) (left0 (srt bl) o))).map fun one => o ++ [one]) ws)
            ⟨vs, _, _, rfl, f13, h3l, h3m, by simpa using hvs3⟩ (fun k τ' H' _ ⟨_, _, _, _, _, h, _⟩ => sqL h) ?_ ?_⟩
          · rintro k y τ' H4 hk ⟨ws, o7, o8, rfl, f4, h4l, h4m, hws⟩
            rw [List.getElem?_map] at hk
            obtain ⟨x, hx, rfl⟩ := Option.map_eq_some_iff.mp hk
            have hxn := hl0 x (List.mem_of_getElem? hx)
            have hkl : k < (left0 (srt bl) o).length := (List.getElem?_eq_some_iff.mp hx).1
            have htk2 : (left0 (srt bl) o).take (k + 1) = (left0 (srt bl) o).take k ++ [x] := by rw [List.take_add_one, hx]; rfl
            have li4 := (li.fr0 f1).fr0 f4
            have hwl : ws.length ≤ 46656 * 6 + 6 := by
              rw [← PySem.Paired.length hws, List.length_append, List.length_map]
              have e1 := stepO_len (S := stB G.adj) (sb := srt bl) ((ordsN (stB G.adj) (srt bl) i).take j)
              have e2 : ((ordsN (stB G.adj) (srt bl) i).take j).length ≤ 46656 := by rw [List.length_take]; omega
              have e3 := Nat.mul_le_mul e2 h6
              have e4 := List.length_filter_le (isFree (stB G.adj) (left0 (srt bl) o)) ((left0 (srt bl) o).take k)
              rw [List.length_take] at e4
              omega
            refine run_lfree (xs := left0 (srt bl) o) (x := x) li4 rfl h4l hl0 (by omega) hxn (fun _ => rfl) (fun _ => rfl) (fun _ => rfl) (fun _ => rfl) fun H5 f5 => ?_
            have h5m := f5.keep _ _ h4m (by simp)
            have h5l := f5.keep _ _ h4l (by simp)
            have h5o := f5.keep _ _ (f4.keep _ _ h1o (by simp)) (by simp)
            have f15 := f4.trans f5
            rw [htk2, List.filter_append, List.map_append]
            cases hfr : isFree (stB G.adj) (left0 (srt bl) o) x with
            | false =>
              refine iteF ?_
              refine ⟨ws, _, _, rfl, f15, h5l, h5m, ?_⟩
              rw [List.filter_cons, if_neg (by rw [hfr]; decide), List.filter_nil, List.map_nil, List.append_nil]
              exact hws.fr f5 (by simp)
            | true =>
              refine iteT ?_
              refine ⟨_, rfl, Or.inl ⟨rfl, _, sqL h5m⟩, _, rfl, _, rfl, (by show 1 ≤ sizeLine; decide), fun pz hpz => ?_⟩
              have h6o := Eq.trans (upd_ne (o := HO.lst [lv G.L x]) (ne_of_none h5o hpz)) h5o
              have f6 : Fr [] H5 (upd H5 pz (.lst [lv G.L x])) := Fr.new hpz
              refine ⟨ao, pz, _, _, rfl, rfl, h6o, upd_same, ?_, fun pn hpn => ?_⟩
              · rw [List.length_map, sizeLine_eq]
                simp
                have : o.length ≤ 6 := by omega
                omega
              have f7 : Fr [] H5 (upd (upd H5 pz (.lst [lv G.L x])) pn (.lst (o.map (lv G.L) ++ [lv G.L x]))) := f6.trans (Fr.new hpn)
              have h7m := f7.keep _ _ h5m (by simp)
              have h7l := f7.keep _ _ h5l (by simp)
              refine ⟨pm, ws, _, rfl, rfl, h7m, by rw [sizeLine_eq]; omega, ?_⟩
              refine ⟨ws ++ [.ref pn], _, _, rfl, (f15.trans f7).mut hpm, ?_, upd_same, ?_⟩
              · rw [upd_ne (Ne.symm hmpl)]; exact h7l
              · rw [List.filter_cons, if_pos (by rw [hfr]), List.filter_nil, ← List.append_assoc]
                refine PySem.Paired.snoc (((hws.fr f5 (by simp)).fr f7 (by simp)).upd (by simp)) ?_
                have hnm : pn ≠ pm := (ne_of_none (f6.keep _ _ h5m (by simp)) hpn).symm
                refine ⟨pn, rfl, by simpa using hnm, ?_⟩
                rw [upd_ne hnm, List.map_append]
                exact upd_same
          · rintro τ' H4 ⟨ws, o7, o8, rfl, f4, h4l, h4m, hws⟩
            rw [List.length_map, List.take_length] at hws
            refine ⟨ws, _, _, _, _, rfl, f4, h4m, ?_⟩
            rw [htk, stepO_snoc]
            exact hws
      · rintro τ' H2 ⟨vs, o5, o6, o7, o8, rfl, f2, h2m, hvs⟩
        rw [← hol, List.take_length] at hvs
        refine ⟨_, rfl, ?_⟩
        exact ⟨pm, vs, _, _, _, _, _, _, rfl, f1.trans f2, f1.back hpm (by simp), h2m, hvs⟩
    · rintro τ' H1 ⟨p, us, o3, o4, o5, o6, o7, o8, rfl, f1, hpH, h1p, hos⟩
      exact ⟨_, rfl, q p us H1 f1 hpH h1p hos⟩
end
end QW
end
section
set_option Elab.async false
set_option linter.all false
set_option maxRecDepth 100000
set_option maxHeartbeats 8000000
/-! the law's best order -/
namespace QW
open PySem L2 QN Qw
abbrev sLBst : Stmt := topS 22
def spLBst (G : GC) : Sp := fun vs H Q _ => ∃ (R a : Addr) (bl : List Nat), vs = [.ref R, .ref a] ∧ LI G R H ∧ H a = some (.lst (bl.map (lv G.L))) ∧ bl.Nodup ∧ (∀ k ∈ bl, k < G.n) ∧
  ∀ p o H', Fr [] H H' → H' p = some (.lst (o.map (lv G.L))) → LE (stB G.adj) (srt bl) o → (∀ s, LE (stB G.adj) (srt bl) s → jumps (stB G.adj) o ≤ jumps (stB G.adj) s) → Q (.ref p) H'
section
variable {P : Program} {w : World} {K : PySem.W.Frag} {mg : Str → Option Value} {base : Heap}
theorem scLBst : FnScope ["_law_reach_here", "_law_block", "_law_best_here", "_law_order"] ["_law_reach_here", "_law_block"] (defScope sLBst) := ⟨rfl, rfl, rfl, by decide +kernel, rfl, by decide +kernel, by decide +kernel⟩
theorem ok_lbst {G : GC} {f fO fJ : Addr} {fd fdO fdJ : FuncData} (hwG : G.w = w) (F : Fun K "_law_best" "_law_best" sLBst f fd) (O : Kn P w K mg base "_law_orders" 3 fO fdO ["_law_reach_here", "_law_block"] (spLOrd G)) (J : Kn P w K mg base "_law_jumps" 3 fJ fdJ ["_law_reach_here", "_law_order"] (spLJmp G)) : FnOk P w K mg base CX0 4 f fd ["_law_reach_here", "_law_block"] (spLBst G) := by
  subst hwG
  refine F.ok scLBst (fun vs H Q E h => ?_) (fun cdv A outer s H vs Q E hr h => ?_)
  · obtain ⟨R, a, bl, rfl, _⟩ := h
    rfl
  · obtain ⟨R, a, bl, rfl, li, ha, hnd, hlt, q⟩ := h
    refine ⟨_, pss_cons (ps_set (i := 2) scLBst.nd rfl (Or.inl rfl) pe_non)
      (pss_cons (ps_for PassesOwn.never rfl (pi_list (pe_call O.ok hr rfl O.mg O.kp O.b .nil pass0 (pa_cons (pv 0) (pa_cons (pv 1) pa_nil)))) (pg_name (i := 3) scLBst.nd rfl (Or.inl rfl))
        (pss_one (ps_if (PW.pt (pw_or (pt_cmpR op_isN (pv 2) pe_non (nomark _)) (pw_or1 (pt_cmpR op_lt (pe_call J.ok hr rfl J.mg J.kp J.b .nil pass0 (pa_cons (pv 0) (pa_cons (pv 3) pa_nil))) (pe_call J.ok hr rfl J.mg J.kp J.b .nil pass0 (pa_cons (pv 0) (pa_cons (pv 2) pa_nil))) (nomark _)))))
          (pss_one (ps_set (i := 2) scLBst.nd rfl (Or.inl rfl) (pv 3))) pss_nil)))
      (pss_one (ps_ret (pv 2)))), ?_⟩
    have hsb : (srt bl).Nodup := srt_nodup hnd
    have hsl : ∀ k ∈ srt bl, k < G.n := fun k hk => hlt k (srt_mem.mp hk)
    refine ⟨_, rfl, _, rfl, R, a, bl, rfl, li, ha, hnd, hlt, fun p us H1 f1 hp h1p hos => ?_⟩
    have hlen : ordsN (stB G.adj) (srt bl) bl.length = ordsN (stB G.adj) (srt bl) (srt bl).length := by rw [srt_len]
    have hin : ∀ o, o ∈ ordsN (stB G.adj) (srt bl) bl.length ↔ LE (stB G.adj) (srt bl) o := fun o => by rw [hlen]; exact mem_ords hsb
    have hne : ordsN (stB G.adj) (srt bl) bl.length ≠ [] := by rw [hlen]; exact ords_ne (so_stB G.adj) hsb
    generalize ordsN (stB G.adj) (srt bl) bl.length = os at hos hin hne
    have hol := PySem.Paired.length hos
    have hoz : ∀ o ∈ os, (∀ k ∈ o, k < G.n) ∧ o.length ≤ 1000 := fun o ho => by
      have le := (hin o).mp ho
      have h1 : ∀ k ∈ o, k < G.n := fun k hk => hsl k ((le.mem k).mp hk)
      exact ⟨h1, by have := li.len le.nodup h1; omega⟩
    refine ⟨p, rfl, ⟨_, sqL h1p⟩, for_list (K := K) (a := p) (xs := us) (fun i τ' H' => ∃ o2 o3, τ' = [some (.ref R), some (.ref a), some o2, o3] ∧ Fr [] H1 H' ∧
        ((i = 0 ∧ o2 = .non) ∨ (∃ b o, o2 = .ref b ∧ o ∈ os ∧ H' b = some (.lst (o.map (lv G.L))) ∧ ∀ s ∈ os.take i, jumps (stB G.adj) o ≤ jumps (stB G.adj) s)))
      ⟨.non, none, rfl, Fr.refl _, Or.inl ⟨rfl, rfl⟩⟩ (fun i τ' H' _ ⟨_, _, _, f, _⟩ => sqL (f.keep _ _ h1p (by simp))) ?_ ?_⟩
    · rintro i y τ' H2 hi ⟨o2, o3, rfl, f2, hc⟩
      obtain ⟨o, ho, ao, rfl, _, h1o⟩ := hos.get hi
      have hom := List.mem_of_getElem? ho
      have htk : os.take (i + 1) = os.take i ++ [o] := by rw [List.take_add_one, ho]; rfl
      have h2o := f2.keep _ _ h1o (by simp)
      obtain ⟨z1, z2⟩ := hoz o hom
      refine ⟨_, rfl, rfl, _, rfl, ?_⟩
      rcases hc with ⟨rfl, rfl⟩ | ⟨b, ob, rfl, hob, h2b, hmin⟩
      · refine iteT (iteT ?_)
        refine ⟨_, rfl, _, _, rfl, f2, Or.inr ⟨ao, o, rfl, hom, h2o, fun s hs => ?_⟩⟩
        rw [htk] at hs
        have : s = o := by simpa using hs
        rw [this]
        exact Int.le_refl _
      · refine iteF ?_
        obtain ⟨y1, y2⟩ := hoz ob hob
        refine ⟨_, rfl, _, rfl, R, ao, o, rfl, (li.fr0 f1).fr0 f2, h2o, z1, z2, fun H3 f3 => ?_⟩
        refine ⟨_, rfl, _, rfl, R, b, ob, rfl, ((li.fr0 f1).fr0 f2).fr0 f3, f3.keep _ _ h2b (by simp), y1, y2, fun H4 f4 => ?_⟩
        refine ⟨_, _, rfl, rfl, _, rfl, ?_⟩
        have f24 := f3.trans f4
        by_cases hlt : jumps (stB G.adj) o < jumps (stB G.adj) ob
        · rw [decide_eq_true hlt]
          refine iteT ?_
          refine ⟨_, rfl, _, _, rfl, f2.trans f24, Or.inr ⟨ao, o, rfl, hom, f24.keep _ _ h2o (by simp), fun s hs => ?_⟩⟩
          rw [htk] at hs
          rcases List.mem_append.mp hs with hs | hs
          · have := hmin s hs
            omega
          · rw [List.mem_singleton.mp hs]
            exact Int.le_refl _
        · rw [decide_eq_false hlt]
          refine iteF ?_
          refine ⟨_, _, rfl, f2.trans f24, Or.inr ⟨b, ob, rfl, hob, f24.keep _ _ h2b (by simp), fun s hs => ?_⟩⟩
          rw [htk] at hs
          rcases List.mem_append.mp hs with hs | hs
          · exact hmin s hs
          · rw [List.mem_singleton.mp hs]
            omega
    · rintro τ' H2 ⟨o2, o3, rfl, f2, hc⟩
      rcases hc with ⟨h0, _⟩ | ⟨b, ob, rfl, hob, h2b, hmin⟩
      · exfalso
        exact hne (List.length_eq_zero_iff.mp (by rw [hol]; exact h0))
      · rw [← hol, List.take_length] at hmin
        refine ⟨_, rfl, q b ob H2 (f1.trans f2) h2b ((hin ob).mp hob) fun s hs => hmin s ((hin s).mpr hs)⟩
end
end QW
end
section
set_option Elab.async false
set_option linter.all false
set_option maxRecDepth 100000
set_option maxHeartbeats 2000000
/-! what the law finds among all orders: the same potentials -/
namespace QW
open PySem L2 QN Qw
theorem srt_pw (l : List Nat) : (srt l).Pairwise (· ≤ ·) := by
  have := List.pairwise_mergeSort (le := fun a b : Nat => decide (a ≤ b)) (fun a b c h1 h2 => by simp at *; omega) (fun a b => by simp; omega) l
  exact this.imp fun h => by simpa using h
theorem srt_eq {l m : List Nat} (hm : m.Pairwise (· ≤ ·)) (hn : m.Nodup) (hl : l.Nodup) (h : ∀ x, x ∈ l ↔ x ∈ m) : srt l = m := by
  refine List.Perm.eq_of_pairwise (le := fun a b : Nat => a ≤ b) (fun a b _ _ h1 h2 => Nat.le_antisymm h1 h2) (srt_pw l) hm ?_
  exact (srt_perm l).trans ((List.perm_ext_iff_of_nodup hl hn).mpr h)
/-- the events of one order -/
def evO (S : Nat → Nat → Bool) (o : List Nat) : List (KeyT × Int) := (List.range o.length).map fun k => ((srt (o.drop (k + 1)), o.getD k 0), jumps S (o.drop k))
/-- what a dict of the least of each key's events has -/
structure EV (evs : List (KeyT × Int)) (es : List MEnt) : Prop where
  nd : (keys es).Nodup
  mem : ∀ k, k ∈ keys es ↔ ∃ c, (k, c) ∈ evs
  val : ∀ e ∈ es, ∃ c, e.2.2 = .int c ∧ (e.1, c) ∈ evs ∧ ∀ c', (e.1, c') ∈ evs → c ≤ c'
theorem EV.nil : EV [] [] := ⟨List.nodup_nil, fun k => ⟨fun h => (nomatch h), fun ⟨c, h⟩ => (nomatch h)⟩, fun e h => (nomatch h)⟩
theorem EV.get {evs : List (KeyT × Int)} {es : List MEnt} (h : EV evs es) (k : KeyT) : (valM es k = none ∧ k ∉ keys es) ∨ ∃ c, valM es k = some (.int c) ∧ k ∈ keys es ∧ (k, c) ∈ evs ∧ ∀ c', (k, c') ∈ evs → c ≤ c' := by
  cases e : valM es k with
  | none => exact Or.inl ⟨rfl, valM_none.mp e⟩
  | some v =>
    obtain ⟨b, hb⟩ := valM_some e
    obtain ⟨c, h1, h2, h3⟩ := h.val _ hb
    have h1 : v = .int c := h1
    subst h1
    exact Or.inr ⟨c, rfl, List.mem_map.mpr ⟨_, hb, rfl⟩, h2, h3⟩
theorem EV.snoc {evs : List (KeyT × Int)} {es : List MEnt} {k : KeyT} {b : Addr} {n m : Int} (h : EV evs es) (hm : (m = n ∧ ∀ c', (k, c') ∈ evs → n ≤ c') ∨ ((k, m) ∈ evs ∧ m ≤ n ∧ ∀ c', (k, c') ∈ evs → m ≤ c')) : EV (evs ++ [(k, n)]) (putM es k b (.int m)) := by
  refine ⟨?_, fun k' => ?_, fun e he => ?_⟩
  · rw [keys_putM]
    split
    · exact h.nd
    · rename_i hk
      refine List.nodup_append.mpr ⟨h.nd, by simp, fun a ha c hc => ?_⟩
      rw [List.mem_singleton] at hc
      subst hc
      intro z
      subst z
      exact hk ha
  · rw [keys_putM]
    constructor
    · intro hk'
      have : k' ∈ keys es ∨ k' = k := by
        split at hk'
        · exact Or.inl hk'
        · rcases List.mem_append.mp hk' with z | z
          · exact Or.inl z
          · exact Or.inr (List.mem_singleton.mp z)
      rcases this with z | z
      · obtain ⟨c, hc⟩ := (h.mem k').mp z
        exact ⟨c, List.mem_append_left _ hc⟩
      · subst z
        exact ⟨n, by simp⟩
    · rintro ⟨c, hc⟩
      rcases List.mem_append.mp hc with hc | hc
      · have := (h.mem k').mpr ⟨c, hc⟩
        split
        · exact this
        · exact List.mem_append_left _ this
      · rw [List.mem_singleton] at hc
        cases hc
        split
        · assumption
        · simp
  · have key : (e.1 = k ∧ e.2.2 = .int m) ∨ (e.1 ≠ k ∧ e ∈ es) := by
      unfold putM at he
      split at he
      · obtain ⟨e', he', rfl⟩ := List.mem_map.mp he
        by_cases z : e'.1 = k
        · rw [if_pos z]
          exact Or.inl ⟨z, rfl⟩
        · rw [if_neg z]
          exact Or.inr ⟨z, he'⟩
      · rename_i hk
        rcases List.mem_append.mp he with he | he
        · refine Or.inr ⟨fun z => hk ?_, he⟩
          rw [← z]
          exact List.mem_map.mpr ⟨e, he, rfl⟩
        · rw [List.mem_singleton] at he
          subst he
          exact Or.inl ⟨rfl, rfl⟩
    rcases key with ⟨z1, z2⟩ | ⟨z1, z2⟩
    · refine ⟨m, z2, ?_, fun c' hc' => ?_⟩
      · rw [z1]
        rcases hm with ⟨rfl, _⟩ | ⟨hm, _, _⟩
        · simp
        · exact List.mem_append_left _ hm
      · rw [z1] at hc'
        rcases List.mem_append.mp hc' with hd | hd
        · rcases hm with ⟨em, hm⟩ | ⟨_, _, hm⟩
          · rw [em]
            exact hm c' hd
          · exact hm c' hd
        · rw [List.mem_singleton] at hd
          cases hd
          rcases hm with ⟨em, _⟩ | ⟨_, hm, _⟩
          · rw [em]
            exact Int.le_refl _
          · exact hm
    · obtain ⟨c, h1, h2, h3⟩ := h.val e z2
      refine ⟨c, h1, List.mem_append_left _ h2, fun c' hc' => ?_⟩
      rcases List.mem_append.mp hc' with hc' | hc'
      · exact h3 c' hc'
      · rw [List.mem_singleton] at hc'
        injection hc' with e1 e2
        exact absurd e1 z1
section
variable {S : Nat → Nat → Bool} {sb : List Nat}
theorem ev_fwd (hs : sb.Pairwise (· ≤ ·)) (hn : sb.Nodup) {o : List Nat} (ho : LE S sb o) {k : Nat} (hk : k < o.length) :
    KR S sb (srt (o.drop (k + 1)), o.getD k 0) ∧ LE S (srt (o.drop (k + 1))) (o.drop (k + 1)) ∧ jumps S (o.drop k) = jl S (o.getD k 0) (o.drop (k + 1)) := by
  have e1 : o.drop k = o.getD k 0 :: o.drop (k + 1) := by
    rw [List.drop_eq_getElem_cons hk]
    simp [List.getD, hk]
  have h1 := LE_iff.mp ho
  rw [← List.take_append_drop k o, e1] at h1
  obtain ⟨rest, h2, h3⟩ := Pre.split h1
  obtain ⟨h4, h5⟩ := h3
  have h6 : LE S (rm rest (o.getD k 0)) (o.drop (k + 1)) := LE_iff.mpr h5
  have hsub : (rm rest (o.getD k 0)).Sublist sb := List.Sublist.trans List.filter_sublist h2.sublist
  have e2 : srt (o.drop (k + 1)) = rm rest (o.getD k 0) := srt_eq (hs.sublist hsub) (hsub.nodup hn) h6.nodup fun x => h6.mem x
  rw [e2, e1]
  exact ⟨⟨_, rest, h2, h4, rfl⟩, h6, rfl⟩
theorem ev_bwd (hs : sb.Pairwise (· ≤ ·)) (hn : sb.Nodup) {key : KeyT} (hk : KR S sb key) {s : List Nat} (h : LE S key.1 s) : ∃ o, LE S sb o ∧ (key, jl S key.2 s) ∈ evO S o := by
  obtain ⟨left, last⟩ := key
  obtain ⟨p, rest, h1, h2, h3⟩ := hk
  have h3 : left = rm rest last := h3
  have hsub : left.Sublist sb := by rw [h3]; exact List.Sublist.trans List.filter_sublist h1.sublist
  refine ⟨p ++ last :: s, LE_iff.mpr (h1.append ⟨h2, by rw [← h3]; exact LE_iff.mp h⟩), List.mem_map.mpr ⟨p.length, List.mem_range.mpr (by simp), ?_⟩⟩
  have e1 : (p ++ last :: s).drop (p.length + 1) = s := by
    rw [List.drop_append, List.drop_eq_nil_of_le (by omega)]
    simp
  have e2 : (p ++ last :: s).getD p.length 0 = last := by simp [List.getD]
  have e3 : (p ++ last :: s).drop p.length = last :: s := by simp
  rw [e1, e2, e3, srt_eq (m := left) (hs.sublist hsub) (hsub.nodup hn) h.nodup fun x => h.mem x]
  rfl
/-- all events: the reached keys, each with the fewest -/
theorem ev_all (so : SO S) (hs : sb.Pairwise (· ≤ ·)) (hn : sb.Nodup) {os : List (List Nat)} (ho : ∀ o, o ∈ os ↔ LE S sb o) {es : List MEnt} (h : EV (os.flatMap (evO S)) es) : Pots S sb (keys es) ∧ ∀ e ∈ es, e.2.2 = .int (fw S e.1.1 e.1.2) := by
  have ev : ∀ k c, (k, c) ∈ os.flatMap (evO S) → KR S sb k ∧ ∃ s, LE S k.1 s ∧ c = jl S k.2 s := by
    intro k c hk
    obtain ⟨o, h1, h2⟩ := List.mem_flatMap.mp hk
    obtain ⟨i, h3, h4⟩ := List.mem_map.mp h2
    rw [List.mem_range] at h3
    obtain ⟨g1, g2, g3⟩ := ev_fwd hs hn ((ho o).mp h1) h3
    cases h4
    exact ⟨g1, _, g2, g3⟩
  have vb : ∀ k, KR S sb k → ∀ s, LE S k.1 s → (k, jl S k.2 s) ∈ os.flatMap (evO S) := by
    intro k hk s hs'
    obtain ⟨o, h1, h2⟩ := ev_bwd hs hn hk hs'
    exact List.mem_flatMap.mpr ⟨o, (ho o).mpr h1, h2⟩
  refine ⟨⟨h.nd, fun k => ?_⟩, fun e he => ?_⟩
  · rw [h.mem]
    constructor
    · rintro ⟨c, hc⟩
      exact (ev k c hc).1
    · intro hk
      obtain ⟨s, h1, _⟩ := fw_att so k.1.length k.1 k.2 rfl (hk.sub.nodup hn)
      exact ⟨_, vb k hk s h1⟩
  · obtain ⟨c, h1, h2, h3⟩ := h.val e he
    obtain ⟨g1, s, g2, g3⟩ := ev _ _ h2
    obtain ⟨s2, g4, g5⟩ := fw_att so e.1.1.length e.1.1 e.1.2 rfl (g1.sub.nodup hn)
    have h4 := h3 _ (vb e.1 g1 s2 g4)
    have h5 := fw_le s e.1.1 e.1.2 (g1.sub.nodup hn) g2
    rw [h1]
    congr 1
    omega
end
end QW
end
section
set_option Elab.async false
set_option linter.all false
set_option maxRecDepth 100000
set_option maxHeartbeats 8000000
/-! the law's potentials -/
namespace QW
open PySem L2 QN Qw
theorem cut_lv {val : Nat → V} (o : List Nat) (k : Nat) : cutV (o.map val) (some (k : Int)) none = (o.drop k).map val := by
  unfold cutV
  rw [HT.sIx_nat, HT.sIx_none, List.length_map, ← List.map_drop, ← List.map_take]
  congr 1
  by_cases h : k ≤ o.length
  · rw [Nat.min_eq_left h, List.take_of_length_le (by rw [List.length_drop]; omega)]
  · rw [Nat.min_eq_right (by omega), List.drop_eq_nil_of_le (Nat.le_refl _), List.drop_eq_nil_of_le (by omega)]
    simp
theorem evO_take {S : Nat → Nat → Bool} {o : List Nat} {k : Nat} (hk : k < o.length) : (evO S o).take (k + 1) = (evO S o).take k ++ [((srt (o.drop (k + 1)), o.getD k 0), jumps S (o.drop k))] := by
  rw [List.take_add_one]
  congr 1
  unfold evO
  rw [List.getElem?_map, List.getElem?_range hk]
  rfl
theorem evO_len {S : Nat → Nat → Bool} {o : List Nat} : (evO S o).length = o.length := by simp [evO]
theorem ev_few {S : Nat → Nat → Bool} {sb : List Nat} (hs : sb.Pairwise (· ≤ ·)) (hn : sb.Nodup) (h6 : sb.length ≤ 6) {os : List (List Nat)} (ho : ∀ o ∈ os, LE S sb o) {evs : List (KeyT × Int)} {es : List MEnt} (h : EV evs es) (hev : ∀ e ∈ evs, e ∈ os.flatMap (evO S)) : es.length ≤ 384 := by
  have := keys_len6 (S := S) (sb := sb) h.nd (fun k hk => by
    obtain ⟨c, hc⟩ := (h.mem k).mp hk
    obtain ⟨o, h1, h2⟩ := List.mem_flatMap.mp (hev _ hc)
    obtain ⟨i, h3, h4⟩ := List.mem_map.mp h2
    rw [List.mem_range] at h3
    cases h4
    exact (ev_fwd hs hn (ho o h1) h3).1) h6
  rwa [keys, List.length_map] at this
abbrev sLPot : Stmt := topS 23
def spLPot (G : GC) : Sp := fun vs H Q _ => ∃ (R a : Addr) (bl : List Nat), vs = [.ref R, .ref a] ∧ LI G R H ∧ H a = some (.lst (bl.map (lv G.L))) ∧ bl.Nodup ∧ (∀ k ∈ bl, k < G.n) ∧
  ∀ p H' ks us, Fr [] H H' → Pots (stB G.adj) (srt bl) ks → H' p = some (.lst us) → RowsIn [p] H' G.L (potR (stB G.adj) ks) us → Q (.ref p) H'
section
variable {P : Program} {w : World} {K : PySem.W.Frag} {mg : Str → Option Value} {base : Heap}
theorem scLPot : FnScope ["_law_reach_here", "_law_block", "_law_found", "_law_order", "_law_k", "_law_key", "_law_count", "_law_left", "_law_last"] ["_law_reach_here", "_law_block"] (defScope sLPot) := ⟨rfl, rfl, rfl, by decide +kernel, rfl, by decide +kernel, by decide +kernel⟩
theorem ok_lpot {G : GC} {f fO fJ : Addr} {fd fdO fdJ : FuncData} (hwG : G.w = w) (F : Fun K "_law_potentials" "_law_potentials" sLPot f fd) (B : Bi mg) (O : Kn P w K mg base "_law_orders" 3 fO fdO ["_law_reach_here", "_law_block"] (spLOrd G)) (J : Kn P w K mg base "_law_jumps" 3 fJ fdJ ["_law_reach_here", "_law_order"] (spLJmp G)) : FnOk P w K mg base CX0 4 f fd ["_law_reach_here", "_law_block"] (spLPot G) := by
  subst hwG
  refine F.ok scLPot (fun vs H Q E h => ?_) (fun cdv A outer s H vs Q E hr h => ?_)
  · obtain ⟨R, a, bl, rfl, _⟩ := h
    rfl
  · obtain ⟨R, a, bl, rfl, li, ha, hnd, hlt, q⟩ := h
    have hu := hr.units
    refine ⟨_, pss_cons (ps_set (i := 2) scLPot.nd rfl (Or.inr rfl) pe_nnew)
      (pss_cons (ps_for PassesOwn.never rfl (pi_list (pe_call O.ok hr rfl O.mg O.kp O.b .nil pass0 (pa_cons (pv 0) (pa_cons (pv 1) pa_nil)))) (pg_name (i := 3) scLPot.nd rfl (Or.inl rfl))
        (pss_one (ps_for PassesOwn.never rfl (pi_range1 rfl B.range (pa_cons (pe_len B.len rfl (pv 3)) pa_nil)) (pg_name (i := 4) scLPot.nd rfl (Or.inl rfl))
          (pss_cons (ps_set (i := 5) scLPot.nd rfl (Or.inl rfl) (pe_tup (pa_cons (pe_callTy call_tuple_of (by rfl) B.tuple PyProof.Rows.boot_tuple (pa_cons
              (pe_callB (call_srt G.L G.n hu) (by rfl) B.sorted PyProof.Rows.boot_sorted (pa_cons (pe_slice sl_list (pv 3) (po_some (pe_op op_add (pv 4) pe_int)) po_none) pa_nil)) pa_nil)) (pa_cons (pe_ix ix_list (pv 3) (pv 4) (fun _ _ => rfl)) pa_nil))))
          (pss_cons (ps_set (i := 6) scLPot.nd rfl (Or.inl rfl) (pe_call J.ok hr rfl J.mg J.kp J.b .nil pass0 (pa_cons (pv 0) (pa_cons (pe_slice sl_list (pv 3) (po_some (pv 4)) po_none) pa_nil))))
          (pss_one (ps_asg (pe_callB (call_min2 rfl) (by rfl) B.min PyProof.Rows.boot_min (pa_cons (pv 6) (pa_cons (pe_nget2 hu (pv 2) (pv 5) (pv 6) ⟨rfl, rfl, rfl, rfl⟩) pa_nil))) (pg_sub (pv 2) (pv 5) (set_n hu)))))))))
      (pss_one (ps_ret (pe_lc (own := [("_law_left", 7), ("_law_last", 8)]) (g := gTup K 2 (gCons (gName 7) (gCons (gName 8) gNil)))
        (te := tTup (tCons (tCB (rListOf K) (tCons (tVar 7) tNil)) (tCons (tVar 8) (tCons (tOp (rGetN G.w) (tVar 2) (tTup (tCons (tVar 7) (tCons (tVar 8) tNil)))) tNil))))
        rfl scLPot.nd (pi_list (pe_callB (call_sortedN keyN hu rfl) (by rfl) B.sorted PyProof.Rows.boot_sorted (pa_cons (pv 2) pa_nil))) (blkOk_by (by rfl))
        (fun _ _ _ _ _ => pg_tup rfl (pgs_cons (pg_name (i := 7) scLPot.nd rfl (Or.inl rfl)) (pgs_cons (pg_name (i := 8) scLPot.nd rfl (Or.inl rfl)) pgs_nil)))
        (fun _ _ _ _ _ => pts_nil)
        (fun _ _ _ _ _ => pe_tup (pa_cons (pe_callTy call_list_of (by rfl) B.list PyProof.Rows.boot_list (pa_cons (pv 7) pa_nil)) (pa_cons (pv 8) (pa_cons (pe_nget hu (pv 2) (pe_tup (pa_cons (pv 7) (pa_cons (pv 8) pa_nil))) (fun _ _ => rfl)) pa_nil)))))))), ?_⟩
    have hsb : (srt bl).Nodup := srt_nodup hnd
    have hpw : (srt bl).Pairwise (· ≤ ·) := srt_pw bl
    have hsl : ∀ k ∈ srt bl, k < G.n := fun k hk => hlt k (srt_mem.mp hk)
    have h6 : (srt bl).length ≤ 6 := li.len hsb hsl
    intro D hD
    have f0 : Fr [] H (upd H D (dN G.w D [])) := Fr.new hD
    refine ⟨_, rfl, _, rfl, R, a, bl, rfl, li.fr0 f0, f0.keep _ _ ha (by simp), hnd, hlt, fun p us H1 f1 hp h1p hos => ?_⟩
    have h1D := f1.keep _ _ (show (upd H D (dN G.w D [])) D = some (dN G.w D []) from upd_same) (by simp)
    have f01 := f0.trans f1
    have li1 := li.fr0 f01
    have hlen : ordsN (stB G.adj) (srt bl) bl.length = ordsN (stB G.adj) (srt bl) (srt bl).length := by rw [srt_len]
    have hin : ∀ o, o ∈ ordsN (stB G.adj) (srt bl) bl.length ↔ LE (stB G.adj) (srt bl) o := fun o => by rw [hlen]; exact mem_ords hsb
    generalize ordsN (stB G.adj) (srt bl) bl.length = os at hos hin
    have hol := PySem.Paired.length hos
    have hoz : ∀ o ∈ os, (∀ k ∈ o, k < G.n) ∧ o.length ≤ 6 := fun o ho => by
      have le := (hin o).mp ho
      have h1 : ∀ k ∈ o, k < G.n := fun k hk => hsl k ((le.mem k).mp hk)
      exact ⟨h1, li.len le.nodup h1⟩
    have lD : ∀ {b : Addr} {xs : List V}, H1 b = some (.lst xs) → b ∉ [D] := fun hb => by
      rw [List.mem_singleton]
      exact ne_of hb h1D (by intro z; cases z)
    have base0 : ∀ {H'}, Fr [D] H1 H' → Fr [] H H' := fun f => fr_drop f01 f (Or.inl hD)
    refine ⟨p, rfl, ⟨_, sqL h1p⟩, for_list (K := K) (a := p) (xs := us) (fun i τ' H' => ∃ es o3 o4 o5 o6 o7 o8, τ' = [some (.ref R), some (.ref a), some (.ref D), o3, o4, o5, o6, o7, o8] ∧ Fr [D] H1 H' ∧ H' D = some (dM G.w D es) ∧ MAll H' G.L G.n es ∧ EV ((os.take i).flatMap (evO (stB G.adj))) es)
      ⟨[], none, none, none, none, none, none, rfl, Fr.refl _, h1D, ⟨fun e h => (nomatch h), fun e h => (nomatch h), fun e h => (nomatch h)⟩, EV.nil⟩ (fun i τ' H' _ ⟨_, _, _, _, _, _, _, _, f, _⟩ => sqL (f.keep _ _ h1p (lD h1p))) ?_ ?_⟩
    · rintro i y τ' H2 hi ⟨es, o3, o4, o5, o6, o7, o8, rfl, f2, h2D, ma, ev⟩
      obtain ⟨o, ho, ao, rfl, _, h1o⟩ := hos.get hi
      have hom := List.mem_of_getElem? ho
      obtain ⟨hon, ho6⟩ := hoz o hom
      have htk : os.take (i + 1) = os.take i ++ [o] := by rw [List.take_add_one, ho]; rfl
      have h2o := f2.keep _ _ h1o (lD h1o)
      refine ⟨_, rfl, ao, _, rfl, Or.inl (sqL h2o), _, rfl, by omega, by rw [List.length_map]; omega, ?_⟩
      rw [List.length_map, show (((o.length : Nat) : Int)).toNat = o.length by omega]
      refine for_range (lo := 0) (n := o.length) (fun k τ' H' => ∃ es o4 o5 o6 o7 o8, τ' = [some (.ref R), some (.ref a), some (.ref D), some (.ref ao), o4, o5, o6, o7, o8] ∧ Fr [D] H1 H' ∧ H' D = some (dM G.w D es) ∧ MAll H' G.L G.n es ∧ EV ((os.take i).flatMap (evO (stB G.adj)) ++ (evO (stB G.adj) o).take k) es)
        ⟨es, _, _, _, _, _, rfl, f2, h2D, ma, by simpa using ev⟩ ?_ ?_
      · rintro k τ' H3 hk ⟨es, o4, o5, o6, o7, o8, rfl, f3, h3D, ma, ev⟩
        rw [show (0 : Int) + (k : Int) = (k : Int) by omega]
        have h3o := f3.keep _ _ h1o (lD h1o)
        have g1 : o.getD k 0 < G.n := hon _ (by rw [List.getD, List.getElem?_eq_getElem hk]; exact List.getElem_mem hk)
        have hdr : ∀ m, ∀ x ∈ o.drop m, x < G.n := fun m x hx => hon x (List.mem_of_mem_drop hx)
        have li3 := li.fr0 (base0 f3)
        -- the key
        refine ⟨_, rfl, _, rfl, _, _, rfl, rfl, _, rfl, ao, _, rfl, sqL h3o, fun ps hps => ?_⟩
        rw [show ((k : Int) + 1) = ((k + 1 : Nat) : Int) by omega, cut_lv]
        have f4 : Fr [] H3 (upd H3 ps (.lst ((o.drop (k + 1)).map (lv G.L)))) := Fr.new hps
        refine ⟨ps, o.drop (k + 1), rfl, sqL upd_same, hdr _, (li3.fr0 f4).lw, fun pt hpt => ?_⟩
        have f5 := f4.trans (Fr.new (D := []) (o := HO.lst ((srt (o.drop (k + 1))).map (lv G.L))) hpt)
        have h5t : (upd (upd H3 ps (.lst ((o.drop (k + 1)).map (lv G.L)))) pt (.lst ((srt (o.drop (k + 1))).map (lv G.L)))) pt = _ := upd_same
        generalize upd (upd H3 ps (.lst ((o.drop (k + 1)).map (lv G.L)))) pt (.lst ((srt (o.drop (k + 1))).map (lv G.L))) = H5 at f5 h5t
        refine ⟨pt, _, rfl, Or.inl ⟨sqL h5t, fun T hT => ?_⟩⟩
        have f6 := f5.trans (Fr.new (D := []) (o := HO.tup ((srt (o.drop (k + 1))).map (lv G.L))) hT)
        have h6o := f6.keep _ _ h3o (by simp)
        refine ⟨_, rfl, _, rfl, ao, _, _, _, rfl, rfl, sqL h6o, atI_nat (at_lv hk), (by show 2 ≤ sizeLine; decide), fun b hb => ?_⟩
        have f7 := f6.trans (Fr.new (D := []) (o := HO.tup [.ref T, lv G.L (o.getD k 0)]) hb)
        have kat : KAt (upd (upd H5 T (.tup ((srt (o.drop (k + 1))).map (lv G.L)))) b (.tup [.ref T, lv G.L (o.getD k 0)])) G.L (srt (o.drop (k + 1)), o.getD k 0) b := ⟨T, upd_same, by rw [upd_ne (ne_of_none (o := HO.tup ((srt (o.drop (k + 1))).map (lv G.L))) upd_same hb)]; exact upd_same⟩
        generalize upd (upd H5 T (.tup ((srt (o.drop (k + 1))).map (lv G.L)))) b (.tup [.ref T, lv G.L (o.getD k 0)]) = H7 at f7 kat
        have h7o := f7.keep _ _ h3o (by simp)
        -- the count
        refine ⟨_, rfl, _, rfl, _, rfl, _, rfl, ao, _, rfl, sqL h7o, fun pz hpz => ?_⟩
        rw [cut_lv]
        have f8 := f7.trans (Fr.new (D := []) (o := HO.lst ((o.drop k).map (lv G.L))) hpz)
        have kat8 := kat.mono (Fr.new (D := []) (o := HO.lst ((o.drop k).map (lv G.L))) hpz).tk
        refine ⟨R, pz, o.drop k, rfl, li3.fr0 f8, upd_same, hdr _, by rw [List.length_drop]; omega, fun H9 f9 => ?_⟩
        have f39 := f8.trans f9
        have kat9 := kat8.mono f9.tk
        have h9D := f39.keep _ _ h3D (by simp)
        have ma9 := ma.mono f39.tk
        have li9 := li3.fr0 f39
        have hk1 : ∀ x ∈ srt (o.drop (k + 1)), x < G.n := fun x hx => hdr _ x (srt_mem.mp hx)
        have get9 := ma9.get (w := G.w) (d := D) li9.lw (Or.inl h9D) (k := (srt (o.drop (k + 1)), o.getD k 0)) kat9 hk1 g1
        -- found[key] = min(count, found.get(key, count))
        have hf9 : Fr [D] H1 H9 := f3.trans (f39.mono (by simp))
        have hes : es.length ≤ 384 := ev_few hpw hsb h6 (os := os) (fun o ho => (hin o).mp ho) ev fun e he => by
          rcases List.mem_append.mp he with he | he
          · obtain ⟨o', h1, h2⟩ := List.mem_flatMap.mp he
            exact List.mem_flatMap.mpr ⟨o', List.mem_of_mem_take h1, h2⟩
          · exact List.mem_flatMap.mpr ⟨o, hom, List.mem_of_mem_take he⟩
        have put : ∀ m : Int, ((m = jumps (stB G.adj) (o.drop k) ∧ ∀ c', ((srt (o.drop (k + 1)), o.getD k 0), c') ∈ (os.take i).flatMap (evO (stB G.adj)) ++ (evO (stB G.adj) o).take k → jumps (stB G.adj) (o.drop k) ≤ c') ∨
            (((srt (o.drop (k + 1)), o.getD k 0), m) ∈ (os.take i).flatMap (evO (stB G.adj)) ++ (evO (stB G.adj) o).take k ∧ m ≤ jumps (stB G.adj) (o.drop k) ∧ ∀ c', ((srt (o.drop (k + 1)), o.getD k 0), c') ∈ (os.take i).flatMap (evO (stB G.adj)) ++ (evO (stB G.adj) o).take k → m ≤ c')) →
            rNPut G.w (.ref D) (.ref b) (.int m) H9 (fun H' => ∃ es' o4 o5 o6 o7' o8', ([some (.ref R), some (.ref a), some (.ref D), some (.ref ao), some (.int (k : Int)), some (.ref b), some (.int (jumps (stB G.adj) (o.drop k))), o7, o8] : L2.St) = [some (.ref R), some (.ref a), some (.ref D), some (.ref ao), o4, o5, o6, o7', o8'] ∧
              Fr [D] H1 H' ∧ H' D = some (dM G.w D es') ∧ MAll H' G.L G.n es' ∧ EV ((os.take i).flatMap (evO (stB G.adj)) ++ (evO (stB G.adj) o).take (k + 1)) es') := by
          intro m hm
          refine ⟨D, _, keyN (srt (o.drop (k + 1)), o.getD k 0), b, rfl, rfl, h9D, ma9.kall li9.lw, kat9.kp li9.lw hk1 g1, keyN_depth _, by rw [List.length_map, sizeLine_eq]; omega, ?_⟩
          rw [putN_putM]
          have ntp : ∀ vs, H9 D ≠ some (.tup vs) := ntup h9D (by intro vs z; cases z)
          have tk : TKeep H9 (upd H9 D (dM G.w D (putM es (srt (o.drop (k + 1)), o.getD k 0) b (.int m)))) := fun c vs e => by
            rw [upd_ne (fun z => ntp vs (by rw [← z]; exact e))]
            exact e
          refine ⟨_, _, _, _, _, _, rfl, hf9.mutD (by simp) ntp, upd_same, (ma9.putRow kat9 hk1 g1).mono tk, ?_⟩
          rw [evO_take hk, ← List.append_assoc]
          exact ev.snoc hm
        refine ⟨_, rfl, _, rfl, ⟨D, _, rfl, Or.inl h9D, ma9.kall li9.lw⟩, _, rfl, _, rfl, _, get9, ?_⟩
        rcases ev.get (srt (o.drop (k + 1)), o.getD k 0) with ⟨e1, e2⟩ | ⟨c, e1, e2, e3, e4⟩
        · rw [e1]
          refine ⟨_, _, rfl, ?_⟩
          rw [if_neg (by omega)]
          refine ⟨_, rfl, _, rfl, put _ (Or.inl ⟨rfl, fun c' hc' => ?_⟩)⟩
          exact absurd ((ev.mem _).mpr ⟨c', hc'⟩) e2
        · rw [e1]
          refine ⟨_, _, rfl, ?_⟩
          by_cases hc : c < jumps (stB G.adj) (o.drop k)
          · rw [if_pos hc]
            exact ⟨_, rfl, _, rfl, put _ (Or.inr ⟨e3, by omega, e4⟩)⟩
          · rw [if_neg hc]
            exact ⟨_, rfl, _, rfl, put _ (Or.inl ⟨rfl, fun c' hc' => by have := e4 c' hc'; omega⟩)⟩
      · rintro τ' H3 ⟨es, o4, o5, o6, o7, o8, rfl, f3, h3D, ma, ev⟩
        refine ⟨es, _, _, _, _, _, _, rfl, f3, h3D, ma, ?_⟩
        rw [List.take_of_length_le (l := evO (stB G.adj) o) (by rw [evO_len]; exact Nat.le_refl _)] at ev
        rw [htk, List.flatMap_append]
        simpa using ev
    · rintro τ' H2 ⟨es, o3, o4, o5, o6, o7, o8, rfl, f2, h2D, ma, ev⟩
      rw [← hol, List.take_length] at ev
      obtain ⟨hP, hval⟩ := ev_all (so_stB G.adj) hpw hsb hin ev
      have li2 := li.fr0 (base0 f2)
      have hes : es.length ≤ 384 := ev_few hpw hsb h6 (os := os) (fun o ho => (hin o).mp ho) ev fun e he => he
      have hvm : ∀ e ∈ es, valM es e.1 = some (.int (fw (stB G.adj) e.1.1 e.1.2)) := by
        intro e he
        cases z : valM es e.1 with
        | none => exact absurd (List.mem_map.mpr ⟨e, he, rfl⟩) (valM_none.mp z)
        | some v =>
          obtain ⟨b, hb⟩ := valM_some z
          have := hval _ hb
          rw [show v = _ from this]
      refine ⟨_, rfl, D, _, es.map (fun e => (e.1, e.2.1)), rfl, Or.inl h2D, ?_, ?_, fun ps hps => ?_⟩
      · rw [List.map_map, List.map_map]
        rfl
      · exact {
          dp := fun b hb => by
            obtain ⟨e, he, rfl⟩ := List.mem_map.mp hb
            exact ((ma.at_ e he).kp li2.lw (ma.lt1 e he) (ma.lt2 e he)).dp
          alike := by
            refine PySem.W.AllAlike.of (enc := fun b : KeyT × Addr => (keyN b.1).data) fun b b' => ?_
            rw [keyN_data, keyN_data]
            exact md_alike _ _
          sortable := PySem.W.Sortable.tuples (enc := fun b : KeyT × Addr => (keyN b.1).data) fun b => ⟨_, _, keyN_data _⟩
          depth := fun b _ => by
            rw [keyN_data]
            have := md_depth b.1
            omega }
      · generalize hbs : (es.map fun e => (e.1, e.2.1)).mergeSort (PySem.W.dataLe false fun b => (keyN b.1).data) = bs at hps ⊢
        have hfst : bs.map (·.1) = srtK (keys es) := by
          rw [← hbs, srtK_pairs, List.map_map]
          rfl
        have hinb : ∀ b ∈ bs, ∃ e ∈ es, b = (e.1, e.2.1) := by
          intro b hb
          rw [← hbs] at hb
          obtain ⟨e, he, e2⟩ := List.mem_map.mp ((List.mergeSort_perm _ _).mem_iff.mp hb)
          exact ⟨e, he, e2.symm⟩
        have hbl : bs.length ≤ 384 := by
          rw [← hbs, List.length_mergeSort, List.length_map]
          exact hes
        have f3 : Fr [] H2 (upd H2 ps (.lst (bs.map fun b => V.ref b.2))) := Fr.new hps
        have h3s : (upd H2 ps (.lst (bs.map fun b => V.ref b.2))) ps = some (.lst (bs.map fun b => V.ref b.2)) := upd_same
        generalize upd H2 ps (.lst (bs.map fun b => V.ref b.2)) = H3 at f3 h3s
        refine ⟨ps, rfl, ⟨_, sqL h3s⟩, fun C hC => ?_⟩
        refine lc_list (xs := bs.map fun b => V.ref b.2) (fun i H' => Fr [] H3 H' ∧ ∃ vs, H' C = some (.lst vs) ∧ vs.length ≤ i ∧ RowsIn [C] H' G.L (rowsOf (stB G.adj) ((bs.take i).map (·.1))) vs)
          ⟨Fr.new hC, [], upd_same, Nat.le_refl _, .nil⟩ (fun i H' _ p => sqL (p.1.keep _ _ h3s (by simp))) (fun i y H5 hi p => ?_) (fun H5 p => ?_)
        · obtain ⟨f5, vs, h5C, hvl, hrs⟩ := p
          rw [List.getElem?_map] at hi
          obtain ⟨b, hb, rfl⟩ := Option.map_eq_some_iff.mp hi
          have hbi : i < bs.length := (List.getElem?_eq_some_iff.mp hb).1
          obtain ⟨e, he, rfl⟩ := hinb b (List.mem_of_getElem? hb)
          have htk : bs.take (i + 1) = bs.take i ++ [(e.1, e.2.1)] := by rw [List.take_add_one, hb]; rfl
          have f25 := f3.trans f5
          obtain ⟨Ta, k10, k20⟩ := ma.at_ e he
          have k1 := f25.tk _ _ k10
          have k2 := f25.tk _ _ k20
          have hl1 := ma.lt1 e he
          have hl2 := ma.lt2 e he
          refine ⟨e.2.1, _, rfl, sqT k1, rfl, _, _, rfl, _, _, rfl, rfl, rfl, ?_⟩
          dsimp only [tYes]
          rw [if_pos rfl]
          refine ⟨_, rfl, Ta, _, rfl, Or.inr (sqT k2), fun l hl => ?_⟩
          have f6 : Fr [] H5 (upd H5 l (.lst (e.1.1.map (lv G.L)))) := Fr.new hl
          have nlC : l ≠ C := (ne_of_none h5C hl).symm
          have h6l : upd H5 l (HO.lst (e.1.1.map (lv G.L))) l = _ := upd_same
          generalize upd H5 l (HO.lst (e.1.1.map (lv G.L))) = H6 at f6 h6l
          refine ⟨_, rfl, _, rfl, _, rfl, _, rfl, (by show 2 ≤ sizeLine; decide), fun p7 hp7 => ?_⟩
          have f7 := f6.trans (Fr.new (D := []) (o := HO.tup [.ref Ta, lv G.L e.1.2]) hp7)
          have h7l := Eq.trans (upd_ne (o := HO.tup [.ref Ta, lv G.L e.1.2]) (ne_of_none h6l hp7)) h6l
          have f27 := f25.trans f7
          have ma7 := ma.mono f27.tk
          have hget := ma7.get (w := G.w) (d := D) (li2.fr0 f27).lw (Or.inl (f27.keep _ _ h2D (by simp))) (k := e.1) (b := p7) ⟨Ta, upd_same, f7.tk _ _ k2⟩ hl1 hl2
          rw [hvm e he] at hget
          refine ⟨_, hget, (by show 3 ≤ sizeLine; decide), fun p8 hp8 => ?_⟩
          have f8 := f7.trans (Fr.new (D := []) (o := HO.tup [.ref l, lv G.L e.1.2, .int (fw (stB G.adj) e.1.1 e.1.2)]) hp8)
          have h8l := Eq.trans (upd_ne (o := HO.tup [.ref l, lv G.L e.1.2, .int (fw (stB G.adj) e.1.1 e.1.2)]) (ne_of_none h7l hp8)) h7l
          have h8C := f8.keep _ _ h5C (by simp)
          refine ⟨vs, h8C, by rw [sizeLine_eq]; omega, ?_⟩
          refine ⟨(f5.trans f8).mut hC, vs ++ [.ref p8], upd_same, by rw [List.length_append]; simp; omega, ?_⟩
          rw [htk, List.map_append]
          show RowsIn _ _ _ (rowsOf (stB G.adj) ((bs.take i).map (·.1) ++ [e.1])) _
          rw [rowsOf_snoc]
          refine PySem.Paired.snoc ((hrs.fr f8 (by simp)).upd (by simp) (by simp [h8C])) ?_
          refine ⟨p8, l, rfl, by simpa using nlC, ?_, ?_⟩
          · rw [upd_ne (ne_of upd_same h8C (by intro z; cases z))]
            exact upd_same
          · rw [upd_ne nlC]
            exact h8l
        · obtain ⟨f5, vs, h5C, hvl, hrs⟩ := p
          rw [List.length_map, List.take_length, hfst] at hrs
          exact q C H5 (keys es) vs ((base0 f2).trans (f3.trans f5)) hP h5C hrs
end
end QW
end
section
set_option Elab.async false
set_option linter.all false
set_option maxRecDepth 100000
set_option maxHeartbeats 8000000
/-! the law's own test of potentials -/
namespace QW
open PySem L2 QN Qw
abbrev ORow := List Nat × Option Nat × Int
def lastV (L : Nat → Addr) : Option Nat → V
  | none => .non
  | some k => lv L k
def ORowA (H : Hp) (L : Nat → Addr) (r : ORow) (v : V) : Prop := ∃ t l, v = .ref t ∧ H t = some (.tup [.ref l, lastV L r.2.1, .int r.2.2]) ∧ H l = some (.lst (r.1.map (lv L)))
def oRow (r : Row) : ORow := (r.1, some r.2.1, r.2.2)
def okO (S : Nat → Nat → Bool) (rows : List Row) (r : ORow) : Bool := okRow S rows r.1 r.2.1 r.2.2
theorem orows {H H' : Hp} {L : Nat → Addr} {rows : List Row} {us : List V} (f : Fr [] H H') (h : RowsIn [] H L rows us) : PySem.Paired (ORowA H' L) (rows.map oRow) us := by
  induction h with
  | nil => exact .nil
  | @cons r v rows us h _ ih =>
    obtain ⟨t, l, e, _, h1, h2⟩ := h
    exact .cons ⟨t, l, e, f.tk _ _ h1, f.keep _ _ h2 (by simp)⟩ ih
theorem right_orows {S : Nat → Nat → Bool} {rows : List Row} {sb : List Nat} {count : Int} (hn : (rows.map keyOf).Nodup) : rightB S sb rows count = (rows.map oRow ++ [(sb, none, count)]).all (okO S rows) := by
  unfold rightB
  rw [decide_eq_true hn, Bool.true_and, List.all_append, List.all_map]
  simp only [List.all_cons, List.all_nil, Bool.and_true]
  rfl
abbrev sLRgt : Stmt := topS 24
def spLRgt (G : GC) : Sp := fun vs H Q _ => ∃ (R a p : Addr) (bl : List Nat) (us : List V) (rows : List Row) (count : Int), vs = [.ref R, .ref a, .ref p, .int count] ∧ LI G R H ∧ H a = some (.lst (bl.map (lv G.L))) ∧ (∀ k ∈ bl, k < G.n) ∧ bl.length ≤ 1000 ∧
  H p = some (.lst us) ∧ RowsIn [] H G.L rows us ∧ RowsOk G.n rows ∧ ∀ H', Fr [] H H' → Q (.bl (rightB (stB G.adj) (srt bl) rows count)) H'
theorem ok_none {S : Nat → Nat → Bool} {rows : List Row} {r : ORow} {one : Nat} (h : one ∈ free S r.1) (hl : Qw.look rows (rm r.1 one, one) = none) : okO S rows r = false := row_none h hl
theorem ok_more {S : Nat → Nat → Bool} {rows : List Row} {r : ORow} {one : Nat} {v : Int} (h : one ∈ free S r.1) (hl : Qw.look rows (rm r.1 one, one) = some v) (hv : cost S r.2.1 one + v < r.2.2) : okO S rows r = false := row_more h hl hv
theorem ok_empty {S : Nat → Nat → Bool} {rows : List Row} {r : ORow} (h : r.1 = [] ∧ 0 < r.2.2 ∧ r.2.1.isSome = true) : okO S rows r = false := by
  obtain ⟨left, last, num⟩ := r
  obtain ⟨h1, h2, h3⟩ := h
  cases last with
  | none => cases h3
  | some l => exact row_empty h1 h2
/-- len(xs) == 0 and num > 0 and last is not None, by slots -/
theorem run_emptyO {K : PySem.W.Frag} {i j m : Nat} {σ : L2.St} {H : Hp} {l : Addr} {left : List Nat} {L : Nat → Addr} {num : Int} {last : Option Nat} {Q : Bool → Hp → Prop} (hi : σ[i]? = some (some (.ref l))) (hl : H l = some (.lst (left.map (lv L)))) (hj : σ[j]? = some (some (.int num)))
    (hm : σ[m]? = some (some (lastV L last))) (q : Q (decide (left = [] ∧ 0 < num ∧ last.isSome = true)) H) :
    tAnd (tLen0 K (tVar i)) (tAnd (tTest (tOp (rI0 fun i j => .bl (decide (j < i))) (tVar j) (tC (.int 0)))) (tTest (tOp (fun x y H Q => y = .non ∧ Q (.bl (!decide (x = .non))) H) (tVar m) (tC .non)))) σ H Q := by
  refine ⟨_, hi, l, _, rfl, Or.inl (sqL hl), rfl, _, rfl, ?_⟩
  rw [List.length_map]
  by_cases h : left = []
  · subst h
    refine iteT ⟨_, hj, _, _, rfl, rfl, _, rfl, ?_⟩
    by_cases h2 : 0 < num
    · rw [decide_eq_true h2]
      refine iteT ⟨_, hm, rfl, _, rfl, ?_⟩
      cases last with
      | none =>
        rw [decide_eq_false (show ¬(([] : List Nat) = [] ∧ 0 < num ∧ (none : Option Nat).isSome = true) from fun z => by cases z.2.2)] at q
        exact q
      | some k =>
        rw [decide_eq_true (show ([] : List Nat) = [] ∧ 0 < num ∧ (some k).isSome = true from ⟨rfl, h2, rfl⟩)] at q
        exact q
    · rw [decide_eq_false (show ¬(([] : List Nat) = [] ∧ 0 < num ∧ last.isSome = true) from fun z => h2 z.2.1)] at q
      rw [decide_eq_false h2]
      exact iteF q
  · have : decide (V.int (left.length : Int) = V.int 0) = false := by
      refine decide_eq_false fun e => ?_
      injection e with e
      exact h (List.length_eq_zero_iff.mp (by omega))
    rw [this]
    refine iteF ?_
    rw [decide_eq_false (show ¬(left = [] ∧ 0 < num ∧ last.isSome = true) from fun z => h z.1)] at q
    exact q
section
variable {P : Program} {w : World} {K : PySem.W.Frag} {mg : Str → Option Value} {base : Heap}
theorem scLRgt : FnScope ["_law_reach_here", "_law_block", "_law_rows", "_law_count", "_law_known", "_law_left", "_law_last", "_law_number", "_law_one", "_law_rest", "_law_cost", "_law_other"] ["_law_reach_here", "_law_block", "_law_rows", "_law_count"] (defScope sLRgt) := ⟨rfl, rfl, rfl, by decide +kernel, rfl, by decide +kernel, by decide +kernel⟩
theorem ok_lrgt {G : GC} {f fS : Addr} {fd fdS : FuncData} (hwG : G.w = w) (F : Fun K "_law_right" "_law_right" sLRgt f fd) (B : Bi mg) (S : Kn P w K mg base "_law_strictly" 2 fS fdS pN (spLStr G)) : FnOk P w K mg base CX0 3 f fd ["_law_reach_here", "_law_block", "_law_rows", "_law_count"] (spLRgt G) := by
  subst hwG
  refine F.ok scLRgt (fun vs H Q E h => ?_) (fun cdv A outer s H vs Q E hr h => ?_)
  · obtain ⟨R, a, p, bl, us, rows, count, rfl, _⟩ := h
    rfl
  · obtain ⟨R, a, p, bl, us, rows, count, rfl, li, ha, hbl, hbz, hp, hrows, rok, q⟩ := h
    have hu := hr.units
    refine ⟨_, pss_cons (ps_set (i := 4) scLRgt.nd rfl (Or.inl rfl) pe_nnew)
      (pss_cons (ps_for PassesOwn.never rfl (pi_list (pv 2)) (pg_tup rfl (pgs_cons (pg_name (i := 5) scLRgt.nd rfl (Or.inl rfl)) (pgs_cons (pg_name (i := 6) scLRgt.nd rfl (Or.inl rfl)) (pgs_cons (pg_name (i := 7) scLRgt.nd rfl (Or.inl rfl)) pgs_nil))))
        (pss_cons (ps_if (pt_cmpR (op_nin hu) (pe_tup (pa_cons (pe_callTy call_tuple_of (by rfl) B.tuple PyProof.Rows.boot_tuple (pa_cons (pv 5) pa_nil)) (pa_cons (pv 6) pa_nil))) (pv 4) rfl) (pss_one (ps_ret pe_bl)) pss_nil)
        (pss_one (ps_asg (pv 7) (pg_sub (pv 4) (pe_tup (pa_cons (pe_callTy call_tuple_of (by rfl) B.tuple PyProof.Rows.boot_tuple (pa_cons (pv 5) pa_nil)) (pa_cons (pv 6) pa_nil))) (set_n hu))))))
      (pss_cons (ps_for PassesOwn.never rfl (pi_list (pe_op op_cat (pv 2) (pe_lst (pa_cons (pe_tup (pa_cons (pe_callB (call_srt G.L G.n hu) (by rfl) B.sorted PyProof.Rows.boot_sorted (pa_cons (pv 1) pa_nil)) (pa_cons pe_non (pa_cons (pv 3) pa_nil)))) pa_nil))))
          (pg_tup rfl (pgs_cons (pg_name (i := 5) scLRgt.nd rfl (Or.inl rfl)) (pgs_cons (pg_name (i := 6) scLRgt.nd rfl (Or.inl rfl)) (pgs_cons (pg_name (i := 7) scLRgt.nd rfl (Or.inl rfl)) pgs_nil))))
        (pss_cons (ps_if (PW.pt (pw_and (pt_cmpR op_eq (pe_len B.len rfl (pv 5)) pe_int (nomark _)) (pw_and (pt_cmpR op_gt (pv 7) pe_int (nomark _)) (pw_and1 (pt_cmpR op_notN (pv 6) pe_non (nomark _)))))) (pss_one (ps_ret pe_bl)) pss_nil)
        (pss_one (ps_for PassesOwn.never rfl (pi_list (pv 5)) (pg_name (i := 8) scLRgt.nd rfl (Or.inr rfl))
          (pss_one (ps_if (pt_cmpR op_eq (pe_len B.len rfl (pe_fil (i := 11) (tt := tLStr G 0 11 8) rfl scLRgt.nd (pi_list (pv 5)) (blkOk_by (by rfl)) (fun _ _ _ _ _ => Or.inl rfl)
              (fun _ _ _ _ _ => pt_val (pe_call S.ok hr rfl S.mg S.kp S.b .nil pass0 (pa_cons (pv 0) (pa_cons (pv 11) (pa_cons (pv 8) pa_nil))))))) pe_int (nomark _))
            (pss_cons (ps_set (i := 9) scLRgt.nd rfl (Or.inl rfl) (pe_tup (pa_cons (pe_callTy call_tuple_of (by rfl) B.tuple PyProof.Rows.boot_tuple (pa_cons
                (pe_rm (i := 11) (j := 8) hu rfl scLRgt.nd (pi_list (pv 5)) (blkOk_by (by rfl)) (fun _ _ _ _ _ => Or.inl rfl) rfl (fun _ _ _ _ _ => Or.inr (Or.inl rfl))) pa_nil)) (pa_cons (pv 8) pa_nil))))
            (pss_cons (ps_set (i := 10) scLRgt.nd rfl (Or.inl rfl) (pe_ifExp (PW.pt (pw_or (pt_cmpR op_isN (pv 6) pe_non (nomark _)) (pw_or1 (pt_val (pe_call S.ok hr rfl S.mg S.kp S.b .nil pass0 (pa_cons (pv 0) (pa_cons (pv 6) (pa_cons (pv 8) pa_nil)))))))) pe_int pe_int))
            (pss_one (ps_if (PW.pt (pw_or (pt_cmpR (op_nnotin hu) (pv 9) (pv 4) rfl) (pw_or1 (pt_cmpR op_gt (pv 7) (pe_op op_add (pe_nget hu (pv 4) (pv 9) (fun _ _ => rfl)) (pv 10)) (nomark _)))))
              (pss_one (ps_ret pe_bl)) pss_nil))))
            pss_nil))))))
      (pss_one (ps_ret pe_bl)))), ?_⟩
    have huslen : us.length = rows.length := (PySem.Paired.length hrows).symm
    have rowOf : ∀ (i : Nat) (v : V), us[i]? = some v → ∃ r, rows[i]? = some r ∧ RowA [] H G.L r v := by
      intro i v hv
      have hi : i < us.length := (List.getElem?_eq_some_iff.mp hv).1
      have hr' : rows[i]? = some rows[i] := List.getElem?_eq_getElem (by omega)
      obtain ⟨v', h1, h2⟩ := paired_get hrows hr'
      rw [hv] at h1
      cases h1
      exact ⟨_, hr', h2⟩
    intro D hD
    refine ⟨_, rfl, p, rfl, ⟨_, sqL ((Fr.new (D := []) (o := dN G.w D []) hD).keep _ _ hp (by simp))⟩, for_list (K := K) (a := p) (xs := us) (fun i τ' H' => ∃ es o5 o6 o7 o8 o9 o10 o11, τ' = [some (.ref R), some (.ref a), some (.ref p), some (.int count), some (.ref D), o5, o6, o7, o8, o9, o10, o11] ∧ Fr [] H H' ∧ H' D = some (dM G.w D es) ∧ MAll H' G.L G.n es ∧
        KD (rows.take i) es ∧ ((rows.take i).map keyOf).Nodup)
      ⟨[], none, none, none, none, none, none, none, rfl, Fr.new hD, upd_same, ⟨fun e h => (nomatch h), fun e h => (nomatch h), fun e h => (nomatch h)⟩, KD.nil, List.nodup_nil⟩ (fun i τ' H' _ ⟨_, _, _, _, _, _, _, _, _, f, _⟩ => sqL (f.keep _ _ hp (by simp))) ?_ ?_⟩
    · rintro i y τ' H2 hi ⟨es, o5, o6, o7, o8, o9, o10, o11, rfl, f2, h2D, ma, kd, hnd⟩
      obtain ⟨r, hri, t, l, rfl, _, ht, hl⟩ := rowOf i y hi
      have hrm := List.mem_of_getElem? hri
      have htk : rows.take (i + 1) = rows.take i ++ [r] := by rw [List.take_add_one, hri]; rfl
      have hl1 := rok.lt1 r hrm
      have hl2 := rok.lt2 r hrm
      have h2l := f2.keep _ _ hl (by simp)
      refine ⟨t, _, rfl, sqT (f2.tk _ _ ht), rfl, _, _, rfl, _, _, rfl, _, _, rfl, rfl, ?_⟩
      refine ⟨_, rfl, l, _, rfl, Or.inl ⟨sqL h2l, fun T hT => ⟨_, rfl, (by show 2 ≤ sizeLine; decide), fun b hb => ?_⟩⟩⟩
      have f3 : Fr [] H2 (upd (upd H2 T (.tup (r.1.map (lv G.L)))) b (.tup [.ref T, lv G.L r.2.1])) := (Fr.new hT).trans (Fr.new hb)
      have kat : KAt (upd (upd H2 T (.tup (r.1.map (lv G.L)))) b (.tup [.ref T, lv G.L r.2.1])) G.L (keyOf r) b := ⟨T, upd_same, by rw [upd_ne (ne_of_none upd_same hb)]; exact upd_same⟩
      generalize upd (upd H2 T (.tup (r.1.map (lv G.L)))) b (.tup [.ref T, lv G.L r.2.1]) = H3 at f3 kat
      have li3 := li.fr0 (f2.trans f3)
      have h3D := f3.keep _ _ h2D (by simp)
      have ma3 := ma.mono f3.tk
      refine ⟨_, rfl, _, ma3.get li3.lw (Or.inl h3D) kat hl1 hl2, _, rfl, ?_⟩
      rw [valM_isSome]
      by_cases hk : keyOf r ∈ keys es
      · rw [decide_eq_true (show keyOf r ∈ es.map (·.1) from hk)]
        refine iteT ?_
        have := q H3 (f2.trans f3)
        rw [right_dup (fun hn => ?_)] at this
        · exact this
        · have h1 := (kd.mem _).mp hk
          have h2 : ((rows.take (i + 1)).map keyOf).Nodup := by
            rw [List.map_take]
            exact hn.sublist (List.take_sublist _ _)
          rw [htk, List.map_append] at h2
          exact (List.nodup_append.mp h2).2.2 _ h1 (keyOf r) (by simp) rfl
      · rw [decide_eq_false (show ¬ keyOf r ∈ es.map (·.1) from hk)]
        refine iteF ?_
        have h3l := f3.keep _ _ h2l (by simp)
        refine ⟨_, rfl, _, rfl, _, rfl, l, _, rfl, Or.inl ⟨sqL h3l, fun T2 hT2 => ⟨_, rfl, (by show 2 ≤ sizeLine; decide), fun b2 hb2 => ?_⟩⟩⟩
        have f4 : Fr [] H3 (upd (upd H3 T2 (.tup (r.1.map (lv G.L)))) b2 (.tup [.ref T2, lv G.L r.2.1])) := (Fr.new hT2).trans (Fr.new hb2)
        have kat4 : KAt (upd (upd H3 T2 (.tup (r.1.map (lv G.L)))) b2 (.tup [.ref T2, lv G.L r.2.1])) G.L (keyOf r) b2 := ⟨T2, upd_same, by rw [upd_ne (ne_of_none upd_same hb2)]; exact upd_same⟩
        generalize upd (upd H3 T2 (.tup (r.1.map (lv G.L)))) b2 (.tup [.ref T2, lv G.L r.2.1]) = H4 at f4 kat4
        have li4 := li3.fr0 f4
        have h4D := f4.keep _ _ h3D (by simp)
        have ma4 := ma3.mono f4.tk
        have hes : es.length ≤ 1000 := by
          have := kd.len
          have := rok.few
          rw [List.length_take] at *
          omega
        refine ⟨D, _, keyN (keyOf r), b2, rfl, rfl, h4D, ma4.kall li4.lw, kat4.kp li4.lw hl1 hl2, keyN_depth _, by rw [List.length_map, sizeLine_eq]; omega, ?_⟩
        rw [putN_putM]
        have ntp : ∀ vs, H4 D ≠ some (.tup vs) := ntup h4D (by intro vs z; cases z)
        have tk : TKeep H4 (upd H4 D (dM G.w D (putM es (keyOf r) b2 (.int r.2.2)))) := fun c vs e => by
          rw [upd_ne (fun z => ntp vs (by rw [← z]; exact e))]
          exact e
        refine ⟨_, _, _, _, _, _, _, _, rfl, ((f2.trans f3).trans f4).mut hD, upd_same, (ma4.putRow kat4 hl1 hl2).mono tk, by rw [htk]; exact kd.snoc, ?_⟩
        rw [htk, List.map_append]
        refine List.nodup_append.mpr ⟨hnd, by simp, fun x hx z hz => ?_⟩
        have hz : z = keyOf r := by simpa using hz
        intro e
        exact hk ((kd.mem _).mpr (by rw [← hz, ← e]; exact hx))
    · rintro τ' H2 ⟨es, o5, o6, o7, o8, o9, o10, o11, rfl, f2, h2D, ma, kd, hnd⟩
      rw [huslen, List.take_length] at kd hnd
      have h2p := f2.keep _ _ hp (by simp)
      have h2a := f2.keep _ _ ha (by simp)
      have li2 := li.fr0 f2
      have hsl : ∀ k ∈ srt bl, k < G.n := fun k hk => hbl k (srt_mem.mp hk)
      -- rows + [(sorted(block), None, count)]
      refine ⟨_, rfl, _, rfl, a, bl, rfl, sqL h2a, hbl, li2.lw, fun ps hps => ⟨_, rfl, (by show 3 ≤ sizeLine; decide), fun t0 ht0 => ⟨(by show 1 ≤ sizeLine; decide), fun pz hpz => ?_⟩⟩⟩
      have f3 : Fr [] H2 (upd (upd (upd H2 ps (.lst ((srt bl).map (lv G.L)))) t0 (.tup [.ref ps, .non, .int count])) pz (.lst [.ref t0])) := ((Fr.new hps).trans (Fr.new ht0)).trans (Fr.new hpz)
      have h3z : (upd (upd (upd H2 ps (.lst ((srt bl).map (lv G.L)))) t0 (.tup [.ref ps, .non, .int count])) pz (.lst [.ref t0])) pz = some (.lst [.ref t0]) := upd_same
      have h3t : (upd (upd (upd H2 ps (.lst ((srt bl).map (lv G.L)))) t0 (.tup [.ref ps, .non, .int count])) pz (.lst [.ref t0])) t0 = some (.tup [.ref ps, .non, .int count]) := (Fr.new (D := []) hpz).tk _ _ upd_same
      have h3s : (upd (upd (upd H2 ps (.lst ((srt bl).map (lv G.L)))) t0 (.tup [.ref ps, .non, .int count])) pz (.lst [.ref t0])) ps = some (.lst ((srt bl).map (lv G.L))) := (Fr.new (D := []) hpz).keep _ _ ((Fr.new (D := []) ht0).keep _ _ upd_same (by simp)) (by simp)
      generalize upd (upd (upd H2 ps (.lst ((srt bl).map (lv G.L)))) t0 (.tup [.ref ps, .non, .int count])) pz (.lst [.ref t0]) = H3 at f3 h3z h3t h3s
      have h3p := f3.keep _ _ h2p (by simp)
      refine ⟨p, pz, _, _, rfl, rfl, h3p, h3z, by have := rok.few; rw [huslen, sizeLine_eq]; simp; omega, fun pc hpc => ?_⟩
      have f4 : Fr [] H3 (upd H3 pc (.lst (us ++ [.ref t0]))) := Fr.new hpc
      have h4c : (upd H3 pc (.lst (us ++ [.ref t0]))) pc = some (.lst (us ++ [.ref t0])) := upd_same
      have hor : PySem.Paired (ORowA (upd H3 pc (.lst (us ++ [.ref t0]))) G.L) (rows.map oRow ++ [(srt bl, none, count)]) (us ++ [.ref t0]) :=
        PySem.Paired.snoc (orows ((f2.trans f3).trans f4) hrows) ⟨t0, ps, rfl, f4.tk _ _ h3t, f4.keep _ _ h3s (by simp)⟩
      have hall : ∀ r ∈ rows.map oRow ++ [(srt bl, none, count)], (∀ k ∈ r.1, k < G.n) ∧ (∀ k, r.2.1 = some k → k < G.n) ∧ r.1.length ≤ 1000 := by
        intro r hr'
        rcases List.mem_append.mp hr' with h | h
        · obtain ⟨r0, h0, rfl⟩ := List.mem_map.mp h
          exact ⟨rok.lt1 r0 h0, fun k e => by cases e; exact rok.lt2 r0 h0, rok.short r0 h0⟩
        · rw [List.mem_singleton.mp h]
          exact ⟨hsl, fun k e => (by cases e), by show (srt bl).length ≤ 1000; rw [srt_len]; exact hbz⟩
      have hq : ∀ H', Fr [] H H' → Q (.bl ((rows.map oRow ++ [(srt bl, none, count)]).all (okO (stB G.adj) rows))) H' := fun H' f' => by
        have := q H' f'
        rw [right_orows hnd] at this
        exact this
      generalize upd H3 pc (.lst (us ++ [.ref t0])) = H4 at f4 h4c hor
      generalize rows.map oRow ++ [(srt bl, none, count)] = ors at hor hall hq
      generalize us ++ [.ref t0] = ws at hor h4c
      have hlen := PySem.Paired.length hor
      have f04 := (f2.trans f3).trans f4
      have h4D := (f3.trans f4).keep _ _ h2D (by simp)
      have ma4 := ma.mono (f3.trans f4).tk
      have bad : ∀ r ∈ ors, okO (stB G.adj) rows r = false → ∀ H', Fr [] H4 H' → Q (.bl false) H' := by
        intro r hr' hb H' f'
        have := hq H' (f04.trans f')
        have e : ors.all (okO (stB G.adj) rows) = false := by
          cases z : ors.all (okO (stB G.adj) rows) with
          | false => rfl
          | true =>
            rw [List.all_eq_true] at z
            rw [z r hr'] at hb
            cases hb
        rw [e] at this
        exact this
      refine ⟨pc, rfl, ⟨_, sqL h4c⟩, for_list (K := K) (a := pc) (xs := ws) (fun i τ' H' => ∃ o5 o6 o7 o8 o9 o10 o11, τ' = [some (.ref R), some (.ref a), some (.ref p), some (.int count), some (.ref D), o5, o6, o7, o8, o9, o10, o11] ∧ Fr [] H4 H' ∧
          ∀ r ∈ ors.take i, okO (stB G.adj) rows r = true)
        ⟨_, _, _, _, _, _, _, rfl, Fr.refl _, fun _ h => (nomatch h)⟩ (fun i τ' H' _ ⟨_, _, _, _, _, _, _, _, f, _⟩ => sqL (f.keep _ _ h4c (by simp))) ?_ ?_⟩
      · rintro i y τ' H5 hi ⟨o5, o6, o7, o8, o9, o10, o11, rfl, f5, hok⟩
        have hi' : i < ws.length := (List.getElem?_eq_some_iff.mp hi).1
        have hri : ors[i]? = some ors[i] := List.getElem?_eq_getElem (by omega)
        obtain ⟨v', hv', hra⟩ := paired_get hor hri
        rw [hi] at hv'
        cases hv'
        generalize ors[i] = r at hri hra
        have hrm := List.mem_of_getElem? hri
        have htk : ors.take (i + 1) = ors.take i ++ [r] := by rw [List.take_add_one, hri]; rfl
        obtain ⟨t, l, rfl, ht, hl⟩ := hra
        obtain ⟨hl1, hl2, hsh⟩ := hall r hrm
        have badr := bad r hrm
        have h5l := f5.keep _ _ hl (by simp)
        have h5t := f5.tk _ _ ht
        obtain ⟨left, last, num⟩ := r
        have hl1 : ∀ k ∈ left, k < G.n := hl1
        have hl2 : ∀ k, last = some k → k < G.n := hl2
        have hsh : left.length ≤ 1000 := hsh
        refine ⟨t, _, rfl, sqT h5t, rfl, _, _, rfl, _, _, rfl, _, _, rfl, rfl, ?_⟩
        refine run_emptyO (l := l) (left := left) (L := G.L) (num := num) (last := last) rfl h5l rfl rfl ?_
        by_cases hb : left = [] ∧ 0 < num ∧ last.isSome = true
        · rw [decide_eq_true hb]
          refine iteT ?_
          exact badr (ok_empty hb) H5 f5
        · rw [decide_eq_false hb]
          refine iteF ?_
          refine ⟨_, rfl, l, rfl, ⟨_, sqL h5l⟩, for_list (K := K) (a := l) (xs := left.map (lv G.L)) (fun j τ' H' => ∃ o8 o9 o10 o11, τ' = [some (.ref R), some (.ref a), some (.ref p), some (.int count), some (.ref D), some (.ref l), some (lastV G.L last), some (.int num), o8, o9, o10, o11] ∧ Fr [] H5 H' ∧
              ∀ one ∈ left.take j, isFree (stB G.adj) left one = true → ∃ v, Qw.look rows (rm left one, one) = some v ∧ num ≤ cost (stB G.adj) last one + v)
            ⟨_, _, _, _, rfl, Fr.refl _, fun _ h => (nomatch h)⟩ (fun j τ' H' _ ⟨_, _, _, _, _, f, _⟩ => sqL (f.keep _ _ h5l (by simp))) ?_ ?_⟩
          · rintro j y τ' H6 hj ⟨o8, o9, o10, o11, rfl, f6, hon⟩
            rw [List.getElem?_map] at hj
            obtain ⟨x, hx, rfl⟩ := Option.map_eq_some_iff.mp hj
            have hxl : x ∈ left := List.mem_of_getElem? hx
            have hxn := hl1 x hxl
            have htk2 : left.take (j + 1) = left.take j ++ [x] := by rw [List.take_add_one, hx]; rfl
            have h6l := f6.keep _ _ h5l (by simp)
            have li6 := ((li.fr0 f04).fr0 f5).fr0 f6
            refine run_lfree (xs := left) (x := x) li6 rfl h6l hl1 hsh hxn (fun _ => rfl) (fun _ => rfl) (fun _ => rfl) (fun _ => rfl) fun H7 f7 => ?_
            have f57 := f6.trans f7
            have h7l := f57.keep _ _ h5l (by simp)
            have li7 := li6.fr0 f7
            cases hfr : isFree (stB G.adj) left x with
            | false =>
              refine iteF ?_
              refine ⟨_, _, _, _, rfl, f57, fun one ho hf => ?_⟩
              rw [htk2] at ho
              rcases List.mem_append.mp ho with ho | ho
              · exact hon one ho hf
              · rw [List.mem_singleton.mp ho, hfr] at hf
                cases hf
            | true =>
              refine iteT ?_
              have hxf : x ∈ free (stB G.adj) left := List.mem_filter.mpr ⟨hxl, hfr⟩
              dsimp only [gName, tSeq, tAsg, tTup, tCB, tCons, tNil, List.set]
              refine run_filF (lv G.L) (xs := left) (fun y => !decide (y = x)) (fun Q' hQ' => ?_) (by omega) (fun _ => rfl) (fun _ => rfl) (fun y hy H8 f8 Q8 q8 => ?_) (fun D8 H8 hD8 f8 h8l => ?_)
              · exact ⟨_, rfl, hQ' l H7 (Fr.refl _) h7l⟩
              · exact run_ne (li7.fr0 f8).lw (hl1 y hy) hxn rfl rfl (q8 H8 (Fr.refl _))
              · refine ⟨D8, _, rfl, Or.inl ⟨sqL h8l, fun T hT => ⟨_, rfl, (by show 2 ≤ sizeLine; decide), fun b hb => ?_⟩⟩⟩
                have f9 : Fr [] H7 (upd (upd H8 T (.tup ((left.filter fun y => !decide (y = x)).map (lv G.L)))) b (.tup [.ref T, lv G.L x])) := (f8.trans (Fr.new hT)).trans (Fr.new hb)
                have kat : KAt (upd (upd H8 T (.tup ((left.filter fun y => !decide (y = x)).map (lv G.L)))) b (.tup [.ref T, lv G.L x])) G.L (rm left x, x) b := ⟨T, upd_same, by rw [upd_ne (ne_of_none upd_same hb)]; exact upd_same⟩
                generalize upd (upd H8 T (.tup ((left.filter fun y => !decide (y = x)).map (lv G.L)))) b (.tup [.ref T, lv G.L x]) = H9 at f9 kat
                have f59 := f57.trans f9
                have li9 := li7.fr0 f9
                have hk1 : ∀ k ∈ rm left x, k < G.n := fun k hk => hl1 k (mem_rm.mp hk).1
                have h9D := (f5.trans f59).keep _ _ h4D (by simp)
                have get9 : NGet G.w H9 (.ref D) (.ref b) ((Qw.look rows (rm left x, x)).map V.int) := by
                  rw [← kd.look hnd]
                  exact (ma4.mono (f5.trans f59).tk).get li9.lw (Or.inl h9D) kat hk1 hxn
                -- behind the cost
                have rest : ∀ (o11 : Option V), tIfS (tOr (tTest (tOp (fun y x H Q => ∃ r, NGet G.w H x y r ∧ Q (.bl (!r.isSome)) H) (tVar 9) (tVar 4))) (tTest (tOp (rI0 fun i j => .bl (decide (j < i))) (tVar 7) (tOp (rI0 fun i j => .int (i + j)) (tOp (fun x y H Q => ∃ v, NGet G.w H x y (some v) ∧ Q v H) (tVar 4) (tVar 9)) (tVar 10)))))
                    (tRet (tC (.bl false))) (fun D σ H => D.nx σ H) { nx := fun τ' H' => ∃ o8 o9 o10 o11, τ' = [some (.ref R), some (.ref a), some (.ref p), some (.int count), some (.ref D), some (.ref l), some (lastV G.L last), some (.int num), o8, o9, o10, o11] ∧ Fr [] H5 H' ∧
                      (∀ one, one ∈ left.take (j + 1) → isFree (stB G.adj) left one = true → ∃ v, Qw.look rows (rm left one, one) = some v ∧ num ≤ cost (stB G.adj) last one + v), rt := Q }
                    [some (.ref R), some (.ref a), some (.ref p), some (.int count), some (.ref D), some (.ref l), some (lastV G.L last), some (.int num), some (lv G.L x), some (.ref b), some (.int (cost (stB G.adj) last x)), o11] H9 := by
                  intro o11
                  refine ⟨_, rfl, _, rfl, _, get9, _, rfl, ?_⟩
                  rw [Option.isSome_map]
                  cases hlk : Qw.look rows (rm left x, x) with
                  | none =>
                    refine iteT (iteT ?_)
                    exact badr (ok_none hxf hlk) H9 (f5.trans f59)
                  | some v =>
                    refine iteF ?_
                    rw [hlk] at get9
                    refine ⟨_, rfl, _, rfl, _, rfl, _, get9, _, rfl, _, _, rfl, rfl, _, _, rfl, rfl, _, rfl, ?_⟩
                    by_cases hc : v + cost (stB G.adj) last x < num
                    · rw [decide_eq_true hc]
                      refine iteT ?_
                      exact badr (ok_more hxf hlk (by show cost (stB G.adj) last x + v < num; omega)) H9 (f5.trans f59)
                    · rw [decide_eq_false hc]
                      refine iteF ?_
                      refine ⟨_, _, _, _, rfl, f59, fun one ho hf => ?_⟩
                      rw [htk2] at ho
                      rcases List.mem_append.mp ho with ho | ho
                      · exact hon one ho hf
                      · rw [List.mem_singleton.mp ho]
                        exact ⟨v, hlk, by omega⟩
                refine ⟨_, rfl, rfl, _, rfl, ?_⟩
                cases last with
                | none =>
                  refine iteT (iteT ?_)
                  exact rest _
                | some k =>
                  have hkn := hl2 k rfl
                  refine iteF ?_
                  refine ⟨_, rfl, _, rfl, _, rfl, R, k, x, rfl, li9, hkn, hxn, _, rfl, ?_⟩
                  have ec : cost (stB G.adj) (some k) x = if stB G.adj k x = true then 0 else 1 := rfl
                  cases hs : stB G.adj k x with
                  | true =>
                    rw [hs, if_pos rfl] at ec
                    rw [ec] at rest
                    refine iteT ?_
                    exact rest _
                  | false =>
                    rw [hs, if_neg Bool.false_ne_true] at ec
                    rw [ec] at rest
                    refine iteF ?_
                    exact rest _
          · rintro τ' H6 ⟨o8, o9, o10, o11, rfl, f6, hon⟩
            rw [List.length_map, List.take_length] at hon
            refine ⟨_, _, _, _, _, _, _, rfl, f5.trans f6, fun r' hr' => ?_⟩
            rw [htk] at hr'
            rcases List.mem_append.mp hr' with h | h
            · exact hok r' h
            · rw [List.mem_singleton.mp h]
              refine okRow_iff.mpr ⟨fun e hs => Int.not_lt.mp fun z => hb ⟨e, z, hs⟩, fun one ho => ?_⟩
              have := List.mem_filter.mp ho
              exact hon one this.1 this.2
      · rintro τ' H5 ⟨o5, o6, o7, o8, o9, o10, o11, rfl, f5, hok⟩
        rw [← hlen, List.take_length] at hok
        have := hq H5 (f04.trans f5)
        rw [List.all_eq_true.mpr hok] at this
        exact this
end
end QW
end
section
set_option Elab.async false
set_option linter.all false
set_option maxRecDepth 100000
set_option maxHeartbeats 8000000
/-! the law's draws -/
namespace QW
open PySem L2 QN Qw
theorem ixN_at {n i : Nat} (h : i < n) : ixN n (i : Int) = some i := by
  unfold ixN
  rw [if_pos (by omega), if_pos (by omega)]
  simp
def StA (H : Hp) (st cl : Addr) : Prop := ∃ (cells : List Int) (z : Int), H st = some (.lst [.ref cl, .int z]) ∧ 0 ≤ z ∧ z < 2147483648 ∧ H cl = some (.lst (cells.map V.int)) ∧ cells.length ≤ 63
theorem StA.ne {H : Hp} {st cl : Addr} (h : StA H st cl) : st ≠ cl := by
  obtain ⟨cells, z, h1, _, _, h2, _⟩ := h
  intro e
  rw [e, h2] at h1
  cases cells with
  | nil => cases h1
  | cons c r => cases h1
theorem StA.fr {D : List Addr} {H H' : Hp} {st cl : Addr} (h : StA H st cl) (f : Fr D H H') (h1 : st ∉ D) (h2 : cl ∉ D) : StA H' st cl := by
  obtain ⟨cells, z, a, b, c, d, e⟩ := h
  exact ⟨cells, z, f.keep _ _ a h1, b, c, f.keep _ _ d h2, e⟩
theorem StA.fr0 {H H' : Hp} {st cl : Addr} (h : StA H st cl) (f : Fr [] H H') : StA H' st cl := h.fr f (by simp) (by simp)
abbrev sDraw : Stmt := topS 11
def spDraw : Sp := fun vs H Q _ => ∃ (st cl : Addr) (n : Nat), vs = [.ref st, .int (n : Int)] ∧ StA H st cl ∧ n < 1000000 ∧ ∀ (r : Nat) H', Fr [st, cl] H H' → StA H' st cl → (r < n ∨ (n = 0 ∧ r = 0)) → Q (.int (r : Int)) H'
section
variable {P : Program} {w : World} {K : PySem.W.Frag} {mg : Str → Option Value} {base : Heap}
theorem scDraw : FnScope ["_law_state_here", "_law_many", "_law_cells", "_law_value", "_law_mixed"] ["_law_state_here", "_law_many"] (defScope sDraw) := ⟨rfl, rfl, rfl, by decide +kernel, rfl, by decide +kernel, by decide +kernel⟩
theorem ok_draw {f : Addr} {fd : FuncData} (F : Fun K "_law_draw" "_law_draw" sDraw f fd) (B : Bi mg) : FnOk P w K mg base CX0 1 f fd ["_law_state_here", "_law_many"] spDraw := by
  refine F.ok scDraw (fun vs H Q E h => ?_) (fun cdv A outer s H vs Q E hr h => ?_)
  · obtain ⟨st, cl, n, rfl, _⟩ := h
    rfl
  · obtain ⟨st, cl, n, rfl, sa, hn, q⟩ := h
    refine ⟨_, pss_cons (ps_if (pt_cmpR op_lt (pv 1) pe_int (nomark _)) (pss_one (ps_ret pe_int)) pss_nil)
      (pss_cons (ps_set (i := 2) scDraw.nd rfl (Or.inl rfl) (pe_ix ix_list (pv 0) pe_int (fun _ _ => rfl)))
      (pss_cons (ps_while PassesOwn.never (PW.pt (pw_and (pt_cmpR op_gt (pe_len B.len rfl (pv 2)) pe_int (nomark _)) (pw_and1 (pt_cmpR op_eq (pe_ix ix_list (pv 2) pe_int (fun _ _ => rfl)) pe_int (nomark _)))))
        (pss_one (ps_expr (pe_bm PySem.F.plainAttrs_list PySem.F.slot_list_pop PySem.F.type_list_pop mt_popAt (pv 2) (pa_cons pe_int pa_nil)))))
      (pss_cons (ps_if (pt_cmpR op_gt (pe_len B.len rfl (pv 2)) pe_int (nomark _))
        (pss_cons (ps_set (i := 3) scDraw.nd rfl (Or.inl rfl) (pe_ix ix_list (pv 2) pe_int (fun _ _ => rfl)))
        (pss_cons (ps_asg (pe_op op_fdiv (pv 3) (pv 1)) (pg_sub (pv 2) pe_int set_list))
        (pss_one (ps_ret (pe_op op_mod (pe_callTy call_int1 (by rfl) B.int PyProof.Rows.boot_int (pa_cons (pv 3) pa_nil)) (pv 1))))))
        pss_nil)
      (pss_cons (ps_set (i := 4) scDraw.nd rfl (Or.inl rfl) (pe_op op_mod (pe_callTy call_int1 (by rfl) B.int PyProof.Rows.boot_int (pa_cons (pe_op op_add (pe_op op_mul (pe_ix ix_list (pv 0) pe_int (fun _ _ => rfl)) pe_int) pe_int) pa_nil)) pe_int))
      (pss_cons (ps_asg (pv 4) (pg_sub (pv 0) pe_int set_list))
      (pss_one (ps_ret (pe_op op_mod (pe_callTy call_int1 (by rfl) B.int PyProof.Rows.boot_int (pa_cons (pe_op op_fdiv (pv 4) pe_int) pa_nil)) (pv 1))))))))), ?_⟩
    have hne := sa.ne
    obtain ⟨cells, z, h1, hz0, hz1, h2, hc63⟩ := sa
    refine ⟨_, rfl, _, _, rfl, rfl, _, rfl, ?_⟩
    by_cases hn0 : (n : Int) < 1
    · rw [decide_eq_true hn0]
      refine iteT ?_
      exact q 0 H (Fr.refl _) ⟨cells, z, h1, hz0, hz1, h2, hc63⟩ (Or.inr ⟨by omega, rfl⟩)
    · rw [decide_eq_false hn0]
      refine iteF ?_
      have hpos : 0 < n := by omega
      have nt1 : ∀ {H' : Hp} {xs : List V}, H' st = some (.lst xs) → ∀ vs, H' st ≠ some (.tup vs) := fun e => ntup e (by intro vs z; cases z)
      have nt2 : ∀ {H' : Hp} {xs : List V}, H' cl = some (.lst xs) → ∀ vs, H' cl ≠ some (.tup vs) := fun e => ntup e (by intro vs z; cases z)
      have res : ∀ v : Int, ∃ r : Nat, v % (n : Int) = (r : Int) ∧ r < n := by
        intro v
        have g1 := Int.emod_nonneg v (show (n : Int) ≠ 0 by omega)
        have g2 := Int.emod_lt_of_pos v (show (0 : Int) < n by omega)
        exact ⟨(v % n).toNat, by omega, by omega⟩
      refine ⟨_, rfl, st, _, _, _, rfl, rfl, sqL h1, rfl, ?_⟩
      refine ⟨fun m σ' H' => ∃ cs : List Int, m = cs.length ∧ cs.length ≤ 63 ∧ σ' = [some (.ref st), some (.int (n : Int)), some (.ref cl), none, none] ∧ Fr [st, cl] H H' ∧ H' st = some (.lst [.ref cl, .int z]) ∧ H' cl = some (.lst (cs.map V.int)),
        ⟨_, cells, rfl, hc63, rfl, Fr.refl _, h1, h2⟩, ?_⟩
      rintro m σ' H1 ⟨cs, rfl, hcl, rfl, f1, h11, h12⟩
      refine ⟨_, rfl, cl, _, rfl, Or.inl (sqL h12), _, _, rfl, rfl, _, rfl, ?_⟩
      cases cs with
      | nil =>
        refine iteF (iteF ?_)
        refine ⟨_, rfl, cl, _, rfl, Or.inl (sqL h12), _, _, rfl, rfl, _, rfl, iteF ?_⟩
        -- no cells left
        refine ⟨_, rfl, st, _, _, _, rfl, rfl, sqL h11, rfl, _, _, rfl, rfl, Or.inl ⟨by omega, by omega⟩, _, _, rfl, rfl, Or.inl ⟨_, rfl, _, _, rfl, rfl, by omega, ?_⟩⟩
        have e1 : (z * 48271 + 12345) % 2147483647 < 2147483647 := Int.emod_lt_of_pos _ (by omega)
        have e0 : 0 ≤ (z * 48271 + 12345) % 2147483647 := Int.emod_nonneg _ (by omega)
        refine ⟨_, rfl, _, rfl, st, _, _, 1, rfl, rfl, h11, rfl, ?_⟩
        refine ⟨_, rfl, _, _, rfl, rfl, ⟨by omega, by omega⟩, Or.inl ⟨_, rfl, _, rfl, _, _, rfl, rfl, by omega, ?_⟩⟩
        obtain ⟨r, hr1, hr2⟩ := res ((z * 48271 + 12345) % 2147483647 / 64)
        show Q (.int ((z * 48271 + 12345) % 2147483647 / 64 % (n : Int))) _
        rw [hr1]
        refine q r _ (f1.mutD (by simp) (nt1 h11)) ⟨[], (z * 48271 + 12345) % 2147483647, upd_same, e0, by omega, ?_, by simp⟩ (Or.inl hr2)
        rw [upd_ne (Ne.symm hne)]
        exact h12
      | cons c cs =>
        rw [show decide ((0 : Int) < ((List.map V.int (c :: cs)).length : Nat)) = true from decide_eq_true (by rw [List.length_map, List.length_cons]; omega)]
        refine iteT ?_
        refine ⟨_, rfl, cl, _, _, _, rfl, rfl, sqL h12, atI_nat (xs := List.map V.int (c :: cs)) (j := 0) rfl, rfl, _, rfl, ?_⟩
        by_cases hc0 : c = 0
        · rw [show decide (V.int c = V.int 0) = true from decide_eq_true (by rw [hc0])]
          refine iteT ?_
          refine ⟨_, fun σ' H' w => w, ?_⟩
          refine ⟨_, rfl, Or.inl ⟨rfl, _, sqL h12⟩, cl, _, _, 0, _, rfl, rfl, h12, by omega, by omega, ?_, rfl, ?_⟩
          · exact (ixN_seq (ixN_at (n := (List.map V.int (c :: cs)).length) (i := 0) (by simp))).1
          · refine ⟨cs.length, by simp, cs, rfl, by simp at hcl; omega, rfl, f1.mutD (by simp) (nt2 h12), ?_, ?_⟩
            · rw [upd_ne hne]; exact h11
            · rw [upd_same]; rfl
        · rw [show decide (V.int c = V.int 0) = false from decide_eq_false (by intro e; injection e with e; exact hc0 e)]
          refine iteF ?_
          refine ⟨_, rfl, cl, _, rfl, Or.inl (sqL h12), _, _, rfl, rfl, _, rfl, ?_⟩
          rw [show decide ((0 : Int) < ((List.map V.int (c :: cs)).length : Nat)) = true from decide_eq_true (by rw [List.length_map, List.length_cons]; omega)]
          refine iteT ?_
          refine ⟨_, rfl, cl, _, _, _, rfl, rfl, sqL h12, atI_nat (xs := List.map V.int (c :: cs)) (j := 0) rfl, ?_⟩
          refine ⟨_, rfl, _, rfl, _, _, rfl, rfl, ⟨by omega, by omega⟩, ?_⟩
          refine ⟨_, rfl, cl, _, _, 0, rfl, rfl, h12, ixN_at (n := (List.map V.int (c :: cs)).length) (i := 0) (by simp), ?_⟩
          refine ⟨_, rfl, Or.inl ⟨_, rfl, _, rfl, _, _, rfl, rfl, by omega, ?_⟩⟩
          obtain ⟨r, hr1, hr2⟩ := res c
          show Q (.int (c % (n : Int))) _
          rw [hr1]
          refine q r _ (f1.mutD (by simp) (nt2 h12)) ⟨c / (n : Int) :: cs, z, ?_, hz0, hz1, ?_, by simp at hcl ⊢; omega⟩ (Or.inl hr2)
          · rw [upd_ne hne]; exact h11
          · rw [upd_same]; rfl
end
end QW
end
section
set_option Elab.async false
set_option linter.all false
set_option maxRecDepth 100000
set_option maxHeartbeats 8000000
/-! the law's state, picks -/
namespace QW
open PySem L2 QN Qw
abbrev sPick : Stmt := topS 12
def spPick : Sp := fun vs H Q _ => ∃ (st cl a : Addr) (xs : List V), vs = [.ref st, .ref a] ∧ StA H st cl ∧ H a = some (.lst xs) ∧ a ≠ st ∧ a ≠ cl ∧ xs ≠ [] ∧ xs.length < 1000000 ∧ ∀ (i : Nat) v H', xs[i]? = some v → Fr [st, cl] H H' → StA H' st cl → Q v H'
abbrev sState : Stmt := topS 10
def spState (K : PySem.W.Frag) : Sp := fun vs H Q _ => ∃ (a : Addr) (xs : List Int), vs = [.ref a] ∧ SqL K H a (xs.map V.int) ∧ xs.length ≤ 63 ∧ ∀ st cl H', Fr [] H H' → H st = none → H cl = none → StA H' st cl → Q (.ref st) H'
section
variable {P : Program} {w : World} {K : PySem.W.Frag} {mg : Str → Option Value} {base : Heap}
theorem scPick : FnScope ["_law_state_here", "_law_row"] ["_law_state_here", "_law_row"] (defScope sPick) := ⟨rfl, rfl, rfl, by decide +kernel, rfl, by decide +kernel, by decide +kernel⟩
theorem ok_pick {f fD : Addr} {fd fdD : FuncData} (F : Fun K "_law_pick" "_law_pick" sPick f fd) (B : Bi mg) (Dr : Kn P w K mg base "_law_draw" 1 fD fdD ["_law_state_here", "_law_many"] spDraw) : FnOk P w K mg base CX0 2 f fd ["_law_state_here", "_law_row"] spPick := by
  refine F.ok scPick (fun vs H Q E h => ?_) (fun cdv A outer s H vs Q E hr h => ?_)
  · obtain ⟨st, cl, a, xs, rfl, _⟩ := h
    rfl
  · obtain ⟨st, cl, a, xs, rfl, sa, ha, n1, n2, hne, hz, q⟩ := h
    refine ⟨_, pss_one (ps_ret (pe_ix ix_list (pv 1) (pe_call Dr.ok hr rfl Dr.mg Dr.kp Dr.b .nil pass0 (pa_cons (pv 0) (pa_cons (pe_len B.len rfl (pv 1)) pa_nil))) (fun _ _ => rfl))), ?_⟩
    refine ⟨_, rfl, _, rfl, _, rfl, a, _, rfl, Or.inl (sqL ha), st, cl, xs.length, rfl, sa, hz, fun r H' f' sa' hr' => ?_⟩
    have hpos := List.length_pos_iff.mpr hne
    have hrl : r < xs.length := by omega
    have hg : xs[r]? = some xs[r] := List.getElem?_eq_getElem hrl
    exact ⟨a, _, _, _, rfl, rfl, sqL (f'.keep _ _ ha (by simp [n1, n2])), atI_nat hg, q r _ H' hg f' sa'⟩
theorem scState : FnScope ["_law_script", "_law_seed", "_law_cell"] ["_law_script"] (defScope sState) := ⟨rfl, rfl, rfl, by decide +kernel, rfl, by decide +kernel, by decide +kernel⟩
theorem ok_state {f : Addr} {fd : FuncData} (F : Fun K "_law_state" "_law_state" sState f fd) (B : Bi mg) : FnOk P w K mg base CX0 1 f fd ["_law_script"] (spState K) := by
  refine F.ok scState (fun vs H Q E h => ?_) (fun cdv A outer s H vs Q E hr h => ?_)
  · obtain ⟨a, xs, rfl, _⟩ := h
    rfl
  · obtain ⟨a, xs, rfl, ha, hz, q⟩ := h
    refine ⟨_, pss_cons (ps_set (i := 1) scState.nd rfl (Or.inl rfl) pe_int)
      (pss_cons (ps_for PassesOwn.never rfl (pi_list (pv 0)) (pg_name (i := 2) scState.nd rfl (Or.inl rfl))
        (pss_one (ps_set (i := 1) scState.nd rfl (Or.inl rfl) (pe_op op_mod (pe_callTy call_int1 (by rfl) B.int PyProof.Rows.boot_int (pa_cons (pe_op op_add (pe_op op_mul (pv 1) pe_int) (pv 2)) pa_nil)) pe_int))))
      (pss_one (ps_ret (pe_lst (pa_cons (pe_lc (own := [("_law_cell", 2)]) (g := gName 2) (te := tCB (fun xs H Q => ∃ i, xs = [.int i] ∧ Q (.int (if i < 0 then -i else i)) H) (tCons (tVar 2) tNil)) rfl scState.nd (pi_list (pv 0)) (blkOk_by (by rfl))
          (fun _ _ _ _ _ => pg_name (i := 2) scState.nd rfl (Or.inl rfl)) (fun _ _ _ _ _ => pts_nil) (fun _ _ _ _ _ => pe_callB call_abs (by rfl) B.abs PyProof.Rows.boot_abs (pa_cons (pv 2) pa_nil)))
        (pa_cons (pe_op op_add (pv 1) pe_int) pa_nil)))))), ?_⟩
    refine ⟨_, rfl, a, rfl, ⟨_, ha⟩, for_list (K := K) (a := a) (xs := xs.map V.int) (fun i τ' H' => ∃ z o2, τ' = [some (.ref a), some (.int z), o2] ∧ H' = H ∧ 0 ≤ z ∧ z < 1000003) ⟨7, none, rfl, rfl, by decide, by decide⟩ (fun i τ' H' _ ⟨_, _, _, h, _⟩ => by rw [h]; exact ha) ?_ ?_⟩
    · rintro i y τ' H' hi ⟨z, o2, rfl, rfl, h0, h1⟩
      rw [List.getElem?_map] at hi
      obtain ⟨x, hx, rfl⟩ := Option.map_eq_some_iff.mp hi
      refine ⟨_, rfl, _, _, rfl, rfl, Or.inl ⟨by omega, by omega⟩, _, rfl, _, _, rfl, rfl, Or.inl ⟨_, rfl, _, _, rfl, rfl, by omega, ?_⟩⟩
      exact ⟨_, _, rfl, rfl, Int.emod_nonneg _ (by omega), Int.emod_lt_of_pos _ (by omega)⟩
    · rintro τ' H' ⟨z, o2, rfl, rfl, h0, h1⟩
      refine ⟨_, rfl, a, rfl, ⟨_, ha⟩, fun D hD => ?_⟩
      refine lc_list (xs := xs.map V.int) (fun i H1 => Fr [] H' H1 ∧ ∃ ys : List Int, ys.length ≤ i ∧ H1 D = some (.lst (ys.map V.int))) ⟨Fr.new hD, [], Nat.le_refl _, upd_same⟩ (fun i H1 _ p => p.1.sq (by simp) ha) (fun i y H1 hi p => ?_) (fun H1 p => ?_)
      · obtain ⟨f1, ys, hl, h1D⟩ := p
        have hi' : i < (xs.map V.int).length := (List.getElem?_eq_some_iff.mp hi).1
        rw [List.length_map] at hi'
        rw [List.getElem?_map] at hi
        obtain ⟨x, hx, rfl⟩ := Option.map_eq_some_iff.mp hi
        refine ⟨rfl, ?_⟩
        dsimp only [tYes]
        rw [if_pos rfl]
        refine ⟨_, rfl, _, rfl, _, h1D, by rw [List.length_map, sizeLine_eq]; omega, f1.mut hD, ys ++ [if x < 0 then -x else x], by simp; omega, ?_⟩
        rw [upd_same, List.map_append]
        rfl
      · obtain ⟨f1, ys, hl, h1D⟩ := p
        rw [List.length_map] at hl
        refine ⟨_, rfl, _, _, rfl, rfl, (by show 2 ≤ sizeLine; decide), fun st hst => ?_⟩
        have hsH := f1.back hst (by simp)
        refine q st D _ (f1.trans (Fr.new hst)) hsH hD ⟨ys, z + 1, upd_same, by omega, by omega, ?_, by omega⟩
        rw [upd_ne (ne_of_none h1D hst)]
        exact h1D
end
end QW
end
section
set_option Elab.async false
set_option linter.all false
set_option maxRecDepth 100000
set_option maxHeartbeats 8000000
/-! the law's graph: lines, those present, pairs -/
namespace QW
open PySem L2 QN Qw
theorem erase_map {α β : Type} (f : α → β) : ∀ (l : List α) (i : Nat), (l.map f).eraseIdx i = (l.eraseIdx i).map f
  | [], _ => rfl
  | a :: l, 0 => rfl
  | a :: l, i + 1 => by
    rw [List.map_cons, List.eraseIdx_cons_succ, List.eraseIdx_cons_succ, List.map_cons, erase_map f l i]
theorem erase_perm {α : Type} : ∀ (l : List α) (i : Nat) (h : i < l.length), (l[i] :: l.eraseIdx i).Perm l
  | a :: l, 0, _ => List.Perm.refl _
  | a :: l, i + 1, h => by
    have h' : i < l.length := by simpa using h
    rw [List.eraseIdx_cons_succ]
    show (l[i] :: a :: l.eraseIdx i).Perm (a :: l)
    exact (List.Perm.swap a l[i] (l.eraseIdx i)).trans ((erase_perm l i h').cons a)
theorem tk_upd {H : Hp} {p : Addr} {o : HO} (h : ∀ vs, H p ≠ some (.tup vs)) : TKeep H (upd H p o) := fun a vs e => by
  rw [upd_ne (fun z => h vs (by rw [← z]; exact e))]
  exact e
theorem StA.out {H : Hp} {st cl a : Addr} (h : StA H st cl) (ha : H a = none) : a ∉ [st, cl] := by
  obtain ⟨cells, z, h1, _, _, h2, _⟩ := h
  simp only [List.mem_cons, List.not_mem_nil, or_false, not_or]
  exact ⟨(ne_of_none h1 ha).symm, (ne_of_none h2 ha).symm⟩
theorem StA.upd {H : Hp} {st cl a : Addr} {o : HO} (h : StA H st cl) (ha : a ∉ [st, cl]) : StA (upd H a o) st cl := by
  obtain ⟨cells, z, h1, h2, h3, h4, h5⟩ := h
  simp only [List.mem_cons, List.not_mem_nil, or_false, not_or] at ha
  exact ⟨cells, z, by rw [upd_ne (Ne.symm ha.1)]; exact h1, h2, h3, by rw [upd_ne (Ne.symm ha.2)]; exact h4, h5⟩
theorem lst_ntup {H : Hp} {p : Addr} {xs : List V} (h : H p = some (.lst xs)) : ∀ vs, H p ≠ some (.tup vs) := ntup h (by intro vs z; cases z)
/-- a pair of lines -/
def PairA (H : Hp) (L : Nat → Addr) (p : Nat × Nat) (v : V) : Prop := ∃ t, v = .ref t ∧ H t = some (.tup [lv L p.1, lv L p.2])
abbrev PairsIn (H : Hp) (L : Nat → Addr) (ps : List (Nat × Nat)) (vs : List V) : Prop := PySem.Paired (PairA H L) ps vs
theorem PairsIn.tk {H H' : Hp} {L : Nat → Addr} {ps : List (Nat × Nat)} {vs : List V} (h : PairsIn H L ps vs) (t : TKeep H H') : PairsIn H' L ps vs :=
  PySem.Paired.mono (fun _ _ ⟨a, e, h⟩ => ⟨a, e, t _ _ h⟩) h
def pd (p : Nat × Nat) : PyData := .tuple [ld p.1, ld p.2]
theorem pd_shaped (p : Nat × Nat) : SeqAt.shaped (pd p) = true := by
  show (PyData.canLay0 (pd p) && decide (PyData.depth (pd p) ≤ 64)) = true
  have h1 := ld_lay p.1
  have h2 := ld_lay p.2
  have h3 := ld_depth p.1
  have h4 := ld_depth p.2
  rw [Bool.and_eq_true]
  refine ⟨by simp only [pd, PyData.canLay0, PyData.canLayAll0, h1, h2]; decide +kernel, decide_eq_true ?_⟩
  simp only [pd, PyData.depth, PyData.depthAll]
  omega
theorem pds_shaped (ps : List (Nat × Nat)) : SeqAt.shaped (.list (ps.map pd)) = true := by
  have h1 : PyData.canLayAll0 (ps.map pd) = true := by
    induction ps with
    | nil => rfl
    | cons p ps ih =>
      have := pd_shaped p
      have : (PyData.canLay0 (pd p) && decide (PyData.depth (pd p) ≤ 64)) = true := this
      rw [Bool.and_eq_true] at this
      simp only [List.map_cons, PyData.canLayAll0, this.1, ih]
      rfl
  have h2 : PyData.depthAll (ps.map pd) ≤ 10 := by
    induction ps with
    | nil => simp [PyData.depthAll]
    | cons p ps ih =>
      have h3 := ld_depth p.1
      have h4 := ld_depth p.2
      have := ih (by simp only [List.map_cons, PyData.canLayAll0, Bool.and_eq_true] at h1; exact h1.2)
      simp only [List.map_cons, PyData.depthAll, pd, PyData.depth]
      omega
  show (PyData.canLay0 (.list (ps.map pd)) && decide (PyData.depth (.list (ps.map pd)) ≤ 64)) = true
  rw [Bool.and_eq_true]
  refine ⟨by simpa [PyData.canLay0] using h1, decide_eq_true ?_⟩
  simp only [PyData.depth]
  omega
theorem pairs_dp {K : PySem.W.Frag} {H : Hp} {L : Nat → Addr} {n : Nat} (lw : LW H L n) : ∀ {ps : List (Nat × Nat)} {vs : List V}, PairsIn H L ps vs → (∀ p ∈ ps, p.1 < n ∧ p.2 < n) → DpAll K H vs (ps.map pd)
  | [], _, .nil, _ => .nil
  | p :: ps, _, .cons h t, hlt => by
    obtain ⟨a, rfl, ha⟩ := h
    have hp := hlt p List.mem_cons_self
    exact .cons (.tup (sqT ha) (.cons (lw.dp hp.1) (.cons (lw.dp hp.2) .nil))) (pairs_dp lw t fun q hq => hlt q (List.mem_cons_of_mem _ hq))
/-- the state while pairs are drawn -/
structure GS (w : World) (H0 H : Hp) (st cl pr pp d2 : Addr) (L : Nat → Addr) (n : Nat) (rs js : List Nat) (ps : List (Nat × Nat)) : Prop where
  fr : Fr [st, cl] H0 H
  sa : StA H st cl
  lw : LW H L n
  row : H pr = some (.lst (rs.map (lv L)))
  pres : H d2 = some (dL w L d2 (tjs js))
  prs : ∃ us, H pp = some (.lst us) ∧ PairsIn H L ps us
  lt : ∀ p ∈ ps, p.1 < n ∧ p.2 < n
  o1 : pr ∉ [st, cl]
  o2 : pp ∉ [st, cl]
  ne : pr ≠ pp
section
variable {w : World} {H0 H H' : Hp} {st cl pr pp d2 a : Addr} {L : Nat → Addr} {n : Nat} {rs js : List Nat} {ps : List (Nat × Nat)} {o : HO}
theorem GS.o3 (g : GS w H0 H st cl pr pp d2 L n rs js ps) : d2 ∉ [st, cl] := by
  obtain ⟨cells, z, h1, _, _, h2, _⟩ := g.sa
  simp only [List.mem_cons, List.not_mem_nil, or_false, not_or]
  exact ⟨ne_of g.pres h1 (by intro z; cases z), ne_of g.pres h2 (by intro z; cases z)⟩
theorem GS.draw (g : GS w H0 H st cl pr pp d2 L n rs js ps) (f : Fr [st, cl] H H') (sa : StA H' st cl) : GS w H0 H' st cl pr pp d2 L n rs js ps := by
  obtain ⟨us, h1, h2⟩ := g.prs
  exact ⟨g.fr.trans f, sa, g.lw.mono f.tk, f.keep _ _ g.row g.o1, f.keep _ _ g.pres g.o3, ⟨us, f.keep _ _ h1 g.o2, h2.tk f.tk⟩, g.lt, g.o1, g.o2, g.ne⟩
theorem GS.new (g : GS w H0 H st cl pr pp d2 L n rs js ps) (ha : H a = none) : GS w H0 (upd H a o) st cl pr pp d2 L n rs js ps :=
  g.draw (Fr.new ha) (g.sa.upd (g.sa.out ha))
theorem GS.app {us : List V} {p : Nat × Nat} {v : V} (g : GS w H0 H st cl pr pp d2 L n rs js ps) (hp0 : H0 pp = none) (h1 : H pp = some (.lst us)) (h2 : PairsIn H L ps us) (hv : PairA H L p v) (hp : p.1 < n ∧ p.2 < n) : GS w H0 (upd H pp (.lst (us ++ [v]))) st cl pr pp d2 L n rs js (ps ++ [p]) := by
  have tk : TKeep H (upd H pp (.lst (us ++ [v]))) := tk_upd (lst_ntup h1)
  refine ⟨g.fr.mut hp0, g.sa.upd g.o2, g.lw.mono tk, by rw [upd_ne g.ne]; exact g.row, ?_, ⟨us ++ [v], upd_same, ?_⟩, fun q hq => ?_, g.o1, g.o2, g.ne⟩
  · rw [upd_ne (ne_of g.pres h1 (by intro z; cases z))]
    exact g.pres
  · refine PySem.Paired.snoc (h2.tk tk) ?_
    obtain ⟨t, e, ht⟩ := hv
    exact ⟨t, e, tk _ _ ht⟩
  · rcases List.mem_append.mp hq with hq | hq
    · exact g.lt q hq
    · rw [List.mem_singleton.mp hq]; exact hp
end
theorem tjs_same {js : List Nat} {k : Nat} (h : k ∈ js) : putK (tjs js) k (.bl true) = tjs js := by
  have e : ((tjs js).any fun p => decide (p.1 = k)) = true := by
    rw [List.any_eq_true]
    exact ⟨(k, .bl true), List.mem_map.mpr ⟨k, h, rfl⟩, by simp⟩
  unfold putK
  rw [if_pos e]
  conv => rhs; rw [← List.map_id (tjs js)]
  refine List.map_congr_left fun p hp => ?_
  obtain ⟨j, _, rfl⟩ := List.mem_map.mp hp
  split
  · rename_i z
    have z : j = k := z
    subst z
    rfl
  · rfl
def tNew (w : World) : TE := fun _ H Q => ∀ p, H p = none → Q (.ref p) (upd H p (dN w p []))
theorem pe_new {X : Cx} {w : World} {pos : Pos} (h : X.w = w) : PE X (.Dict [] [] pos) (tNew w) := by
  subst h
  exact pe_nnew
theorem putK_len (kvs : List (Nat × V)) (k : Nat) (v : V) : (putK kvs k v).length ≤ kvs.length + 1 := by
  unfold putK
  split
  · rw [List.length_map]; omega
  · rw [List.length_append]; exact Nat.le_refl _
theorem dL_ntup {H : Hp} {w : World} {L : Nat → Addr} {d : Addr} {kvs : List (Nat × V)} (h : H d = some (dL w L d kvs)) : ∀ vs, H d ≠ some (.tup vs) := ntup h (by intro vs z; cases z)
/-- the state while lines are told to be there -/
structure LS (w : World) (H0 H : Hp) (st cl pr ps d1 d2 : Addr) (L : Nat → Addr) (n m : Nat) (rs ks : List Nat) (kvs : List (Nat × V)) (js : List Nat) : Prop where
  fr : Fr [st, cl] H0 H
  sa : StA H st cl
  lw : LW H L n
  row : H pr = some (.lst (rs.map (lv L)))
  srt : H ps = some (.lst (ks.map (lv L)))
  lin : H d1 = some (dL w L d1 kvs)
  lk : ∀ p ∈ kvs, p.1 < n
  ll : kvs.length ≤ m
  pres : H d2 = some (dL w L d2 (tjs js))
  jn : js.Nodup
  jl : ∀ j ∈ js, j < n
  o1 : pr ∉ [st, cl]
  o2 : ps ∉ [st, cl]
  ne : d1 ≠ d2
section
variable {w : World} {H0 H H' : Hp} {st cl pr ps d1 d2 a : Addr} {L : Nat → Addr} {n m : Nat} {rs ks js : List Nat} {kvs : List (Nat × V)} {o : HO}
theorem dL_out (sa : StA H st cl) (h : H a = some (dL w L a kvs)) : a ∉ [st, cl] := by
  obtain ⟨cells, z, h1, _, _, h2, _⟩ := sa
  simp only [List.mem_cons, List.not_mem_nil, or_false, not_or]
  exact ⟨ne_of h h1 (by intro z; cases z), ne_of h h2 (by intro z; cases z)⟩
theorem LS.draw (g : LS w H0 H st cl pr ps d1 d2 L n m rs ks kvs js) (f : Fr [st, cl] H H') (sa : StA H' st cl) : LS w H0 H' st cl pr ps d1 d2 L n m rs ks kvs js :=
  ⟨g.fr.trans f, sa, g.lw.mono f.tk, f.keep _ _ g.row g.o1, f.keep _ _ g.srt g.o2, f.keep _ _ g.lin (dL_out g.sa g.lin), g.lk, g.ll, f.keep _ _ g.pres (dL_out g.sa g.pres), g.jn, g.jl, g.o1, g.o2, g.ne⟩
theorem LS.new (g : LS w H0 H st cl pr ps d1 d2 L n m rs ks kvs js) (ha : H a = none) : LS w H0 (upd H a o) st cl pr ps d1 d2 L n m rs ks kvs js :=
  g.draw (Fr.new ha) (g.sa.upd (g.sa.out ha))
theorem LS.put1 {k : Nat} {v : V} (g : LS w H0 H st cl pr ps d1 d2 L n m rs ks kvs js) (h0 : H0 d1 = none) (hk : k < n) : LS w H0 (upd H d1 (dL w L d1 (putK kvs k v))) st cl pr ps d1 d2 L n (m + 1) rs ks (putK kvs k v) js := by
  have tk := tk_upd (o := dL w L d1 (putK kvs k v)) (dL_ntup g.lin)
  refine ⟨g.fr.mut h0, g.sa.upd (dL_out g.sa g.lin), g.lw.mono tk, ?_, ?_, upd_same, fun p hp => putK_keys g.lk hk hp, ?_, ?_, g.jn, g.jl, g.o1, g.o2, g.ne⟩
  · rw [upd_ne (ne_of g.row g.lin (by intro z; cases z))]; exact g.row
  · rw [upd_ne (ne_of g.srt g.lin (by intro z; cases z))]; exact g.srt
  · have := putK_len kvs k v
    have := g.ll
    omega
  · rw [upd_ne (Ne.symm g.ne)]; exact g.pres
theorem LS.put2 {k : Nat} (g : LS w H0 H st cl pr ps d1 d2 L n m rs ks kvs js) (h0 : H0 d2 = none) (hk : k < n) : ∃ js', LS w H0 (upd H d2 (dL w L d2 (putK (tjs js) k (.bl true)))) st cl pr ps d1 d2 L n m rs ks kvs js' := by
  have tk := tk_upd (o := dL w L d2 (putK (tjs js) k (.bl true))) (dL_ntup g.pres)
  have key : ∃ js', putK (tjs js) k (.bl true) = tjs js' ∧ js'.Nodup ∧ ∀ j ∈ js', j < n := by
    by_cases h : k ∈ js
    · exact ⟨js, tjs_same h, g.jn, g.jl⟩
    · refine ⟨js ++ [k], tjs_put h, List.nodup_append.mpr ⟨g.jn, by simp, fun a ha b hb => ?_⟩, fun j hj => ?_⟩
      · rw [List.mem_singleton.mp hb]
        intro e
        exact h (e ▸ ha)
      · rcases List.mem_append.mp hj with hj | hj
        · exact g.jl j hj
        · rw [List.mem_singleton.mp hj]; exact hk
  obtain ⟨js', e, h1, h2⟩ := key
  refine ⟨js', g.fr.mut h0, g.sa.upd (dL_out g.sa g.pres), g.lw.mono tk, ?_, ?_, ?_, g.lk, g.ll, by rw [upd_same, e], h1, h2, g.o1, g.o2, g.ne⟩
  · rw [upd_ne (ne_of g.row g.pres (by intro z; cases z))]; exact g.row
  · rw [upd_ne (ne_of g.srt g.pres (by intro z; cases z))]; exact g.srt
  · rw [upd_ne g.ne]; exact g.lin
end
/-- a choice of what the statement is to reach, between an if and what follows -/
theorem seq_if {c : TT} {t u v : TS} {D : Ends} {σ : L2.St} {H : Hp} (P : L2.St → Hp → Prop) (h1 : ∀ NX : L2.St → Hp → Prop, (∀ τ H', P τ H' → NX τ H') → tIfS c t u { D with nx := NX } σ H) (h2 : ∀ τ H', P τ H' → v D τ H') : tSeq (tIfS c t u) v D σ H := h1 _ h2
section
variable {K : PySem.W.Frag} {w : World} {H0 H : Hp} {st cl pr pp d2 : Addr} {L : Nat → Addr} {n : Nat} {rs js : List Nat} {ps : List (Nat × Nat)} {σ : L2.St} {te1 te2 : TE} {i j : Nat}
/-- (row[i], row[j]) -/
theorem run_pair {Q : VK} (g : GS w H0 H st cl pr pp d2 L n rs js ps) (h5 : σ[5]? = some (some (.ref pr))) (m1 : ∀ Q : VK, Q (.int (i : Int)) H → te1 σ H Q) (m2 : ∀ Q : VK, Q (.int (j : Int)) H → te2 σ H Q) (hi : i < rs.length) (hj : j < rs.length)
    (q : ∀ pt, H pt = none → Q (.ref pt) (upd H pt (.tup [lv L (rs.getD i 0), lv L (rs.getD j 0)]))) : tTup (tCons (tOp (rIxLQ K) (tVar 5) te1) (tCons (tOp (rIxLQ K) (tVar 5) te2) tNil)) σ H Q :=
  ⟨_, h5, m1 _ ⟨pr, _, _, _, rfl, rfl, sqL g.row, atI_nat (at_lv hi), _, h5, m2 _ ⟨pr, _, _, _, rfl, rfl, sqL g.row, atI_nat (at_lv hj), (by show 2 ≤ sizeLine; decide), q⟩⟩⟩
/-- (row[i], row[j]) not in pairs: one or the other -/
theorem run_pairIn {Q : Bool → Hp → Prop} (g : GS w H0 H st cl pr pp d2 L n rs js ps) (hrn : ∀ k ∈ rs, k < n) (h5 : σ[5]? = some (some (.ref pr))) (h9 : σ[9]? = some (some (.ref pp))) (m1 : ∀ Q : VK, Q (.int (i : Int)) H → te1 σ H Q) (m2 : ∀ Q : VK, Q (.int (j : Int)) H → te2 σ H Q) (hi : i < rs.length) (hj : j < rs.length)
    (q : ∀ b H', GS w H0 H' st cl pr pp d2 L n rs js ps → Q b H') : tTest (tOp (rNotInD K) (tTup (tCons (tOp (rIxLQ K) (tVar 5) te1) (tCons (tOp (rIxLQ K) (tVar 5) te2) tNil))) (tVar 9)) σ H Q := by
  show tTup (tCons (tOp (rIxLQ K) (tVar 5) te1) (tCons (tOp (rIxLQ K) (tVar 5) te2) tNil)) σ H (fun x H1 => tVar 9 σ H1 fun y H2 => rNotInD K x y H2 fun v H3 => ∃ c, v = .bl c ∧ Q c H3)
  refine run_pair g h5 m1 m2 hi hj fun pt hpt => ?_
  have g2 := g.new (o := HO.tup [lv L (rs.getD i 0), lv L (rs.getD j 0)]) hpt
  obtain ⟨us, h1, h2⟩ := g2.prs
  have k1 : rs.getD i 0 < n := hrn _ (by rw [List.getD, List.getElem?_eq_getElem hi]; exact List.getElem_mem hi)
  have k2 : rs.getD j 0 < n := hrn _ (by rw [List.getD, List.getElem?_eq_getElem hj]; exact List.getElem_mem hj)
  exact ⟨_, h9, pd (rs.getD i 0, rs.getD j 0), ps.map pd, .tup (sqT upd_same) (.cons (g2.lw.dp k1) (.cons (g2.lw.dp k2) .nil)), .lst (sqL h1) (pairs_dp g2.lw h2 g2.lt), pd_shaped _, pds_shaped _, _, rfl, q _ _ g2⟩
end
abbrev sGraph : Stmt := topS 13
def spGraph (w : World) : Sp := fun vs H Q _ => ∃ (st cl : Addr), vs = [.ref st] ∧ StA H st cl ∧ ∀ (n : Nat) (L : Nat → Addr) (d1 d2 pr pp t : Addr) (rs js : List Nat) (ps : List (Nat × Nat)) H', n ≤ 6 → H pp = none → js.Nodup → (∀ j ∈ js, j < n) → ps.length ≤ 1000 →
  GS w H H' st cl pr pp d2 L n rs js ps → H' t = some (.tup [.ref d1, .ref d2, .ref pp]) → Q (.ref t) H'
section
variable {P : Program} {w : World} {K : PySem.W.Frag} {mg : Str → Option Value} {base : Heap}
theorem scGraph : FnScope ["_law_state_here", "_law_name", "_law_many", "_law_order", "_law_k", "_law_row", "_law_lines", "_law_present", "_law_line", "_law_pairs", "_law_one", "_law_other"] ["_law_state_here"] (defScope sGraph) := ⟨rfl, rfl, rfl, by decide +kernel, rfl, by decide +kernel, by decide +kernel⟩
theorem ok_graph {f fD fP : Addr} {fd fdD fdP : FuncData} (F : Fun K "_law_graph" "_law_graph" sGraph f fd) (B : Bi mg) (Dr : Kn P w K mg base "_law_draw" 1 fD fdD ["_law_state_here", "_law_many"] spDraw) (Pk : Kn P w K mg base "_law_pick" 2 fP fdP ["_law_state_here", "_law_row"] spPick) : FnOk P w K mg base CX0 3 f fd ["_law_state_here"] (spGraph w) := by
  refine F.ok scGraph (fun vs H Q E h => ?_) (fun cdv A outer s H vs Q E hr h => ?_)
  · obtain ⟨st, cl, rfl, _⟩ := h
    rfl
  · obtain ⟨st, cl, rfl, sa, q⟩ := h
    have hu := hr.units
    have hr1 : Room 1 (A.deeper (PyProof.Rows.envOfC "_law_graph" (defScope sGraph) s.heap.objs.size f cdv)) := hr.mono (by decide)
    have hu65 : (A.deeper (PyProof.Rows.envOfC "_law_graph" (defScope sGraph) s.heap.objs.size f cdv)).units + 65 < cLine := by have := hr.un; omega
    refine ⟨_, pss_cons (ps_set (i := 1) scGraph.nd rfl (Or.inr rfl) (pe_tup (pa_cons (pe_tup (pa_cons pe_str (pa_cons pe_int (pa_cons (pe_tup pa_nil) pa_nil)))) (pa_cons pe_str (pa_cons pe_int pa_nil)))))
      (pss_cons (ps_set (i := 2) scGraph.nd rfl (Or.inl rfl) (pe_call Dr.ok hr1 rfl Dr.mg Dr.kp Dr.b .nil pass0 (pa_cons (pv 0) (pa_cons pe_int pa_nil))))
      (pss_cons (ps_setLc (i := 3) (own := [("_law_k", 4)]) (g := gName 4) (tt := tYes) (te := tTup (tCons (tVar 1) (tCons (tC (.int 1)) (tCons (tVar 4) tNil)))) rfl scGraph.nd rfl rfl (sw_true rfl rfl rfl rfl) (pi_range1 rfl B.range (pa_cons (pv 2) pa_nil)) (blkOk_by (by rfl))
          (fun _ _ _ _ _ => pg_name (i := 4) scGraph.nd rfl (Or.inl rfl)) (fun _ _ _ _ _ => pts_nil) (fun _ _ _ _ _ => pe_tup (pa_cons (pv 1) (pa_cons pe_int (pa_cons (pv 4) pa_nil)))))
      (pss_cons (ps_set (i := 5) scGraph.nd rfl (Or.inl rfl) (pe_lst pa_nil))
      (pss_cons (ps_for PassesOwn.never rfl (pi_range1 rfl B.range (pa_cons (pv 2) pa_nil)) (pg_name (i := 4) scGraph.nd rfl (Or.inl rfl))
        (pss_one (ps_expr (pe_bm PySem.F.plainAttrs_list PySem.F.slot_list_append PySem.F.type_list_append mt_append (pv 5) (pa_cons
          (pe_bm PySem.F.plainAttrs_list PySem.F.slot_list_pop PySem.F.type_list_pop mt_popAt (pv 3) (pa_cons (pe_call Dr.ok hr1 rfl Dr.mg Dr.kp Dr.b .nil pass0 (pa_cons (pv 0) (pa_cons (pe_len B.len rfl (pv 3)) pa_nil))) pa_nil)) pa_nil)))))
      (pss_cons (ps_set (i := 6) scGraph.nd rfl (Or.inl rfl) (pe_new (w := w) rfl))
      (pss_cons (ps_set (i := 7) scGraph.nd rfl (Or.inl rfl) (pe_new (w := w) rfl))
      (pss_cons (ps_for PassesOwn.never rfl (pi_list (pe_callB (call_sortedL (fun p : (Nat → Addr) × Nat => lv p.1 p.2) (fun p => ld p.2) hu) (by rfl) B.sorted PyProof.Rows.boot_sorted (pa_cons (pv 5) pa_nil))) (pg_name (i := 8) scGraph.nd rfl (Or.inl rfl))
        (pss_cons (ps_asg (pe_call Pk.ok hr rfl Pk.mg Pk.kp Pk.b .nil pass0 (pa_cons (pv 0) (pa_cons (pe_lst (pa_cons pe_str (pa_cons pe_str (pa_cons pe_str (pa_cons pe_str pa_nil))))) pa_nil))) (pg_sub (pv 6) (pv 8) (set_n hu)))
        (pss_one (ps_if (pt_cmpR op_gt (pe_call Dr.ok hr1 rfl Dr.mg Dr.kp Dr.b .nil pass0 (pa_cons (pv 0) (pa_cons pe_int pa_nil))) pe_int (nomark _)) (pss_one (ps_asg pe_bl (pg_sub (pv 7) (pv 8) (set_n hu)))) pss_nil))))
      (pss_cons (ps_set (i := 9) scGraph.nd rfl (Or.inl rfl) (pe_lst pa_nil))
      (pss_cons (ps_for PassesOwn.never rfl (pi_range1 rfl B.range (pa_cons (pe_call Dr.ok hr1 rfl Dr.mg Dr.kp Dr.b .nil pass0 (pa_cons (pv 0) (pa_cons (pe_op op_add (pe_op op_mul pe_int (pv 2)) pe_int) pa_nil))) pa_nil)) (pg_name (i := 4) scGraph.nd rfl (Or.inl rfl))
        (pss_cons (ps_par (i := 10) (j := 11) rfl scGraph.nd rfl rfl (by decide) rfl rfl (pa_cons (pe_call Dr.ok hr1 rfl Dr.mg Dr.kp Dr.b .nil pass0 (pa_cons (pv 0) (pa_cons (pv 2) pa_nil))) (pa_cons (pe_call Dr.ok hr1 rfl Dr.mg Dr.kp Dr.b .nil pass0 (pa_cons (pv 0) (pa_cons (pv 2) pa_nil))) pa_nil)) rfl)
        (pss_cons (ps_if (PW.pt (pw_and (pt_cmpR op_gt (pv 10) (pv 11) (nomark _)) (pw_and1 (pt_cmpR op_gt (pe_call Dr.ok hr1 rfl Dr.mg Dr.kp Dr.b .nil pass0 (pa_cons (pv 0) (pa_cons pe_int pa_nil))) pe_int (nomark _)))))
          (pss_one (ps_par (i := 10) (j := 11) rfl scGraph.nd rfl rfl (by decide) rfl rfl (pa_cons (pv 11) (pa_cons (pv 10) pa_nil)) rfl)) pss_nil)
        (pss_one (ps_if (PW.pt (pw_and (pt_cmpR op_ne (pv 10) (pv 11) (nomark _)) (pw_and1 (pt_cmpR (op_notInD hu65) (pe_tup (pa_cons (pe_ix ix_list (pv 5) (pv 10) (fun _ _ => rfl)) (pa_cons (pe_ix ix_list (pv 5) (pv 11) (fun _ _ => rfl)) pa_nil))) (pv 9) rfl))))
          (pss_one (ps_expr (pe_bm PySem.F.plainAttrs_list PySem.F.slot_list_append PySem.F.type_list_append mt_append (pv 9) (pa_cons (pe_tup (pa_cons (pe_ix ix_list (pv 5) (pv 10) (fun _ _ => rfl)) (pa_cons (pe_ix ix_list (pv 5) (pv 11) (fun _ _ => rfl)) pa_nil))) pa_nil)))) pss_nil)))))
      (pss_cons (ps_if (pt_cmpR op_eq (pe_call Dr.ok hr1 rfl Dr.mg Dr.kp Dr.b .nil pass0 (pa_cons (pv 0) (pa_cons pe_int pa_nil))) pe_int (nomark _))
        (pss_one (ps_for PassesOwn.never rfl (pi_range1 rfl B.range (pa_cons (pe_op op_sub (pv 2) pe_int) pa_nil)) (pg_name (i := 4) scGraph.nd rfl (Or.inl rfl))
          (pss_one (ps_if (PW.pt (pw_and (pt_cmpR (op_notInD hu65) (pe_tup (pa_cons (pe_ix ix_list (pv 5) (pv 4) (fun _ _ => rfl)) (pa_cons (pe_ix ix_list (pv 5) (pe_op op_add (pv 4) pe_int) (fun _ _ => rfl)) pa_nil))) (pv 9) rfl)
              (pw_and1 (pt_cmpR op_gt (pe_call Dr.ok hr1 rfl Dr.mg Dr.kp Dr.b .nil pass0 (pa_cons (pv 0) (pa_cons pe_int pa_nil))) pe_int (nomark _)))))
            (pss_one (ps_expr (pe_bm PySem.F.plainAttrs_list PySem.F.slot_list_append PySem.F.type_list_append mt_append (pv 9) (pa_cons (pe_tup (pa_cons (pe_ix ix_list (pv 5) (pv 4) (fun _ _ => rfl)) (pa_cons (pe_ix ix_list (pv 5) (pe_op op_add (pv 4) pe_int) (fun _ _ => rfl)) pa_nil))) pa_nil)))) pss_nil))))
        pss_nil)
      (pss_one (ps_ret (pe_tup (pa_cons (pv 6) (pa_cons (pv 7) (pa_cons (pv 9) pa_nil)))))))))))))))), ?_⟩
    -- the name
    refine ⟨Nat.zero_le _, fun p0 hp0 => ⟨(by show 3 ≤ sizeLine; decide), fun p1 hp1 => ⟨(by show 3 ≤ sizeLine; decide), fun pn hpn => ?_⟩⟩⟩
    have f1 : Fr [] H (upd (upd (upd H p0 (.tup [])) p1 (.tup [.str "label", .int 0, .ref p0])) pn (.tup [.ref p1, .str "ann", .int 1])) := ((Fr.new hp0).trans (Fr.new hp1)).trans (Fr.new hpn)
    have knm : KP (upd (upd (upd H p0 (.tup [])) p1 (.tup [.str "label", .int 0, .ref p0])) pn (.tup [.ref p1, .str "ann", .int 1])) nmK (.ref pn) := by
      have t1 := (Fr.new (D := []) (o := HO.tup [.ref p1, .str "ann", .int 1]) hpn).tk
      have t0 := (Fr.new (D := []) (o := HO.tup [.str "label", .int 0, .ref p0]) hp1).tk
      exact .tup upd_same (.cons (.tup (t1 _ _ upd_same) (.cons (.text _) (.cons (.num 0) (.cons (.tup (t1 _ _ (t0 _ _ upd_same)) .nil) .nil)))) (.cons (.text _) (.cons (.num 1) .nil)))
    generalize upd (upd (upd H p0 (.tup [])) p1 (.tup [.str "label", .int 0, .ref p0])) pn (.tup [.ref p1, .str "ann", .int 1]) = H1 at f1 knm
    have sa1 := sa.fr0 f1
    -- how many
    refine ⟨_, rfl, st, cl, 7, rfl, sa1, by decide, fun n H2 f2 sa2 hn => ?_⟩
    have hn6 : n ≤ 6 := by omega
    have knm2 := knm.mono f2.tk
    have f02 : Fr [st, cl] H H2 := (f1.mono (by simp)).trans f2
    -- the lines
    refine ⟨_, rfl, (n : Int), rfl, by omega, by omega, fun D hD => ?_⟩
    rw [show ((n : Int)).toNat = n by omega]
    have hDH := f02.back hD (sa2.out hD)
    refine lc_range (lo := 0) (n := n) (fun i H' => Fr [] H2 H' ∧ ∃ as : List Addr, as.length = i ∧ H' D = some (.lst (as.map V.ref)) ∧ ∀ (k : Nat) (a : Addr), as[k]? = some a → H' a = some (.tup [.ref pn, .int 1, .int (k : Int)])) ⟨Fr.new hD, [], rfl, upd_same, fun k a h => by simp at h⟩ (fun i H' hi p => ?_) (fun H3 p => ?_)
    · obtain ⟨f3, as, hal, h3D, hat⟩ := p
      refine ⟨rfl, ?_⟩
      dsimp only [tYes]
      rw [if_pos rfl]
      refine ⟨_, rfl, _, rfl, (by show 3 ≤ sizeLine; decide), fun pk hpk => ?_⟩
      have f4 : Fr [] H' (upd H' pk (.tup [.ref pn, .int 1, .int (0 + (i : Int))])) := Fr.new hpk
      have h4D := f4.keep _ _ h3D (by simp)
      refine ⟨_, h4D, by rw [List.length_map, sizeLine_eq]; omega, (f3.trans f4).mut hD, as ++ [pk], by simp [hal], ?_, fun k a hk => ?_⟩
      · rw [upd_same, List.map_append]; rfl
      · have t := tk_upd (o := HO.lst (as.map V.ref ++ [.ref pk])) (lst_ntup h4D)
        by_cases hk' : k < as.length
        · rw [List.getElem?_append_left hk'] at hk
          exact t _ _ (f4.tk _ _ (hat k a hk))
        · have hk2 : k = as.length := by
            have := (List.getElem?_eq_some_iff.mp hk).1
            simp at this
            omega
          subst hk2
          rw [List.getElem?_append_right (Nat.le_refl _)] at hk
          have : pk = a := by simpa using hk
          subst this
          refine t _ _ ?_
          rw [upd_same, hal]
          simp
    · obtain ⟨f3, as, hal, h3D, hat⟩ := p
      -- the lines' places
      obtain ⟨L, hL⟩ : ∃ L : Nat → Addr, L = fun k => as.getD k 0 := ⟨_, rfl⟩
      have hLk : ∀ k, k < n → as[k]? = some (L k) := by
        intro k hk
        rw [hL, List.getElem?_eq_getElem (by omega)]
        simp [List.getD, show k < as.length by omega]
      have lw3 : LW H3 L n := ⟨fun k hk => .tup (hat k _ (hLk k hk)) (.cons (knm2.mono f3.tk) (.cons (.num 1) (.cons (.num k) .nil)))⟩
      have hasL : as.map V.ref = (List.range n).map (lv L) := by
        refine List.ext_getElem? fun k => ?_
        rw [List.getElem?_map, List.getElem?_map]
        by_cases hk : k < n
        · rw [hLk k hk, List.getElem?_range hk]
          rfl
        · rw [List.getElem?_eq_none (by omega), List.getElem?_eq_none (by simp; omega)]
          rfl
      rw [hasL] at h3D
      have f03 : Fr [st, cl] H H3 := f02.trans (f3.mono (by simp))
      have sa3 := sa2.fr0 f3
      have oD : D ∉ [st, cl] := sa2.out hD
      clear hat knm2 knm hasL hLk hL hal
      -- the row
      refine ⟨Nat.zero_le _, fun pr hpr => ?_⟩
      have hprH := f03.back hpr (sa3.out hpr)
      have oR : pr ∉ [st, cl] := sa3.out hpr
      have nRD : pr ≠ D := (ne_of_none h3D hpr).symm
      refine ⟨_, rfl, (n : Int), rfl, by omega, by omega, ?_⟩
      rw [show ((n : Int)).toNat = n by omega]
      refine for_range (lo := 0) (n := n) (fun i τ' H' => ∃ (rs os : List Nat) (o4 : Option V), τ' = [some (.ref st), some (.ref pn), some (.int (n : Int)), some (.ref D), o4, some (.ref pr), none, none, none, none, none, none] ∧ Fr [st, cl] H H' ∧ StA H' st cl ∧ LW H' L n ∧
          H' D = some (.lst (os.map (lv L))) ∧ H' pr = some (.lst (rs.map (lv L))) ∧ (rs ++ os).Perm (List.range n) ∧ rs.length = i)
        ⟨[], List.range n, _, rfl, f03.trans (Fr.new hpr), sa3.upd oR, lw3.mono (Fr.new (D := []) hpr).tk, (Fr.new (D := []) hpr).keep _ _ h3D (by simp), upd_same, List.Perm.refl _, rfl⟩ ?_ ?_
      · rintro i τ' H4 hi ⟨rs, os, o4, rfl, f4, sa4, lw4, h4D, h4R, hperm, hrl⟩
        have hlen := hperm.length_eq
        rw [List.length_append, List.length_range] at hlen
        refine ⟨_, rfl, Or.inl ⟨rfl, _, sqL h4R⟩, _, rfl, Or.inl ⟨rfl, _, sqL h4D⟩, _, rfl, _, rfl, D, _, rfl, Or.inl (sqL h4D), st, cl, os.length, by rw [List.length_map]; rfl, sa4, by omega, fun r H5 f5 sa5 hr' => ?_⟩
        have hro : r < os.length := by omega
        have h5D := f5.keep _ _ h4D oD
        have h5R := f5.keep _ _ h4R oR
        have hg : (os.map (lv L))[r]? = some (lv L os[r]) := by rw [List.getElem?_map, List.getElem?_eq_getElem hro]; rfl
        refine ⟨D, _, _, r, _, rfl, rfl, h5D, by omega, by omega, (ixN_seq (ixN_at (n := (os.map (lv L)).length) (by rw [List.length_map]; exact hro))).1, hg, ?_⟩
        have h6R : upd H5 D (HO.lst ((os.map (lv L)).eraseIdx r)) pr = _ := Eq.trans (upd_ne nRD) h5R
        refine ⟨pr, _, _, rfl, rfl, h6R, by rw [List.length_map, sizeLine_eq]; omega, ?_⟩
        have t5 := tk_upd (o := HO.lst ((os.map (lv L)).eraseIdx r)) (lst_ntup h5D)
        have t6 := tk_upd (o := HO.lst (rs.map (lv L) ++ [lv L os[r]])) (lst_ntup h6R)
        refine ⟨rs ++ [os[r]], os.eraseIdx r, _, rfl, ((f4.trans f5).mut hDH).mut hprH, (sa5.upd oD).upd oR, ((lw4.mono f5.tk).mono t5).mono t6, ?_, ?_, ?_, by simp [hrl]⟩
        · rw [upd_ne (Ne.symm nRD), upd_same, erase_map]
        · rw [upd_same, List.map_append]; rfl
        · rw [List.append_assoc]
          refine List.Perm.trans (List.Perm.append_left rs ?_) hperm
          exact erase_perm os r hro
      · rintro τ' H4 ⟨rs, os, o4, rfl, f4, sa4, lw4, h4D, h4R, hperm, hrl⟩
        have hos : os = [] := by
          have hlen := hperm.length_eq
          rw [List.length_append, List.length_range] at hlen
          exact List.length_eq_zero_iff.mp (by omega)
        subst hos
        rw [List.append_nil] at hperm
        have hrn : ∀ k ∈ rs, k < n := fun k hk => List.mem_range.mp (hperm.mem_iff.mp hk)
        clear h4D
        intro d1 hd1
        intro d2 hd2
        obtain ⟨hd21, hd2'⟩ := upd_none hd2
        have f5 := f4.trans ((Fr.new (D := []) (o := dN w d1 []) hd1).mono (by simp))
        have hd1H := f4.back hd1 (sa4.out hd1)
        have hd2H := f4.back hd2' (sa4.out hd2')
        have fa : Fr [] H4 (upd (upd H4 d1 (dN w d1 [])) d2 (dN w d2 [])) := (Fr.new hd1).trans (Fr.new hd2)
        have e1 : upd (upd H4 d1 (dN w d1 [])) d2 (dN w d2 []) d1 = some (dL w L d1 []) := (Fr.new (D := []) hd2).keep _ _ upd_same (by simp)
        have e2 : upd (upd H4 d1 (dN w d1 [])) d2 (dN w d2 []) d2 = some (dL w L d2 (tjs [])) := upd_same
        have e3 := fa.keep _ _ h4R (by simp)
        have sa6 := sa4.fr0 fa
        have lw6 := lw4.mono fa.tk
        have f6 : Fr [st, cl] H (upd (upd H4 d1 (dN w d1 [])) d2 (dN w d2 [])) := f4.trans (fa.mono (by simp))
        generalize upd (upd H4 d1 (dN w d1 [])) d2 (dN w d2 []) = H6 at e1 e2 e3 sa6 lw6 f6
        -- sorted(row)
        have hbs : ∀ b ∈ rs.map (fun k => (L, k)), b.1 = L ∧ b.2 < n := by
          intro b hb
          obtain ⟨k, hk, rfl⟩ := List.mem_map.mp hb
          exact ⟨rfl, hrn k hk⟩
        refine ⟨_, rfl, pr, rs.map (fun k => (L, k)), rfl, ?_, ?_, fun ps hps => ?_⟩
        · rw [List.map_map]
          exact sqL e3
        · exact {
            dp := fun b hb => by
              obtain ⟨h1, h2⟩ := hbs b hb
              rw [h1]
              exact lw6.dp h2
            alike := PySem.W.AllAlike.of (enc := fun p : (Nat → Addr) × Nat => ld p.2) fun b b' => ld_alike _ _
            sortable := PySem.W.Sortable.tuples (enc := fun p : (Nat → Addr) × Nat => ld p.2) fun b => ⟨_, _, ld_eq _⟩
            depth := fun b _ => by rw [ld_depth]; decide }
        · obtain ⟨ks, hks, hkn, hkl⟩ : ∃ ks : List Nat, ((rs.map fun k => (L, k)).mergeSort (PySem.W.dataLe false fun p : (Nat → Addr) × Nat => ld p.2)).map (fun p => lv p.1 p.2) = ks.map (lv L) ∧ (∀ k ∈ ks, k < n) ∧ ks.length = n := by
            refine ⟨((rs.map fun k => (L, k)).mergeSort (PySem.W.dataLe false fun p : (Nat → Addr) × Nat => ld p.2)).map (·.2), ?_, fun k hk => ?_, ?_⟩
            · rw [List.map_map]
              refine List.map_congr_left fun b hb => ?_
              have := (hbs b ((List.mergeSort_perm _ _).mem_iff.mp hb)).1
              show lv b.1 b.2 = lv L b.2
              rw [this]
            · obtain ⟨b, hb, rfl⟩ := List.mem_map.mp hk
              exact (hbs b ((List.mergeSort_perm _ _).mem_iff.mp hb)).2
            · rw [List.length_map, List.length_mergeSort, List.length_map]
              exact hrl
          rw [hks]
          have oPs := sa6.out hps
          have g0 : LS w H (upd H6 ps (.lst (ks.map (lv L)))) st cl pr ps d1 d2 L n 0 rs ks [] [] := by
            have fn : Fr [] H6 (upd H6 ps (.lst (ks.map (lv L)))) := Fr.new hps
            exact ⟨f6.trans (fn.mono (by simp)), sa6.fr0 fn, lw6.mono fn.tk, fn.keep _ _ e3 (by simp), upd_same, fn.keep _ _ e1 (by simp), (fun p h => (nomatch h)), Nat.le_refl _, fn.keep _ _ e2 (by simp), List.nodup_nil, (fun p h => (nomatch h)), oR, oPs, Ne.symm hd21⟩
          refine ⟨ps, rfl, ⟨_, sqL g0.srt⟩, for_list (K := K) (a := ps) (xs := ks.map (lv L)) (fun i τ' H' => ∃ kvs js o8, τ' = [some (.ref st), some (.ref pn), some (.int (n : Int)), some (.ref D), o4, some (.ref pr), some (.ref d1), some (.ref d2), o8, none, none, none] ∧
              LS w H H' st cl pr ps d1 d2 L n i rs ks kvs js) ⟨[], [], none, rfl, g0⟩ (fun i τ' H' _ ⟨_, _, _, _, g⟩ => sqL g.srt) ?_ ?_⟩
          · rintro i y τ' H7 hi ⟨kvs, js, o8, rfl, g⟩
            have hil : i < ks.length := by
              have := (List.getElem?_eq_some_iff.mp hi).1
              rwa [List.length_map] at this
            rw [List.getElem?_map] at hi
            obtain ⟨x, hx, rfl⟩ := Option.map_eq_some_iff.mp hi
            have hxn := hkn x (List.mem_of_getElem? hx)
            refine ⟨_, rfl, (by show 4 ≤ sizeLine; decide), fun pa hpa => ?_⟩
            have ga := g.new (o := HO.lst [.str "a", .str "b", .str "c", .str "d"]) hpa
            have oa := g.sa.out hpa
            simp only [List.mem_cons, List.not_mem_nil, or_false, not_or] at oa
            refine ⟨st, cl, pa, _, rfl, ga.sa, upd_same, oa.1, oa.2, by simp, by decide, fun j v H8 hv f8 sa8 => ?_⟩
            have g8 := ga.draw f8 sa8
            refine ⟨_, rfl, _, rfl, LW.put g8.lw g8.lk g8.lin hxn (by have := g8.ll; rw [sizeLine_eq]; omega) ?_⟩
            have g9 := g8.put1 (v := v) hd1H hxn
            refine ⟨_, rfl, st, cl, 5, rfl, g9.sa, by decide, fun r H10 f10 sa10 _ => ?_⟩
            have g10 := g9.draw f10 sa10
            refine ⟨_, _, rfl, rfl, _, rfl, ?_⟩
            by_cases hr0 : (0 : Int) < (r : Int)
            · rw [decide_eq_true hr0]
              refine iteT ?_
              refine ⟨_, rfl, _, rfl, LW.put g10.lw (tjs_lt g10.jl) g10.pres hxn ?_ ?_⟩
              · have := nodup_len n js g10.jn g10.jl
                rw [sizeLine_eq, tjs, List.length_map]
                omega
              · obtain ⟨js', g11⟩ := g10.put2 hd2H hxn
                exact ⟨_, js', _, rfl, g11⟩
            · rw [decide_eq_false hr0]
              refine iteF ?_
              exact ⟨_, js, _, rfl, g10⟩
          · rintro τ' H7 ⟨kvs, js, o8, rfl, g⟩
            refine ⟨Nat.zero_le _, fun pp hpp => ?_⟩
            have hppH := g.fr.back hpp (g.sa.out hpp)
            have oPp := g.sa.out hpp
            have fn : Fr [] H7 (upd H7 pp (.lst [])) := Fr.new hpp
            have gs0 : GS w H (upd H7 pp (.lst [])) st cl pr pp d2 L n rs js [] :=
              ⟨g.fr.trans (fn.mono (by simp)), g.sa.fr0 fn, g.lw.mono fn.tk, fn.keep _ _ g.row (by simp), fn.keep _ _ g.pres (by simp), ⟨[], upd_same, .nil⟩, (fun p h => (nomatch h)), oR, oPp, ne_of_none g.row hpp⟩
            have hjn := g.jn
            have hjl := g.jl
            clear g fn
            have psbig : ∀ {ps : List (Nat × Nat)} {H' : Hp}, GS w H H' st cl pr pp d2 L n rs js ps → ps.length ≤ 40 → ∀ us, H' pp = some (.lst us) → PairsIn H' L ps us → us.length < sizeLine := by
              intro ps H' _ hz us _ h2
              rw [← PySem.Paired.length h2, sizeLine_eq]
              omega
            -- the first pairs
            refine ⟨_, rfl, _, rfl, _, _, rfl, rfl, Or.inl ⟨by omega, by omega⟩, _, _, rfl, rfl, st, cl, 2 * n + 1, by rw [show ((2 * n + 1 : Nat) : Int) = 2 * (n : Int) + 1 by omega]; rfl, gs0.sa, by omega, fun r H9 f9 sa9 hr9 => ?_⟩
            have gs9 := gs0.draw f9 sa9
            refine ⟨_, rfl, by omega, by omega, ?_⟩
            rw [show ((r : Int)).toNat = r by omega]
            refine for_range (lo := 0) (n := r) (fun i τ' H' => ∃ ps o4 o10 o11, τ' = [some (.ref st), some (.ref pn), some (.int (n : Int)), some (.ref D), o4, some (.ref pr), some (.ref d1), some (.ref d2), o8, some (.ref pp), o10, o11] ∧
                GS w H H' st cl pr pp d2 L n rs js ps ∧ ps.length ≤ i) ⟨[], _, _, _, rfl, gs9, Nat.le_refl _⟩ ?_ ?_
            · rintro i τ' H10 hi ⟨ps, o4, o10, o11, rfl, g, hpl⟩
              have hn1 : 0 < n := by omega
              refine ⟨_, rfl, _, rfl, st, cl, n, rfl, g.sa, by omega, fun r1 H11 f11 sa11 hr1 => ?_⟩
              have g11 := g.draw f11 sa11
              refine ⟨_, rfl, _, rfl, st, cl, n, rfl, g11.sa, by omega, fun r2 H12 f12 sa12 hr2 => ?_⟩
              have g12 := g11.draw f12 sa12
              refine ⟨_, _, rfl, ?_⟩
              dsimp only
              refine seq_if (fun τ H' => ∃ a b : Nat, a < n ∧ b < n ∧ τ = [some (.ref st), some (.ref pn), some (.int (n : Int)), some (.ref D), some (.int (0 + (i : Int))), some (.ref pr), some (.ref d1), some (.ref d2), o8, some (.ref pp), some (.int (a : Int)), some (.int (b : Int))] ∧
                GS w H H' st cl pr pp d2 L n rs js ps) (fun NX hN => ?_) ?_
              · refine ⟨_, rfl, _, rfl, _, _, rfl, rfl, _, rfl, ?_⟩
                by_cases hgt : (r2 : Int) < (r1 : Int)
                · rw [decide_eq_true hgt]
                  refine iteT ?_
                  refine ⟨_, rfl, st, cl, 6, rfl, g12.sa, by decide, fun r3 H13 f13 sa13 _ => ⟨_, _, rfl, rfl, _, rfl, ?_⟩⟩
                  have g13 := g12.draw f13 sa13
                  by_cases hr3 : (0 : Int) < (r3 : Int)
                  · rw [decide_eq_true hr3]
                    refine iteT ?_
                    exact ⟨_, rfl, _, rfl, _, _, rfl, hN _ _ ⟨r2, r1, by omega, by omega, rfl, g13⟩⟩
                  · rw [decide_eq_false hr3]
                    refine iteF ?_
                    exact hN _ _ ⟨r1, r2, by omega, by omega, rfl, g13⟩
                · rw [decide_eq_false hgt]
                  refine iteF (iteF ?_)
                  exact hN _ _ ⟨r1, r2, by omega, by omega, rfl, g12⟩
              · rintro τ H13 ⟨a, b, han, hbn, rfl, g13⟩
                refine ⟨_, rfl, _, rfl, rfl, _, rfl, ?_⟩
                have next : ∀ {H'}, GS w H H' st cl pr pp d2 L n rs js ps → ∃ ps o4 o10 o11, ([some (.ref st), some (.ref pn), some (.int (n : Int)), some (.ref D), some (.int (0 + (i : Int))), some (.ref pr), some (.ref d1), some (.ref d2), o8, some (.ref pp), some (.int (a : Int)), some (.int (b : Int))] : L2.St) =
                    [some (.ref st), some (.ref pn), some (.int (n : Int)), some (.ref D), o4, some (.ref pr), some (.ref d1), some (.ref d2), o8, some (.ref pp), o10, o11] ∧ GS w H H' st cl pr pp d2 L n rs js ps ∧ ps.length ≤ i + 1 := fun g' => ⟨ps, _, _, _, rfl, g', by omega⟩
                cases hd : (!decide (V.int (a : Int) = V.int (b : Int))) with
                | false =>
                  refine iteF (iteF ?_)
                  exact next g13
                | true =>
                  refine iteT ?_
                  refine run_pairIn g13 hrn rfl rfl (fun Q q => ⟨_, rfl, q⟩) (fun Q q => ⟨_, rfl, q⟩) (by omega) (by omega) fun c H14 g14 => ?_
                  cases c with
                  | false =>
                    refine iteF ?_
                    exact next g14
                  | true =>
                    refine iteT ?_
                    obtain ⟨us, h1, h2⟩ := g14.prs
                    refine ⟨_, rfl, Or.inl ⟨rfl, _, sqL h1⟩, run_pair g14 rfl (fun Q q => ⟨_, rfl, q⟩) (fun Q q => ⟨_, rfl, q⟩) (by omega) (by omega) fun pt hpt => ?_⟩
                    have g15 := g14.new (o := HO.tup [lv L (rs.getD a 0), lv L (rs.getD b 0)]) hpt
                    have h1' := Eq.trans (upd_ne (o := HO.tup [lv L (rs.getD a 0), lv L (rs.getD b 0)]) (ne_of_none h1 hpt)) h1
                    have h2' := h2.tk (Fr.new (D := []) (o := HO.tup [lv L (rs.getD a 0), lv L (rs.getD b 0)]) hpt).tk
                    refine ⟨pp, us, _, rfl, rfl, h1', psbig g15 (by omega) us h1' h2', ?_⟩
                    have k1 : rs.getD a 0 < n := hrn _ (by rw [List.getD, List.getElem?_eq_getElem (by omega)]; exact List.getElem_mem _)
                    have k2 : rs.getD b 0 < n := hrn _ (by rw [List.getD, List.getElem?_eq_getElem (by omega)]; exact List.getElem_mem _)
                    exact ⟨_, _, _, _, rfl, g15.app (p := (rs.getD a 0, rs.getD b 0)) hppH h1' h2' ⟨pt, rfl, upd_same⟩ ⟨k1, k2⟩, by rw [List.length_append]; simp; omega⟩
            · rintro τ' H10 ⟨ps, o4, o10, o11, rfl, g, hpl⟩
              have hr12 : r ≤ 12 := by omega
              dsimp only
              refine seq_if (fun τ H' => ∃ ps o4 o10 o11, τ = [some (.ref st), some (.ref pn), some (.int (n : Int)), some (.ref D), o4, some (.ref pr), some (.ref d1), some (.ref d2), o8, some (.ref pp), o10, o11] ∧
                GS w H H' st cl pr pp d2 L n rs js ps ∧ ps.length ≤ 1000) (fun NX hN => ?_) ?_
              · refine ⟨_, rfl, st, cl, 3, rfl, g.sa, by decide, fun r3 H11 f11 sa11 _ => ⟨rfl, _, rfl, ?_⟩⟩
                have g11 := g.draw f11 sa11
                cases hd : decide (V.int (r3 : Int) = V.int 0) with
                | false =>
                  refine iteF ?_
                  exact hN _ _ ⟨ps, _, _, _, rfl, g11, by omega⟩
                | true =>
                  refine iteT ?_
                  refine ⟨_, rfl, _, _, rfl, rfl, _, rfl, by omega, by omega, ?_⟩
                  rw [show ((n : Int) - 1).toNat = n - 1 by omega]
                  refine for_range (lo := 0) (n := n - 1) (fun i τ' H' => ∃ ps o4 o10 o11, τ' = [some (.ref st), some (.ref pn), some (.int (n : Int)), some (.ref D), o4, some (.ref pr), some (.ref d1), some (.ref d2), o8, some (.ref pp), o10, o11] ∧
                    GS w H H' st cl pr pp d2 L n rs js ps ∧ ps.length ≤ 12 + i) ⟨ps, _, _, _, rfl, g11, by omega⟩ ?_ ?_
                  · rintro i τ' H12 hi ⟨ps, o4, o10, o11, rfl, g12, hpl⟩
                    have next : ∀ {H'}, GS w H H' st cl pr pp d2 L n rs js ps → ∃ ps o4 o10' o11', ([some (.ref st), some (.ref pn), some (.int (n : Int)), some (.ref D), some (.int (0 + (i : Int))), some (.ref pr), some (.ref d1), some (.ref d2), o8, some (.ref pp), o10, o11] : L2.St) =
                        [some (.ref st), some (.ref pn), some (.int (n : Int)), some (.ref D), o4, some (.ref pr), some (.ref d1), some (.ref d2), o8, some (.ref pp), o10', o11'] ∧ GS w H H' st cl pr pp d2 L n rs js ps ∧ ps.length ≤ 12 + (i + 1) := fun g' => ⟨ps, _, _, _, rfl, g', by omega⟩
                    have m1 : ∀ {H' : Hp} (Q : VK), Q (.int (i : Int)) H' → tVar 4 [some (.ref st), some (.ref pn), some (.int (n : Int)), some (.ref D), some (.int (0 + (i : Int))), some (.ref pr), some (.ref d1), some (.ref d2), o8, some (.ref pp), o10, o11] H' Q := fun Q q => ⟨_, rfl, by rw [show (0 : Int) + (i : Int) = (i : Int) by omega]; exact q⟩
                    have m2 : ∀ {H' : Hp} (Q : VK), Q (.int ((i + 1 : Nat) : Int)) H' → tOp (rI0 fun i j => .int (i + j)) (tVar 4) (tC (.int 1)) [some (.ref st), some (.ref pn), some (.int (n : Int)), some (.ref D), some (.int (0 + (i : Int))), some (.ref pr), some (.ref d1), some (.ref d2), o8, some (.ref pp), o10, o11] H' Q :=
                      fun Q q => ⟨_, rfl, _, _, rfl, rfl, by show Q (.int (0 + (i : Int) + 1)) _; rw [show (0 : Int) + (i : Int) + 1 = ((i + 1 : Nat) : Int) by omega]; exact q⟩
                    refine run_pairIn g12 hrn rfl rfl m1 m2 (by omega) (by omega) fun c H13 g13 => ?_
                    cases c with
                    | false =>
                      refine iteF (iteF ?_)
                      exact next g13
                    | true =>
                      refine iteT ?_
                      refine ⟨_, rfl, st, cl, 4, rfl, g13.sa, by decide, fun r4 H14 f14 sa14 _ => ⟨_, _, rfl, rfl, _, rfl, ?_⟩⟩
                      have g14 := g13.draw f14 sa14
                      by_cases hr4 : (0 : Int) < (r4 : Int)
                      · rw [decide_eq_true hr4]
                        refine iteT ?_
                        obtain ⟨us, h1, h2⟩ := g14.prs
                        refine ⟨_, rfl, Or.inl ⟨rfl, _, sqL h1⟩, run_pair g14 rfl m1 m2 (by omega) (by omega) fun pt hpt => ?_⟩
                        have g15 := g14.new (o := HO.tup [lv L (rs.getD i 0), lv L (rs.getD (i + 1) 0)]) hpt
                        have h1' := Eq.trans (upd_ne (o := HO.tup [lv L (rs.getD i 0), lv L (rs.getD (i + 1) 0)]) (ne_of_none h1 hpt)) h1
                        have h2' := h2.tk (Fr.new (D := []) (o := HO.tup [lv L (rs.getD i 0), lv L (rs.getD (i + 1) 0)]) hpt).tk
                        refine ⟨pp, us, _, rfl, rfl, h1', psbig g15 (by omega) us h1' h2', ?_⟩
                        have k1 : rs.getD i 0 < n := hrn _ (by rw [List.getD, List.getElem?_eq_getElem (by omega)]; exact List.getElem_mem _)
                        have k2 : rs.getD (i + 1) 0 < n := hrn _ (by rw [List.getD, List.getElem?_eq_getElem (by omega)]; exact List.getElem_mem _)
                        exact ⟨_, _, _, _, rfl, g15.app (p := (rs.getD i 0, rs.getD (i + 1) 0)) hppH h1' h2' ⟨pt, rfl, upd_same⟩ ⟨k1, k2⟩, by rw [List.length_append]; simp; omega⟩
                      · rw [decide_eq_false hr4]
                        refine iteF ?_
                        exact next g14
                  · rintro τ' H12 ⟨ps, o4, o10, o11, rfl, g12, hpl⟩
                    exact hN _ _ ⟨ps, _, _, _, rfl, g12, by omega⟩
              · rintro τ H11 ⟨ps, o4, o10, o11, rfl, g11, hpl⟩
                refine ⟨_, rfl, _, rfl, _, rfl, (by show 3 ≤ sizeLine; decide), fun t ht => ?_⟩
                exact q n L d1 d2 pr pp t rs js ps _ hn6 hppH hjn hjl hpl (g11.new ht) upd_same
end
end QW
end
section
set_option Elab.async false
set_option linter.all false
set_option maxRecDepth 100000
set_option maxHeartbeats 4000000
/-! several things locked for good; the law's edges -/
namespace QW
open PySem L2 QN Qw
/-- the things at ds are locked, one after another -/
def lockN : List Addr → (Hp → Prop) → Hp → Prop
  | [], Q, H => Q H
  | d :: ds, Q, H => ∃ u, H d = some u ∧ Mut (some u) ∧ ∀ od, lockN ds Q (upd H d (.frz od u))
/-- a value, behind which some things are locked -/
def tFrzE (t : TE) : TE := fun σ H Q => t σ H fun v H1 => ∃ ds, lockN ds (Q v) H1
theorem inv_lockN {X : Cx} {pn : List (Addr × Obj)} {σ : L2.St} {s : Shared} {Q : Hp → Prop} : ∀ {ds : List Addr} {H : Hp}, L2.Inv X pn σ H s → lockN ds Q H → ∃ H', L2.Inv X pn σ H' s ∧ Q H'
  | [], H, I, q => ⟨H, I, q⟩
  | d :: ds, H, I, q => by
    obtain ⟨u, hd, mu, q⟩ := q
    obtain ⟨od, I2⟩ := I.lock hd mu
    exact inv_lockN I2 (q od)
theorem pe_frz {X : Cx} {e : Expr} {t : TE} (h : PE X e t) : PE X e (tFrzE t) := by
  refine ⟨fun pn s σ H Q I hq => thn (h.run pn s σ H _ I hq) fun u s1 q => ?_⟩
  obtain ⟨v, H1, I1, r, ds, q⟩ := q
  obtain ⟨H2, I2, q2⟩ := inv_lockN I1 q
  exact ⟨v, H2, I2, r, q2⟩
theorem lock_all {Q : Hp → Prop} : ∀ {ds : List Addr} {H : Hp}, ds.Nodup → (∀ d ∈ ds, ∃ u, H d = some u ∧ Mut (some u)) → (∀ H', (∀ a, a ∉ ds → H' a = H a) → (∀ d ∈ ds, ∀ u, H d = some u → ∃ od, H' d = some (.frz od u)) → Q H') → lockN ds Q H
  | [], H, _, _, q => q H (fun _ _ => rfl) fun _ h => (nomatch h)
  | d :: ds, H, hn, hm, q => by
    rw [List.nodup_cons] at hn
    obtain ⟨u, hu, mu⟩ := hm d List.mem_cons_self
    refine ⟨u, hu, mu, fun od => lock_all hn.2 (fun e he => ?_) fun H' h1 h2 => q H' (fun a ha => ?_) fun e he v hv => ?_⟩
    · have hne : e ≠ d := fun z => hn.1 (z ▸ he)
      rw [upd_ne hne]
      exact hm e (List.mem_cons_of_mem _ he)
    · rw [List.mem_cons, not_or] at ha
      rw [h1 a ha.2, upd_ne ha.1]
    · rcases List.mem_cons.mp he with e1 | he
      · subst e1
        rw [hu] at hv
        cases hv
        rw [h1 e hn.1, upd_same]
        exact ⟨od, rfl⟩
      · have hne : e ≠ d := fun z => hn.1 (z ▸ he)
        exact h2 e he v (by rw [upd_ne hne]; exact hv)
/-! ### dicts whose values stand at addresses -/
abbrev esV (es : List (Nat × Addr)) : List (Nat × V) := es.map fun p => (p.1, V.ref p.2)
theorem valV_es (k : Nat) : ∀ es : List (Nat × Addr), (∃ l, (k, l) ∈ es ∧ valV (esV es) k = some (.ref l)) ∨ (k ∉ es.map (·.1) ∧ valV (esV es) k = none)
  | [] => Or.inr ⟨by simp, rfl⟩
  | p :: es => by
    by_cases h : p.1 = k
    · refine Or.inl ⟨p.2, by rw [← h]; exact List.mem_cons_self, ?_⟩
      exact valV_pos (r := esV es) (p := (p.1, V.ref p.2)) h
    · have e : valV (esV (p :: es)) k = valV (esV es) k := valV_neg (r := esV es) (p := (p.1, V.ref p.2)) h
      rw [e]
      rcases valV_es k es with ⟨l, h1, h2⟩ | ⟨h1, h2⟩
      · exact Or.inl ⟨l, List.mem_cons_of_mem _ h1, h2⟩
      · refine Or.inr ⟨?_, h2⟩
        rw [List.map_cons, List.mem_cons, not_or]
        exact ⟨fun z => h z.symm, h1⟩
theorem putK_es {es : List (Nat × Addr)} {k : Nat} {l : Addr} (h : k ∉ es.map (·.1)) : putK (esV es) k (.ref l) = esV (es ++ [(k, l)]) := by
  have : valV (esV es) k = none := by
    rcases valV_es k es with ⟨l', h1, _⟩ | ⟨_, h2⟩
    · exact absurd (List.mem_map.mpr ⟨_, h1, rfl⟩) h
    · exact h2
  rw [putK_new _ this]
  unfold esV
  rw [List.map_append]
  rfl
theorem es_one {es : List (Nat × Addr)} (h : (es.map (·.1)).Nodup) {k : Nat} {l l' : Addr} (h1 : (k, l) ∈ es) (h2 : (k, l') ∈ es) : l = l' := by
  induction es with
  | nil => cases h1
  | cons p es ih =>
    rw [List.map_cons, List.nodup_cons] at h
    rcases List.mem_cons.mp h1 with e1 | h1
    · rcases List.mem_cons.mp h2 with e2 | h2
      · rw [← e1] at e2
        cases e2
        rfl
      · exact absurd (List.mem_map.mpr ⟨_, h2, by rw [← e1]⟩) h.1
    · rcases List.mem_cons.mp h2 with e2 | h2
      · exact absurd (List.mem_map.mpr ⟨_, h1, by rw [← e2]⟩) h.1
      · exact ih h.2 h1 h2
/-- the lines right behind k, by pairs -/
def adjOf (qs : List (Nat × Nat)) (k : Nat) : List Nat := (qs.filter fun q => decide (q.1 = k)).map (·.2)
theorem mem_adjOf {qs : List (Nat × Nat)} {a b : Nat} : b ∈ adjOf qs a ↔ (a, b) ∈ qs := by
  unfold adjOf
  constructor
  · intro h
    obtain ⟨q, h1, h2⟩ := List.mem_map.mp h
    obtain ⟨h3, h4⟩ := List.mem_filter.mp h1
    have h4 := of_decide_eq_true h4
    rw [← h4, ← h2]
    exact h3
  · intro h
    exact List.mem_map.mpr ⟨(a, b), List.mem_filter.mpr ⟨h, by simp⟩, rfl⟩
theorem adjOf_snoc (qs : List (Nat × Nat)) (a b k : Nat) : adjOf (qs ++ [(a, b)]) k = if a = k then adjOf qs k ++ [b] else adjOf qs k := by
  unfold adjOf
  rw [List.filter_append, List.map_append, List.filter_cons]
  by_cases h : a = k
  · rw [if_pos h, if_pos (by simpa using h)]
    rfl
  · rw [if_neg h, if_neg (by simpa using h)]
    simp
theorem adjOf_len (qs : List (Nat × Nat)) (k : Nat) : (adjOf qs k).length ≤ qs.length := by
  unfold adjOf
  rw [List.length_map]
  exact List.length_filter_le _ _
end QW
end
section
set_option Elab.async false
set_option linter.all false
set_option maxRecDepth 100000
set_option maxHeartbeats 8000000
/-! the law's edges -/
namespace QW
open PySem L2 QN Qw
def EdB (L : Nat → Addr) (adj : Nat → List Nat) (H : Hp) (k : Nat) : Option V → Prop
  | none => adj k = []
  | some v => ∃ l o, v = .ref l ∧ H l = some (.frz o (.lst ((adj k).map (lv L))))
theorem pd_alike (a b : Nat × Nat) : PySem.W.alike (pd a) (pd b) = true := by
  simp [pd, PySem.W.alike, PySem.W.alikeAll, ld_alike]
theorem pd_depth (a : Nat × Nat) : (pd a).depth ≤ 10 := by
  have h3 := ld_depth a.1
  have h4 := ld_depth a.2
  simp only [pd, PyData.depth, PyData.depthAll]
  omega
/-- the state while edges are told -/
structure ES (w : World) (H0 H : Hp) (E : Addr) (L : Nat → Addr) (n : Nat) (es : List (Nat × Addr)) (qs : List (Nat × Nat)) : Prop where
  fr : Fr [] H0 H
  d : H E = some (dL w L E (esV es))
  kn : (es.map (·.1)).Nodup
  an : (es.map (·.2)).Nodup
  lt : ∀ p ∈ es, p.1 < n
  ls : ∀ p ∈ es, H p.2 = some (.lst ((adjOf qs p.1).map (lv L)))
  new : ∀ p ∈ es, H0 p.2 = none
  has : ∀ q ∈ qs, q.1 ∈ es.map (·.1)
  e0 : H0 E = none
section
variable {w : World} {H0 H : Hp} {E l : Addr} {L : Nat → Addr} {n a b : Nat} {es : List (Nat × Addr)} {qs : List (Nat × Nat)}
theorem ES.lts (g : ES w H0 H E L n es qs) : ∀ p ∈ esV es, p.1 < n := by
  intro p hp
  obtain ⟨q, hq, rfl⟩ := List.mem_map.mp hp
  exact g.lt q hq
theorem ES.few (g : ES w H0 H E L n es qs) : (esV es).length ≤ n := by
  have := nodup_len n (es.map (·.1)) g.kn fun x hx => by
    obtain ⟨p, hp, rfl⟩ := List.mem_map.mp hx
    exact g.lt p hp
  simpa using this
theorem ES.ne (g : ES w H0 H E L n es qs) {p : Nat × Addr} (hp : p ∈ es) : p.2 ≠ E := ne_of (g.ls p hp) g.d (by intro z; cases z)
theorem ES.key (g : ES w H0 H E L n es qs) (ha : a < n) (hk : a ∉ es.map (·.1)) (hl : H l = none) (hl0 : l ≠ E) : ES w H0 (upd (upd H l (.lst [])) E (dL w L E (putK (esV es) a (.ref l)))) E L n (es ++ [(a, l)]) qs := by
  have f1 : Fr [] H (upd H l (.lst [])) := Fr.new hl
  have hd1 := f1.keep _ _ g.d (by simp)
  have hlH0 := g.fr.back hl (by simp)
  have hnl : ∀ p ∈ es, p.2 ≠ l := fun p hp => ne_of_none (g.ls p hp) hl
  refine ⟨(g.fr.trans f1).mut g.e0, by rw [upd_same, putK_es hk], ?_, ?_, ?_, ?_, ?_, ?_, g.e0⟩
  · rw [List.map_append]
    refine List.nodup_append.mpr ⟨g.kn, by simp, fun x hx y hy => ?_⟩
    have : y = a := by simpa using hy
    rw [this]
    intro z
    exact hk (z ▸ hx)
  · rw [List.map_append]
    refine List.nodup_append.mpr ⟨g.an, by simp, fun x hx y hy => ?_⟩
    have : y = l := by simpa using hy
    rw [this]
    obtain ⟨p, hp, rfl⟩ := List.mem_map.mp hx
    exact hnl p hp
  · intro p hp
    rcases List.mem_append.mp hp with hp | hp
    · exact g.lt p hp
    · rw [List.mem_singleton.mp hp]; exact ha
  · intro p hp
    rcases List.mem_append.mp hp with hp | hp
    · rw [upd_ne (g.ne hp)]
      exact f1.keep _ _ (g.ls p hp) (by simp)
    · rw [List.mem_singleton.mp hp]
      rw [upd_ne hl0, upd_same]
      have : adjOf qs a = [] := by
        unfold adjOf
        rw [List.filter_eq_nil_iff.mpr, List.map_nil]
        intro q hq hz
        exact hk (of_decide_eq_true hz ▸ g.has q hq)
      rw [this]
      rfl
  · intro p hp
    rcases List.mem_append.mp hp with hp | hp
    · exact g.new p hp
    · rw [List.mem_singleton.mp hp]; exact hlH0
  · intro q hq
    rw [List.map_append]
    exact List.mem_append_left _ (g.has q hq)
theorem ES.add (g : ES w H0 H E L n es qs) (hl : (a, l) ∈ es) : ES w H0 (upd H l (.lst ((adjOf qs a).map (lv L) ++ [lv L b]))) E L n es (qs ++ [(a, b)]) := by
  refine ⟨g.fr.mut (g.new _ hl), ?_, g.kn, g.an, g.lt, ?_, g.new, ?_, g.e0⟩
  · rw [upd_ne (Ne.symm (g.ne hl))]
    exact g.d
  · intro p hp
    rw [adjOf_snoc]
    by_cases h : a = p.1
    · rw [if_pos h]
      have : p.2 = l := es_one g.kn (k := a) (by rw [h]; exact hp) hl
      rw [this, upd_same, List.map_append, ← h]
      rfl
    · rw [if_neg h]
      have : p.2 ≠ l := by
        intro z
        have inj : ∀ (es : List (Nat × Addr)), (es.map (·.2)).Nodup → ∀ p ∈ es, ∀ q ∈ es, p.2 = q.2 → p = q := by
          intro es
          induction es with
          | nil => intro _ p hp; cases hp
          | cons x es ih =>
            intro hn p hp q hq e
            rw [List.map_cons, List.nodup_cons] at hn
            rcases List.mem_cons.mp hp with e1 | hp
            · rcases List.mem_cons.mp hq with e2 | hq
              · rw [e1, e2]
              · exact absurd (List.mem_map.mpr ⟨q, hq, by rw [← e, e1]⟩) hn.1
            · rcases List.mem_cons.mp hq with e2 | hq
              · exact absurd (List.mem_map.mpr ⟨p, hp, by rw [e, e2]⟩) hn.1
              · exact ih hn.2 p hp q hq e
        have := inj es g.an p hp (a, l) hl z
        exact h (by rw [this])
      rw [upd_ne this]
      exact g.ls p hp
  · intro q hq
    rcases List.mem_append.mp hq with hq | hq
    · exact g.has q hq
    · rw [List.mem_singleton.mp hq]
      exact List.mem_map.mpr ⟨_, hl, rfl⟩
theorem ES.new_ {p : Addr} {o : HO} (g : ES w H0 H E L n es qs) (hp : H p = none) : ES w H0 (upd H p o) E L n es qs := by
  have f1 : Fr [] H (upd H p o) := Fr.new hp
  exact ⟨g.fr.trans f1, f1.keep _ _ g.d (by simp), g.kn, g.an, g.lt, fun q hq => f1.keep _ _ (g.ls q hq) (by simp), g.new, g.has, g.e0⟩
end
abbrev sEdges : Stmt := topS 14
def spEdges (w : World) : Sp := fun vs H Q _ => ∃ (pp : Addr) (us : List V) (ps : List (Nat × Nat)) (L : Nat → Addr) (n : Nat), vs = [.ref pp] ∧ H pp = some (.lst us) ∧ PairsIn H L ps us ∧ (∀ p ∈ ps, p.1 < n ∧ p.2 < n) ∧ ps.length ≤ 1000 ∧ LW H L n ∧ n ≤ 1000 ∧
  ∀ (adj : Nat → List Nat) (ed : Addr) (od : Obj) (kvs : List (Nat × V)) H', Fr [] H H' → (∀ a b, b ∈ adj a ↔ (a, b) ∈ ps) → (∀ a, (adj a).length ≤ 1000) → H ed = none → H' ed = some (.frz od (dL w L ed kvs)) → (∀ p ∈ kvs, p.1 < n) → (∀ k, k < n → EdB L adj H' k (valV kvs k)) → Q (.ref ed) H'
section
variable {P : Program} {w : World} {K : PySem.W.Frag} {mg : Str → Option Value} {base : Heap}
theorem scEdges : FnScope ["_law_pairs", "_law_edges_here", "_law_one", "_law_other"] ["_law_pairs"] (defScope sEdges) := ⟨rfl, rfl, rfl, by decide +kernel, rfl, by decide +kernel, by decide +kernel⟩
theorem ok_edges {f : Addr} {fd : FuncData} (F : Fun K "_law_edges" "_law_edges" sEdges f fd) (B : Bi mg) : FnOk P w K mg base CX0 1 f fd ["_law_pairs"] (spEdges w) := by
  refine F.ok scEdges (fun vs H Q E h => ?_) (fun cdv A outer s H vs Q E hr h => ?_)
  · obtain ⟨pp, us, ps, L, n, rfl, _⟩ := h
    rfl
  · obtain ⟨pp, us, ps, L, n, rfl, hpp, hin, hlt, hz, lw, hn, q⟩ := h
    have hu := hr.units
    refine ⟨_, pss_cons (ps_set (i := 1) scEdges.nd rfl (Or.inl rfl) (pe_new (w := w) rfl))
      (pss_cons (ps_for PassesOwn.never rfl (pi_list (pe_callB (call_sortedL (fun b : (Nat × Nat) × V => b.2) (fun b => pd b.1) hu) (by rfl) B.sorted PyProof.Rows.boot_sorted (pa_cons (pv 0) pa_nil))) (pg_tup rfl (pgs_cons (pg_name (i := 2) scEdges.nd rfl (Or.inl rfl)) (pgs_cons (pg_name (i := 3) scEdges.nd rfl (Or.inl rfl)) pgs_nil)))
        (pss_cons (ps_if (pt_cmpR (op_nnotin hu) (pv 2) (pv 1) rfl) (pss_one (ps_asg (pe_lst pa_nil) (pg_sub (pv 1) (pv 2) (set_n hu)))) pss_nil)
        (pss_one (ps_expr (pe_bm PySem.F.plainAttrs_list PySem.F.slot_list_append PySem.F.type_list_append mt_append (pe_nget hu (pv 1) (pv 2) (fun _ _ => rfl)) (pa_cons (pv 3) pa_nil))))))
      (pss_one (ps_ret (pe_frz (pv 1))))), ?_⟩
    intro E hE
    have f1 : Fr [] H (upd H E (dN w E [])) := Fr.new hE
    have g1 : ES w H (upd H E (dN w E [])) E L n [] [] := ⟨f1, upd_same, List.nodup_nil, List.nodup_nil, (fun p h => (nomatch h)), (fun p h => (nomatch h)), (fun p h => (nomatch h)), (fun p h => (nomatch h)), hE⟩
    have hin1 := hin.tk f1.tk
    have lw1 := lw.mono f1.tk
    have hp1 := f1.keep _ _ hpp (by simp)
    generalize upd H E (dN w E []) = H1 at f1 g1 hin1 lw1 hp1
    -- sorted(pairs)
    have hul := PySem.Paired.length hin
    have hz1 : (ps.zip us).map (·.2) = us := by rw [List.map_snd_zip (by omega)]
    have hz0 : (ps.zip us).map (·.1) = ps := by rw [List.map_fst_zip (by omega)]
    have hbs : ∀ b ∈ ps.zip us, PairA H1 L b.1 b.2 ∧ b.1 ∈ ps := by
      have key : ∀ (ps : List (Nat × Nat)) (us : List V), PairsIn H1 L ps us → ∀ b ∈ ps.zip us, PairA H1 L b.1 b.2 ∧ b.1 ∈ ps := by
        intro ps us h
        induction h with
        | nil => intro b hb; cases hb
        | cons h _ ih =>
          intro b hb
          rcases List.mem_cons.mp hb with rfl | hb
          · exact ⟨h, List.mem_cons_self⟩
          · obtain ⟨h1, h2⟩ := ih b hb
            exact ⟨h1, List.mem_cons_of_mem _ h2⟩
      exact key ps us hin1
    refine ⟨_, rfl, pp, ps.zip us, rfl, by rw [hz1]; exact sqL hp1, ?_, fun pz hpz => ?_⟩
    · exact {
        dp := fun b hb => by
          obtain ⟨⟨t, e, ht⟩, hm⟩ := hbs b hb
          have hl := hlt _ hm
          rw [e]
          exact .tup (sqT ht) (.cons (lw1.dp hl.1) (.cons (lw1.dp hl.2) .nil))
        alike := PySem.W.AllAlike.of (enc := fun b : (Nat × Nat) × V => pd b.1) fun b b' => pd_alike _ _
        sortable := PySem.W.Sortable.tuples (enc := fun b : (Nat × Nat) × V => pd b.1) fun b => ⟨_, _, rfl⟩
        depth := fun b _ => by have := pd_depth b.1; omega }
    · generalize hbq : (ps.zip us).mergeSort (PySem.W.dataLe false fun b => pd b.1) = bs at hpz ⊢
      have hbm : ∀ b, b ∈ bs ↔ b ∈ ps.zip us := fun b => by rw [← hbq]; exact (List.mergeSort_perm _ _).mem_iff
      have hbl : bs.length = ps.length := by rw [← hbq, List.length_mergeSort, List.length_zip]; omega
      have g2 := g1.new_ (o := HO.lst (bs.map fun b => b.2)) hpz
      have f2 : Fr [] H1 (upd H1 pz (.lst (bs.map fun b => b.2))) := Fr.new hpz
      have h2z : (upd H1 pz (.lst (bs.map fun b => b.2))) pz = some (.lst (bs.map fun b => b.2)) := upd_same
      generalize upd H1 pz (.lst (bs.map fun b => b.2)) = H2 at g2 f2 h2z
      have hb2 : ∀ b ∈ bs, PairA H2 L b.1 b.2 ∧ b.1 ∈ ps := by
        intro b hb
        obtain ⟨⟨t, e, ht⟩, hm⟩ := hbs b ((hbm b).mp hb)
        exact ⟨⟨t, e, f2.tk _ _ ht⟩, hm⟩
      refine ⟨pz, rfl, ⟨_, sqL h2z⟩, for_list (K := K) (a := pz) (xs := bs.map fun b => b.2) (fun i τ' H' => ∃ es o2 o3, τ' = [some (.ref pp), some (.ref E), o2, o3] ∧ ES w H H' E L n es ((bs.take i).map (·.1)) ∧ LW H' L n ∧ TKeep H2 H' ∧ H' pz = some (.lst (bs.map fun b => b.2)) ∧ (∀ p ∈ es, p.2 ≠ pz))
        ⟨[], none, none, rfl, g2, lw1.mono f2.tk, fun _ _ e => e, h2z, fun p h => (nomatch h)⟩ (fun i τ' H' _ ⟨_, _, _, _, _, _, _, h, _⟩ => sqL h) ?_ ?_⟩
      · rintro i y τ' H3 hi ⟨es, o2, o3, rfl, g, lw3, tk3, h3z, hez⟩
        rw [List.getElem?_map] at hi
        obtain ⟨b, hb, rfl⟩ := Option.map_eq_some_iff.mp hi
        have hil : i < bs.length := (List.getElem?_eq_some_iff.mp hb).1
        obtain ⟨⟨t, e, ht⟩, hm⟩ := hb2 b (List.mem_of_getElem? hb)
        have htk : (bs.take (i + 1)).map (·.1) = (bs.take i).map (·.1) ++ [b.1] := by rw [List.take_add_one, hb, List.map_append]; rfl
        have hl := hlt _ hm
        obtain ⟨⟨x, z⟩, v⟩ := b
        have e : v = .ref t := e
        subst e
        refine ⟨t, _, rfl, sqT (tk3 _ _ ht), rfl, _, _, rfl, _, _, rfl, rfl, ?_⟩
        dsimp only
        refine seq_if (fun τ H' => ∃ es l, (x, l) ∈ es ∧ τ = [some (.ref pp), some (.ref E), some (lv L x), some (lv L z)] ∧ ES w H H' E L n es ((bs.take i).map (·.1)) ∧ LW H' L n ∧ TKeep H2 H' ∧ H' pz = some (.lst (bs.map fun b => b.2)) ∧ (∀ p ∈ es, p.2 ≠ pz)) (fun NX hN => ?_) ?_
        · refine ⟨_, rfl, _, rfl, _, lw3.get g.lts (Or.inl g.d) hl.1, _, rfl, ?_⟩
          rcases valV_es x es with ⟨l, h1, h2⟩ | ⟨h1, h2⟩
          · rw [h2]
            refine iteF ?_
            exact hN _ _ ⟨es, l, h1, rfl, g, lw3, tk3, h3z, hez⟩
          · rw [h2]
            refine iteT ?_
            refine ⟨Nat.zero_le _, fun l hl' => ?_⟩
            have hlE := (ne_of_none g.d hl').symm
            have f4 : Fr [] H3 (upd H3 l (.lst [])) := Fr.new hl'
            have g4 := g.new_ (o := HO.lst []) hl'
            refine ⟨_, rfl, _, rfl, LW.put (lw3.mono f4.tk) g.lts g4.d hl.1 (by have := g.few; rw [sizeLine_eq]; omega) ?_⟩
            have g5 := g.key hl.1 h1 hl' hlE
            have tk5 := tk_upd (o := dL w L E (putK (esV es) x (.ref l))) (dL_ntup g4.d)
            refine hN _ _ ⟨es ++ [(x, l)], l, by simp, rfl, g5, (lw3.mono f4.tk).mono tk5, fun a vs e => tk5 _ _ (f4.tk _ _ (tk3 a vs e)), ?_, ?_⟩
            · rw [upd_ne (ne_of h3z g.d (by intro z; cases z))]
              exact f4.keep _ _ h3z (by simp)
            · intro p hp
              rcases List.mem_append.mp hp with hp | hp
              · exact hez p hp
              · rw [List.mem_singleton.mp hp]
                exact (ne_of_none h3z hl').symm
        · rintro τ H4 ⟨es, l, hxl, rfl, g, lw4, tk4, h4z, hez⟩
          have hlz := hez _ hxl
          have hll := g.ls _ hxl
          rcases valV_es x es with ⟨l', h1, h2⟩ | ⟨h1, h2⟩
          · have : l' = l := es_one g.kn h1 hxl
            subst this
            have hget := lw4.get g.lts (Or.inl g.d) hl.1
            rw [h2] at hget
            refine ⟨_, rfl, _, rfl, _, hget, Or.inl ⟨rfl, _, sqL hll⟩, _, rfl, l', _, _, rfl, rfl, hll, ?_, ?_⟩
            · have := adjOf_len ((bs.take i).map (·.1)) x
              rw [List.length_map, List.length_take] at this
              show (List.map (lv L) (adjOf ((bs.take i).map (·.1)) x)).length < sizeLine
              rw [List.length_map, sizeLine_eq]
              omega
            · have tk5 := tk_upd (o := HO.lst ((adjOf ((bs.take i).map (·.1)) x).map (lv L) ++ [lv L z])) (lst_ntup hll)
              refine ⟨es, _, _, rfl, by rw [htk]; exact g.add hxl, lw4.mono tk5, fun a vs e => tk5 _ _ (tk4 a vs e), ?_, hez⟩
              rw [upd_ne (Ne.symm hlz)]
              exact h4z
          · exact absurd (List.mem_map.mpr ⟨_, hxl, rfl⟩) h1
      · rintro τ' H3 ⟨es, o2, o3, rfl, g, lw3, tk3, h3z, hez⟩
        rw [List.length_map, List.take_length] at g
        refine ⟨_, rfl, E :: es.map (·.2), lock_all ?_ ?_ fun H4 k1 k2 => ?_⟩
        · rw [List.nodup_cons]
          refine ⟨fun h => ?_, g.an⟩
          obtain ⟨p, hp, e⟩ := List.mem_map.mp h
          exact g.ne hp e
        · intro d hd
          rcases List.mem_cons.mp hd with rfl | hd
          · exact ⟨_, g.d, trivial⟩
          · obtain ⟨p, hp, rfl⟩ := List.mem_map.mp hd
            exact ⟨_, g.ls p hp, trivial⟩
        · obtain ⟨od, hEd⟩ := k2 E List.mem_cons_self _ g.d
          have out : ∀ a o, H a = some o → a ∉ E :: es.map (·.2) := by
            intro a o e hm
            rcases List.mem_cons.mp hm with rfl | hm
            · rw [g.e0] at e; cases e
            · obtain ⟨p, hp, rfl⟩ := List.mem_map.mp hm
              rw [g.new p hp] at e; cases e
          refine q (adjOf (bs.map (·.1))) E od (esV es) H4 ⟨fun a o e _ => ?_, fun a vs e => ?_⟩ (fun a b => ?_) (fun a => ?_) g.e0 hEd g.lts fun k hk => ?_
          · rw [k1 a (out a o e)]
            exact g.fr.keep a o e (by simp)
          · rw [k1 a (out a _ e)]
            exact g.fr.tk a vs e
          · rw [mem_adjOf]
            constructor
            · intro h
              obtain ⟨b', hb', e⟩ := List.mem_map.mp h
              rw [← e]
              exact (hb2 b' hb').2
            · intro h
              rw [← hz0] at h
              obtain ⟨b', hb', e⟩ := List.mem_map.mp h
              exact List.mem_map.mpr ⟨b', (hbm b').mpr hb', e⟩
          · have := adjOf_len (bs.map (·.1)) a
            rw [List.length_map] at this
            omega
          · rcases valV_es k es with ⟨l, h1, h2⟩ | ⟨h1, h2⟩
            · rw [h2]
              obtain ⟨o, ho⟩ := k2 l (List.mem_cons_of_mem _ (List.mem_map.mpr ⟨_, h1, rfl⟩)) _ (g.ls _ h1)
              exact ⟨l, o, rfl, ho⟩
            · rw [h2]
              show adjOf (bs.map (·.1)) k = []
              unfold adjOf
              rw [List.filter_eq_nil_iff.mpr, List.map_nil]
              intro x hx hz'
              exact h1 (of_decide_eq_true hz' ▸ g.has x hx)
end
end QW
end
section
set_option Elab.async false
set_option linter.all false
/-! rounds of closing: after as many rounds as there are nodes all is reached -/
namespace Qw
def Wk (adj : Nat → List Nat) : Nat → List Nat → Nat → Prop
  | k, [], j => k = j
  | k, x :: xs, j => x ∈ adj k ∧ Wk adj x xs j
section
variable {adj : Nat → List Nat}
theorem Wk.snoc : ∀ {xs : List Nat} {k b c : Nat}, Wk adj k xs b → c ∈ adj b → Wk adj k (xs ++ [c]) c
  | [], k, b, c, h, hc => by
    have h : k = b := h
    subst h
    exact ⟨hc, rfl⟩
  | x :: xs, k, b, c, h, hc => ⟨h.1, Wk.snoc h.2 hc⟩
theorem Wk.cut : ∀ {xs ys : List Nat} {k j c : Nat}, Wk adj k (xs ++ c :: ys) j → Wk adj k (xs ++ [c]) c
  | [], ys, k, j, c, h => ⟨h.1, rfl⟩
  | x :: xs, ys, k, j, c, h => ⟨h.1, Wk.cut h.2⟩
theorem Wk.split : ∀ {xs : List Nat} {k j c : Nat}, Wk adj k (xs ++ [c]) j → c = j ∧ ∃ b, Wk adj k xs b ∧ c ∈ adj b
  | [], k, j, c, h => ⟨h.2, k, rfl, h.1⟩
  | x :: xs, k, j, c, h => by
    obtain ⟨e, b, h1, h2⟩ := Wk.split (xs := xs) h.2
    exact ⟨e, b, ⟨h.1, h1⟩, h2⟩
theorem Wk.sub {V : List Nat} (hV : ∀ a b, b ∈ adj a → b ∈ V) : ∀ {xs : List Nat} {k j : Nat}, Wk adj k xs j → ∀ x ∈ xs, x ∈ V
  | [], _, _, _, x, hx => nomatch hx
  | y :: xs, k, j, h, x, hx => by
    rcases List.mem_cons.mp hx with rfl | hx
    · exact hV _ _ h.1
    · exact Wk.sub hV h.2 x hx
theorem TC.walk {k j : Nat} (h : TC adj k j) : ∃ xs, xs ≠ [] ∧ xs.Nodup ∧ Wk adj k xs j := by
  induction h with
  | one h => exact ⟨_, List.cons_ne_nil _ _, List.nodup_cons.mpr ⟨by simp, List.nodup_nil⟩, ⟨h, rfl⟩⟩
  | @step b c _ hc ih =>
    obtain ⟨xs, h1, h2, h3⟩ := ih
    by_cases hm : c ∈ xs
    · obtain ⟨a, d, rfl⟩ := List.append_of_mem hm
      refine ⟨a ++ [c], by simp, ?_, h3.cut⟩
      rw [List.nodup_append] at h2 ⊢
      refine ⟨h2.1, by simp, fun x hx y hy => ?_⟩
      rw [List.mem_singleton.mp hy]
      exact h2.2.2 x hx c List.mem_cons_self
    · refine ⟨xs ++ [c], by simp, ?_, h3.snoc hc⟩
      rw [List.nodup_append]
      refine ⟨h2, by simp, fun x hx y hy => ?_⟩
      rw [List.mem_singleton.mp hy]
      intro e
      exact hm (e ▸ hx)
/-- a way of at most m steps -/
def PW (adj : Nat → List Nat) (m k j : Nat) : Prop := ∃ xs, xs ≠ [] ∧ xs.length ≤ m ∧ Wk adj k xs j
theorem TC.pw {V : List Nat} (hV : ∀ a b, b ∈ adj a → b ∈ V) {k j : Nat} (h : TC adj k j) : PW adj V.length k j := by
  obtain ⟨xs, h1, h2, h3⟩ := h.walk
  exact ⟨xs, h1, nodup_sub xs V h2 (h3.sub hV), h3⟩
theorem PW.mono {m m' k j : Nat} (h : PW adj m k j) (hm : m ≤ m') : PW adj m' k j := by
  obtain ⟨xs, h1, h2, h3⟩ := h
  exact ⟨xs, h1, by omega, h3⟩
theorem PW.last {m k j : Nat} (h : PW adj (m + 1) k j) : j ∈ adj k ∨ ∃ b, PW adj m k b ∧ j ∈ adj b := by
  obtain ⟨xs, h1, h2, h3⟩ := h
  obtain ⟨p, x, rfl⟩ : ∃ p x, xs = p ++ [x] := ⟨xs.dropLast, xs.getLast h1, (List.dropLast_concat_getLast h1).symm⟩
  obtain ⟨e, b, h4, h5⟩ := h3.split
  subst e
  by_cases hp : p = []
  · subst hp
    have h4 : k = b := h4
    subst h4
    exact Or.inl h5
  · rw [List.length_append] at h2
    simp at h2
    exact Or.inr ⟨b, ⟨p, hp, by omega, h4⟩, h5⟩
theorem PW.one {m k j : Nat} (hm : 1 ≤ m) (h : j ∈ adj k) : PW adj m k j := ⟨[j], by simp, by simpa using hm, h, rfl⟩
/-- all ways of at most m steps are found -/
def Cov (adj : Nat → List Nat) (m : Nat) (js : Nat → List Nat) : Prop := ∀ k j, PW adj m k j → j ∈ js k
theorem Cov.step {m : Nat} {js js' : Nat → List Nat} (hm : 1 ≤ m) (h : Cov adj m js) (hs : ∀ k, ∀ x ∈ js k, x ∈ js' k) (hc : ∀ k, ∀ b ∈ js k, ∀ c ∈ js b, c ∈ js' k) : Cov adj (m + 1) js' := by
  intro k j hp
  rcases hp.last with h1 | ⟨b, h1, h2⟩
  · exact hs k j (h k j (PW.one hm h1))
  · exact hc k b (h k b h1) j (h b j (PW.one hm h2))
theorem Cov.all {V : List Nat} (hV : ∀ a b, b ∈ adj a → b ∈ V) {m : Nat} {js : Nat → List Nat} (hm : V.length ≤ m) (h : Cov adj m js) {k j : Nat} (t : TC adj k j) : j ∈ js k := h k j ((t.pw hV).mono hm)
theorem closed_all {m : Nat} {js : Nat → List Nat} (hm : 1 ≤ m) (h : Cov adj m js) (hc : ∀ k, ∀ b ∈ js k, ∀ c ∈ js b, c ∈ js k) {k j : Nat} (t : TC adj k j) : j ∈ js k := by
  induction t with
  | one e => exact h _ _ (PW.one hm e)
  | step _ e ih => exact hc _ _ ih _ (h _ _ (PW.one hm e))
theorem TC.first {k j : Nat} (h : TC adj k j) : ∃ x, x ∈ adj k := by
  induction h with
  | one e => exact ⟨_, e⟩
  | step _ _ ih => exact ih
end
end Qw
end
section
set_option Elab.async false
set_option linter.all false
set_option maxRecDepth 100000
set_option maxHeartbeats 8000000
/-! the law's reach -/
namespace QW
open PySem L2 QN Qw
theorem seq_any {t v : TS} {D : Ends} {σ : L2.St} {H : Hp} (P : L2.St → Hp → Prop) (h1 : ∀ NX : L2.St → Hp → Prop, (∀ τ H', P τ H' → NX τ H') → t { D with nx := NX } σ H) (h2 : ∀ τ H', P τ H' → v D τ H') : tSeq t v D σ H := h1 _ h2
/-- as it is, or locked -/
def IsW (f : HO → HO) : Prop := (∀ u, f u = u) ∨ ∃ od, ∀ u, f u = .frz od u
theorem IsW.rd {f : HO → HO} (h : IsW f) {H : Hp} {d : Addr} {u : HO} (e : H d = some (f u)) : Rd H d u := by
  rcases h with h | ⟨od, h⟩
  · exact Or.inl (by rw [e, h])
  · exact Or.inr ⟨od, by rw [e, h]⟩
theorem IsW.nlst {f : HO → HO} (h : IsW f) {w : World} {L : Nat → Addr} {d : Addr} {kvs : List (Nat × V)} {xs : List V} : f (dL w L d kvs) ≠ .lst xs := by
  rcases h with h | ⟨od, h⟩
  · rw [h]; intro z; cases z
  · rw [h]; intro z; cases z
theorem IsW.ntup {f : HO → HO} (h : IsW f) {w : World} {L : Nat → Addr} {d : Addr} {kvs : List (Nat × V)} {xs : List V} : f (dL w L d kvs) ≠ .tup xs := by
  rcases h with h | ⟨od, h⟩
  · rw [h]; intro z; cases z
  · rw [h]; intro z; cases z
def id0 : HO → HO := fun u => u
def wr0 : Nat → HO → HO := fun _ u => u
def wrB (od : Obj) (b : Nat) : Nat → HO → HO := fun k u => if k = b then .frz od u else u
theorem isW0 : IsW id0 := Or.inl fun _ => rfl
theorem isWr0 (k : Nat) : IsW (wr0 k) := Or.inl fun _ => rfl
theorem isWF (od : Obj) : IsW (HO.frz od) := Or.inr ⟨od, fun _ => rfl⟩
theorem isWB (od : Obj) (b k : Nat) : IsW (wrB od b k) := by
  unfold wrB
  by_cases h : k = b
  · exact Or.inr ⟨od, fun u => by simp [h]⟩
  · exact Or.inl fun u => by simp [h]
/-- the found dicts: es tells where each line's is, js what is in it; fw, wr which are locked -/
structure RS (w : World) (H0 H : Hp) (F : Addr) (L : Nat → Addr) (n : Nat) (es : List (Nat × Addr)) (js : Nat → List Nat) (fw : HO → HO) (wr : Nat → HO → HO) : Prop where
  fr : Fr [] H0 H
  d : H F = some (fw (dL w L F (esV es)))
  ds : ∀ p ∈ es, H p.2 = some (wr p.1 (dL w L p.2 (tjs (js p.1))))
  hf : IsW fw
  hw : ∀ k, IsW (wr k)
  kn : (es.map (·.1)).Nodup
  an : (es.map (·.2)).Nodup
  lt : ∀ p ∈ es, p.1 < n
  ne : ∀ p ∈ es, p.2 ≠ F
  new : ∀ p ∈ es, H0 p.2 = none
  f0 : H0 F = none
  jn : ∀ k, (js k).Nodup
  jl : ∀ k, ∀ j ∈ js k, j < n
  jo : ∀ k, k ∉ es.map (·.1) → js k = []
theorem es_inj {es : List (Nat × Addr)} (hn : (es.map (·.2)).Nodup) {p q : Nat × Addr} (hp : p ∈ es) (hq : q ∈ es) (e : p.2 = q.2) : p = q := by
  induction es with
  | nil => cases hp
  | cons x es ih =>
    rw [List.map_cons, List.nodup_cons] at hn
    rcases List.mem_cons.mp hp with e1 | hp
    · rcases List.mem_cons.mp hq with e2 | hq
      · rw [e1, e2]
      · exact absurd (List.mem_map.mpr ⟨q, hq, by rw [← e, e1]⟩) hn.1
    · rcases List.mem_cons.mp hq with e2 | hq
      · exact absurd (List.mem_map.mpr ⟨p, hp, by rw [e, e2]⟩) hn.1
      · exact ih hn.2 hp hq
section
variable {w : World} {H0 H H' : Hp} {F l p : Addr} {L : Nat → Addr} {n a b x : Nat} {es : List (Nat × Addr)} {js js' : Nat → List Nat} {fw fw' : HO → HO} {wr wr' : Nat → HO → HO} {o : HO} {od : Obj} {Q : Hp → Prop}
theorem RS.lts (g : RS w H0 H F L n es js fw wr) : ∀ p ∈ esV es, p.1 < n := by
  intro p hp
  obtain ⟨q, hq, rfl⟩ := List.mem_map.mp hp
  exact g.lt q hq
theorem RS.few (g : RS w H0 H F L n es js fw wr) : (esV es).length ≤ n := by
  have := nodup_len n (es.map (·.1)) g.kn fun x hx => by
    obtain ⟨p, hp, rfl⟩ := List.mem_map.mp hx
    exact g.lt p hp
  simpa using this
theorem RS.fews (g : RS w H0 H F L n es js fw wr) (k : Nat) : (js k).length ≤ n := nodup_len n (js k) (g.jn k) (g.jl k)
theorem RS.lw (g : RS w H0 H F L n es js fw wr) (h : LW H0 L n) : LW H L n := h.mono g.fr.tk
/-- found[a] -/
theorem RS.at_ (g : RS w H0 H F L n es js fw wr) (h : LW H0 L n) (ha : a < n) (hl : (a, l) ∈ es) : NGet w H (.ref F) (lv L a) (some (.ref l)) := by
  have h1 := (g.lw h).get g.lts (g.hf.rd g.d) ha
  rcases valV_es a es with ⟨l', e1, e2⟩ | ⟨e1, _⟩
  · rw [e2, es_one g.kn e1 hl] at h1
    exact h1
  · exact absurd (List.mem_map.mpr ⟨_, hl, rfl⟩) e1
theorem RS.in_ (g : RS w H0 H F L n es js fw wr) (h : LW H0 L n) (hl : (a, l) ∈ es) (hx : x < n) : ∃ r, NGet w H (.ref l) (lv L x) r ∧ r.isSome = decide (x ∈ js a) :=
  ⟨_, (g.lw h).get (tjs_lt (g.jl a)) ((g.hw a).rd (g.ds _ hl)) hx, tjs_val _ _⟩
theorem RS.tkF (g : RS w H0 H F L n es js fw wr) : ∀ vs, H F ≠ some (.tup vs) := fun vs e => by
  rw [g.d] at e
  exact g.hf.ntup (Option.some.inj e)
theorem RS.tkD (g : RS w H0 H F L n es js fw wr) (hl : (a, l) ∈ es) : ∀ vs, H l ≠ some (.tup vs) := fun vs e => by
  rw [g.ds _ hl] at e
  exact (g.hw a).ntup (Option.some.inj e)
theorem RS.lstF (g : RS w H0 H F L n es js fw wr) {xs : List V} (e : H p = some (.lst xs)) : p ≠ F := fun z => by
  rw [z, g.d] at e
  exact g.hf.nlst (Option.some.inj e)
theorem RS.lstD (g : RS w H0 H F L n es js fw wr) {xs : List V} (e : H p = some (.lst xs)) (hl : (a, l) ∈ es) : p ≠ l := fun z => by
  rw [z, g.ds _ hl] at e
  exact (g.hw a).nlst (Option.some.inj e)
/-- something new -/
theorem RS.nw (g : RS w H0 H F L n es js fw wr) (hp : H p = none) : RS w H0 (upd H p o) F L n es js fw wr := by
  have f1 : Fr [] H (upd H p o) := Fr.new hp
  exact { g with fr := g.fr.trans f1, d := f1.keep _ _ g.d (by simp), ds := fun q hq => f1.keep _ _ (g.ds q hq) (by simp) }
/-- a key more -/
theorem RS.key (g : RS w H0 H F L n es js id0 wr0) (ha : a < n) (hk : a ∉ es.map (·.1)) (hl : H l = none) : RS w H0 (upd (upd H l (dN w l [])) F (dL w L F (putK (esV es) a (.ref l)))) F L n (es ++ [(a, l)]) js id0 wr0 := by
  have f1 : Fr [] H (upd H l (dN w l [])) := Fr.new hl
  have hlF : l ≠ F := (ne_of_none g.d hl).symm
  have hlH0 := g.fr.back hl (by simp)
  have hnl : ∀ p ∈ es, p.2 ≠ l := fun p hp => ne_of_none (g.ds p hp) hl
  refine ⟨(g.fr.trans f1).mut g.f0, by rw [upd_same, putK_es hk]; rfl, ?_, isW0, isWr0, ?_, ?_, ?_, ?_, ?_, g.f0, g.jn, g.jl, ?_⟩
  · intro p hp
    rcases List.mem_append.mp hp with hp | hp
    · rw [upd_ne (g.ne p hp)]
      exact f1.keep _ _ (g.ds p hp) (by simp)
    · rw [List.mem_singleton.mp hp]
      rw [upd_ne hlF, upd_same, g.jo a hk]
      rfl
  · rw [List.map_append]
    refine List.nodup_append.mpr ⟨g.kn, by simp, fun x hx y hy => ?_⟩
    have : y = a := by simpa using hy
    rw [this]
    intro z
    exact hk (z ▸ hx)
  · rw [List.map_append]
    refine List.nodup_append.mpr ⟨g.an, by simp, fun x hx y hy => ?_⟩
    have : y = l := by simpa using hy
    rw [this]
    obtain ⟨p, hp, rfl⟩ := List.mem_map.mp hx
    exact hnl p hp
  · intro p hp
    rcases List.mem_append.mp hp with hp | hp
    · exact g.lt p hp
    · rw [List.mem_singleton.mp hp]; exact ha
  · intro p hp
    rcases List.mem_append.mp hp with hp | hp
    · exact g.ne p hp
    · rw [List.mem_singleton.mp hp]; exact hlF
  · intro p hp
    rcases List.mem_append.mp hp with hp | hp
    · exact g.new p hp
    · rw [List.mem_singleton.mp hp]; exact hlH0
  · intro k hk'
    refine g.jo k fun z => hk' ?_
    rw [List.map_append]
    exact List.mem_append_left _ z
def addJ (js : Nat → List Nat) (a x : Nat) : Nat → List Nat := fun k => if k = a then js a ++ [x] else js k
theorem mem_addJ {k y : Nat} : y ∈ addJ js a x k ↔ y ∈ js k ∨ (k = a ∧ y = x) := by
  unfold addJ
  by_cases h : k = a
  · rw [if_pos h, h, List.mem_append, List.mem_singleton]
    simp
  · rw [if_neg h]
    simp [h]
/-- found[a][x] = True, x not yet in it -/
theorem RS.put (g : RS w H0 H F L n es js fw wr) (h0 : ∀ u, wr a u = u) (hl : (a, l) ∈ es) (hx : x < n) (hn : x ∉ js a) : RS w H0 (upd H l (dL w L l (putK (tjs (js a)) x (.bl true)))) F L n es (addJ js a x) fw wr := by
  refine ⟨g.fr.mut (g.new _ hl), ?_, ?_, g.hf, g.hw, g.kn, g.an, g.lt, g.ne, g.new, g.f0, fun k => ?_, fun k j hj => ?_, fun k hk => ?_⟩
  · rw [upd_ne (Ne.symm (g.ne _ hl))]
    exact g.d
  · intro p hp
    by_cases h : p.1 = a
    · have : p.2 = l := es_one g.kn (k := a) (by rw [← h]; exact hp) hl
      rw [this, upd_same, tjs_put hn, h, h0]
      unfold addJ
      rw [if_pos rfl]
    · have : p.2 ≠ l := fun z => by
        have := es_inj g.an hp hl z
        exact h (by rw [this])
      rw [upd_ne this]
      unfold addJ
      rw [if_neg h]
      exact g.ds p hp
  · unfold addJ
    split
    · refine List.nodup_append.mpr ⟨g.jn a, by simp, fun y hy z hz => ?_⟩
      rw [List.mem_singleton.mp hz]
      intro e
      exact hn (e ▸ hy)
    · exact g.jn k
  · rcases mem_addJ.mp hj with h | ⟨_, h⟩
    · exact g.jl k j h
    · rw [h]; exact hx
  · have : k ≠ a := fun z => hk (z ▸ List.mem_map.mpr ⟨_, hl, rfl⟩)
    unfold addJ
    rw [if_neg this]
    exact g.jo k hk
/-- found[a][x] = True, x in it already -/
theorem RS.same (g : RS w H0 H F L n es js fw wr) (h0 : ∀ u, wr a u = u) (hl : (a, l) ∈ es) (hn : x ∈ js a) : RS w H0 (upd H l (dL w L l (putK (tjs (js a)) x (.bl true)))) F L n es js fw wr := by
  have e : upd H l (dL w L l (putK (tjs (js a)) x (.bl true))) = H := by
    funext c
    by_cases h : c = l
    · rw [h, upd_same, tjs_same hn, g.ds _ hl, h0]
    · rw [upd_ne h]
  rw [e]
  exact g
theorem RS.lockF (g : RS w H0 H F L n es js id0 wr) : RS w H0 (upd H F (.frz od (dL w L F (esV es)))) F L n es js (.frz od) wr :=
  ⟨g.fr.mut g.f0, upd_same, fun p hp => by rw [upd_ne (g.ne p hp)]; exact g.ds p hp, isWF od, g.hw, g.kn, g.an, g.lt, g.ne, g.new, g.f0, g.jn, g.jl, g.jo⟩
theorem RS.openF (g : RS w H0 H F L n es js fw wr) : RS w H0 (upd H F (dL w L F (esV es))) F L n es js id0 wr :=
  ⟨g.fr.mut g.f0, upd_same, fun p hp => by rw [upd_ne (g.ne p hp)]; exact g.ds p hp, isW0, g.hw, g.kn, g.an, g.lt, g.ne, g.new, g.f0, g.jn, g.jl, g.jo⟩
theorem RS.setD (g : RS w H0 H F L n es js fw wr) (hl : (b, l) ∈ es) (hw' : ∀ k, IsW (wr' k)) (hs : ∀ k, k ≠ b → wr' k = wr k) : RS w H0 (upd H l (wr' b (dL w L l (tjs (js b))))) F L n es js fw wr' := by
  refine ⟨g.fr.mut (g.new _ hl), by rw [upd_ne (Ne.symm (g.ne _ hl))]; exact g.d, fun p hp => ?_, g.hf, hw', g.kn, g.an, g.lt, g.ne, g.new, g.f0, g.jn, g.jl, g.jo⟩
  by_cases h : p.1 = b
  · have : p.2 = l := es_one g.kn (k := b) (by rw [← h]; exact hp) hl
    rw [this, upd_same, h]
  · have : p.2 ≠ l := fun z => by
      have := es_inj g.an hp hl z
      exact h (by rw [this])
    rw [upd_ne this, hs _ h]
    exact g.ds p hp
end
theorem tc_last {adj : Nat → List Nat} {k j : Nat} (h : TC adj k j) : ∃ a, j ∈ adj a := by
  cases h with
  | one e => exact ⟨_, e⟩
  | step _ e => exact ⟨_, e⟩
/-- if x not in found: found[x] = {} -/
theorem run_key {w : World} {H0 H : Hp} {F : Addr} {L : Nat → Addr} {n a i : Nat} {es : List (Nat × Addr)} {js : Nat → List Nat} {σ : L2.St} {D : Ends} (g : RS w H0 H F L n es js id0 wr0) (lw : LW H0 L n) (h1 : σ[1]? = some (some (.ref F))) (hi : σ[i]? = some (some (lv L a))) (ha : a < n) (hn : n ≤ 1000)
    (q : ∀ es' H', RS w H0 H' F L n es' js id0 wr0 → a ∈ es'.map (·.1) → (∀ k ∈ es.map (·.1), k ∈ es'.map (·.1)) → D.nx σ H') :
    tIfS (tTest (tOp (fun y x H Q => ∃ r, NGet w H x y r ∧ Q (.bl (!r.isSome)) H) (tVar i) (tVar 1))) (tAsg (tNew w) (gSub (tVar 1) (tVar i) (rNPut w))) tNext D σ H := by
  refine ⟨_, hi, _, h1, _, (g.lw lw).get g.lts (g.hf.rd g.d) ha, _, rfl, ?_⟩
  rcases valV_es a es with ⟨l, e1, e2⟩ | ⟨e1, e2⟩
  · rw [e2]
    refine iteF ?_
    exact q es H g (List.mem_map.mpr ⟨_, e1, rfl⟩) fun _ h => h
  · rw [e2]
    refine iteT ?_
    intro l hl
    have f1 : Fr [] H (upd H l (dN w l [])) := Fr.new hl
    refine ⟨_, h1, _, hi, LW.put ((g.lw lw).mono f1.tk) g.lts (f1.keep _ _ g.d (by simp)) ha (by have := g.few; rw [sizeLine_eq]; omega) ?_⟩
    exact q _ _ (g.key ha e1 hl) (by simp) fun k hk => by rw [List.map_append]; exact List.mem_append_left _ hk
/-- what a pass keeps: nothing is lost, nothing is wrong, and where nothing was said to be new nothing is -/
structure PI (adj : Nat → List Nat) (js js' : Nat → List Nat) (m : Bool) : Prop where
  up : ∀ k, ∀ x ∈ js k, x ∈ js' k
  ok : ∀ k j, j ∈ js' k → TC adj k j
  eq : m = false → js' = js
abbrev sReach : Stmt := topS 15
def spReach (G : GC) : Sp := fun vs H Q _ => ∃ (pp : Addr) (us : List V) (ps : List (Nat × Nat)), vs = [.ref pp] ∧ H pp = some (.lst us) ∧ PairsIn H G.L ps us ∧ (∀ p ∈ ps, p.1 < G.n ∧ p.2 < G.n) ∧ (∀ a b, b ∈ G.adj a ↔ (a, b) ∈ ps) ∧ LW H G.L G.n ∧ G.n ≤ 6 ∧
  ∀ R H', Fr [] H H' → LI G R H' → Q (.ref R) H'
section
variable {P : Program} {w : World} {K : PySem.W.Frag} {mg : Str → Option Value} {base : Heap}
theorem scReach : FnScope ["_law_edges_here", "_law_found", "_law_one", "_law_other", "_law_turn", "_law_more", "_law_last"] ["_law_edges_here"] (defScope sReach) := ⟨rfl, rfl, rfl, by decide +kernel, rfl, by decide +kernel, by decide +kernel⟩
theorem ok_reach {G : GC} {f : Addr} {fd : FuncData} (hwG : G.w = w) (F : Fun K "_law_reach" "_law_reach" sReach f fd) (B : Bi mg) : FnOk P w K mg base CX0 1 f fd ["_law_edges_here"] (spReach G) := by
  subst hwG
  refine F.ok scReach (fun vs H Q E h => ?_) (fun cdv A outer s H vs Q E hr h => ?_)
  · obtain ⟨pp, us, ps, rfl, _⟩ := h
    rfl
  · obtain ⟨pp, us, ps, rfl, hpp, hin, hlt, hadj, lw, hn6, q⟩ := h
    have hu := hr.units
    refine ⟨_, pss_cons (ps_set (i := 1) scReach.nd rfl (Or.inl rfl) (pe_new (w := G.w) rfl))
      (pss_cons (ps_for PassesOwn.never rfl (pi_list (pv 0)) (pg_tup rfl (pgs_cons (pg_name (i := 2) scReach.nd rfl (Or.inl rfl)) (pgs_cons (pg_name (i := 3) scReach.nd rfl (Or.inl rfl)) pgs_nil)))
        (pss_cons (ps_if (pt_cmpR (op_nnotin hu) (pv 2) (pv 1) rfl) (pss_one (ps_asg (pe_new (w := G.w) rfl) (pg_sub (pv 1) (pv 2) (set_n hu)))) pss_nil)
        (pss_cons (ps_if (pt_cmpR (op_nnotin hu) (pv 3) (pv 1) rfl) (pss_one (ps_asg (pe_new (w := G.w) rfl) (pg_sub (pv 1) (pv 3) (set_n hu)))) pss_nil)
        (pss_one (ps_asg pe_bl (pg_sub (pe_nget hu (pv 1) (pv 2) (fun _ _ => rfl)) (pv 3) (set_n hu)))))))
      (pss_cons (ps_for PassesOwn.never rfl (pi_range1 rfl B.range (pa_cons (pe_op op_add (pe_callB call_nlen (by rfl) B.len PySem.boot_len (pa_cons (pv 1) pa_nil)) pe_int) pa_nil)) (pg_name (i := 4) scReach.nd rfl (Or.inl rfl))
        (pss_cons (ps_set (i := 5) scReach.nd rfl (Or.inl rfl) pe_bl)
        (pss_cons (ps_lock (ps_for PassesOwn.never rfl (pi_N (pv 1)) (pg_name (i := 2) scReach.nd rfl (Or.inl rfl))
          (pss_one (ps_for PassesOwn.never rfl (pi_list (pe_callTy (call_nlist rfl) (by rfl) B.list PyProof.Rows.boot_list (pa_cons (pe_nget hu (pv 1) (pv 2) (fun _ _ => rfl)) pa_nil))) (pg_name (i := 3) scReach.nd rfl (Or.inl rfl))
            (pss_one (ps_lock (ps_for PassesOwn.never rfl (pi_N (pe_nget hu (pv 1) (pv 3) (fun _ _ => rfl))) (pg_name (i := 6) scReach.nd rfl (Or.inl rfl))
              (pss_one (ps_if (pt_cmpR (op_nnotin hu) (pv 6) (pe_nget hu (pv 1) (pv 2) (fun _ _ => rfl)) rfl)
                (pss_cons (ps_asg pe_bl (pg_sub (pe_nget hu (pv 1) (pv 2) (fun _ _ => rfl)) (pv 6) (set_n hu))) (pss_one (ps_set (i := 5) scReach.nd rfl (Or.inl rfl) pe_bl))) pss_nil)))))))))
        (pss_one (ps_if (pt_not (pt_val (pv 5))) (pss_one ps_break) pss_nil)))))
      (pss_one (ps_ret (pe_frz (pv 1)))))), ?_⟩
    intro D hD
    have f1 : Fr [] H (upd H D (dN G.w D [])) := Fr.new hD
    have g1 : RS G.w H (upd H D (dN G.w D [])) D G.L G.n [] (fun _ => []) id0 wr0 :=
      ⟨f1, upd_same, (fun p h => (nomatch h)), isW0, isWr0, List.nodup_nil, List.nodup_nil, (fun p h => (nomatch h)), (fun p h => (nomatch h)), (fun p h => (nomatch h)), hD, fun _ => List.nodup_nil, (fun k j h => (nomatch h)), fun _ _ => rfl⟩
    have hul := PySem.Paired.length hin
    refine ⟨_, rfl, pp, rfl, ⟨_, sqL (f1.keep _ _ hpp (by simp))⟩, for_list (K := K) (a := pp) (xs := us) (fun i τ' H' => ∃ es js o2 o3, τ' = [some (.ref pp), some (.ref D), o2, o3, none, none, none] ∧ RS G.w H H' D G.L G.n es js id0 wr0 ∧ (∀ a b, b ∈ js a ↔ (a, b) ∈ ps.take i) ∧ ∀ q ∈ ps.take i, q.1 ∈ es.map (·.1) ∧ q.2 ∈ es.map (·.1))
      ⟨[], fun _ => [], none, none, rfl, g1, fun a b => by simp, fun q h => by simp at h⟩ (fun i τ' H' _ ⟨_, _, _, _, _, g, _⟩ => sqL (g.fr.keep _ _ hpp (by simp))) ?_ ?_⟩
    · rintro i y τ' H2 hi ⟨es, js, o2, o3, rfl, g, hjs, hks⟩
      have hiu : i < us.length := (List.getElem?_eq_some_iff.mp hi).1
      have hpi : ps[i]? = some ps[i] := List.getElem?_eq_getElem (by omega)
      obtain ⟨v', hv', t, e, ht⟩ := paired_get hin hpi
      rw [hi] at hv'
      cases hv'
      subst e
      have hpm := List.mem_of_getElem? hpi
      have htk : ps.take (i + 1) = ps.take i ++ [ps[i]] := by rw [List.take_add_one, hpi]; rfl
      generalize ps[i] = p at ht hpm htk
      obtain ⟨a, b⟩ := p
      have hl := hlt _ hpm
      have ha : a < G.n := hl.1
      have hb : b < G.n := hl.2
      refine ⟨t, _, rfl, sqT (g.fr.tk _ _ ht), rfl, _, _, rfl, _, _, rfl, rfl, ?_⟩
      refine run_key g lw rfl rfl ha (by omega) fun es1 H3 g3 k1 k2 => ?_
      refine run_key g3 lw rfl rfl hb (by omega) fun es2 H4 g4 k3 k4 => ?_
      obtain ⟨q1, hq1, e1⟩ := List.mem_map.mp (k4 a k1)
      obtain ⟨a', l⟩ := q1
      have e1 : a' = a := e1
      subst e1
      refine ⟨_, rfl, _, rfl, _, g4.at_ lw ha hq1, _, rfl, LW.put (g4.lw lw) (tjs_lt (g4.jl a')) (g4.ds _ hq1) hb (by have := g4.fews a'; rw [tjs, List.length_map, sizeLine_eq]; omega) ?_⟩
      have keys : ∀ q ∈ ps.take (i + 1), q.1 ∈ es2.map (·.1) ∧ q.2 ∈ es2.map (·.1) := by
        intro q' hq'
        rw [htk] at hq'
        rcases List.mem_append.mp hq' with h | h
        · exact ⟨k4 _ (k2 _ (hks q' h).1), k4 _ (k2 _ (hks q' h).2)⟩
        · rw [List.mem_singleton.mp h]
          exact ⟨k4 _ k1, k3⟩
      by_cases hbj : b ∈ js a'
      · refine ⟨es2, js, _, _, rfl, g4.same (fun _ => rfl) hq1 hbj, fun x z => ?_, keys⟩
        rw [htk, List.mem_append, hjs]
        constructor
        · exact Or.inl
        · rintro (h | h)
          · exact h
          · have h := List.mem_singleton.mp h
            cases h
            exact (hjs _ _).mp hbj
      · refine ⟨es2, addJ js a' b, _, _, rfl, g4.put (fun _ => rfl) hq1 hb hbj, fun x z => ?_, keys⟩
        rw [htk, List.mem_append, mem_addJ, hjs]
        refine or_congr Iff.rfl ?_
        rw [List.mem_singleton]
        constructor
        · rintro ⟨h1, h2⟩
          rw [h1, h2]
        · intro h
          cases h
          exact ⟨rfl, rfl⟩
    · rintro τ' H2 ⟨es, js0, o2, o3, rfl, g2, hjs, hks⟩
      rw [← hul, List.take_length] at hjs hks
      have hj0 : ∀ a b, b ∈ js0 a ↔ b ∈ G.adj a := fun a b => by rw [hjs, hadj]
      have hV : ∀ a b, b ∈ G.adj a → b ∈ es.map (·.1) := fun a b h => (hks _ ((hadj a b).mp h)).2
      have hS : ∀ a b, b ∈ G.adj a → a ∈ es.map (·.1) := fun a b h => (hks _ ((hadj a b).mp h)).1
      have place : ∀ k b, TC G.adj k b → ∃ l, (b, l) ∈ es := by
        intro k b h
        obtain ⟨a, ha⟩ := tc_last h
        obtain ⟨q', hq', e⟩ := List.mem_map.mp (hV a b ha)
        exact ⟨q'.2, by rw [← e]; exact hq'⟩
      dsimp only
      refine seq_any (fun τ H' => ∃ js o2 o3 o4 o5 o6, τ = [some (.ref pp), some (.ref D), o2, o3, o4, o5, o6] ∧ RS G.w H H' D G.L G.n es js id0 wr0 ∧ ∀ k j, j ∈ js k ↔ TC G.adj k j) (fun NX hN => ?_) ?_
      · refine ⟨_, rfl, D, _, rfl, Or.inl g2.d, (g2.lw lw).kall g2.lts, _, _, rfl, rfl, _, rfl, ?_⟩
        have hfew := g2.few
        rw [List.length_map] at hfew
        rw [List.length_map, List.length_map]
        refine ⟨by omega, by omega, ?_⟩
        rw [show (((es.length : Nat) : Int) + 1).toNat = es.length + 1 by omega]
        refine for_range (lo := 0) (n := es.length + 1) (fun r τ' H' => ∃ js o2 o3 o4 o5 o6, τ' = [some (.ref pp), some (.ref D), o2, o3, o4, o5, o6] ∧ RS G.w H H' D G.L G.n es js id0 wr0 ∧ (∀ k j, j ∈ js k → TC G.adj k j) ∧ Cov G.adj (r + 1) js)
          ⟨js0, _, _, _, _, _, rfl, g2, fun k j h => .one ((hj0 k j).mp h), fun k j h => by
            rcases h.last with h | ⟨b, ⟨xs, h1, h2, _⟩, _⟩
            · exact (hj0 k j).mpr h
            · exact absurd (List.length_eq_zero_iff.mp (by omega)) h1⟩ ?_ ?_
        · rintro r τ' H3 hr ⟨js, o2, o3, o4, o5, o6, rfl, g3, hok, hcov⟩
          dsimp only [gName, tSeq, tAsg, List.set]
          refine seq_any (t := tLock _) (fun τ H' => ∃ js' m o2 o3 o6, τ = [some (.ref pp), some (.ref D), o2, o3, some (.int (0 + (r : Int))), some (.bl m), o6] ∧ RS G.w H H' D G.L G.n es js' id0 wr0 ∧ PI G.adj js js' m ∧ ∀ k, ∀ b ∈ js k, ∀ c ∈ js b, c ∈ js' k) (fun NX2 hN2 => ?_) ?_
          · refine ⟨D, _, g3.d, trivial, fun od => ?_⟩
            have g4 := g3.lockF (od := od)
            have h4D : upd H3 D (.frz od (dL G.w G.L D (esV es))) D = some (.frz od (dL G.w G.L D (esV es))) := upd_same
            refine ⟨_, rfl, D, od, _, rfl, h4D, for_it walk_N (fun i τ' H' => ∃ js' m o2 o3 o6, τ' = [some (.ref pp), some (.ref D), o2, o3, some (.int (0 + (r : Int))), some (.bl m), o6] ∧ RS G.w H H' D G.L G.n es js' (.frz od) wr0 ∧ PI G.adj js js' m ∧
                ∀ k ∈ (es.take i).map (·.1), ∀ b ∈ js k, ∀ c ∈ js b, c ∈ js' k)
              ⟨js, false, _, _, _, rfl, g4, ⟨fun _ _ h => h, hok, fun _ => rfl⟩, fun k h => by simp at h⟩ (fun i τ' H' _ ⟨_, _, _, _, _, _, g, _⟩ => g.d) ?_ ?_⟩
            · rintro i x τ' H5 H6 hi ⟨js', m, o2, o3, o6, rfl, g5, pi, hcl⟩ ⟨rfl, e, he, rfl⟩
              rw [List.getElem?_map, List.getElem?_map] at he
              have hie : i < es.length := by simpa using hi
              rw [List.getElem?_eq_getElem hie] at he
              have he := (Option.some.inj he).symm
              subst he
              have hem : es[i] ∈ es := List.getElem_mem hie
              have htk : (es.take (i + 1)).map (·.1) = (es.take i).map (·.1) ++ [es[i].1] := by rw [List.take_add_one, List.getElem?_eq_getElem hie, List.map_append]; rfl
              generalize es[i] = p at hem htk
              obtain ⟨k, l⟩ := p
              have hk : k < G.n := g5.lt _ hem
              -- for other in list(found[one])
              refine ⟨_, rfl, _, rfl, _, g5.at_ lw hk hem, l, _, rfl, (g5.hw k).rd (g5.ds _ hem), fun la hla => ?_⟩
              have elist : ((tjs (js' k)).map fun p => (lk p.1, G.L p.1, p.2)).map (fun e => V.ref e.2.1) = (js' k).map (lv G.L) := by
                rw [List.map_map, tjs, List.map_map]
                rfl
              rw [elist]
              have g6 := g5.nw (o := HO.lst ((js' k).map (lv G.L))) hla
              have h6l : upd H6 la (.lst ((js' k).map (lv G.L))) la = some (.lst ((js' k).map (lv G.L))) := upd_same
              have hlaes : ∀ p ∈ es, la ≠ p.2 := fun p hp => (ne_of_none (g5.ds p hp) hla).symm
              have hlaD : la ≠ D := (ne_of_none g5.d hla).symm
              refine ⟨la, rfl, ⟨_, sqL h6l⟩, for_list (K := K) (a := la) (xs := (js' k).map (lv G.L)) (fun j τ' H' => ∃ js2 m o3 o6, τ' = [some (.ref pp), some (.ref D), some (lv G.L k), o3, some (.int (0 + (r : Int))), some (.bl m), o6] ∧ RS G.w H H' D G.L G.n es js2 (.frz od) wr0 ∧ PI G.adj js js2 m ∧
                  (∀ k ∈ (es.take i).map (·.1), ∀ b ∈ js k, ∀ c ∈ js b, c ∈ js2 k) ∧ H' la = some (.lst ((js' k).map (lv G.L))) ∧ (∀ x ∈ js' k, x ∈ js2 k) ∧ ∀ b ∈ (js' k).take j, ∀ c ∈ js b, c ∈ js2 k)
                ⟨js', m, _, _, rfl, g6, pi, hcl, h6l, fun _ h => h, fun b h => by simp at h⟩ (fun j τ' H' _ ⟨_, _, _, _, _, _, _, _, h, _⟩ => sqL h) ?_ ?_⟩
              · rintro j y τ' H7 hj ⟨js2, m, o3, o6, rfl, g7, pi2, hcl2, h7l, hup, hbs⟩
                rw [List.getElem?_map] at hj
                obtain ⟨b, hb, rfl⟩ := Option.map_eq_some_iff.mp hj
                have hbm := List.mem_of_getElem? hb
                have htb : (js' k).take (j + 1) = (js' k).take j ++ [b] := by rw [List.take_add_one, hb]; rfl
                have hbn : b < G.n := g5.jl k b hbm
                obtain ⟨lb, hlb⟩ := place k b (pi.ok k b hbm)
                -- for last in found[other]
                refine ⟨lb, _, g7.ds _ hlb, trivial, fun od2 => ?_⟩
                have g8 := g7.setD (wr' := wrB od2 b) hlb (isWB od2 b) (fun x hx => by unfold wrB wr0; funext u; rw [if_neg hx])
                have e8 : wrB od2 b b (dL G.w G.L lb (tjs (js2 b))) = .frz od2 (dL G.w G.L lb (tjs (js2 b))) := by unfold wrB; rw [if_pos rfl]
                rw [e8] at g8
                have h8b : upd H7 lb (.frz od2 (dL G.w G.L lb (tjs (js2 b)))) lb = some (.frz od2 (dL G.w G.L lb (tjs (js2 b)))) := upd_same
                have h8l : upd H7 lb (.frz od2 (dL G.w G.L lb (tjs (js2 b)))) la = some (.lst ((js' k).map (lv G.L))) := by rw [upd_ne (hlaes _ hlb)]; exact h7l
                refine ⟨_, rfl, _, rfl, _, g8.at_ lw hbn hlb, lb, od2, _, rfl, h8b, for_it walk_N (fun q τ' H' => ∃ js3 m o6, τ' = [some (.ref pp), some (.ref D), some (lv G.L k), some (lv G.L b), some (.int (0 + (r : Int))), some (.bl m), o6] ∧ RS G.w H H' D G.L G.n es js3 (.frz od) (wrB od2 b) ∧ PI G.adj js js3 m ∧
                    (∀ k ∈ (es.take i).map (·.1), ∀ b ∈ js k, ∀ c ∈ js b, c ∈ js3 k) ∧ H' la = some (.lst ((js' k).map (lv G.L))) ∧ (∀ b ∈ (js' k).take j, ∀ c ∈ js b, c ∈ js3 k) ∧ js3 b = js2 b ∧ (∀ x ∈ js' k, x ∈ js3 k) ∧ ∀ c ∈ (js2 b).take q, c ∈ js3 k)
                  ⟨js2, m, _, rfl, g8, pi2, hcl2, h8l, hbs, rfl, hup, fun c h => by simp at h⟩ (fun q τ' H' _ ⟨js3, _, _, _, g, _, _, _, _, e, _⟩ => ?_) ?_ ?_⟩
                · have := g.ds _ hlb
                  unfold wrB at this
                  rw [if_pos rfl, e] at this
                  exact this
                · rintro q x τ' H9 H10 hq ⟨js3, m, o6, rfl, g9, pi3, hcl3, h9l, hbs3, e3, hup3, hcs⟩ ⟨rfl, e, he, rfl⟩
                  rw [List.getElem?_map, tjs, List.getElem?_map] at he
                  have hql : q < (js2 b).length := by simpa [tjs] using hq
                  rw [List.getElem?_eq_getElem hql] at he
                  have he := (Option.some.inj he).symm
                  subst he
                  have hcm : (js2 b)[q] ∈ js2 b := List.getElem_mem hql
                  have htc : (js2 b).take (q + 1) = (js2 b).take q ++ [(js2 b)[q]] := by rw [List.take_add_one, List.getElem?_eq_getElem hql]; rfl
                  generalize (js2 b)[q] = c at hcm htc
                  have hcn : c < G.n := g7.jl b c hcm
                  obtain ⟨rr, hget, hrr⟩ := g9.in_ lw hem hcn
                  refine ⟨_, rfl, _, rfl, _, rfl, _, g9.at_ lw hk hem, rr, hget, _, rfl, ?_⟩
                  rw [hrr]
                  by_cases hc : c ∈ js3 k
                  · rw [decide_eq_true hc]
                    refine iteF ?_
                    refine ⟨js3, m, _, rfl, g9, pi3, hcl3, h9l, hbs3, e3, hup3, fun x hx => ?_⟩
                    rw [htc] at hx
                    rcases List.mem_append.mp hx with hx | hx
                    · exact hcs x hx
                    · rw [List.mem_singleton.mp hx]
                      exact hc
                  · rw [decide_eq_false hc]
                    refine iteT ?_
                    have hkb : k ≠ b := fun z => hc (by rw [z, e3]; exact hcm)
                    have hwk : ∀ u, wrB od2 b k u = u := fun u => by unfold wrB; rw [if_neg hkb]
                    have h9k := g9.ds _ hem
                    rw [hwk] at h9k
                    refine ⟨_, rfl, _, rfl, _, g9.at_ lw hk hem, _, rfl, LW.put (g9.lw lw) (tjs_lt (g9.jl k)) h9k hcn (by have := g9.fews k; rw [tjs, List.length_map, sizeLine_eq]; omega) ?_⟩
                    have g10 := g9.put hwk hem hcn hc
                    refine ⟨addJ js3 k c, true, _, rfl, g10, ⟨fun x z hz => mem_addJ.mpr (Or.inl (pi3.up x z hz)), fun x z hz => ?_, fun h => by cases h⟩, fun x hx d hd z hz => mem_addJ.mpr (Or.inl (hcl3 x hx d hd z hz)), ?_,
                      fun d hd z hz => mem_addJ.mpr (Or.inl (hbs3 d hd z hz)), ?_, fun x hx => mem_addJ.mpr (Or.inl (hup3 x hx)), fun x hx => ?_⟩
                    · rcases mem_addJ.mp hz with h | ⟨h1, h2⟩
                      · exact pi3.ok x z h
                      · rw [h1, h2]
                        exact (pi3.ok k b (hup3 b hbm)).trans (pi3.ok b c (by rw [e3]; exact hcm))
                    · rw [upd_ne (hlaes _ hem)]
                      exact h9l
                    · unfold addJ
                      rw [if_neg (Ne.symm hkb)]
                      exact e3
                    · rw [htc] at hx
                      rcases List.mem_append.mp hx with hx | hx
                      · exact mem_addJ.mpr (Or.inl (hcs x hx))
                      · rw [List.mem_singleton.mp hx]
                        exact mem_addJ.mpr (Or.inr ⟨rfl, rfl⟩)
                · rintro τ' H9 ⟨js3, m, o6, rfl, g9, pi3, hcl3, h9l, hbs3, e3, hup3, hcs⟩
                  have hfull : ((tjs (js2 b)).map fun p => (lk p.1, G.L p.1, p.2)).length = (js2 b).length := by simp [tjs]
                  rw [hfull, List.take_length] at hcs
                  have h9b := g9.ds _ hlb
                  unfold wrB at h9b
                  rw [if_pos rfl, e3] at h9b
                  refine ⟨h9b, js3, m, _, _, rfl, ?_, pi3, hcl3, ?_, hup3, fun x hx z hz => ?_⟩
                  · have g10 := g9.setD (wr' := wr0) hlb isWr0 (fun x hx => by unfold wrB wr0; funext u; rw [if_neg hx])
                    rw [e3] at g10
                    exact g10
                  · rw [upd_ne (hlaes _ hlb)]
                    exact h9l
                  · rw [htb] at hx
                    rcases List.mem_append.mp hx with hx | hx
                    · exact hbs3 x hx z hz
                    · rw [List.mem_singleton.mp hx] at hz
                      exact hcs z (pi2.up b z hz)
              · rintro τ' H7 ⟨js2, m, o3, o6, rfl, g7, pi2, hcl2, h7l, hup, hbs⟩
                rw [List.length_map, List.take_length] at hbs
                refine ⟨js2, m, _, _, _, rfl, g7, pi2, fun x hx b hb c hc => ?_⟩
                rw [htk] at hx
                rcases List.mem_append.mp hx with hx | hx
                · exact hcl2 x hx b hb c hc
                · rw [List.mem_singleton.mp hx] at hb ⊢
                  exact hbs b (pi.up k b hb) c hc
            · rintro τ' H5 ⟨js', m, o2, o3, o6, rfl, g5, pi, hcl⟩
              have hfull : ((esV es).map fun p => (lk p.1, G.L p.1, p.2)).length = es.length := by simp
              rw [hfull, List.take_length] at hcl
              refine ⟨g5.d, hN2 _ _ ⟨js', m, _, _, _, rfl, g5.openF, pi, fun k b hb c hc => ?_⟩⟩
              by_cases hk : k ∈ es.map (·.1)
              · exact hcl k hk b hb c hc
              · rw [g3.jo k hk] at hb
                cases hb
          · rintro τ H4 ⟨js', m, o2, o3, o6, rfl, g4, pi, hcl⟩
            refine ⟨_, rfl, m, rfl, ?_⟩
            cases m with
            | true =>
              refine iteF ?_
              exact ⟨js', _, _, _, _, _, rfl, g4, pi.ok, hcov.step (by omega) pi.up hcl⟩
            | false =>
              refine iteT ?_
              have e := pi.eq rfl
              subst e
              exact hN _ _ ⟨js', _, _, _, _, _, rfl, g4, fun k j => ⟨hok k j, fun t => closed_all (by omega) hcov hcl t⟩⟩
        · rintro τ' H3 ⟨js, o2, o3, o4, o5, o6, rfl, g3, hok, hcov⟩
          exact hN _ _ ⟨js, _, _, _, _, _, rfl, g3, fun k j => ⟨hok k j, fun t => hcov.all hV (by rw [List.length_map]; omega) t⟩⟩
      · rintro τ H3 ⟨js, o2, o3, o4, o5, o6, rfl, g3, hjs3⟩
        refine ⟨_, rfl, D :: es.map (·.2), lock_all ?_ ?_ fun H4 k1 k2 => ?_⟩
        · rw [List.nodup_cons]
          refine ⟨fun h => ?_, g3.an⟩
          obtain ⟨p, hp, e⟩ := List.mem_map.mp h
          exact g3.ne p hp e
        · intro d hd
          rcases List.mem_cons.mp hd with rfl | hd
          · exact ⟨_, g3.d, trivial⟩
          · obtain ⟨p, hp, rfl⟩ := List.mem_map.mp hd
            exact ⟨_, g3.ds p hp, trivial⟩
        · obtain ⟨od, hEd⟩ := k2 D List.mem_cons_self _ g3.d
          have out : ∀ a o, H a = some o → a ∉ D :: es.map (·.2) := by
            intro a o e hm
            rcases List.mem_cons.mp hm with rfl | hm
            · rw [g3.f0] at e; cases e
            · obtain ⟨p, hp, rfl⟩ := List.mem_map.mp hm
              rw [g3.new p hp] at e; cases e
          have f4 : Fr [] H H4 := ⟨fun a o e _ => by rw [k1 a (out a o e)]; exact g3.fr.keep a o e (by simp), fun a vs e => by rw [k1 a (out a _ e)]; exact g3.fr.tk a vs e⟩
          refine q D H4 f4 ⟨lw.mono f4.tk, ⟨od, esV es, hEd, g3.lts, fun k hk => ?_⟩, hn6⟩
          rcases valV_es k es with ⟨l, h1, h2⟩ | ⟨h1, h2⟩
          · rw [h2]
            obtain ⟨o, ho⟩ := k2 l (List.mem_cons_of_mem _ (List.mem_map.mpr ⟨_, h1, rfl⟩)) _ (g3.ds _ h1)
            exact ⟨l, o, js k, rfl, ho, g3.jl k, hjs3 k⟩
          · rw [h2]
            intro j t
            obtain ⟨x, hx⟩ := t.first
            exact h1 (hS k x hx)
end
end QW
end
section
set_option Elab.async false
set_option linter.all false
set_option maxRecDepth 100000
set_option maxHeartbeats 8000000
/-! the law's blocks -/
namespace QW
open PySem L2 QN Qw
theorem ld_plain (k : Nat) : (ld k).plain = true := by
  rw [ld_eq]
  simp [nmD, PyData.plain, PyData.plainAll]
theorem lds_plain : ∀ l : List Nat, PyData.plainAll (l.map ld) = true
  | [] => by simp [PyData.plainAll]
  | a :: l => by simp [PyData.plainAll, ld_plain a, lds_plain l]
theorem place_ld {l : List Nat} {x : Nat} (h : x ∈ l) : ∃ j, PySem.SeqAt.dataPlace (l.map ld) (ld x) = some j ∧ ∃ hj : j < l.length, l[j] = x := by
  unfold PySem.SeqAt.dataPlace
  rw [List.findIdx?_map]
  have e : ((fun y => PyData.eqv y (ld x)) ∘ ld) = fun y => decide (y = x) := by
    funext y
    exact ld_eqv y x
  rw [e]
  cases hf : l.findIdx? fun y => decide (y = x) with
  | none =>
    rw [List.findIdx?_eq_none_iff] at hf
    have := hf x h
    simp at this
  | some j =>
    obtain ⟨hj, h1, _⟩ := List.findIdx?_eq_some_iff_getElem.mp hf
    exact ⟨j, rfl, hj, of_decide_eq_true h1⟩
theorem pairZ {α β : Type} {F : α → β → Prop} : ∀ (zs : List (α × β)), (∀ z ∈ zs, F z.1 z.2) → PySem.Paired F (zs.map (·.1)) (zs.map (·.2))
  | [], _ => .nil
  | z :: zs, h => .cons (h z List.mem_cons_self) (pairZ zs fun y hy => h y (List.mem_cons_of_mem _ hy))
theorem zipP {α β : Type} {F : α → β → Prop} {l : List α} {m : List β} (h : PySem.Paired F l m) : (∀ z ∈ l.zip m, F z.1 z.2) ∧ (l.zip m).map (·.1) = l ∧ (l.zip m).map (·.2) = m := by
  induction h with
  | nil => exact ⟨fun z hz => (nomatch hz), rfl, rfl⟩
  | cons h _ ih =>
    obtain ⟨h1, h2, h3⟩ := ih
    refine ⟨fun z hz => ?_, by simp [h2], by simp [h3]⟩
    rcases List.mem_cons.mp hz with rfl | hz
    · exact h
    · exact h1 z hz
/-- a block of lines -/
structure GoodB (n : Nat) (g : List Nat) : Prop where
  nd : g.Nodup
  ne : g ≠ []
  lt : ∀ k ∈ g, k < n
abbrev sBlocks : Stmt := topS 18
def spBlocks (G : GC) : Sp := fun vs H Q _ => ∃ (R a : Addr) (js : List Nat), vs = [.ref R, .ref a] ∧ LI G R H ∧ H a = some (.lst (js.map (lv G.L))) ∧ js.Nodup ∧ (∀ j ∈ js, j < G.n) ∧
  ∀ p us bls H', Fr [] H H' → H p = none → H' p = some (.lst us) → OrdsIn [p] H' G.L bls us → (∀ b ∈ bls, GoodB G.n b) → Q (.ref p) H'
section
variable {P : Program} {w : World} {K : PySem.W.Frag} {mg : Str → Option Value} {base : Heap}
abbrev bN : List Str := ["_law_reach_here", "_law_present", "_law_left", "_law_groups", "_law_group", "_law_turn", "_law_near", "_law_other", "_law_far", "_law_one", "_law_found", "_law_first", "_law_rest", "_law_row", "_law_free"]
theorem scBlocks : FnScope bN ["_law_reach_here", "_law_present"] (defScope sBlocks) := ⟨rfl, rfl, rfl, by decide +kernel, rfl, by decide +kernel, by decide +kernel⟩
theorem ok_blocks {G : GC} {f fS : Addr} {fd fdS : FuncData} (hwG : G.w = w) (F : Fun K "_law_blocks" "_law_blocks" sBlocks f fd) (B : Bi mg) (S : Kn P w K mg base "_law_strictly" 2 fS fdS pN (spLStr G)) : FnOk P w K mg base CX0 3 f fd ["_law_reach_here", "_law_present"] (spBlocks G) := by
  subst hwG
  refine F.ok scBlocks (fun vs H Q E h => ?_) (fun cdv A outer s H vs Q E hr h => ?_)
  · obtain ⟨R, a, js, rfl, _⟩ := h
    rfl
  · obtain ⟨R, a, js, rfl, li, ha, hjn, hjl, q⟩ := h
    have hu := hr.units
    have hu65 : (A.deeper (PyProof.Rows.envOfC "_law_blocks" (defScope sBlocks) s.heap.objs.size f cdv)).units + 65 < cLine := by have := hr.un; omega
    refine ⟨_, pss_cons (ps_set (i := 2) scBlocks.nd rfl (Or.inl rfl) (pe_callB (call_srt G.L G.n hu) (by rfl) B.sorted PyProof.Rows.boot_sorted (pa_cons (pv 1) pa_nil)))
      (pss_cons (ps_set (i := 3) scBlocks.nd rfl (Or.inl rfl) (pe_lst pa_nil))
      (pss_cons (ps_while PassesOwn.never (pt_cmpR op_gt (pe_len B.len rfl (pv 2)) pe_int (nomark _))
        (pss_cons (ps_set (i := 4) scBlocks.nd rfl (Or.inr rfl) (pe_lst (pa_cons (pe_ix ix_list (pv 2) pe_int (fun _ _ => rfl)) pa_nil)))
        (pss_cons (ps_for PassesOwn.never rfl (pi_range1 rfl B.range (pa_cons (pe_len B.len rfl (pv 2)) pa_nil)) (pg_name (i := 5) scBlocks.nd rfl (Or.inl rfl))
          (pss_cons (ps_set (i := 6) scBlocks.nd rfl (Or.inl rfl) (pe_lst pa_nil))
          (pss_cons (ps_for PassesOwn.never rfl (pi_list (pv 2)) (pg_name (i := 7) scBlocks.nd rfl (Or.inr rfl))
            (pss_cons (ps_setLc (i := 8) (own := [("_law_one", 9)]) (g := gName 9) (tt := tAnd (tNot (tLStr G 0 9 7)) (tNot (tLStr G 0 7 9))) (te := tVar 9) rfl scBlocks.nd rfl rfl (sw_true rfl rfl rfl rfl) (pi_list (pv 4)) (blkOk_by (by rfl))
                (fun _ _ _ _ _ => pg_name (i := 9) scBlocks.nd rfl (Or.inl rfl))
                (fun _ _ _ _ _ => pts_one (PW.pt (pw_and (pt_not (pt_val (pe_call S.ok hr rfl S.mg S.kp S.b .nil pass0 (pa_cons (pv 0) (pa_cons (pv 9) (pa_cons (pv 7) pa_nil))))))
                  (pw_and1 (pt_not (pt_val (pe_call S.ok hr rfl S.mg S.kp S.b .nil pass0 (pa_cons (pv 0) (pa_cons (pv 7) (pa_cons (pv 9) pa_nil)))))))))) (fun _ _ _ _ _ => pv 9))
            (pss_one (ps_if (PW.pt (pw_and (pt_cmpR (op_notInD hu65) (pv 7) (pv 4) rfl) (pw_and1 (pt_cmpR op_gt (pe_len B.len rfl (pv 8)) pe_int (nomark _)))))
              (pss_one (ps_expr (pe_bm PySem.F.plainAttrs_list PySem.F.slot_list_append PySem.F.type_list_append mt_append (pv 6) (pa_cons (pv 7) pa_nil)))) pss_nil))))
          (pss_cons (ps_if (pt_cmpR op_eq (pe_len B.len rfl (pv 6)) pe_int (nomark _)) (pss_one ps_break) pss_nil)
          (pss_one (ps_set (i := 4) scBlocks.nd rfl (Or.inr rfl) (pe_op op_cat (pv 4) (pv 6))))))))
        (pss_cons (ps_expr (pe_bm PySem.F.plainAttrs_list PySem.F.slot_list_append PySem.F.type_list_append mt_append (pv 3) (pa_cons (pv 4) pa_nil)))
        (pss_one (ps_setLc (i := 2) (own := [("_law_one", 9)]) (g := gName 9) (tt := tTest (tOp (rNotInD K) (tVar 9) (tVar 4))) (te := tVar 9) rfl scBlocks.nd rfl rfl (sw_true rfl rfl rfl rfl) (pi_list (pv 2)) (blkOk_by (by rfl))
            (fun _ _ _ _ _ => pg_name (i := 9) scBlocks.nd rfl (Or.inl rfl)) (fun _ _ _ _ _ => pts_one (pt_cmpR (op_notInD hu65) (pv 9) (pv 4) rfl)) (fun _ _ _ _ _ => pv 9)))))))
      (pss_cons (ps_set (i := 10) scBlocks.nd rfl (Or.inl rfl) (pe_lst pa_nil))
      (pss_cons (ps_while PassesOwn.never (pt_cmpR op_gt (pe_len B.len rfl (pv 3)) pe_int (nomark _))
        (pss_cons (ps_set (i := 11) scBlocks.nd rfl (Or.inr rfl) (pe_ix ix_list (pv 3) pe_int (fun _ _ => rfl)))
        (pss_cons (ps_for PassesOwn.never rfl (pi_list (pv 3)) (pg_name (i := 4) scBlocks.nd rfl (Or.inr rfl))
          (pss_one (ps_if (PW.pt (pw_and (pt_cmpR (op_neD hu) (pv 4) (pv 11) (nomark _)) (pw_and1 (pt_val (pe_call S.ok hr rfl S.mg S.kp S.b .nil pass0 (pa_cons (pv 0) (pa_cons (pe_ix ix_list (pv 4) pe_int (fun _ _ => rfl)) (pa_cons (pe_ix ix_list (pv 11) pe_int (fun _ _ => rfl)) pa_nil))))))))
            (pss_one (ps_set (i := 11) scBlocks.nd rfl (Or.inr rfl) (pv 4))) pss_nil)))
        (pss_cons (ps_setLc (i := 3) (own := [("_law_group", 4)]) (g := gName 4) (tt := tTest (tOp (rNeD K) (tVar 4) (tVar 11))) (te := tVar 4) rfl scBlocks.nd rfl rfl (sw_true rfl rfl rfl rfl) (pi_list (pv 3)) (blkOk_by (by rfl))
            (fun _ _ _ _ _ => pg_name (i := 4) scBlocks.nd rfl (Or.inl rfl)) (fun _ _ _ _ _ => pts_one (pt_cmpR (op_neD hu) (pv 4) (pv 11) (nomark _))) (fun _ _ _ _ _ => pv 4))
        (pss_cons (ps_set (i := 12) scBlocks.nd rfl (Or.inr rfl) (pe_callTy call_list_of (by rfl) B.list PyProof.Rows.boot_list (pa_cons (pv 11) pa_nil)))
        (pss_cons (ps_set (i := 13) scBlocks.nd rfl (Or.inl rfl) (pe_lst pa_nil))
        (pss_cons (ps_while PassesOwn.never (pt_cmpR op_gt (pe_len B.len rfl (pv 12)) pe_int (nomark _))
          (pss_cons (ps_setLc (i := 14) (own := [("_law_one", 9)]) (g := gName 9) (tt := tLen0 K (tLc (iList K (tVar 12)) (gName 7) (tLStr G 0 7 9) (tVar 7) [7])) (te := tVar 9) rfl scBlocks.nd rfl rfl (sw_true rfl rfl rfl rfl) (pi_list (pv 12)) (blkOk_by (by rfl))
              (fun _ _ _ _ _ => pg_name (i := 9) scBlocks.nd rfl (Or.inr rfl))
              (fun _ _ _ _ _ => pts_one (pt_cmpR op_eq (pe_len B.len rfl (pe_fil (i := 7) rfl scBlocks.nd (pi_list (pv 12)) (blkOk_by (by rfl)) (fun _ _ _ _ _ => Or.inl rfl)
                (fun _ _ _ _ _ => pt_val (pe_call S.ok hr rfl S.mg S.kp S.b .nil pass0 (pa_cons (pv 0) (pa_cons (pv 7) (pa_cons (pv 9) pa_nil))))))) pe_int (nomark _))) (fun _ _ _ _ _ => pv 9))
          (pss_cons (ps_expr (pe_bm PySem.F.plainAttrs_list PySem.F.slot_list_append PySem.F.type_list_append mt_append (pv 13) (pa_cons (pe_callB (call_minD hu rfl) (by rfl) B.min PyProof.Rows.boot_min (pa_cons (pv 14) pa_nil)) pa_nil)))
          (pss_one (ps_expr (pe_bm PySem.F.plainAttrs_list PySem.F.slot_list_remove PySem.F.type_list_remove (mt_removeD hu) (pv 12) (pa_cons (pe_ix ix_list (pv 13) (pe_un un_neg pe_int) (fun _ _ => rfl)) pa_nil)))))))
        (pss_one (ps_expr (pe_bm PySem.F.plainAttrs_list PySem.F.slot_list_append PySem.F.type_list_append mt_append (pv 10) (pa_cons (pv 13) pa_nil)))))))))))
      (pss_one (ps_ret (pv 10))))))), ?_⟩
    -- the lines in their order, no groups yet
    refine ⟨_, rfl, a, js, rfl, sqL ha, hjl, li.lw, fun pl0 hpl0 => ?_⟩
    have f1 : Fr [] H (upd H pl0 (.lst ((srt js).map (lv G.L)))) := Fr.new hpl0
    refine ⟨Nat.zero_le _, fun pg hpg => ?_⟩
    have hpgH := f1.back hpg (by simp)
    have f2 : Fr [] H (upd (upd H pl0 (.lst ((srt js).map (lv G.L)))) pg (.lst [])) := f1.trans (Fr.new hpg)
    have h2l : upd (upd H pl0 (.lst ((srt js).map (lv G.L)))) pg (.lst []) pl0 = some (.lst ((srt js).map (lv G.L))) := (Fr.new (D := []) hpg).keep _ _ upd_same (by simp)
    have h2g : upd (upd H pl0 (.lst ((srt js).map (lv G.L)))) pg (.lst []) pg = some (.lst []) := upd_same
    have hlg : pl0 ≠ pg := ne_of_none (o := HO.lst ((srt js).map (lv G.L))) upd_same hpg
    generalize upd (upd H pl0 (.lst ((srt js).map (lv G.L)))) pg (.lst []) = H2 at f2 h2l h2g
    have hs6 : (srt js).length ≤ 6 := li.len (srt_nodup hjn) fun k hk => hjl k (srt_mem.mp hk)
    refine ⟨fun m τ' H' => ∃ pl left us gs o4 o5 o6 o7 o8 o9, m = left.length ∧ τ' = [some (.ref R), some (.ref a), some (.ref pl), some (.ref pg), o4, o5, o6, o7, o8, o9, none, none, none, none, none] ∧ Fr [] H H' ∧ H' pl = some (.lst (left.map (lv G.L))) ∧ left.Nodup ∧ (∀ k ∈ left, k < G.n) ∧
        H' pg = some (.lst us) ∧ OrdsIn [pg] H' G.L gs us ∧ (∀ g ∈ gs, GoodB G.n g) ∧ gs.length + left.length ≤ 6 ∧ pl ≠ pg,
      ⟨_, pl0, srt js, [], [], none, none, none, none, none, none, rfl, rfl, f2, h2l, srt_nodup hjn, fun k hk => hjl k (srt_mem.mp hk), h2g, .nil, fun g h => (nomatch h), by simpa using hs6, hlg⟩, ?_⟩
    rintro m τ' H3 ⟨pl, left, us, gs, o4, o5, o6, o7, o8, o9, rfl, rfl, f3, h3l, hln, hll, h3g, hgs, hgood, hsum, hne⟩
    have li3 := li.fr0 f3
    refine ⟨_, rfl, pl, _, rfl, Or.inl (sqL h3l), _, _, rfl, rfl, _, rfl, ?_⟩
    rw [List.length_map]
    cases left with
    | cons x left' =>
      rw [decide_eq_true (by rw [List.length_cons]; omega)]
      refine iteT ⟨_, fun σ' H' w => w, ?_⟩
      -- group = [left[0]]
      refine ⟨_, rfl, pl, _, _, _, rfl, rfl, sqL h3l, atI_nat (xs := List.map (lv G.L) (x :: left')) (j := 0) rfl, (by show 1 ≤ sizeLine; decide), fun q0 hq0 => ?_⟩
      have f34 : Fr [] H3 (upd H3 q0 (.lst [lv G.L x])) := Fr.new hq0
      have h4q : upd H3 q0 (.lst [lv G.L x]) q0 = some (.lst ([x].map (lv G.L))) := upd_same
      have hq0g : q0 ≠ pg := (ne_of_none h3g hq0).symm
      generalize hH4 : upd H3 q0 (.lst [lv G.L x]) = H4 at f34 h4q
      dsimp only [gName, tSeq, tAsg, List.set]
      refine seq_any (t := tFor _ _ _) (fun τ H' => ∃ (qg : Addr) (grp : List Nat) (o5 o6 o7 o8 o9 : Option V), τ = [some (.ref R), some (.ref a), some (.ref pl), some (.ref pg), some (.ref qg), o5, o6, o7, o8, o9, none, none, none, none, none] ∧ Fr [] H3 H' ∧ H' qg = some (.lst (grp.map (lv G.L))) ∧ grp.Nodup ∧ (∀ k ∈ grp, k ∈ x :: left') ∧ x ∈ grp ∧ qg ≠ pg) (fun NX hN => ?_) ?_
      · have h4l := f34.keep _ _ h3l (by simp)
        refine ⟨_, rfl, pl, _, rfl, Or.inl (sqL h4l), _, rfl, by omega, by rw [List.length_map]; omega, ?_⟩
        refine for_range (lo := 0) (fun i τ' H' => ∃ (qg : Addr) (grp : List Nat) (o5 o6 o7 o8 o9 : Option V), τ' = [some (.ref R), some (.ref a), some (.ref pl), some (.ref pg), some (.ref qg), o5, o6, o7, o8, o9, none, none, none, none, none] ∧ Fr [] H3 H' ∧ H' qg = some (.lst (grp.map (lv G.L))) ∧ grp.Nodup ∧ (∀ k ∈ grp, k ∈ x :: left') ∧ x ∈ grp ∧ qg ≠ pg)
          ⟨q0, [x], _, _, _, _, _, rfl, f34, h4q, by simp, fun k hk => by rw [List.mem_singleton.mp hk]; exact List.mem_cons_self, by simp, hq0g⟩ ?_ ?_
        · rintro i τ' H5 _ ⟨qg, grp, o5, o6, o7, o8, o9, rfl, f5, h5q, hgn, hgl, hxg, hqg⟩
          have hgk : ∀ k ∈ grp, k < G.n := fun k hk => hll k (hgl k hk)
          have hg6 : grp.length ≤ 6 := li.len hgn hgk
          refine ⟨Nat.zero_le _, fun pn hpn => ?_⟩
          have f56 : Fr [] H5 (upd H5 pn (.lst [])) := Fr.new hpn
          have h6n : upd H5 pn (.lst []) pn = some (.lst (([] : List Nat).map (lv G.L))) := upd_same
          have hnq : qg ≠ pn := ne_of_none h5q hpn
          have hpn3 := f5.back hpn (by simp)
          have h6q := f56.keep _ _ h5q (by simp)
          have f36 := f5.trans f56
          generalize upd H5 pn (.lst []) = H6 at f56 h6n h6q f36
          refine ⟨_, rfl, pl, rfl, ⟨_, sqL (f36.keep _ _ h3l (by simp))⟩, for_list (K := K) (a := pl) (xs := (x :: left').map (lv G.L)) (fun j τ' H' => ∃ (nr : List Nat) (o7 o8 o9 : Option V), τ' = [some (.ref R), some (.ref a), some (.ref pl), some (.ref pg), some (.ref qg), some (.int (0 + (i : Int))), some (.ref pn), o7, o8, o9, none, none, none, none, none] ∧ Fr [] H3 H' ∧
              H' qg = some (.lst (grp.map (lv G.L))) ∧ H' pn = some (.lst (nr.map (lv G.L))) ∧ nr.Sublist ((x :: left').take j) ∧ ∀ y ∈ nr, y ∉ grp)
            ⟨[], _, _, _, rfl, f36, h6q, h6n, List.nil_sublist _, fun y h => (nomatch h)⟩ (fun j τ' H' _ ⟨_, _, _, _, _, f, _⟩ => sqL (f.keep _ _ h3l (by simp))) ?_ ?_⟩
          · rintro j y τ' H7 hj ⟨nr, o7, o8, o9, rfl, f7, h7q, h7n, hsub, hdis⟩
            rw [List.getElem?_map] at hj
            obtain ⟨z, hz, rfl⟩ := Option.map_eq_some_iff.mp hj
            have hzl := List.mem_of_getElem? hz
            have hzn := hll z hzl
            have htk : (x :: left').take (j + 1) = (x :: left').take j ++ [z] := by rw [List.take_add_one, hz]; rfl
            have li7 := li3.fr0 f7
            have hnr : nr.length ≤ 6 := by
              have := hsub.length_le
              rw [List.length_take] at this
              omega
            dsimp only [gName, tSeq, tAsg, List.set]
            refine run_filF (lv G.L) (xs := grp) (fun u => !stB G.adj u z && !stB G.adj z u) (fun Q' hQ' => ⟨_, rfl, hQ' qg H7 (Fr.refl _) h7q⟩) (by omega) (fun _ => rfl) (fun _ => rfl) (fun u hu' H8 f8 Q8 q8 => ?_) (fun pf H8 hpf f8 h8f => ?_)
            · refine run_lstr (li7.fr0 f8) (hgk u hu') hzn rfl rfl rfl ?_
              cases e1 : stB G.adj u z with
              | true =>
                have := q8 H8 (Fr.refl _)
                rw [e1] at this
                exact iteF this
              | false =>
                refine iteT (run_lstr (li7.fr0 f8) hzn (hgk u hu') rfl rfl rfl ?_)
                have := q8 H8 (Fr.refl _)
                rw [e1] at this
                exact this
            · have li8 := li7.fr0 f8
              have h8q := f8.keep _ _ h7q (by simp)
              have h8n := f8.keep _ _ h7n (by simp)
              have f38 := f7.trans f8
              have stay : ∃ (nr' : List Nat) (o7' o8' o9' : Option V), ([some (.ref R), some (.ref a), some (.ref pl), some (.ref pg), some (.ref qg), some (.int (0 + (i : Int))), some (.ref pn), some (lv G.L z), some (.ref pf), o9, none, none, none, none, none] : L2.St) =
                  [some (.ref R), some (.ref a), some (.ref pl), some (.ref pg), some (.ref qg), some (.int (0 + (i : Int))), some (.ref pn), o7', o8', o9', none, none, none, none, none] ∧ Fr [] H3 H8 ∧
                  H8 qg = some (.lst (grp.map (lv G.L))) ∧ H8 pn = some (.lst (nr'.map (lv G.L))) ∧ nr'.Sublist ((x :: left').take (j + 1)) ∧ ∀ y ∈ nr', y ∉ grp := by
                refine ⟨nr, _, _, _, rfl, f38, h8q, h8n, ?_, hdis⟩
                rw [htk]
                exact hsub.trans (List.sublist_append_left _ _)
              refine run_notin li8.lw hzn hgk rfl rfl h8q ?_
              by_cases hzg : z ∈ grp
              · rw [decide_eq_true hzg]
                refine iteF (iteF ?_)
                exact stay
              · rw [decide_eq_false hzg]
                refine iteT ?_
                refine ⟨_, rfl, pf, _, rfl, Or.inl (sqL h8f), _, _, rfl, rfl, _, rfl, ?_⟩
                cases hd : decide ((0 : Int) < ((((grp.filter fun u => !stB G.adj u z && !stB G.adj z u).map (lv G.L)).length : Nat) : Int)) with
                | false =>
                  refine iteF ?_
                  exact stay
                | true =>
                  refine iteT ?_
                  refine ⟨_, rfl, Or.inl ⟨rfl, _, sqL h8n⟩, _, rfl, pn, _, _, rfl, rfl, h8n, by rw [List.length_map, sizeLine_eq]; omega, ?_⟩
                  refine ⟨nr ++ [z], _, _, _, rfl, f38.mut hpn3, ?_, by rw [upd_same, List.map_append]; rfl, ?_, fun y hy => ?_⟩
                  · rw [upd_ne hnq]
                    exact h8q
                  · rw [htk]
                    exact hsub.append (List.Sublist.refl _)
                  · rcases List.mem_append.mp hy with hy | hy
                    · exact hdis y hy
                    · rw [List.mem_singleton.mp hy]
                      exact hzg
          · rintro τ' H7 ⟨nr, o7, o8, o9, rfl, f7, h7q, h7n, hsub, hdis⟩
            rw [List.length_map, List.take_length] at hsub
            refine ⟨_, rfl, pn, _, rfl, Or.inl (sqL h7n), rfl, _, rfl, ?_⟩
            cases hd : decide (V.int (((nr.map (lv G.L)).length : Nat) : Int) = V.int 0) with
            | true =>
              refine iteT ?_
              exact hN _ _ ⟨qg, grp, _, _, _, _, _, rfl, f7, h7q, hgn, hgl, hxg, hqg⟩
            | false =>
              refine iteF ?_
              have hnr6 := hsub.length_le
              refine ⟨_, rfl, _, rfl, qg, pn, _, _, rfl, rfl, h7q, h7n, ?_, fun pc hpc => ?_⟩
              · rw [List.length_map, List.length_map, sizeLine_eq]
                omega
              · have f78 := f7.trans (Fr.new (D := []) (o := HO.lst (grp.map (lv G.L) ++ nr.map (lv G.L))) hpc)
                refine ⟨pc, grp ++ nr, _, _, _, _, _, rfl, f78, by rw [upd_same, List.map_append], ?_, fun k hk => ?_, List.mem_append_left _ hxg, (ne_of_none (f7.keep _ _ h3g (by simp)) hpc).symm⟩
                · refine List.nodup_append.mpr ⟨hgn, hsub.nodup hln, fun u hu' v hv e => ?_⟩
                  exact hdis v hv (e ▸ hu')
                · rcases List.mem_append.mp hk with hk | hk
                  · exact hgl k hk
                  · exact hsub.subset hk
        · rintro τ' H5 ⟨qg, grp, o5, o6, o7, o8, o9, rfl, f5, h5q, hgn, hgl, hxg, hqg⟩
          exact hN _ _ ⟨qg, grp, _, _, _, _, _, rfl, f5, h5q, hgn, hgl, hxg, hqg⟩
      · rintro τ H5 ⟨qg, grp, o5, o6, o7, o8, o9, rfl, f5, h5q, hgn, hgl, hxg, hqg⟩
        have hgk : ∀ k ∈ grp, k < G.n := fun k hk => hll k (hgl k hk)
        have h5g := f5.keep _ _ h3g (by simp)
        have hus : us.length ≤ 6 := by rw [← PySem.Paired.length hgs]; omega
        -- groups.append(group)
        refine ⟨_, rfl, Or.inl ⟨rfl, _, sqL h5g⟩, _, rfl, pg, _, _, rfl, rfl, h5g, by rw [sizeLine_eq]; omega, ?_⟩
        have f6 : Fr [] H (upd H5 pg (.lst (us ++ [.ref qg]))) := (f3.trans f5).mut hpgH
        have h6g : upd H5 pg (.lst (us ++ [.ref qg])) pg = some (.lst (us ++ [.ref qg])) := upd_same
        have h6q := Eq.trans (upd_ne (o := HO.lst (us ++ [.ref qg])) hqg) h5q
        have h6l := Eq.trans (upd_ne (o := HO.lst (us ++ [.ref qg])) hne) (f5.keep _ _ h3l (by simp))
        have hgs6 : OrdsIn [pg] (upd H5 pg (.lst (us ++ [.ref qg]))) G.L (gs ++ [grp]) (us ++ [.ref qg]) :=
          PySem.Paired.snoc ((hgs.fr f5 (by simp)).upd (by simp)) ⟨qg, rfl, by simpa using hqg, h6q⟩
        generalize upd H5 pg (.lst (us ++ [.ref qg])) = H6 at f6 h6g h6q h6l hgs6
        have li6 := li.fr0 f6
        dsimp only [gName, tSeq, tAsg, List.set]
        refine run_filF (lv G.L) (xs := x :: left') (fun z => !decide (z ∈ grp)) (fun Q' hQ' => ⟨_, rfl, hQ' pl H6 (Fr.refl _) h6l⟩) (by omega) (fun _ => rfl) (fun _ => rfl) (fun z hz H8 f8 Q8 q8 => ?_) (fun pl' H8 hpl' f8 h8l => ?_)
        · exact run_notin (li6.fr0 f8).lw (hll z hz) hgk rfl rfl (f8.keep _ _ h6q (by simp)) (q8 H8 (Fr.refl _))
        · have hlt : ((x :: left').filter fun z => !decide (z ∈ grp)).length < (x :: left').length :=
            List.length_filter_lt_length_iff_exists.mpr ⟨x, List.mem_cons_self, by simp [hxg]⟩
          refine ⟨_, hlt, pl', _, us ++ [.ref qg], gs ++ [grp], _, _, _, _, _, _, rfl, rfl, f6.trans f8, h8l, hln.filter _, fun k hk => hll k (List.mem_filter.mp hk).1, f8.keep _ _ h6g (by simp), hgs6.fr f8 (by simp), fun g hg => ?_, ?_, (ne_of_none h6g hpl').symm⟩
          · rcases List.mem_append.mp hg with hg | hg
            · exact hgood g hg
            · rw [List.mem_singleton.mp hg]
              exact ⟨hgn, List.ne_nil_of_mem hxg, hgk⟩
          · rw [List.length_append]
            simp only [List.length_singleton]
            omega
    | nil =>
      refine iteF ?_
      -- the groups are all; found = []
      refine ⟨Nat.zero_le _, fun pf hpf => ?_⟩
      have hpfH := f3.back hpf (by simp)
      have fa : Fr [] H3 (upd H3 pf (.lst [])) := Fr.new hpf
      have f4 := f3.trans fa
      have h4g := fa.keep _ _ h3g (by simp)
      have h4f : upd H3 pf (.lst []) pf = some (.lst []) := upd_same
      have hgf : pg ≠ pf := ne_of_none h3g hpf
      have hgs4 : OrdsIn [pf] (upd H3 pf (.lst [])) G.L gs us := ((OrdsIn.less (N' := []) hgs (by simp)).addN (a := pf) (fun xs z => by rw [hpf] at z; cases z)).fr fa (by simp)
      generalize upd H3 pf (.lst []) = H4 at f4 h4g h4f hgs4
      have hg6 : gs.length ≤ 6 := by rw [List.length_nil] at hsum; omega
      clear hgs hsum h3l hln hll hne fa h3g f3 li3
      refine ⟨fun m τ' H' => ∃ (px : Addr) (us vs : List V) (gs fs : List (List Nat)) (o2 o4 o5 o6 o7 o8 o9 o11 o12 o13 o14 : Option V), m = gs.length ∧ τ' = [some (.ref R), some (.ref a), o2, some (.ref px), o4, o5, o6, o7, o8, o9, some (.ref pf), o11, o12, o13, o14] ∧ Fr [] H H' ∧ H' px = some (.lst us) ∧ OrdsIn [pf] H' G.L gs us ∧
          (∀ g ∈ gs, GoodB G.n g) ∧ H' pf = some (.lst vs) ∧ OrdsIn [pf] H' G.L fs vs ∧ (∀ g ∈ fs, GoodB G.n g) ∧ gs.length + fs.length ≤ 6 ∧ px ≠ pf,
        ⟨_, pg, us, [], gs, [], _, _, _, _, _, _, _, none, none, none, none, rfl, rfl, f4, h4g, hgs4, hgood, h4f, .nil, fun g h => (nomatch h), by simpa using hg6, hgf⟩, ?_⟩
      clear hgs4 hgood h4f h4g f4 hg6 hgf
      rintro m τ' H5 ⟨px, us, vs, gs, fs, o2, o4, o5, o6, o7, o8, o9, o11, o12, o13, o14, rfl, rfl, f5, h5x, hgs, hgood, h5f, hfs, hfgood, hsum, hxf⟩
      have li5 := li.fr0 f5
      have hgl := PySem.Paired.length hgs
      refine ⟨_, rfl, px, _, rfl, Or.inl (sqL h5x), _, _, rfl, rfl, _, rfl, ?_⟩
      rw [← hgl]
      by_cases hg0 : gs = []
      · subst hg0
        refine iteF ?_
        exact ⟨_, rfl, q pf vs fs H5 f5 hpfH h5f hfs hfgood⟩
      · have hpos := List.length_pos_iff.mpr hg0
        rw [decide_eq_true (by omega)]
        refine iteT ⟨_, fun σ' H' w => w, ?_⟩
        obtain ⟨hz, hz1, hz2⟩ := zipP hgs
        have hzg : ∀ z ∈ gs.zip us, z.1 ∈ gs := fun z hz' => by rw [← hz1]; exact List.mem_map.mpr ⟨z, hz', rfl⟩
        have hu0 : us[0]? = some us[0] := List.getElem?_eq_getElem (by omega)
        obtain ⟨g0, hg0', a0, ea0, hn0, ha0⟩ := hgs.get hu0
        -- first = groups[0], then the one that is before
        refine ⟨_, rfl, px, _, _, _, rfl, rfl, sqL h5x, atI_nat (j := 0) hu0, ?_⟩
        rw [ea0]
        dsimp only [gName, tSeq, tAsg, List.set]
        refine seq_any (t := tFor _ _ _) (fun τ H' => ∃ (o4 : Option V) (af : Addr) (g : List Nat), τ = [some (.ref R), some (.ref a), o2, some (.ref px), o4, o5, o6, o7, o8, o9, some (.ref pf), some (.ref af), o12, o13, o14] ∧ H' = H5 ∧ g ∈ gs ∧ OrdA [pf] H5 G.L g (.ref af)) (fun NX hN => ?_) ?_
        · refine ⟨_, rfl, px, rfl, ⟨_, sqL h5x⟩, for_list (K := K) (a := px) (xs := us) (fun i τ' H' => ∃ (o4 : Option V) (af : Addr) (g : List Nat), τ' = [some (.ref R), some (.ref a), o2, some (.ref px), o4, o5, o6, o7, o8, o9, some (.ref pf), some (.ref af), o12, o13, o14] ∧ H' = H5 ∧ g ∈ gs ∧ OrdA [pf] H5 G.L g (.ref af))
            ⟨_, a0, g0, rfl, rfl, List.mem_of_getElem? hg0', a0, rfl, hn0, ha0⟩ (fun i τ' H' _ ⟨_, _, _, _, h, _⟩ => by rw [h]; exact sqL h5x) ?_ ?_⟩
          · rintro i y τ' H' hi ⟨o4, af, g, rfl, rfl, hg, af', eaf, hnf, haf⟩
            cases eaf
            obtain ⟨g', hg', a', rfl, hn', ha'⟩ := hgs.get hi
            have hgm := List.mem_of_getElem? hg'
            have gg := hgood g hg
            have gg' := hgood g' hgm
            refine ⟨_, rfl, _, rfl, .list (g'.map ld), .list (g.map ld), .lst (sqL ha') (li5.lw.dps gg'.lt), .lst (sqL haf) (li5.lw.dps gg.lt), lds_shaped _, lds_shaped _, _, rfl, ?_⟩
            cases hd : (!PyData.eqv (.list (g'.map ld)) (.list (g.map ld))) with
            | false =>
              refine iteF (iteF ?_)
              exact ⟨_, af, g, rfl, rfl, hg, af, rfl, hnf, haf⟩
            | true =>
              refine iteT ?_
              obtain ⟨k', r', e'⟩ := List.exists_cons_of_ne_nil gg'.ne
              obtain ⟨k, r, e⟩ := List.exists_cons_of_ne_nil gg.ne
              have hk' : k' < G.n := gg'.lt k' (by rw [e']; exact List.mem_cons_self)
              have hk : k < G.n := gg.lt k (by rw [e]; exact List.mem_cons_self)
              refine ⟨_, rfl, _, rfl, a', _, _, _, rfl, rfl, sqL ha', atI_nat (xs := List.map (lv G.L) g') (j := 0) (v := lv G.L k') (by rw [e']; rfl), _, rfl, af, _, _, _, rfl, rfl, sqL haf, atI_nat (xs := List.map (lv G.L) g) (j := 0) (v := lv G.L k) (by rw [e]; rfl), R, k', k, rfl, li5, hk', hk, _, rfl, ?_⟩
              cases stB G.adj k' k with
              | false =>
                refine iteF ?_
                exact ⟨_, af, g, rfl, rfl, hg, af, rfl, hnf, haf⟩
              | true =>
                refine iteT ?_
                exact ⟨_, rfl, _, a', g', rfl, rfl, hgm, a', rfl, hn', ha'⟩
          · rintro τ' H' ⟨o4, af, g, rfl, rfl, hg, hA⟩
            exact hN _ _ ⟨_, af, g, rfl, rfl, hg, hA⟩
        · rintro τ H' ⟨o4', af, g, rfl, rfl, hg, af', eaf, hnf, haf⟩
          cases eaf
          have gg := hgood g hg
          -- the other groups
          dsimp only [gName, tSeq, tAsg, List.set]
          refine run_fil (il := 3) (a := px) (fun z : List Nat × V => z.2) rl_fr trivial (xs := gs.zip us) (fun z => !decide (z.1 = g)) rfl (by rw [List.length_zip]; omega) (fun _ => rfl) (fun _ => rfl) (by rw [hz2]; exact sqL h5x) (fun H6 f6 h => f6.sq (by simp) h) (fun z hz' H6 f6 Q6 q6 => ?_) (fun px' H6 hpx' f6 h6x => ?_)
          · obtain ⟨z1, z2⟩ := z
            obtain ⟨az, ez, hnz, haz⟩ := hz _ hz'
            have ez : z2 = .ref az := ez
            subst ez
            have gz := hgood z1 (hzg _ hz')
            have li6 := li5.fr0 f6
            refine ⟨_, rfl, _, rfl, .list (z1.map ld), .list (g.map ld), .lst (sqL (f6.keep _ _ haz (by simp))) (li6.lw.dps gz.lt), .lst (sqL (f6.keep _ _ haf (by simp))) (li6.lw.dps gg.lt), lds_shaped _, lds_shaped _, _, rfl, ?_⟩
            have e : PyData.eqv (.list (z1.map ld)) (.list (g.map ld)) = decide (z1 = g) := by
              rw [← lds_eqv]
              simp [PyData.eqv]
            rw [e]
            exact q6 H6 (Fr.refl _)
          · have f6' := f5.trans f6
            have h6f := f6.keep _ _ h5f (by simp)
            have hfs6 := hfs.fr f6 (by simp)
            have hgs6 : OrdsIn [pf] H6 G.L (((gs.zip us).filter fun z => !decide (z.1 = g)).map (·.1)) (((gs.zip us).filter fun z => !decide (z.1 = g)).map (·.2)) := by
              refine pairZ _ fun z hz' => ?_
              exact (hz z (List.mem_filter.mp hz').1).fr f6 (by simp)
            have hlen6 : (((gs.zip us).filter fun z => !decide (z.1 = g)).map (·.1)).length < gs.length := by
              rw [List.length_map]
              have h1 : ((gs.zip us).filter fun z => !decide (z.1 = g)).length < (gs.zip us).length := by
                rw [List.length_filter_lt_length_iff_exists]
                have : g ∈ (gs.zip us).map (·.1) := by rw [hz1]; exact hg
                obtain ⟨z, hz', e⟩ := List.mem_map.mp this
                exact ⟨z, hz', by simp [e]⟩
              rw [List.length_zip] at h1
              omega
            have hgood6 : ∀ b ∈ ((gs.zip us).filter fun z => !decide (z.1 = g)).map (·.1), GoodB G.n b := by
              intro b hb
              obtain ⟨z, hz', rfl⟩ := List.mem_map.mp hb
              exact hgood _ (hzg z (List.mem_filter.mp hz').1)
            have hxf6 : px' ≠ pf := (ne_of_none h5f hpx').symm
            generalize ((gs.zip us).filter fun z => !decide (z.1 = g)).map (·.1) = gs' at hgs6 hlen6 hgood6
            generalize ((gs.zip us).filter fun z => !decide (z.1 = g)).map (·.2) = us' at hgs6 h6x
            have haf6 := f6.keep _ _ haf (by simp)
            have li6 := li.fr0 f6'
            have hg6 : g.length ≤ 6 := li6.len gg.nd gg.lt
            -- rest = list(first), row = []
            refine ⟨_, rfl, af, _, rfl, Or.inl (sqL haf6), fun pr hpr => ?_⟩
            refine ⟨Nat.zero_le _, fun pw hpw => ?_⟩
            have fb : Fr [] H6 (upd (upd H6 pr (.lst (g.map (lv G.L)))) pw (.lst [])) := (Fr.new hpr).trans (Fr.new hpw)
            have hpw6 := (upd_none hpw).2
            have hwr : pw ≠ pr := (upd_none hpw).1
            have h7r : upd (upd H6 pr (.lst (g.map (lv G.L)))) pw (.lst []) pr = some (.lst (g.map (lv G.L))) := (Fr.new (D := []) hpw).keep _ _ upd_same (by simp)
            have h7w : upd (upd H6 pr (.lst (g.map (lv G.L)))) pw (.lst []) pw = some (.lst (([] : List Nat).map (lv G.L))) := upd_same
            generalize upd (upd H6 pr (.lst (g.map (lv G.L)))) pw (.lst []) = H7 at fb h7r h7w
            refine ⟨fun m τ' H' => ∃ (rs ws : List Nat) (o4 o9 o14 : Option V), m = rs.length ∧ τ' = [some (.ref R), some (.ref a), o2, some (.ref px'), o4, o5, o6, o7, o8, o9, some (.ref pf), some (.ref af), some (.ref pr), some (.ref pw), o14] ∧ Fr [] H6 H' ∧ H' pr = some (.lst (rs.map (lv G.L))) ∧ H' pw = some (.lst (ws.map (lv G.L))) ∧ (ws ++ rs).Perm g,
              ⟨_, g, [], _, _, _, rfl, rfl, fb, h7r, h7w, List.Perm.refl _⟩, ?_⟩
            rintro m τ' H8 ⟨rs, ws, o4, o9, o14, rfl, rfl, f8, h8r, h8w, hperm⟩
            refine ⟨_, rfl, pr, _, rfl, Or.inl (sqL h8r), _, _, rfl, rfl, _, rfl, ?_⟩
            rw [List.length_map]
            have hplen := hperm.length_eq
            rw [List.length_append] at hplen
            have hpn : (ws ++ rs).Nodup := hperm.nodup_iff.mpr gg.nd
            have hrn : rs.Nodup := (List.nodup_append.mp hpn).2.1
            have hrl : ∀ k ∈ rs, k < G.n := fun k hk => gg.lt k (hperm.mem_iff.mp (List.mem_append_right _ hk))
            by_cases hr0 : rs = []
            · subst hr0
              refine iteF ?_
              rw [List.append_nil] at hperm
              have h8f := f8.keep _ _ h6f (by simp)
              have hvs : vs.length ≤ 6 := by rw [← PySem.Paired.length hfs]; omega
              have hwf : pw ≠ pf := (ne_of_none h6f hpw6).symm
              -- found.append(row)
              refine ⟨_, rfl, Or.inl ⟨rfl, _, sqL h8f⟩, _, rfl, pf, _, _, rfl, rfl, h8f, by rw [sizeLine_eq]; omega, ?_⟩
              refine ⟨_, hlen6, px', us', vs ++ [.ref pw], gs', fs ++ [ws], _, _, _, _, _, _, _, _, _, _, _, rfl, rfl, (f6'.trans f8).mut hpfH, ?_, (hgs6.fr f8 (by simp)).upd (by simp), hgood6, upd_same, ?_, fun b hb => ?_, ?_, hxf6⟩
              · rw [upd_ne hxf6]
                exact f8.keep _ _ h6x (by simp)
              · refine PySem.Paired.snoc ((hfs6.fr f8 (by simp)).upd (by simp)) ⟨pw, rfl, by simpa using hwf, ?_⟩
                rw [upd_ne hwf]
                exact h8w
              · rcases List.mem_append.mp hb with hb | hb
                · exact hfgood b hb
                · rw [List.mem_singleton.mp hb]
                  refine ⟨hperm.nodup_iff.mpr gg.nd, fun e => gg.ne ?_, fun k hk => gg.lt k (hperm.mem_iff.mp hk)⟩
                  rw [e] at hperm
                  exact List.length_eq_zero_iff.mp hperm.length_eq.symm
              · rw [List.length_append]
                simp only [List.length_singleton]
                omega
            · have hrp := List.length_pos_iff.mpr hr0
              rw [decide_eq_true (by omega)]
              refine iteT ⟨_, fun σ' H' w => w, ?_⟩
              have li8 := li6.fr0 f8
              dsimp only [gName, tSeq, tAsg, List.set]
              refine run_filF (lv G.L) (xs := rs) (isFree (stB G.adj) rs) (fun Q' hQ' => ⟨_, rfl, hQ' pr H8 (Fr.refl _) h8r⟩) (by omega) (fun _ => rfl) (fun _ => rfl) (fun u hu' H9 f9 Q9 q9 => ?_) (fun pe H9 hpe f9 h9e => ?_)
              · exact run_lfree (xs := rs) (x := u) (li8.fr0 f9) rfl (f9.keep _ _ h8r (by simp)) hrl (by omega) (hrl u hu') (fun _ => rfl) (fun _ => rfl) (fun _ => rfl) (fun _ => rfl) q9
              · have li9 := li8.fr0 f9
                have h9r := f9.keep _ _ h8r (by simp)
                have h9w := f9.keep _ _ h8w (by simp)
                have f69 := f8.trans f9
                have h9e : H9 pe = some (.lst ((free (stB G.adj) rs).map (lv G.L))) := h9e
                have hfne : free (stB G.adj) rs ≠ [] := free_ne_nil (so_stB G.adj) hr0
                have hfl : ∀ k ∈ free (stB G.adj) rs, k < G.n := fun k hk => hrl k (free_sub hk)
                have hfsub : ∀ k ∈ free (stB G.adj) rs, k ∈ rs := fun k hk => free_sub hk
                generalize free (stB G.adj) rs = fr at h9e hfne hfl hfsub
                cases fr with
                | nil => exact absurd rfl hfne
                | cons d fr' =>
                  -- row.append(min(free))
                  refine ⟨_, rfl, Or.inl ⟨rfl, _, sqL h9w⟩, _, rfl, pe, (d :: fr').map (lv G.L), ld d, fr'.map ld, rfl, sqL h9e, li9.lw.dps hfl, ⟨?_, ?_⟩, ?_, fun y hy => ?_⟩
                  · intro u hu' v hv
                    obtain ⟨k, _, rfl⟩ := List.mem_map.mp (show u ∈ (d :: fr').map ld from hu')
                    obtain ⟨k', _, rfl⟩ := List.mem_map.mp (show v ∈ (d :: fr').map ld from hv)
                    exact ld_alike k k'
                  · intro u hu' e
                    obtain ⟨k, _, rfl⟩ := List.mem_map.mp (show u ∈ (d :: fr').map ld from hu')
                    rw [ld_eq] at e
                    cases e
                  · have := lds_depth (d :: fr')
                    show PyData.depthAll ((d :: fr').map ld) ≤ 60
                    omega
                  obtain ⟨z, hzf, rfl⟩ := List.mem_map.mp hy
                  have hzr := hfsub z hzf
                  have hzn := hrl z hzr
                  refine ⟨pw, _, _, rfl, rfl, h9w, by rw [List.length_map, sizeLine_eq]; omega, ?_⟩
                  have h10w : upd H9 pw (.lst (ws.map (lv G.L) ++ [lv G.L z])) pw = some (.lst (ws.map (lv G.L) ++ [lv G.L z])) := upd_same
                  have h10r := Eq.trans (upd_ne (o := HO.lst (ws.map (lv G.L) ++ [lv G.L z])) (Ne.symm hwr)) h9r
                  have lw10 := li9.lw.mono (tk_upd (o := HO.lst (ws.map (lv G.L) ++ [lv G.L z])) (lst_ntup h9w))
                  have f10 : Fr [] H6 (upd H9 pw (.lst (ws.map (lv G.L) ++ [lv G.L z]))) := f69.mut hpw6
                  generalize upd H9 pw (.lst (ws.map (lv G.L) ++ [lv G.L z])) = H10 at h10w h10r lw10 f10
                  -- rest.remove(row[-1])
                  obtain ⟨j, hj1, hj2, hj3⟩ := place_ld hzr
                  refine ⟨_, rfl, Or.inl ⟨rfl, _, sqL h10r⟩, _, rfl, _, rfl, pw, _, _, _, rfl, rfl, sqL h10w, atI_last _ _, pr, _, lv G.L z, rs.map ld, ld z, j, rfl, rfl, h10r, lw10.dps hrl, lw10.dp hzn, lds_plain _, ld_plain _, by rw [ld_depth]; decide, hj1, ?_⟩
                  refine ⟨(rs.eraseIdx j).length, ?_, rs.eraseIdx j, ws ++ [z], _, _, _, rfl, rfl, f10.mut hpr, by rw [upd_same, erase_map], ?_, ?_⟩
                  · rw [List.length_eraseIdx_of_lt hj2]
                    omega
                  · rw [upd_ne hwr, List.map_append]
                    exact h10w
                  · rw [List.append_assoc]
                    refine List.Perm.trans (List.Perm.append_left ws ?_) hperm
                    have := erase_perm rs j hj2
                    rw [hj3] at this
                    exact this
end
end QW
end
section
set_option Elab.async false
set_option linter.all false
set_option maxRecDepth 100000
set_option maxHeartbeats 8000000
/-! rows that are turned -/
namespace QW
open PySem L2 QN Qw
theorem pair_erase {α β : Type} {F : α → β → Prop} : ∀ {l : List α} {m : List β} (i : Nat), PySem.Paired F l m → PySem.Paired F (l.eraseIdx i) (m.eraseIdx i)
  | _, _, i, .nil => by simp; exact .nil
  | _, _, 0, .cons h t => t
  | _, _, i + 1, .cons h t => .cons h (pair_erase i t)
theorem pair_set {α β : Type} {F : α → β → Prop} {a : α} {b : β} (hab : F a b) : ∀ {l : List α} {m : List β} (i : Nat), PySem.Paired F l m → PySem.Paired F (l.set i a) (m.set i b)
  | _, _, i, .nil => by simp; exact .nil
  | _, _, 0, .cons h t => .cons hab t
  | _, _, i + 1, .cons h t => .cons h (pair_set hab i t)
/-- rows within bounds -/
structure RB (n : Nat) (b : Int) (m : Nat) (rows : List Row) : Prop where
  lt1 : ∀ r ∈ rows, ∀ j ∈ r.1, j < n
  lt2 : ∀ r ∈ rows, r.2.1 < n
  short : ∀ r ∈ rows, r.1.length ≤ 6
  num : ∀ r ∈ rows, -b ≤ r.2.2 ∧ r.2.2 ≤ b
  few : rows.length ≤ m
  ne : rows ≠ []
theorem RB.mono {n : Nat} {b b' : Int} {m m' : Nat} {rows : List Row} (h : RB n b m rows) (hb : b ≤ b') (hm : m ≤ m') : RB n b' m' rows :=
  ⟨h.lt1, h.lt2, h.short, fun r hr => by have := h.num r hr; omega, by have := h.few; omega, h.ne⟩
theorem RB.ok {n : Nat} {b : Int} {m : Nat} {rows : List Row} (h : RB n b m rows) (hm : m ≤ 1000) : RowsOk n rows :=
  ⟨h.lt1, h.lt2, by have := h.few; omega, fun r hr => by have := h.short r hr; omega⟩
/-- only rows of a kind -/
theorem RB.of {n : Nat} {b : Int} {m m' : Nat} {rows rows' : List Row} (h : RB n b m rows) (hs : ∀ r ∈ rows', r ∈ rows) (hf : rows'.length ≤ m') (hn : rows' ≠ []) : RB n b m' rows' :=
  ⟨fun r hr => h.lt1 r (hs r hr), fun r hr => h.lt2 r (hs r hr), fun r hr => h.short r (hs r hr), fun r hr => h.num r (hs r hr), hf, hn⟩
theorem RB.set {n : Nat} {b : Int} {m : Nat} {rows : List Row} {r : Row} {i : Nat} (h : RB n b m rows) (h1 : ∀ j ∈ r.1, j < n) (h2 : r.2.1 < n) (h3 : r.1.length ≤ 6) (h4 : -b ≤ r.2.2 ∧ r.2.2 ≤ b) : RB n b m (rows.set i r) := by
  have key : ∀ x ∈ rows.set i r, x ∈ rows ∨ x = r := fun x hx => List.mem_or_eq_of_mem_set hx
  refine ⟨fun x hx => ?_, fun x hx => ?_, fun x hx => ?_, fun x hx => ?_, by rw [List.length_set]; exact h.few, fun e => h.ne ?_⟩
  · rcases key x hx with z | z
    · exact h.lt1 x z
    · rw [z]; exact h1
  · rcases key x hx with z | z
    · exact h.lt2 x z
    · rw [z]; exact h2
  · rcases key x hx with z | z
    · exact h.short x z
    · rw [z]; exact h3
  · rcases key x hx with z | z
    · exact h.num x z
    · rw [z]; exact h4
  · have := congrArg List.length e
    rw [List.length_set] at this
    exact List.length_eq_zero_iff.mp this
/-- the state while rows are turned -/
structure TU (H0 H : Hp) (st cl pf : Addr) (L : Nat → Addr) (n : Nat) (b : Int) (m : Nat) (us : List V) (rows : List Row) : Prop where
  fr : Fr [st, cl] H0 H
  sa : StA H st cl
  lf : H pf = some (.lst us)
  rw : RowsIn [st, cl, pf] H L rows us
  rb : RB n b m rows
  o : pf ∉ [st, cl]
  h0 : H0 pf = none
section
variable {H0 H H' : Hp} {st cl pf p : Addr} {L : Nat → Addr} {n : Nat} {b b' : Int} {m m' : Nat} {us us' : List V} {rows rows' : List Row} {ob : HO}
theorem sub3 {x y z : Addr} : ∀ a ∈ [x, y], a ∈ [x, y, z] := by
  intro a ha
  simp only [List.mem_cons, List.not_mem_nil, or_false] at ha ⊢
  rcases ha with h | h
  · exact Or.inl h
  · exact Or.inr (Or.inl h)
theorem TU.draw (g : TU H0 H st cl pf L n b m us rows) (f : Fr [st, cl] H H') (sa : StA H' st cl) : TU H0 H' st cl pf L n b m us rows :=
  ⟨g.fr.trans f, sa, f.keep _ _ g.lf g.o, g.rw.fr f sub3, g.rb, g.o, g.h0⟩
theorem TU.new (g : TU H0 H st cl pf L n b m us rows) (hp : H p = none) : TU H0 (upd H p ob) st cl pf L n b m us rows :=
  g.draw (Fr.new hp) (g.sa.upd (g.sa.out hp))
theorem TU.upd (g : TU H0 H st cl pf L n b m us rows) (hr : RowsIn [st, cl, pf] H L rows' us') (rb : RB n b' m' rows') : TU H0 (upd H pf (.lst us')) st cl pf L n b' m' us' rows' :=
  ⟨g.fr.mut g.h0, g.sa.upd g.o, upd_same, hr.upd (by simp) (lst_ntup g.lf), rb, g.o, g.h0⟩
theorem TU.at_ (g : TU H0 H st cl pf L n b m us rows) {i : Nat} (hi : i < rows.length) : ∃ v r, us[i]? = some v ∧ rows[i]? = some r ∧ r ∈ rows ∧ RowA [st, cl, pf] H L r v := by
  have hri : rows[i]? = some rows[i] := List.getElem?_eq_getElem hi
  obtain ⟨v, hv, h⟩ := paired_get g.rw hri
  exact ⟨v, _, hv, hri, List.mem_of_getElem? hri, h⟩
theorem TU.len (g : TU H0 H st cl pf L n b m us rows) : us.length = rows.length := (PySem.Paired.length g.rw).symm
end
theorem run_kind {K : PySem.W.Frag} {i j : Nat} {σ : L2.St} {H : Hp} {l : Addr} {us : List V} {kd : Nat} {Q : Bool → Hp → Prop} (hi : σ[i]? = some (some (.int (kd : Int)))) (hj : σ[j]? = some (some (.ref l))) (hl : H l = some (.lst us)) (q : Q (decide (kd = 0 ∧ 1 < us.length)) H) :
    tAnd (tTest (tOp rEq (tVar i) (tC (.int 0)))) (tTest (tOp (rI0 fun i j => .bl (decide (j < i))) (tCB (rLenQ K) (tCons (tVar j) tNil)) (tC (.int 1)))) σ H Q := by
  refine ⟨_, hi, rfl, _, rfl, ?_⟩
  by_cases h : kd = 0
  · rw [show decide (V.int (kd : Int) = V.int 0) = true from decide_eq_true (by rw [h]; rfl)]
    refine iteT ⟨_, hj, l, _, rfl, Or.inl (sqL hl), _, _, rfl, rfl, _, rfl, ?_⟩
    by_cases h2 : 1 < us.length
    · rw [decide_eq_true (show kd = 0 ∧ 1 < us.length from ⟨h, h2⟩)] at q
      rw [decide_eq_true (show (1 : Int) < (us.length : Nat) by omega)]
      exact q
    · rw [decide_eq_false (show ¬(kd = 0 ∧ 1 < us.length) from fun z => h2 z.2)] at q
      rw [decide_eq_false (show ¬ (1 : Int) < (us.length : Nat) by omega)]
      exact q
  · rw [decide_eq_false (show ¬(kd = 0 ∧ 1 < us.length) from fun z => h z.1)] at q
    rw [show decide (V.int (kd : Int) = V.int 0) = false from decide_eq_false (fun e => by injection e with e; omega)]
    exact iteF q
abbrev sTurned : Stmt := topS 25
def spTurned : Sp := fun vs H Q _ => ∃ (st cl p : Addr) (us : List V) (rows : List Row) (L : Nat → Addr) (n : Nat) (b : Int) (m : Nat), vs = [.ref st, .ref p] ∧ StA H st cl ∧ H p = some (.lst us) ∧ RowsIn [st, cl] H L rows us ∧ RB n b m rows ∧ m ≤ 900 ∧
  ∀ p' us' rows' H', Fr [st, cl] H H' → StA H' st cl → H p' = none → H' p' = some (.lst us') → RowsIn [st, cl, p'] H' L rows' us' → RB n (b + 2) (m + 2) rows' → Q (.ref p') H'
def rIxTQ (K : PySem.W.Frag) : R2 := fun x y H Q => ∃ p xs i v, x = .ref p ∧ y = .int i ∧ SqT K H p xs ∧ atI xs i = some v ∧ Q v H
section
variable {P : Program} {w : World} {K : PySem.W.Frag} {mg : Str → Option Value} {base : Heap}
theorem scTurned : FnScope ["_law_state_here", "_law_rows", "_law_found", "_law_turn", "_law_at", "_law_kind", "_law_left", "_law_last", "_law_number"] ["_law_state_here", "_law_rows"] (defScope sTurned) := ⟨rfl, rfl, rfl, by decide +kernel, rfl, by decide +kernel, by decide +kernel⟩
theorem ok_turned {f fD fP : Addr} {fd fdD fdP : FuncData} (F : Fun K "_law_turned" "_law_turned" sTurned f fd) (B : Bi mg) (Dr : Kn P w K mg base "_law_draw" 1 fD fdD ["_law_state_here", "_law_many"] spDraw) (Pk : Kn P w K mg base "_law_pick" 2 fP fdP ["_law_state_here", "_law_row"] spPick) : FnOk P w K mg base CX0 3 f fd ["_law_state_here", "_law_rows"] spTurned := by
  refine F.ok scTurned (fun vs H Q E h => ?_) (fun cdv A outer s H vs Q E hr h => ?_)
  · obtain ⟨st, cl, p, us, rows, L, n, b, m, rfl, _⟩ := h
    rfl
  · obtain ⟨st, cl, p, us, rows, L, n, b, m, rfl, sa, hp, hrows, rb, hm9, q⟩ := h
    have hr1 : Room 1 (A.deeper (PyProof.Rows.envOfC "_law_turned" (defScope sTurned) s.heap.objs.size f cdv)) := hr.mono (by decide)
    refine ⟨_, pss_cons (ps_set (i := 2) scTurned.nd rfl (Or.inl rfl) (pe_callTy call_list_of (by rfl) B.list PyProof.Rows.boot_list (pa_cons (pv 1) pa_nil)))
      (pss_cons (ps_for PassesOwn.never rfl (pi_range1 rfl B.range (pa_cons (pe_op op_add pe_int (pe_call Dr.ok hr1 rfl Dr.mg Dr.kp Dr.b .nil pass0 (pa_cons (pv 0) (pa_cons pe_int pa_nil)))) pa_nil)) (pg_name (i := 3) scTurned.nd rfl (Or.inl rfl))
        (pss_cons (ps_set (i := 4) scTurned.nd rfl (Or.inl rfl) (pe_call Dr.ok hr1 rfl Dr.mg Dr.kp Dr.b .nil pass0 (pa_cons (pv 0) (pa_cons (pe_len B.len rfl (pv 2)) pa_nil))))
        (pss_cons (ps_set (i := 5) scTurned.nd rfl (Or.inl rfl) (pe_call Dr.ok hr1 rfl Dr.mg Dr.kp Dr.b .nil pass0 (pa_cons (pv 0) (pa_cons pe_int pa_nil))))
        (pss_cons (ps_asg (pe_ix ix_list (pv 2) (pv 4) (fun _ _ => rfl)) (pg_tup rfl (pgs_cons (pg_name (i := 6) scTurned.nd rfl (Or.inl rfl)) (pgs_cons (pg_name (i := 7) scTurned.nd rfl (Or.inl rfl)) (pgs_cons (pg_name (i := 8) scTurned.nd rfl (Or.inl rfl)) pgs_nil)))))
        (pss_one (ps_if (PW.pt (pw_and (pt_cmpR op_eq (pv 5) pe_int (nomark _)) (pw_and1 (pt_cmpR op_gt (pe_len B.len rfl (pv 2)) pe_int (nomark _)))))
          (pss_one (ps_expr (pe_bm PySem.F.plainAttrs_list PySem.F.slot_list_pop PySem.F.type_list_pop mt_popAt (pv 2) (pa_cons (pv 4) pa_nil))))
          (pss_one (ps_if (pt_cmpR op_eq (pv 5) pe_int (nomark _))
            (pss_one (ps_expr (pe_bm PySem.F.plainAttrs_list PySem.F.slot_list_append PySem.F.type_list_append mt_append (pv 2) (pa_cons (pe_ix ix_list (pv 2) (pv 4) (fun _ _ => rfl)) pa_nil))))
            (pss_one (ps_if (pt_cmpR op_eq (pv 5) pe_int (nomark _))
              (pss_one (ps_asg (pe_tup (pa_cons (pv 6) (pa_cons (pe_ix ix_tup (pe_ix ix_list (pv 2) (pe_call Dr.ok hr1 rfl Dr.mg Dr.kp Dr.b .nil pass0 (pa_cons (pv 0) (pa_cons (pe_len B.len rfl (pv 2)) pa_nil))) (fun _ _ => rfl)) pe_int (fun _ _ => rfl)) (pa_cons (pv 8) pa_nil)))) (pg_sub (pv 2) (pv 4) set_list)))
              (pss_one (ps_asg (pe_tup (pa_cons (pv 6) (pa_cons (pv 7) (pa_cons (pe_op op_add (pv 8) (pe_call Pk.ok hr rfl Pk.mg Pk.kp Pk.b .nil pass0 (pa_cons (pv 0) (pa_cons (pe_lst (pa_cons pe_int (pa_cons (pe_un un_neg pe_int) pa_nil))) pa_nil)))) pa_nil)))) (pg_sub (pv 2) (pv 4) set_list)))))))))))))
      (pss_one (ps_ret (pv 2)))), ?_⟩
    have hul := PySem.Paired.length hrows
    refine ⟨_, rfl, p, _, rfl, Or.inl (sqL hp), fun pf hpf => ?_⟩
    have g1 : TU H (upd H pf (.lst us)) st cl pf L n b m us rows := by
      have h1 : RowsIn (pf :: [st, cl]) H L rows us := hrows.addN fun xs z => by rw [hpf] at z; cases z
      have h2 : RowsIn [st, cl, pf] H L rows us := RowsIn.less h1 fun a ha => by
        simp only [List.mem_cons, List.not_mem_nil, or_false] at ha ⊢
        rcases ha with h | h | h
        · exact Or.inr (Or.inl h)
        · exact Or.inr (Or.inr h)
        · exact Or.inl h
      exact ⟨Fr.new hpf, sa.upd (sa.out hpf), upd_same, h2.fr (Fr.new (D := []) hpf) (by simp), rb, sa.out hpf, hpf⟩
    refine ⟨_, rfl, st, cl, 2, rfl, g1.sa, by decide, fun r0 H2 f2 sa2 hr0 => ?_⟩
    have g2 := g1.draw f2 sa2
    refine ⟨_, _, rfl, rfl, _, rfl, by omega, by omega, ?_⟩
    rw [show ((1 : Int) + (r0 : Int)).toNat = r0 + 1 by omega]
    refine for_range (lo := 0) (n := r0 + 1) (fun i τ' H' => ∃ (us : List V) (rows : List Row) (o3 o4 o5 o6 o7 o8 : Option V), τ' = [some (.ref st), some (.ref p), some (.ref pf), o3, o4, o5, o6, o7, o8] ∧ TU H H' st cl pf L n (b + (i : Int)) (m + i) us rows)
      ⟨us, rows, _, _, _, _, _, _, rfl, ⟨g2.fr, g2.sa, g2.lf, g2.rw, g2.rb.mono (by omega) (by omega), g2.o, g2.h0⟩⟩ ?_ ?_
    · rintro i τ' H3 hi ⟨us, rows, o3, o4, o5, o6, o7, o8, rfl, g3⟩
      have hpos : 0 < rows.length := List.length_pos_iff.mpr g3.rb.ne
      have hfew := g3.rb.few
      have hlen := g3.len
      -- at, kind
      refine ⟨_, rfl, _, rfl, pf, _, rfl, Or.inl (sqL g3.lf), st, cl, us.length, rfl, g3.sa, by omega, fun at_ H4 f4 sa4 hat => ?_⟩
      have g4 := g3.draw f4 sa4
      refine ⟨_, rfl, st, cl, 5, rfl, g4.sa, by decide, fun kd H5 f5 sa5 _ => ?_⟩
      have g5 := g4.draw f5 sa5
      obtain ⟨v, r, hv, hri, hrm, t, l, rfl, hlN, ht, hl⟩ := g5.at_ (i := at_) (by omega)
      refine ⟨_, rfl, _, rfl, pf, _, _, _, rfl, rfl, sqL g5.lf, atI_nat hv, t, _, rfl, sqT ht, rfl, _, _, rfl, _, _, rfl, _, _, rfl, rfl, ?_⟩
      have q1 := g5.rb.lt1 r hrm
      have q2 := g5.rb.lt2 r hrm
      have q3 := g5.rb.short r hrm
      have q4 := g5.rb.num r hrm
      have ix : ixN us.length (at_ : Int) = some at_ := ixN_at (by omega)
      have hbig : us.length < sizeLine := by rw [sizeLine_eq]; omega
      -- a row put in place of another
      have fin : ∀ {H6 : Hp} {lst' : Nat} {num : Int} {tn : Addr}, TU H H6 st cl pf L n (b + (i : Int)) (m + i) us rows → H6 l = some (.lst (r.1.map (lv L))) → H6 tn = none → lst' < n → r.2.2 - 1 ≤ num → num ≤ r.2.2 + 1 →
          TU H (upd (upd H6 tn (.tup [.ref l, lv L lst', .int num])) pf (.lst (us.set at_ (.ref tn)))) st cl pf L n (b + ((i + 1 : Nat) : Int)) (m + (i + 1)) (us.set at_ (.ref tn)) (rows.set at_ (r.1, lst', num)) := by
        intro H6 lst' num tn g6 h6l htn h1 h2 h3
        have g7 := g6.new (ob := HO.tup [.ref l, lv L lst', .int num]) htn
        refine g7.upd (pair_set ⟨tn, l, rfl, hlN, upd_same, ?_⟩ at_ g7.rw) ((g7.rb.mono (by omega) (by omega)).set q1 h1 q3 ⟨by show -_ ≤ num; omega, by show num ≤ _; omega⟩)
        rw [upd_ne (ne_of_none h6l htn)]
        exact h6l
      refine run_kind (i := 5) (j := 2) rfl rfl g5.lf ?_
      by_cases hk : kd = 0 ∧ 1 < us.length
      · rw [decide_eq_true hk]
        refine iteT ?_
        refine ⟨_, rfl, Or.inl ⟨rfl, _, sqL g5.lf⟩, _, rfl, pf, _, _, at_, _, rfl, rfl, g5.lf, by omega, by omega, (ixN_seq ix).1, hv, ?_⟩
        have hlt : at_ < rows.length := by omega
        refine ⟨us.eraseIdx at_, rows.eraseIdx at_, _, _, _, _, _, _, rfl, g5.upd (pair_erase at_ g5.rw) ((g5.rb.mono (by omega) (Nat.le_refl _)).of (fun x hx => List.mem_of_mem_eraseIdx hx) ?_ fun e => ?_)⟩
        · rw [List.length_eraseIdx_of_lt hlt]
          omega
        · have := congrArg List.length e
          rw [List.length_eraseIdx_of_lt hlt] at this
          simp at this
          omega
      · rw [decide_eq_false hk]
        refine iteF ?_
        refine ⟨_, rfl, rfl, _, rfl, ?_⟩
        cases hk1 : decide (V.int (kd : Int) = V.int 1) with
        | true =>
          refine iteT ?_
          refine ⟨_, rfl, Or.inl ⟨rfl, _, sqL g5.lf⟩, _, rfl, _, rfl, pf, _, _, _, rfl, rfl, sqL g5.lf, atI_nat hv, pf, _, _, rfl, rfl, g5.lf, hbig, ?_⟩
          refine ⟨us ++ [.ref t], rows ++ [r], _, _, _, _, _, _, rfl, g5.upd (PySem.Paired.snoc g5.rw ⟨t, l, rfl, hlN, ht, hl⟩) ((g5.rb.mono (by omega) (Nat.le_refl _)).of (fun x hx => ?_) ?_ (by simp))⟩
          · rcases List.mem_append.mp hx with hx | hx
            · exact hx
            · rw [List.mem_singleton.mp hx]; exact hrm
          · rw [List.length_append]
            simp only [List.length_singleton]
            omega
        | false =>
          refine iteF ?_
          refine ⟨_, rfl, rfl, _, rfl, ?_⟩
          cases hk2 : decide (V.int (kd : Int) = V.int 2) with
          | true =>
            refine iteT ?_
            refine ⟨_, rfl, _, rfl, _, rfl, _, rfl, pf, _, rfl, Or.inl (sqL g5.lf), st, cl, us.length, rfl, g5.sa, by omega, fun r2 H6 f6 sa6 hr2 => ?_⟩
            have g6 := g5.draw f6 sa6
            obtain ⟨v2, row2, hv2, hri2, hrm2, t2, l2, rfl, hlN2, ht2, hl2⟩ := g6.at_ (i := r2) (by omega)
            have h6l := f6.keep _ _ hl (fun z => hlN (sub3 _ z))
            refine ⟨pf, _, _, _, rfl, rfl, sqL g6.lf, atI_nat hv2, t2, _, _, _, rfl, rfl, sqT ht2, atI_nat (j := 1) rfl, _, rfl, (by show 3 ≤ sizeLine; decide), fun tn htn => ?_⟩
            have q22 := g6.rb.lt2 row2 hrm2
            refine ⟨_, rfl, _, rfl, pf, _, _, at_, rfl, rfl, (g6.new (ob := HO.tup [.ref l, lv L row2.2.1, .int r.2.2]) htn).lf, ix, ?_⟩
            exact ⟨_, _, _, _, _, _, _, _, rfl, fin g6 h6l htn q22 (by omega) (by omega)⟩
          | false =>
            refine iteF ?_
            refine ⟨_, rfl, _, rfl, _, rfl, _, rfl, _, rfl, (by show 2 ≤ sizeLine; decide), fun pa hpa => ?_⟩
            have g6 := g5.new (ob := HO.lst [.int 1, .int (-1)]) hpa
            have f6 : Fr [] H5 (upd H5 pa (.lst [.int 1, .int (-1)])) := Fr.new hpa
            have oa := g5.sa.out hpa
            simp only [List.mem_cons, List.not_mem_nil, or_false, not_or] at oa
            refine ⟨st, cl, pa, [.int 1, .int (-1)], rfl, g6.sa, upd_same, oa.1, oa.2, by simp, by decide, fun k v H7 hkv f7 sa7 => ?_⟩
            have g7 := g6.draw f7 sa7
            have h7l := f7.keep _ _ (f6.keep _ _ hl (by simp)) (fun z => hlN (sub3 _ z))
            obtain ⟨e, rfl, he1, he2⟩ : ∃ e : Int, v = .int e ∧ -1 ≤ e ∧ e ≤ 1 := by
              match k, hkv with
              | 0, h => exact ⟨1, by simpa using h.symm, by decide, by decide⟩
              | 1, h => exact ⟨-1, by simpa using h.symm, by decide, by decide⟩
              | k + 2, h => simp at h
            refine ⟨_, _, rfl, rfl, (by show 3 ≤ sizeLine; decide), fun tn htn => ?_⟩
            refine ⟨_, rfl, _, rfl, pf, _, _, at_, rfl, rfl, (g7.new (ob := HO.tup [.ref l, lv L r.2.1, .int (r.2.2 + e)]) htn).lf, ix, ?_⟩
            exact ⟨_, _, _, _, _, _, _, _, rfl, fin g7 h7l htn q2 (by omega) (by omega)⟩
    · rintro τ' H3 ⟨us, rows, o3, o4, o5, o6, o7, o8, rfl, g3⟩
      exact ⟨_, rfl, q pf us rows H3 g3.fr g3.sa hpf g3.lf g3.rw (g3.rb.mono (by omega) (by omega))⟩
end
end QW
end
section
set_option Elab.async false
set_option linter.all false
set_option maxRecDepth 100000
set_option maxHeartbeats 4000000
/-! the promise of a def that is called where no guard stands (repr wants it), and the law's head over it -/
namespace QW
open PySem L2 PySem.Spec PyProof.Rows QN
/-- as FnOk, but only under callers that hold no guard -/
def FnG (P : Program) (w : World) (K : PySem.W.Frag) (mg : Str → Option Value) (base : Heap) (k : Nat) (f : Addr) (fd : FuncData) (ps : List Str) (sp : Sp) : Prop :=
  ∀ (B : Around) (out : List Env) (t : Shared) (G : Hp) (ar : Args) (vals : List Value) (xs : List V) (R : VK) (X : XK), B.guards = some [] → Room k B → Env0 P w K mg base B out t G →
    BindsTo t fd ar (ps.zip vals) → Vals xs vals → sp xs G R X → codeAny (model P w) B (.call (.ref f) ar) (CR CX0 out P w G t R X) t
section
variable {P : Program} {w : World} {K : PySem.W.Frag} {mg : Str → Option Value} {base : Heap}
theorem okG {nm qn : Str} {sm : Stmt} {f : Addr} {fd : FuncData} {N ps : List Str} {k : Nat} {sp : Sp} (Fn : Fun K nm qn sm f fd) (Sc : FnScope N ps (defScope sm)) (many : ∀ xs G R X, sp xs G R X → xs.length = ps.length)
    (hb : ∀ (cv : Value) (B : Around) (out : List Env) (t : Shared) (G : Hp) (xs : List V) (R : VK) (X : XK), B.guards = some [] → Room k (B.deeper (envOfC qn (defScope sm) t.heap.objs.size f cv)) → sp xs G R X →
      ∃ r, PSs (cxOf CX0 P w K mg base N qn (defScope sm) f cv B out t G X).nox (defBody sm) r ∧ r { nx := fun _ G' => R .non G', rt := R } (L2.start N xs) G) : FnG P w K mg base (k + 1) f fd ps sp := by
  obtain ⟨c1, c2, c3, c4, c5, c6, cv, c7, c8, e, look, code⟩ := Fn.ex
  subst e
  intro B out t G ar vals xs R X hguard room env0 binds vr hsp
  have nx := many _ _ _ _ hsp
  have kin : K.In t.heap := env0.mod.kin.keeps fun b o z => (env0.bs b o z).1
  have nolim : t.heap.NoLimit := env0.mod.nolimit.keeps fun b o z => (env0.bs b o z).1
  have kinds : ∀ y ∈ ps.zip vals, (defScope sm).names.lookup y.1 = some .local ∨ ((defScope sm).names.lookup y.1 = some .cell ∧ ((cellsFrom (t.heap.objs.size + 1) (defScope sm).names []).lookup y.1).isSome = true) := by
    rintro ⟨y, u⟩ hy
    rcases Sc.par y (List.of_mem_zip hy).1 with z | z
    · exact Or.inl z
    · exact Or.inr ⟨z, PySem.W.cellsFrom_some _ _ _ (Or.inl z)⟩
  refine codeAny_call_function room.depth (kin _ _ look) rfl Sc.co Sc.gen rfl (PySem.W.codeRec_of kin code) (binds _ _ _ _ ?_)
  refine wpAny_newFunctionEnv_cells Sc.kind kinds fun env he t1 ent => ?_
  subst he
  refine ⟨nolim.keeps ent.toInCall.keep, codeAny_func ?_⟩
  obtain ⟨r, hr1, hr2⟩ := hb cv B out t G xs R X hguard (room.deeper _) hsp
  have inv0 : L2.Inv (cxOf CX0 P w K mg base N qn (defScope sm) f cv B out t G X) [] (L2.start N xs) G t1 := inv_start Sc room.hd env0 nx vr ent
  refine wpAny_mono (hr1.nox.run [] t1 (L2.start N xs) G _ inv0 hr2) (fun fl t2 done => ?_) fun x t2 done => done
  have close : ∀ {σ' : L2.St} {G' : Hp} {v : V} {u : Value}, L2.Inv (cxOf CX0 P w K mg base N qn (defScope sm) f cv B out t G X) [] σ' G' t2 → RelV v u → R v G' → CE out P w G t R u t2 := by
    intro σ' G' v u I rv q
    exact ⟨v, G', I.os, I.bare, I.base, I.hok, rv, q⟩
  cases fl with
  | next =>
    obtain ⟨σ', G', I, q⟩ := done
    exact close (v := V.non) (u := Value.none) I rfl q
  | ret u =>
    obtain ⟨v, σ', G', I, rv, q⟩ := done
    exact close I rv q
  | cont =>
    obtain ⟨_, _, _, q⟩ := done
    exact q.elim
  | brk =>
    obtain ⟨_, _, _, q⟩ := done
    exact q.elim
end
/-- the call of the law, behind the top -/
theorem headG {P : Program} {w : World} {K : PySem.W.Frag} {mg mb : Str → Option Value} {k : Nat} {fa a : Addr} {fd : FuncData} {x : Str} {sp : Sp} {t : Shared} {vals : List Value} {zs : List Int}
    (kin : K.In t.heap) (nsm : t.heap.Ns mainGlobals mg) (nsb : t.heap.Ns builtinsNs mb) (boot : ∀ y : Str, y ≠ "__name__" → mb y = bootBuiltins y) (nolim : t.heap.NoLimit) (gens : t.gens = #[])
    (at_ : t.heap.get? a = some { cls := .type "list", data := .seq vals.toArray }) (whole : IntsAre vals zs) (small : zs.length ≤ sizeLine) (room : Room k callerA)
    (Fn : ∀ base : Heap, K.In base → base.Ns mainGlobals mg → FnG P w K mg base k fa fd [x] sp) (binds : ∀ (s : Shared) (u : Value), BindsTo s fd ⟨[u], []⟩ [(x, u)])
    (hsp : ∀ G : Hp, SqL K G a (zs.map V.int) → sp [.ref a] G (fun v _ => v = .bl true) fun _ _ _ => False) :
    codeAny (model P w) callerA (.call (.ref fa) ⟨[.ref a], []⟩) (fun r t' => r = .ok (.ret (.bool true)) ∧ OldK t.heap t'.heap ∧ t'.os = t.os ∧ AllBare t'.gens) t := by
  have rel := vals_ints whole
  have cnt := whole.length
  have go : ∀ G : Hp, Only G → SqL K G a (zs.map V.int) → HOk P w G t.heap → (∀ b, G b ≠ none → b = a) → (G a ≠ none → K.lookup a = none) →
      codeAny (model P w) callerA (.call (.ref fa) ⟨[.ref a], []⟩) (fun r t' => r = .ok (.ret (.bool true)) ∧ OldK t.heap t'.heap ∧ t'.os = t.os ∧ AllBare t'.gens) t := by
    intro G only hsq ok one hid
    have isA : ∀ {b : Addr} {u : HO}, G b = some u → b = a := fun {b u} z => one b (by rw [z]; intro n; cases n)
    have dictN : ∀ {b : Addr} {o : Obj} {es : Array DictEntry} {ep : Nat}, t.heap.get? b = some o → o.data = .dict es ep → G b = none := by
      intro b o es ep z1 z2
      cases z3 : G b with
      | none => rfl
      | some u =>
        have := isA z3
        subst this
        rw [at_] at z1
        cases z1
        exact Data.noConfusion (show Data.seq vals.toArray _ = Data.dict es ep from z2)
    have ns : ∀ {b : Addr} {m : Str → Option Value}, t.heap.Ns b m → (hidT t.heap G).Ns b m := by
      rintro b m ⟨o, es, ep, z1, z2, z3⟩
      exact ⟨o, es, ep, hidT_get z1 (dictN z1 z2), z2, z3⟩
    have kinB : K.In (hidT t.heap G) := by
      intro b o z
      refine hidT_get (kin b o z) ?_
      cases z3 : G b with
      | none => rfl
      | some u =>
        have := isA z3
        subst this
        rw [hid (by rw [z3]; intro n; cases n)] at z
        cases z
    have md : Mod K mg (hidT t.heap G) := by
      obtain ⟨mc, z1, z2⟩ := nolim
      exact ⟨kinB, ns nsm, ⟨mb, ns nsb, boot⟩, ⟨mc, ns z1, z2⟩⟩
    have env0 : Env0 P w K mg (hidT t.heap G) callerA [] t G :=
      { frames := rfl, mod := md, bs := fun b o z => of_hidT z, bsz := Nat.le_of_eq (hidT_size _ _), funs := trivial, frf := fun b hb => (List.not_mem_nil (show b ∈ ([] : List Addr) from hb)).elim, hok := ok, bare := .of_eq gens }
    have run := Fn _ kinB (ns nsm) callerA [] t G ⟨[.ref a], []⟩ [.ref a] [.ref a] _ _ rfl room env0 (binds t (.ref a)) (.cons rfl .nil) (hsp G hsq)
    refine codeAny_mono run fun r t' h => ?_
    cases r with
    | error e => exact h.elim
    | ok fl =>
      cases fl with
      | ret u =>
        obtain ⟨v, G', os, bare, un, ok', rv, q⟩ := h
        have q : v = .bl true := q
        subst q
        have rv : u = Value.bool true := rv
        subst rv
        refine ⟨rfl, OldK.of_keep fun b o z => ?_, os, bare⟩
        rcases only b with z1 | ⟨ob, ys, z1⟩
        · exact un.keep b o z z1 (fun n => (List.not_mem_nil (show b ∈ ([] : List Addr) from n)).elim) (List.not_mem_nil)
        · have z2 := un.frzs b ob _ z1
          have z3 := (ok b _ z1).1
          have z4 := (ok' b _ z2).1
          rw [z] at z3
          cases z3
          exact z4
      | next => exact h.elim
      | cont => exact h.elim
      | brk => exact h.elim
  cases hk : K.lookup a with
  | none =>
    let G0 : Hp := fun b => if b = a then some (.frz { cls := .type "list", data := .seq vals.toArray } (.lst (zs.map V.int))) else none
    have yes : G0 a = some (.frz { cls := .type "list", data := .seq vals.toArray } (.lst (zs.map V.int))) := if_pos rfl
    have no : ∀ b, b ≠ a → G0 b = none := fun b hb => if_neg hb
    refine go G0 (fun b => ?_) (Or.inl (Or.inr ⟨_, yes⟩)) (fun b u z => ?_) (fun b z => Classical.byContradiction fun n => z (no b n)) fun _ => hk
    · by_cases e : b = a
      · subst e
        exact Or.inr ⟨_, _, yes⟩
      · exact Or.inl (no b e)
    · by_cases e : b = a
      · subst e
        rw [yes] at z
        cases z
        exact ⟨at_, by rw [List.length_map]; exact small, vals, _, rel, at_⟩
      · rw [no b e] at z
        cases z
  | some o =>
    have z := kin a o hk
    rw [at_] at z
    cases z
    refine go (fun _ => none) (fun _ => Or.inl rfl) (Or.inr ⟨_, vals.toArray, _, hk, rfl, rfl, rfl, ?_, by simpa using rel⟩) (fun b u n => (by cases n)) (fun b n => (n rfl).elim) fun n => (n rfl).elim
    rw [List.size_toArray, cnt]
    exact small
/-- what k_head leaves (case hc), from the law's promise -/
theorem walkG {l : PySem.W.OpenLaw} {k : Nat} {q : Program} {loose : List Str} {XP : (Str → Option Value) → Heap → Prop} {YP : World → Heap → Prop} {d : DefRec} {K : Params → PySem.W.Frag} {sp : World → Sp} {x : Str}
    (most : l.most = some 63) (nod : d.params.defaults = []) (room : Room k callerA) (inK : ∀ (w : World) (h : Heap), YP w h → (K w.params).In h)
    (Fn : ∀ (w : World) (mg : Str → Option Value) (fa : Addr) (h : Heap), (K w.params).In h → h.Ns mainGlobals mg → mg d.name = some (.ref fa) →
      ∃ fd : FuncData, (∀ (s : Shared) (u : Value), BindsTo s fd ⟨[u], []⟩ [(x, u)]) ∧ ∀ base : Heap, (K w.params).In base → base.Ns mainGlobals mg → FnG l.prog w (K w.params) mg base k fa fd [x] (sp w))
    (hsp : ∀ (w : World) (G : Hp) (a : Addr) (zs : List Int), zs.length ≤ 63 → SqL (K w.params) G a (zs.map V.int) → sp w [.ref a] G (fun v _ => v = .bl true) fun _ _ _ => False) :
    PySem.W.WalkO q loose XP YP l.row.toRowW d [] (fun f vs => PySem.call f vs) := by
  refine Att.attach_call most nod ?_
  intro w s₀ s₁ mg mb fa o pm cd doc a vals zs G Y ho hd hcd hmg at_ whole len gens
  have kin := inK w _ Y
  obtain ⟨fd, binds, hF⟩ := Fn w mg fa _ kin G.T.g hmg
  exact headG kin G.T.g G.T.b G.T.builtins G.T.nolimit gens at_ whole (Nat.le_trans len (by decide)) room hF binds fun H hS => hsp w H a zs len hS
end QW
end
section
set_option Elab.async false
set_option linter.all false
set_option maxRecDepth 100000
set_option maxHeartbeats 2000000
/-! rows as data: equal to themselves, shown in few signs -/
namespace QW
open PySem L2 QN Qw
def rd (r : Row) : PyData := .tuple [.list (r.1.map ld), ld r.2.1, .int r.2.2]
def rsd (rows : List Row) : PyData := .list (rows.map rd)
theorem rds_lay : ∀ rows : List Row, PyData.canLayAll0 (rows.map rd) = true
  | [] => by simp [PyData.canLayAll0]
  | r :: rows => by
    have h1 := lds_lay r.1
    have h2 := ld_lay r.2.1
    have ih := rds_lay rows
    simp [PyData.canLayAll0, rd, PyData.canLay0, h1, h2, ih]
theorem rds_depth : ∀ rows : List Row, PyData.depthAll (rows.map rd) ≤ 6
  | [] => by simp [PyData.depthAll]
  | r :: rows => by
    have h1 := lds_depth r.1
    have h2 := ld_depth r.2.1
    have ih := rds_depth rows
    simp only [List.map_cons, PyData.depthAll, rd, PyData.depth]
    omega
theorem rsd_lay (rows : List Row) : (rsd rows).canLay0 = true := by
  have := rds_lay rows
  simpa [rsd, PyData.canLay0] using this
theorem rsd_depth (rows : List Row) : (rsd rows).depth ≤ 7 := by
  have := rds_depth rows
  simp only [rsd, PyData.depth]
  omega
theorem rsd_shaped (rows : List Row) : SeqAt.shaped (rsd rows) = true := by
  have h1 := rsd_lay rows
  have h2 := rsd_depth rows
  show ((rsd rows).canLay0 && decide ((rsd rows).depth ≤ 64)) = true
  rw [h1, decide_eq_true (by omega)]
  rfl
theorem rds_eqv : ∀ rows : List Row, PyData.eqvAll (rows.map rd) (rows.map rd) = true
  | [] => by simp [PyData.eqvAll]
  | r :: rows => by
    have ih := rds_eqv rows
    simp [PyData.eqvAll, rd, PyData.eqv, lds_eqv, ld_eqv, ih]
theorem rsd_eqv (rows : List Row) : PyData.eqv (rsd rows) (rsd rows) = true := by
  have := rds_eqv rows
  simpa [rsd, PyData.eqv] using this
theorem rds_dp {K : PySem.W.Frag} {N : List Addr} {H : Hp} {L : Nat → Addr} {n : Nat} (lw : LW H L n) : ∀ {rows : List Row} {us : List V}, RowsIn N H L rows us → (∀ r ∈ rows, ∀ j ∈ r.1, j < n) → (∀ r ∈ rows, r.2.1 < n) → DpAll K H us (rows.map rd)
  | [], _, .nil, _, _ => .nil
  | r :: rows, _, .cons h t, h1, h2 => by
    obtain ⟨a, l, rfl, _, ha, hl⟩ := h
    exact .cons (.tup (sqT ha) (.cons (.lst (sqL hl) (lw.dps (h1 r List.mem_cons_self))) (.cons (lw.dp (h2 r List.mem_cons_self)) (.cons (.int _) .nil)))) (rds_dp lw t (fun x hx => h1 x (List.mem_cons_of_mem _ hx)) fun x hx => h2 x (List.mem_cons_of_mem _ hx))
theorem log_small {n : Nat} (h : n < 1000000) : n.log2 ≤ 20 := by
  by_cases h0 : n = 0
  · subst h0
    decide
  · have := (Nat.log2_lt (n := n) (k := 20) h0).mpr (Nat.lt_of_lt_of_le h (by decide))
    omega
theorem int_show {i : Int} (h : i.natAbs < 1000000) : (PyData.int i).showable = true ∧ (PyData.int i).intsShort 13 = true ∧ (PyData.int i).weight ≤ 21 := by
  have h1 := log_small h
  refine ⟨?_, ?_, ?_⟩
  · simp only [PyData.showable]
    exact decide_eq_true (by omega)
  · have := PyData.intsShortAll_ints [i] (fun n hn => by rw [List.mem_singleton.mp hn]; exact Nat.lt_of_lt_of_le h (by decide))
    simp only [List.map_cons, List.map_nil, PyData.intsShortAll, Bool.and_true] at this
    exact this
  · simp only [PyData.weight]
    split <;> omega
theorem nm_show : nmD.showable = true ∧ nmD.intsShort 13 = true ∧ nmD.weight ≤ 40 := by
  have h0 := int_show (i := 0) (by decide)
  have h1 := int_show (i := 1) (by decide)
  refine ⟨?_, ?_, ?_⟩
  · simp only [nmD, PyData.showable, PyData.showableAll, Bool.and_true, Bool.true_and]
    decide +kernel
  · simp only [nmD, PyData.intsShort, PyData.intsShortAll, Bool.and_true, Bool.true_and]
    have a0 := h0.2.1
    have a1 := h1.2.1
    simp only [PyData.intsShort] at a0 a1
    rw [a0, a1]
    rfl
  · decide +kernel
theorem ld_show {k : Nat} (h : k < 1000) : (ld k).showable = true ∧ (ld k).intsShort 13 = true ∧ (ld k).weight ≤ 90 := by
  obtain ⟨n1, n2, n3⟩ := nm_show
  obtain ⟨a1, a2, a3⟩ := int_show (i := 1) (by decide)
  obtain ⟨b1, b2, b3⟩ := int_show (i := (k : Int)) (by rw [Int.natAbs_natCast]; omega)
  rw [ld_eq]
  refine ⟨?_, ?_, ?_⟩
  · simp only [PyData.showable, PyData.showableAll, Bool.and_true] at a1 b1 ⊢
    rw [n1, a1, b1]
    rfl
  · simp only [PyData.intsShort, PyData.intsShortAll, Bool.and_true] at a2 b2 ⊢
    rw [n2, a2, b2]
    rfl
  · simp only [PyData.weight, PyData.weightAll] at a3 b3 ⊢
    omega
theorem lds_show : ∀ {l : List Nat}, (∀ k ∈ l, k < 1000) → PyData.showableAll (l.map ld) = true ∧ PyData.intsShortAll 13 (l.map ld) = true ∧ PyData.weightAll (l.map ld) ≤ 91 * l.length
  | [], _ => by simp [PyData.showableAll, PyData.intsShortAll, PyData.weightAll]
  | k :: l, h => by
    obtain ⟨a1, a2, a3⟩ := ld_show (h k List.mem_cons_self)
    obtain ⟨b1, b2, b3⟩ := lds_show fun x hx => h x (List.mem_cons_of_mem _ hx)
    refine ⟨?_, ?_, ?_⟩
    · simp only [List.map_cons, PyData.showableAll, a1, b1, Bool.and_true]
    · simp only [List.map_cons, PyData.intsShortAll, a2, b2, Bool.and_true]
    · simp only [List.map_cons, PyData.weightAll, List.length_cons]
      omega
theorem rds_show {n : Nat} {b : Int} (hn : n ≤ 6) (hb : b ≤ 1000) : ∀ {rows : List Row}, (∀ r ∈ rows, ∀ j ∈ r.1, j < n) → (∀ r ∈ rows, r.2.1 < n) → (∀ r ∈ rows, r.1.length ≤ 6) → (∀ r ∈ rows, -b ≤ r.2.2 ∧ r.2.2 ≤ b) →
    PyData.showableAll (rows.map rd) = true ∧ PyData.intsShortAll 13 (rows.map rd) = true ∧ PyData.weightAll (rows.map rd) ≤ 1000 * rows.length
  | [], _, _, _, _ => by simp [PyData.showableAll, PyData.intsShortAll, PyData.weightAll]
  | r :: rows, h1, h2, h3, h4 => by
    obtain ⟨b1, b2, b3⟩ := rds_show hn hb (rows := rows) (fun x hx => h1 x (List.mem_cons_of_mem _ hx)) (fun x hx => h2 x (List.mem_cons_of_mem _ hx)) (fun x hx => h3 x (List.mem_cons_of_mem _ hx)) fun x hx => h4 x (List.mem_cons_of_mem _ hx)
    obtain ⟨c1, c2, c3⟩ := lds_show (l := r.1) fun k hk => by have := h1 r List.mem_cons_self k hk; omega
    obtain ⟨d1, d2, d3⟩ := ld_show (k := r.2.1) (by have := h2 r List.mem_cons_self; omega)
    have h5 := h4 r List.mem_cons_self
    have h6 := h3 r List.mem_cons_self
    obtain ⟨e1, e2, e3⟩ := int_show (i := r.2.2) (by omega)
    refine ⟨?_, ?_, ?_⟩
    · simp only [PyData.showable] at e1
      simp only [List.map_cons, PyData.showableAll, rd, PyData.showable, c1, d1, e1, b1, Bool.and_true]
    · simp only [PyData.intsShort] at e2
      simp only [List.map_cons, PyData.intsShortAll, rd, PyData.intsShort, c2, d2, e2, b2, Bool.and_true]
    · simp only [PyData.weight] at e3
      simp only [List.map_cons, PyData.weightAll, rd, PyData.weight, List.length_cons]
      omega
theorem rsd_show {n : Nat} {b : Int} {m : Nat} (hn : n ≤ 6) (hb : b ≤ 1000) (hm : m ≤ 1000) {rows : List Row} (h : RB n b m rows) : (rsd rows).showable = true ∧ (rsd rows).hasDict = false ∧ (rsd rows).depth ≤ 60 ∧ (rsd rows).shown.length ≤ sizeLine := by
  obtain ⟨h1, h2, h3⟩ := rds_show hn hb h.lt1 h.lt2 h.short h.num
  have h4 := rsd_lay rows
  have h5 := rsd_depth rows
  have h6 := h.few
  refine ⟨?_, PyData.hasDict_of_canLay _ h4, by omega, ?_⟩
  · simp only [rsd, PyData.showable]
    exact h1
  · refine PyData.shown_fits (B := 13) (by decide) (by decide) (PyData.leavesShort_of_canLay0 13 _ h4 ?_) ?_
    · simp only [rsd, PyData.intsShort]
      exact h2
    · simp only [rsd, PyData.weight]
      have : (2 : Nat) ^ 20 = 1048576 := by decide
      rw [this]
      have : 1000 * rows.length ≤ 1000 * 1000 := Nat.mul_le_mul_left _ (by omega)
      omega
/-! ### the fewest are few -/
theorem jl_bound {S : Nat → Nat → Bool} : ∀ (s : List Nat) (last : Nat), 0 ≤ jl S last s ∧ jl S last s ≤ s.length
  | [], _ => ⟨Int.le_refl _, Int.le_refl _⟩
  | one :: s, last => by
    obtain ⟨h1, h2⟩ := jl_bound (S := S) s one
    have h3 : 0 ≤ jump S last one ∧ jump S last one ≤ 1 := by
      unfold jump
      split <;> omega
    have e : jl S last (one :: s) = jump S last one + jl S one s := rfl
    rw [e, List.length_cons]
    omega
theorem le_len {S : Nat → Nat → Bool} : ∀ {s left : List Nat}, left.Nodup → LE S left s → s.length = left.length
  | [], left, _, h => by
    have h : left = [] := h
    rw [h]
  | one :: s, left, hn, h => by
    have h1 := le_len (rm_nodup hn) h.2
    have h2 := rm_length hn (free_sub h.1)
    rw [List.length_cons]
    omega
theorem fw_bound {S : Nat → Nat → Bool} (so : SO S) {left : List Nat} (hn : left.Nodup) (last : Nat) : 0 ≤ fw S left last ∧ fw S left last ≤ left.length := by
  obtain ⟨s, h1, h2⟩ := fw_att so left.length left last rfl hn
  have h3 := jl_bound (S := S) s last
  rw [h2, le_len hn h1] at h3
  exact h3
end QW
end
section
set_option Elab.async false
set_option linter.all false
set_option maxRecDepth 100000
set_option maxHeartbeats 16000000
/-! the law -/
namespace QW
open PySem L2 QN Qw
abbrev GCI (w : World) (C : Addr) : Type := {G : GC // G.w = w ∧ G.C = C}
/-- a promise for every graph of a world and a class -/
abbrev spU (w : World) (C : Addr) (sp : GC → Sp) : Sp := fun vs H Q E => ∃ G : GCI w C, sp G.1 vs H Q E
theorem pots_srt {S : Nat → Nat → Bool} {sb : List Nat} {ks : List KeyT} (P : Pots S sb ks) : Pots S sb (srtK ks) := ⟨srtK_nodup P.nd, fun k => by rw [srtK_mem]; exact P.iff k⟩
theorem potR_eq {S : Nat → Nat → Bool} {sb : List Nat} {ks ks' : List KeyT} (P : Pots S sb ks) (P' : Pots S sb ks') : potR S ks = potR S ks' := by
  unfold potR
  rw [srtK_eq P.nd P'.nd fun k => by rw [P.iff, P'.iff]]
theorem potR_ok {S : Nat → Nat → Bool} (so : SO S) {sb : List Nat} {ks : List KeyT} {n : Nat} (P : Pots S sb ks) (hn : sb.Nodup) (hl : ∀ k ∈ sb, k < n) (h6 : sb.length ≤ 6) (hne : sb ≠ []) : RB n 6 384 (potR S ks) := by
  have hk : ∀ r ∈ potR S ks, ∃ k, KR S sb k ∧ r = (k.1, k.2, fw S k.1 k.2) := by
    intro r hr
    obtain ⟨k, hk, rfl⟩ := List.mem_map.mp hr
    exact ⟨k, (P.iff k).mp (srtK_mem.mp hk), rfl⟩
  have hlen : (potR S ks).length = ks.length := by
    unfold potR rowsOf
    rw [List.length_map]
    exact (srtK_perm ks).length_eq
  refine ⟨fun r hr j hj => ?_, fun r hr => ?_, fun r hr => ?_, fun r hr => ?_, ?_, fun e => ?_⟩
  · obtain ⟨k, h1, rfl⟩ := hk r hr
    exact hl j (h1.sub.subset hj)
  · obtain ⟨k, h1, rfl⟩ := hk r hr
    exact hl _ h1.last
  · obtain ⟨k, h1, rfl⟩ := hk r hr
    exact Nat.le_trans h1.sub.length_le h6
  · obtain ⟨k, h1, rfl⟩ := hk r hr
    have := fw_bound so (h1.sub.nodup hn) k.2
    have := h1.sub.length_le
    show -6 ≤ fw S k.1 k.2 ∧ fw S k.1 k.2 ≤ 6
    omega
  · rw [hlen]
    exact keys_len6 P.nd (fun k hk => (P.iff k).mp hk) h6
  · have h0 : ks = [] := List.length_eq_zero_iff.mp (by rw [← hlen, e]; rfl)
    obtain ⟨one, ho⟩ := List.exists_mem_of_ne_nil _ (free_ne_nil so hne)
    have := (P.iff _).mpr (KR.start ho)
    rw [h0] at this
    cases this
/-- the law's state between two steps -/
structure MS (G : GC) (st cl R : Addr) (H0 H : Hp) : Prop where
  fr : Fr [st, cl, G.dk] H0 H
  sa : StA H st cl
  gi : GI G H
  li : LI G R H
section
variable {G : GC} {st cl R p a : Addr} {H0 H H' : Hp} {o : HO} {xs : List V}
theorem StA.odk (sa : StA H st cl) (gi : GI G H) : G.dk ∉ [st, cl] := by
  obtain ⟨cells, z, h1, _, _, h2, _⟩ := sa
  obtain ⟨ys, e⟩ := gi.dkd
  simp only [List.mem_cons, List.not_mem_nil, or_false, not_or]
  exact ⟨ne_of e h1 (by intro z; cases z), ne_of e h2 (by intro z; cases z)⟩
theorem MS.base (g : MS G st cl R H0 H) : MS G st cl R H H := ⟨Fr.refl _, g.sa, g.gi, g.li⟩
theorem MS.trans {H1 : Hp} (g : MS G st cl R H0 H1) (h : MS G st cl R H1 H) : MS G st cl R H0 H := ⟨g.fr.trans h.fr, h.sa, h.gi, h.li⟩
theorem MS.fr0 (g : MS G st cl R H0 H) (f : Fr [] H H') : MS G st cl R H0 H' := by
  refine ⟨g.fr.trans (f.mono (by simp)), g.sa.fr0 f, ?_, g.li.fr0 f⟩
  exact g.gi.stay (fun a od u e => f.keep _ _ e (by simp)) f.tk (fun C dx fs e => f.keep _ _ e (by simp)) fun xs e => f.keep _ _ e (by simp)
theorem MS.new (g : MS G st cl R H0 H) (hp : H p = none) : MS G st cl R H0 (upd H p o) := g.fr0 (Fr.new hp)
theorem MS.gr (g : MS G st cl R H0 H) (r : GR G H H') : MS G st cl R H0 H' := by
  have hd := g.sa.odk g.gi
  simp only [List.mem_cons, List.not_mem_nil, or_false, not_or] at hd
  obtain ⟨ys, e'⟩ := g.gi.dkd
  refine ⟨g.fr.trans (r.1.mono (by simp)), g.sa.fr r.1 (by simpa using Ne.symm hd.1) (by simpa using Ne.symm hd.2), r.2, g.li.fr r.1 fun a ha od u e => ?_⟩
  rw [List.mem_singleton.mp ha, e'] at e
  cases e
theorem MS.draw (g : MS G st cl R H0 H) (f : Fr [st, cl] H H') (sa : StA H' st cl) : MS G st cl R H0 H' := by
  have hd := g.sa.odk g.gi
  obtain ⟨cells, z, h1, _, _, h2, _⟩ := id g.sa
  have fz : ∀ a od u, H a = some (.frz od u) → a ∉ [st, cl] := by
    intro a od u e
    simp only [List.mem_cons, List.not_mem_nil, or_false, not_or]
    exact ⟨ne_of e h1 (by intro z; cases z), ne_of e h2 (by intro z; cases z)⟩
  have iz : ∀ C dx fs, H G.g = some (.ins C dx fs) → G.g ∉ [st, cl] := by
    intro C dx fs e
    simp only [List.mem_cons, List.not_mem_nil, or_false, not_or]
    exact ⟨ne_of e h1 (by intro z; cases z), ne_of e h2 (by intro z; cases z)⟩
  refine ⟨g.fr.trans (f.mono sub3), sa, ?_, ?_⟩
  · exact g.gi.stay (fun a od u e => f.keep _ _ e (fz a od u e)) f.tk (fun C dx fs e => f.keep _ _ e (iz C dx fs e)) fun xs e => f.keep _ _ e hd
  · exact g.li.fr f fun a ha od u e => fz a od u e ha
/-- a list that is none of the three -/
theorem MS.lst (g : MS G st cl R H0 H) (ha : a ∉ [st, cl, G.dk]) (e : H0 a = some (.lst xs)) : H a = some (.lst xs) := g.fr.keep _ _ e ha
theorem MS.out (g : MS G st cl R H0 H) (ha : H a = none) : a ∉ [st, cl, G.dk] := by
  have h1 := g.sa.out ha
  obtain ⟨ys, e⟩ := g.gi.dkd
  simp only [List.mem_cons, List.not_mem_nil, or_false, not_or] at h1 ⊢
  exact ⟨h1.1, h1.2, (ne_of_none e ha).symm⟩
end
abbrev sLaw : Stmt := topS 26
def spLaw (K : PySem.W.Frag) : Sp := fun vs H Q _ => ∃ (a : Addr) (xs : List Int), vs = [.ref a] ∧ SqL K H a (xs.map V.int) ∧ xs.length ≤ 63 ∧ ∀ H', Q (.bl true) H'
abbrev lN : List Str := ["_law_script", "_law_state_here", "_law_lines", "_law_present", "_law_pairs", "_law_graph_here", "_law_reach_here", "_law_block", "_law_most", "_law_rows", "_law_turn", "_law_other", "_law_count", "_law_kept", "_law_told"]
/-- what is known of the defs that the law calls -/
structure LFx (P : Program) (w : World) (K : PySem.W.Frag) (mg : Str → Option Value) (base : Heap) (Cg fI fSt fDr fGr fEd fRe fBl fCi fJm fBs fPo fLp fRi fLr fTu : Addr) (dI dSt dDr dGr dEd dRe dBl dCi dJm dBs dPo dLp dRi dLr dTu : FuncData) : Prop where
  mI : Mk K Cg fI
  mC : mg "FileGraph" = some (.ref Cg)
  ini : FnOk P w K mg base CX0 1 fI dI ["self", "lines", "present", "edges"] (spGInit w Cg)
  bI : Binds K dI ["self", "lines", "present", "edges"] []
  st : Kn P w K mg base "_law_state" 1 fSt dSt ["_law_script"] (spState K)
  dr : Kn P w K mg base "_law_draw" 1 fDr dDr ["_law_state_here", "_law_many"] spDraw
  gr : Kn P w K mg base "_law_graph" 3 fGr dGr ["_law_state_here"] (spGraph w)
  ed : Kn P w K mg base "_law_edges" 1 fEd dEd ["_law_pairs"] (spEdges w)
  re : Kn P w K mg base "_law_reach" 1 fRe dRe ["_law_edges_here"] (spU w Cg spReach)
  bl : Kn P w K mg base "_law_blocks" 3 fBl dBl ["_law_reach_here", "_law_present"] (spU w Cg spBlocks)
  ci : Kn P w K mg base "_law_circle" 2 fCi dCi ["_law_reach_here", "_law_block"] (spU w Cg spLCir)
  jm : Kn P w K mg base "_law_jumps" 3 fJm dJm ["_law_reach_here", "_law_order"] (spU w Cg spLJmp)
  bs : Kn P w K mg base "_law_best" 4 fBs dBs ["_law_reach_here", "_law_block"] (spU w Cg spLBst)
  po : Kn P w K mg base "potentials" 14 fPo dPo ["graph", "block"] (spU w Cg spPot)
  lp : Kn P w K mg base "_law_potentials" 4 fLp dLp ["_law_reach_here", "_law_block"] (spU w Cg spLPot)
  ri : Kn P w K mg base "potentials_right" 5 fRi dRi ["graph", "block", "rows", "count"] (spU w Cg spRight)
  lr : Kn P w K mg base "_law_right" 3 fLr dLr ["_law_reach_here", "_law_block", "_law_rows", "_law_count"] (spU w Cg spLRgt)
  tu : Kn P w K mg base "_law_turned" 3 fTu dTu ["_law_state_here", "_law_rows"] spTurned
section
variable {P : Program} {w : World} {K : PySem.W.Frag} {mg : Str → Option Value} {base : Heap}
theorem scLaw : FnScope lN ["_law_script"] (defScope sLaw) := ⟨rfl, rfl, rfl, by decide +kernel, rfl, by decide +kernel, by decide +kernel⟩
theorem ok_law {f : Addr} {fd : FuncData} {Cg fI fSt fDr fGr fEd fRe fBl fCi fJm fBs fPo fLp fRi fLr fTu : Addr} {dI dSt dDr dGr dEd dRe dBl dCi dJm dBs dPo dLp dRi dLr dTu : FuncData} (F : Fun K "law" "law" sLaw f fd) (B : Bi mg) (T : GTx K Cg)
    (X : LFx P w K mg base Cg fI fSt fDr fGr fEd fRe fBl fCi fJm fBs fPo fLp fRi fLr fTu dI dSt dDr dGr dEd dRe dBl dCi dJm dBs dPo dLp dRi dLr dTu) : FnG P w K mg base 15 f fd ["_law_script"] (spLaw K) := by
  refine okG F scLaw (fun vs H Q E h => ?_) (fun cdv A outer s H vs Q E hguard hr h => ?_)
  · obtain ⟨a, xs, rfl, _⟩ := h
    rfl
  · obtain ⟨a, xs, rfl, ha, hz, q⟩ := h
    have hu := hr.units
    have hg : (A.deeper (PyProof.Rows.envOfC "law" (defScope sLaw) s.heap.objs.size f cdv)).guards = some [] := hguard
    have r1 : Room 1 (A.deeper (PyProof.Rows.envOfC "law" (defScope sLaw) s.heap.objs.size f cdv)) := hr.mono (by decide)
    have r2 : Room 2 (A.deeper (PyProof.Rows.envOfC "law" (defScope sLaw) s.heap.objs.size f cdv)) := hr.mono (by decide)
    have r3 : Room 3 (A.deeper (PyProof.Rows.envOfC "law" (defScope sLaw) s.heap.objs.size f cdv)) := hr.mono (by decide)
    have r4 : Room 4 (A.deeper (PyProof.Rows.envOfC "law" (defScope sLaw) s.heap.objs.size f cdv)) := hr.mono (by decide)
    have r5 : Room 5 (A.deeper (PyProof.Rows.envOfC "law" (defScope sLaw) s.heap.objs.size f cdv)) := hr.mono (by decide)
    refine ⟨_, pss_cons (ps_set (i := 1) scLaw.nd rfl (Or.inl rfl) (pe_call X.st.ok r1 rfl X.st.mg X.st.kp X.st.b .nil pass0 (pa_cons (pv 0) pa_nil)))
      (pss_cons (ps_asg (pe_call X.gr.ok r3 rfl X.gr.mg X.gr.kp X.gr.b .nil pass0 (pa_cons (pv 1) pa_nil)) (pg_tup rfl (pgs_cons (pg_name (i := 2) scLaw.nd rfl (Or.inl rfl)) (pgs_cons (pg_name (i := 3) scLaw.nd rfl (Or.inl rfl)) (pgs_cons (pg_name (i := 4) scLaw.nd rfl (Or.inl rfl)) pgs_nil)))))
      (pss_cons (ps_set (i := 5) scLaw.nd rfl (Or.inl rfl) (pe_make X.mI X.ini r2 rfl X.mC X.bI .nil pass0 (pa_cons (pv 2) (pa_cons (pv 3) (pa_cons (pe_call X.ed.ok r1 rfl X.ed.mg X.ed.kp X.ed.b .nil pass0 (pa_cons (pv 4) pa_nil)) pa_nil)))))
      (pss_cons (ps_set (i := 6) scLaw.nd rfl (Or.inl rfl) (pe_call X.re.ok r1 rfl X.re.mg X.re.kp X.re.b .nil pass0 (pa_cons (pv 4) pa_nil)))
      (pss_cons (ps_for PassesOwn.never rfl (pi_list (pe_call X.bl.ok r3 rfl X.bl.mg X.bl.kp X.bl.b .nil pass0 (pa_cons (pv 6) (pa_cons (pe_callTy (call_nlist rfl) (by rfl) B.list PyProof.Rows.boot_list (pa_cons (pv 3) pa_nil)) pa_nil)))) (pg_name (i := 7) scLaw.nd rfl (Or.inl rfl))
        (pss_cons (ps_if (pt_val (pe_call X.ci.ok r2 rfl X.ci.mg X.ci.kp X.ci.b .nil pass0 (pa_cons (pv 6) (pa_cons (pv 7) pa_nil)))) (pss_one ps_continue) pss_nil)
        (pss_cons (ps_set (i := 8) scLaw.nd rfl (Or.inl rfl) (pe_call X.jm.ok r3 rfl X.jm.mg X.jm.kp X.jm.b .nil pass0 (pa_cons (pv 6) (pa_cons (pe_call X.bs.ok r4 rfl X.bs.mg X.bs.kp X.bs.b .nil pass0 (pa_cons (pv 6) (pa_cons (pv 7) pa_nil))) pa_nil))))
        (pss_cons (ps_set (i := 9) scLaw.nd rfl (Or.inl rfl) (pe_call X.po.ok hr rfl X.po.mg X.po.kp X.po.b .nil pass0 (pa_cons (pv 5) (pa_cons (pe_callTy call_list_of (by rfl) B.list PyProof.Rows.boot_list (pa_cons (pv 7) pa_nil)) pa_nil))))
        (pss_cons (ps_if (PW.pt (pw_or (pt_cmpR (op_neD hu) (pv 9) (pe_call X.lp.ok r4 rfl X.lp.mg X.lp.kp X.lp.b .nil pass0 (pa_cons (pv 6) (pa_cons (pv 7) pa_nil))) (nomark _))
            (pw_or1 (pt_cmpR op_notBl (pe_call X.ri.ok r5 rfl X.ri.mg X.ri.kp X.ri.b .nil pass0 (pa_cons (pv 5) (pa_cons (pv 7) (pa_cons (pv 9) (pa_cons (pv 8) pa_nil))))) pe_bl (nomark _))))) (pss_one (ps_ret pe_bl)) pss_nil)
        (pss_cons (ps_if (pt_cmpR op_notBl (pe_call X.ri.ok r5 rfl X.ri.mg X.ri.kp X.ri.b .nil pass0 (pa_cons (pv 5) (pa_cons (pv 7) (pa_cons (pv 9) (pa_cons (pe_op op_add (pv 8) pe_int) pa_nil))))) pe_bl (nomark _)) (pss_one (ps_ret pe_bl)) pss_nil)
        (pss_one (ps_for PassesOwn.never rfl (pi_range1 rfl B.range (pa_cons pe_int pa_nil)) (pg_name (i := 10) scLaw.nd rfl (Or.inl rfl))
          (pss_cons (ps_set (i := 11) scLaw.nd rfl (Or.inl rfl) (pe_call X.tu.ok r3 rfl X.tu.mg X.tu.kp X.tu.b .nil pass0 (pa_cons (pv 1) (pa_cons (pv 9) pa_nil))))
          (pss_cons (ps_set (i := 12) scLaw.nd rfl (Or.inl rfl) (pe_callB (call_max2 rfl) (by rfl) B.max PyProof.Rows.boot_max (pa_cons pe_int (pa_cons (pe_op op_sub (pe_op op_add (pv 8) (pe_call X.dr.ok r1 rfl X.dr.mg X.dr.kp X.dr.b .nil pass0 (pa_cons (pv 1) (pa_cons pe_int pa_nil)))) pe_int) pa_nil))))
          (pss_cons (ps_set (i := 13) scLaw.nd rfl (Or.inl rfl) (pe_callB (call_reprD hg hu) (by rfl) B.repr PyProof.Rows.boot_repr (pa_cons (pv 11) pa_nil)))
          (pss_cons (ps_set (i := 14) scLaw.nd rfl (Or.inl rfl) (pe_call X.ri.ok r5 rfl X.ri.mg X.ri.kp X.ri.b .nil pass0 (pa_cons (pv 5) (pa_cons (pv 7) (pa_cons (pv 11) (pa_cons (pv 12) pa_nil))))))
          (pss_one (ps_if (PW.pt (pw_or (pt_cmpR op_ne (pe_callB call_reprB (by rfl) B.repr PyProof.Rows.boot_repr (pa_cons (pv 14) pa_nil)) (pe_callB call_reprB (by rfl) B.repr PyProof.Rows.boot_repr (pa_cons (pe_call X.lr.ok r3 rfl X.lr.mg X.lr.kp X.lr.b .nil pass0 (pa_cons (pv 6) (pa_cons (pv 7) (pa_cons (pv 11) (pa_cons (pv 12) pa_nil))))) pa_nil)) (nomark _))
              (pw_or (pt_cmpR op_ne (pe_callB (call_reprD hg hu) (by rfl) B.repr PyProof.Rows.boot_repr (pa_cons (pv 11) pa_nil)) (pv 13) (nomark _))
              (pw_or1 (PW.pt (pw_and (pt_val (pv 14)) (pw_and1 (pt_cmpR op_lt (pv 8) (pv 12) (nomark _)))))))))
            (pss_one (ps_ret pe_bl)) pss_nil))))))))))))))
      (pss_one (ps_ret pe_bl)))))), ?_⟩
    have eS : ∀ z : Str, (!decide (V.str z = V.str z)) = false := fun z => by simp
    -- the state of the draws
    refine ⟨_, rfl, a, xs, rfl, ha, hz, fun st cl H1 f1 hst hcl sa1 => ?_⟩
    -- lines, present, pairs
    refine ⟨_, rfl, st, cl, rfl, sa1, fun n L d1 d2 pr pp t rs js ps H2 hn6 hppH hjn hjl hpl gs ht => ?_⟩
    refine ⟨t, _, rfl, sqT ht, rfl, _, _, rfl, _, _, rfl, _, _, rfl, rfl, ?_⟩
    obtain ⟨us0, h2p, hps⟩ := gs.prs
    -- graph = FileGraph(lines, present, edges)
    refine ⟨_, rfl, _, rfl, _, rfl, pp, us0, ps, L, n, rfl, h2p, hps, gs.lt, hpl, gs.lw, by omega, fun adj ed od kvs H3 f3 hadj hadl hed h3e hkl hev => ?_⟩
    intro x dx hx hdx hne
    refine ⟨x, dx, .ref d1, .ref d2, .ref ed, rfl, upd_same, fun dk H4 hdk h4k h4x h4o => ⟨rfl, ?_⟩⟩
    obtain ⟨nkx, hdk1⟩ := upd_none hdk
    obtain ⟨nkd, hdk3⟩ := upd_none hdk1
    have hold : ∀ b o, H3 b = some o → H4 b = some o := fun b o e => h4o b o (by rw [upd_ne (ne_of_none e hx), upd_ne (ne_of_none e hdx)]; exact e) (ne_of_none e hx)
    have f34 : Fr [] H3 H4 := ⟨fun b o e _ => hold b o e, fun b vs e => hold b _ e⟩
    have f24 := f3.trans f34
    have lw4 := gs.lw.mono f24.tk
    have sa4 := gs.sa.fr0 f24
    obtain ⟨G, eG⟩ : ∃ G : GC, G = ⟨w, L, n, adj, Cg, x, ed, dk⟩ := ⟨_, rfl⟩
    have gi4 : GI G H4 := by
      subst eG
      refine ⟨⟨lw4, ⟨dx, .ref d1, .ref d2, h4x⟩, ⟨od, kvs, hold _ _ h3e, hkl, fun k hk => ?_⟩⟩, ⟨[], h4k, (fun p h => (nomatch h)), List.nodup_nil, fun p h => (nomatch h)⟩, (by show n ≤ 1000; omega), fun a b hb => (gs.lt _ ((hadj a b).mp hb)).2, hadl⟩
      have := hev k hk
      cases hv : valV kvs k with
      | none =>
        rw [hv] at this
        exact this
      | some v =>
        rw [hv] at this
        obtain ⟨l, o, e1, e2⟩ := this
        exact ⟨l, o, e1, hold _ _ e2⟩
    have eL : G.L = L := by rw [eG]
    have en : G.n = n := by rw [eG]
    have ea : G.adj = adj := by rw [eG]
    have ew : G.w = w := by rw [eG]
    have eC : G.C = Cg := by rw [eG]
    have eg : G.g = x := by rw [eG]
    clear eG
    subst eL en ea eC eg
    have h4p := f24.keep _ _ h2p (by simp)
    have hps4 := hps.tk f24.tk
    -- reach
    refine ⟨_, rfl, ⟨G, ew, rfl⟩, pp, us0, ps, rfl, h4p, hps4, gs.lt, hadj, lw4, hn6, fun R H5 f5 li5 => ?_⟩
    have ms5 : MS G st cl R H4 H5 := by
      have m4 : MS G st cl R H5 H5 := ⟨Fr.refl _, sa4.fr0 f5, gi4.stay (fun a od u e => f5.keep _ _ e (by simp)) f5.tk (fun C dx fs e => f5.keep _ _ e (by simp)) (fun xs e => f5.keep _ _ e (by simp)), li5⟩
      exact ⟨f5.mono (by simp), m4.sa, m4.gi, m4.li⟩
    have h5d := (f24.trans f5).keep _ _ gs.pres (by simp)
    -- the blocks
    refine ⟨_, rfl, _, rfl, d2, _, rfl, Or.inl h5d, fun pl hpl5 => ?_⟩
    have elist : ((tjs js).map fun p => (lk p.1, G.L p.1, p.2)).map (fun e => V.ref e.2.1) = js.map (lv G.L) := by
      rw [List.map_map, tjs, List.map_map]
      rfl
    rw [elist]
    have ms6 := ms5.new (o := HO.lst (js.map (lv G.L))) hpl5
    refine ⟨⟨G, ew, rfl⟩, R, pl, js, rfl, ms6.li, upd_same, hjn, hjl, fun pb us bls H7 f7 hpb h7b hbls hgood => ?_⟩
    have opb := ms6.out hpb
    have ms7 : MS G st cl R H7 H7 := (ms6.fr0 f7).base
    clear ms6 ms5 hps4 h4p sa4 lw4 f24 f34
    refine ⟨pb, rfl, ⟨_, sqL h7b⟩, for_list (K := K) (a := pb) (xs := us) (fun i τ' H' => ∃ o7 o8 o9 o10 o11 o12 o13 o14 : Option V, τ' = [some (.ref a), some (.ref st), some (.ref d1), some (.ref d2), some (.ref pp), some (.ref G.g), some (.ref R), o7, o8, o9, o10, o11, o12, o13, o14] ∧ MS G st cl R H7 H')
      ⟨_, _, _, _, _, _, _, _, rfl, ms7⟩ (fun i τ' H' _ ⟨_, _, _, _, _, _, _, _, _, m⟩ => sqL (m.lst opb h7b)) ?_ ?_⟩
    · rintro i y τ' H8 hi ⟨o7, o8, o9, o10, o11, o12, o13, o14, rfl, ms8⟩
      obtain ⟨bl, hbl, ab, rfl, _, hab⟩ := hbls.get hi
      have gb := hgood bl (List.mem_of_getElem? hbl)
      have oab : ab ∉ [st, cl, G.dk] := by
        obtain ⟨cells, z, e1, _, _, e2, _⟩ := ms7.sa
        obtain ⟨ys, e3⟩ := ms7.gi.dkd
        obtain ⟨k, r, ek⟩ := List.exists_cons_of_ne_nil gb.ne
        rw [ek] at hab
        simp only [List.mem_cons, List.not_mem_nil, or_false, not_or]
        refine ⟨fun e => ?_, fun e => ?_, ne_of hab e3 (by intro z; cases z)⟩
        · rw [e, e1] at hab
          cases r with
          | nil => cases hab
          | cons k2 r2 => cases hab
        · rw [e, e2] at hab
          cases cells with
          | nil => cases hab
          | cons c r2 => cases hab
      have hb6 : bl.length ≤ 6 := ms7.li.len gb.nd gb.lt
      have hsn : (srt bl).Nodup := srt_nodup gb.nd
      have hsl : ∀ k ∈ srt bl, k < G.n := fun k hk => gb.lt k (srt_mem.mp hk)
      have hs6 : (srt bl).length ≤ 6 := by rw [srt_len]; exact hb6
      have hsne : srt bl ≠ [] := fun e => gb.ne (by have := srt_len bl; rw [e] at this; exact List.length_eq_zero_iff.mp this.symm)
      have h8a := ms8.lst oab hab
      -- a circle
      refine ⟨_, rfl, _, rfl, ⟨G, ew, rfl⟩, R, ab, bl, rfl, ms8.li, h8a, gb.lt, fun c => ⟨c, rfl, ?_⟩⟩
      cases c with
      | true =>
        refine iteT ?_
        exact ⟨_, _, _, _, _, _, _, _, rfl, ms8⟩
      | false =>
        refine iteF ?_
        -- most = jumps(best)
        refine ⟨_, rfl, _, rfl, _, rfl, ⟨G, ew, rfl⟩, R, ab, bl, rfl, ms8.li, h8a, gb.nd, gb.lt, fun p1 o H9 f9 h9p hle hmin => ?_⟩
        have ms9 := ms8.fr0 f9
        have hol : ∀ k ∈ o, k < G.n := fun k hk => hsl k ((hle.mem k).mp hk)
        refine ⟨⟨G, ew, rfl⟩, R, p1, o, rfl, ms9.li, h9p, hol, by have := ms9.li.len hle.nodup hol; omega, fun H10 f10 => ?_⟩
        have ms10 := ms9.fr0 f10
        have h10a := ms10.lst oab hab
        -- rows = potentials(graph, list(block))
        refine ⟨_, rfl, _, rfl, ab, _, rfl, Or.inl (sqL h10a), fun pc hpc => ?_⟩
        have ms11 := ms10.new (o := HO.lst (bl.map (lv G.L))) hpc
        have hN : ∀ b ∈ [st, cl], ∃ xs, (upd H10 pc (.lst (bl.map (lv G.L)))) b = some (.lst xs) := by
          obtain ⟨cells, z, e1, _, _, e2, _⟩ := ms11.sa
          intro b hb
          simp only [List.mem_cons, List.not_mem_nil, or_false] at hb
          rcases hb with rfl | rfl
          · exact ⟨_, e1⟩
          · exact ⟨_, e2⟩
        refine ⟨⟨G, ew, rfl⟩, pc, bl, [st, cl], rfl, upd_same, gb.nd, gb.lt, hb6, ms11.gi, hN, fun p H12 ks vs g12 hp hP h12p hrows => ?_⟩
        have op := ms11.out hp
        have ms12 := ms11.gr g12
        have rb := potR_ok (so_stB G.adj) hP hsn hsl hs6 hsne
        have hrows : RowsIn [st, cl, G.dk] H12 G.L (potR (stB G.adj) ks) vs := hrows.less fun b hb => by
          simp only [List.mem_cons, List.not_mem_nil, or_false] at hb ⊢
          rcases hb with h | h | h
          · exact Or.inr (Or.inr (Or.inl h))
          · exact Or.inr (Or.inr (Or.inr h))
          · exact Or.inl h
        have hcomp : rightB (stB G.adj) (srt bl) (potR (stB G.adj) ks) (jumps (stB G.adj) o) = true := complete (so_stB G.adj) hsn hsne (pots_srt hP) hmin
        have hmore : rightB (stB G.adj) (srt bl) (potR (stB G.adj) ks) (jumps (stB G.adj) o + 1) = false := nomore hsne ⟨o, hle, rfl⟩
        generalize hrw : potR (stB G.adj) ks = rows at hrows rb hcomp hmore
        have h12a := ms12.lst oab hab
        -- rows != law_potentials
        refine ⟨_, rfl, _, rfl, _, rfl, ⟨G, ew, rfl⟩, R, ab, bl, rfl, ms12.li, h12a, gb.nd, gb.lt, fun p2 H13 ks2 vs2 f13 hP2 h13q hrows2 => ?_⟩
        have ms13 := ms12.fr0 f13
        have er : potR (stB G.adj) ks2 = rows := by rw [← hrw]; exact potR_eq hP2 hP
        rw [er] at hrows2
        have h13p := f13.keep _ _ h12p (by simp)
        have hrows13 := hrows.fr f13 (by simp)
        refine ⟨rsd rows, rsd rows, .lst (sqL h13p) (rds_dp ms13.li.lw hrows13 rb.lt1 rb.lt2), .lst (sqL h13q) (rds_dp ms13.li.lw hrows2 rb.lt1 rb.lt2), rsd_shaped _, rsd_shaped _, _, rfl, ?_⟩
        rw [rsd_eqv]
        refine iteF ?_
        -- right for most
        have h13a := ms13.lst oab hab
        refine ⟨_, rfl, _, rfl, _, rfl, _, rfl, ⟨G, ew, rfl⟩, ab, bl, p, vs, rows, jumps (stB G.adj) o, rfl, h13a, gb.lt, by omega, h13p, hrows13.less (by simp), rb.ok (by omega), ms13.gi, fun H14 g14 => ?_⟩
        rw [hcomp]
        refine ⟨_, _, rfl, rfl, _, rfl, iteF ?_⟩
        have ms14 := ms13.gr g14
        have h14a := ms14.lst oab hab
        have m34 : MS G st cl R H13 H14 := ms13.base.gr g14
        have h14p := m34.lst op h13p
        have hrows14 := hrows13.fr m34.fr (by simp)
        -- not right for one more
        refine ⟨_, rfl, _, rfl, _, rfl, _, rfl, _, _, rfl, rfl, ⟨G, ew, rfl⟩, ab, bl, p, vs, rows, jumps (stB G.adj) o + 1, rfl, h14a, gb.lt, by omega, h14p, hrows14.less (by simp), rb.ok (by omega), ms14.gi, fun H15 g15 => ?_⟩
        rw [hmore]
        refine ⟨_, _, rfl, rfl, _, rfl, iteF ?_⟩
        have ms15 := ms14.gr g15
        have m45 : MS G st cl R H14 H15 := ms14.base.gr g15
        have h15p := m45.lst op h14p
        have hrows15 := hrows14.fr m45.fr (by simp)
        -- rows that are turned
        refine ⟨3, rfl, by decide, by decide, ?_⟩
        refine for_range (lo := 0) (fun j τ' H' => ∃ o10 o11 o12 o13 o14 : Option V, τ' = [some (.ref a), some (.ref st), some (.ref d1), some (.ref d2), some (.ref pp), some (.ref G.g), some (.ref R), some (.ref ab), some (.int (jumps (stB G.adj) o)), some (.ref p), o10, o11, o12, o13, o14] ∧ MS G st cl R H15 H')
          ⟨_, _, _, _, _, rfl, ms15.base⟩ ?_ ?_
        · rintro j τ' H16 _ ⟨o10, o11, o12, o13, o14, rfl, ms16⟩
          have hrows16 := hrows15.fr ms16.fr (by simp)
          refine ⟨_, rfl, _, rfl, st, cl, p, vs, rows, G.L, G.n, 6, 384, rfl, ms16.sa, ms16.lst op h15p, hrows16.less sub3, rb, by omega, fun p' vs' rows' H17 f17 sa17 hp' h17p hrows' rb' => ?_⟩
          have ms17 := ms16.draw f17 sa17
          have op' := ms16.out hp'
          have oq' := ms16.sa.out hp'
          refine ⟨_, rfl, _, rfl, st, cl, 3, rfl, sa17, by decide, fun r H18 f18 sa18 _ => ⟨_, _, rfl, rfl, _, _, rfl, rfl, _, _, rfl, ?_⟩⟩
          have ms18 := ms17.draw f18 sa18
          generalize (if jumps (stB G.adj) o + (r : Int) - 1 > 0 then jumps (stB G.adj) o + (r : Int) - 1 else 0) = cnt
          have h18p := f18.keep _ _ h17p oq'
          have hrows18 : RowsIn [st, cl, G.dk] H18 G.L rows' vs' := by
            obtain ⟨ys, e⟩ := ms18.gi.dkd
            have h1 : RowsIn [st, cl] H18 G.L rows' vs' := (hrows'.fr f18 sub3).less sub3
            exact (h1.addN (a := G.dk) fun xs z => by rw [e] at z; cases z).less fun b hb => by
              simp only [List.mem_cons, List.not_mem_nil, or_false] at hb ⊢
              rcases hb with h | h | h
              · exact Or.inr (Or.inl h)
              · exact Or.inr (Or.inr h)
              · exact Or.inl h
          obtain ⟨w1, w2, w3, w4⟩ := rsd_show hn6 (by decide) (by decide) rb'
          -- kept = repr(other)
          refine ⟨_, rfl, p', rsd rows', rfl, .lst (sqL h18p) (rds_dp ms18.li.lw hrows18 rb'.lt1 rb'.lt2), w1, w2, w3, w4, ?_⟩
          -- told
          have ms7_18 := (ms15.trans ms18)
          have h18a := ms7_18.lst oab hab
          refine ⟨_, rfl, _, rfl, _, rfl, _, rfl, ⟨G, ew, rfl⟩, ab, bl, p', vs', rows', cnt, rfl, h18a, gb.lt, by omega, h18p, hrows18.less (by simp), rb'.ok (by decide), ms18.gi, fun H19 g19 => ?_⟩
          have ms19 := ms18.gr g19
          have m89 : MS G st cl R H18 H19 := ms18.base.gr g19
          have h19p := m89.lst op' h18p
          have h19a := m89.lst oab h18a
          have hrows19 := hrows18.fr m89.fr (by simp)
          refine ⟨_, rfl, _, rfl, _, rfl, _, rfl, _, rfl, _, rfl, ⟨G, ew, rfl⟩, R, ab, p', bl, vs', rows', cnt, rfl, ms19.li, h19a, gb.lt, by omega, h19p, hrows19.less (by simp), rb'.ok (by decide), fun H20 f20 => ⟨_, rfl, rfl, _, rfl, ?_⟩⟩
          have ms20 := ms19.fr0 f20
          have h20p := f20.keep _ _ h19p (by simp)
          have hrows20 := hrows19.fr f20 (by simp)
          rw [eS]
          refine iteF ?_
          refine ⟨_, rfl, p', rsd rows', rfl, .lst (sqL h20p) (rds_dp ms20.li.lw hrows20 rb'.lt1 rb'.lt2), w1, w2, w3, w4, _, rfl, rfl, _, rfl, ?_⟩
          rw [eS]
          refine iteF ?_
          refine ⟨_, rfl, _, rfl, ?_⟩
          cases hb : rightB (stB G.adj) (srt bl) rows' cnt with
          | false =>
            refine iteF (iteF ?_)
            exact ⟨_, _, _, _, _, rfl, ms20⟩
          | true =>
            refine iteT ⟨_, rfl, _, rfl, _, _, rfl, rfl, _, rfl, ?_⟩
            have hsound := sound hb hsne hle
            rw [decide_eq_false (by omega)]
            refine iteF ?_
            exact ⟨_, _, _, _, _, rfl, ms20⟩
        · rintro τ' H16 ⟨o10, o11, o12, o13, o14, rfl, ms16⟩
          exact ⟨_, _, _, _, _, _, _, _, rfl, ms15.trans ms16⟩
    · rintro τ' H8 ⟨o7, o8, o9, o10, o11, o12, o13, o14, rfl, ms8⟩
      exact q H8
end
end QW
end
section
set_option Elab.async false
set_option linter.all false
set_option maxRecDepth 100000
set_option maxHeartbeats 4000000
/-! what the top has written; the end -/
namespace QW
open PySem L2 QN Qw
theorem all_facts {l : PySem.W.OpenLaw} {w : World} {K : PySem.W.Frag} {h : Heap} {mg : Str → Option Value} {fa Cs Cg : Addr} (X : K.In h) (G : h.Ns mainGlobals mg) (hfa : mg "law" = some (.ref fa))
    {fFree fJump fPot fRight fState fDraw fPick fGraph fEdges fReach fLBef fLStr fBlocks fLOrd fLJmp fLCir fLBst fLPot fLRgt fTurned fLaw fSInit fFewest fStarts fGInit fBehind fBefore fStrictly : Addr} {odFree anFree odJump anJump odPot anPot odRight anRight odState anState odDraw anDraw odPick anPick odGraph anGraph odEdges anEdges odReach anReach odLBef anLBef odLStr anLStr odBlocks anBlocks odLOrd anLOrd odLJmp anLJmp odLCir anLCir odLBst anLBst odLPot anLPot odLRgt anLRgt odTurned anTurned odLaw anLaw odSInit anSInit odFewest anFewest odStarts anStarts odGInit anGInit odBehind anBehind odBefore anBefore odStrictly anStrictly : Option Addr} {slFree slJump slPot slRight slState slDraw slPick slGraph slEdges slReach slLBef slLStr slBlocks slLOrd slLJmp slLCir slLBst slLPot slLRgt slTurned slLaw slSInit slFewest slStarts slGInit slBehind slBefore slStrictly : Array (Option Value)}
    {ocFree kVFree dcFree pmFree cdFree ctFree ocJump kVJump dcJump pmJump cdJump ctJump ocPot kVPot dcPot pmPot cdPot ctPot ocRight kVRight dcRight pmRight cdRight ctRight ocState kVState dcState pmState cdState ctState ocDraw kVDraw dcDraw pmDraw cdDraw ctDraw ocPick kVPick dcPick pmPick cdPick ctPick ocGraph kVGraph dcGraph pmGraph cdGraph ctGraph ocEdges kVEdges dcEdges pmEdges cdEdges ctEdges ocReach kVReach dcReach pmReach cdReach ctReach ocLBef kVLBef dcLBef pmLBef cdLBef ctLBef ocLStr kVLStr dcLStr pmLStr cdLStr ctLStr ocBlocks kVBlocks dcBlocks pmBlocks cdBlocks ctBlocks ocLOrd kVLOrd dcLOrd pmLOrd cdLOrd ctLOrd ocLJmp kVLJmp dcLJmp pmLJmp cdLJmp ctLJmp ocLCir kVLCir dcLCir pmLCir cdLCir ctLCir ocLBst kVLBst dcLBst pmLBst cdLBst ctLBst ocLPot kVLPot dcLPot pmLPot cdLPot ctLPot ocLRgt kVLRgt dcLRgt pmLRgt cdLRgt ctLRgt ocTurned kVTurned dcTurned pmTurned cdTurned ctTurned ocLaw kVLaw dcLaw pmLaw cdLaw ctLaw ocSInit kVSInit dcSInit pmSInit cdSInit ctSInit ocFewest kVFewest dcFewest pmFewest cdFewest ctFewest ocStarts kVStarts dcStarts pmStarts cdStarts ctStarts ocGInit kVGInit dcGInit pmGInit cdGInit ctGInit ocBehind kVBehind dcBehind pmBehind cdBehind ctBehind ocBefore kVBefore dcBefore pmBefore cdBefore ctBefore ocStrictly kVStrictly dcStrictly pmStrictly cdStrictly ctStrictly : Value}
    (nCs : PySem.W.nsIn K mainGlobals "Settler" = some (some (.ref Cs))) (pgCs : PySem.W.plainGet K Cs Str.empty = true) (hdCs : PySem.W.hasDictIn K Cs = true) (poCs : PySem.W.plainOver K Cs = true) (saCs : PySem.W.findIn K (.ref Cs) "__setattr__" = some (some (.builtin "object.__setattr__"))) (mkCs : PySem.W.makesIn K Cs = true) (kcCs : PySem.W.keepIn K (.ref Cs) = true)
    (nCg : PySem.W.nsIn K mainGlobals "FileGraph" = some (some (.ref Cg))) (pgCg : PySem.W.plainGet K Cg Str.empty = true) (hdCg : PySem.W.hasDictIn K Cg = true) (poCg : PySem.W.plainOver K Cg = true) (saCg : PySem.W.findIn K (.ref Cg) "__setattr__" = some (some (.builtin "object.__setattr__"))) (mkCg : PySem.W.makesIn K Cg = true) (kcCg : PySem.W.keepIn K (.ref Cg) = true)
    (aFree : PySem.W.nsIn K mainGlobals "free_lines" = some (some (.ref fFree)))
    (lFree : K.lookup fFree = some ⟨ocFree, odFree, .func (PySem.W.fnOf "free_lines" "free_lines" (defArgs sFree) (defBody sFree) (defScope sFree) .none kVFree dcFree pmFree anFree cdFree ctFree), slFree⟩) (cFree : PySem.W.codeIn K cdFree "free_lines" = true) (kFree : PySem.W.keepIn K (.ref fFree) = true)
    (aJump : PySem.W.nsIn K mainGlobals "jump" = some (some (.ref fJump)))
    (lJump : K.lookup fJump = some ⟨ocJump, odJump, .func (PySem.W.fnOf "jump" "jump" (defArgs sJump) (defBody sJump) (defScope sJump) .none kVJump dcJump pmJump anJump cdJump ctJump), slJump⟩) (cJump : PySem.W.codeIn K cdJump "jump" = true) (kJump : PySem.W.keepIn K (.ref fJump) = true)
    (aPot : PySem.W.nsIn K mainGlobals "potentials" = some (some (.ref fPot)))
    (lPot : K.lookup fPot = some ⟨ocPot, odPot, .func (PySem.W.fnOf "potentials" "potentials" (defArgs sPot) (defBody sPot) (defScope sPot) .none kVPot dcPot pmPot anPot cdPot ctPot), slPot⟩) (cPot : PySem.W.codeIn K cdPot "potentials" = true) (kPot : PySem.W.keepIn K (.ref fPot) = true)
    (aRight : PySem.W.nsIn K mainGlobals "potentials_right" = some (some (.ref fRight)))
    (lRight : K.lookup fRight = some ⟨ocRight, odRight, .func (PySem.W.fnOf "potentials_right" "potentials_right" (defArgs sRight) (defBody sRight) (defScope sRight) .none kVRight dcRight pmRight anRight cdRight ctRight), slRight⟩) (cRight : PySem.W.codeIn K cdRight "potentials_right" = true) (kRight : PySem.W.keepIn K (.ref fRight) = true)
    (aState : PySem.W.nsIn K mainGlobals "_law_state" = some (some (.ref fState)))
    (lState : K.lookup fState = some ⟨ocState, odState, .func (PySem.W.fnOf "_law_state" "_law_state" (defArgs sState) (defBody sState) (defScope sState) .none kVState dcState pmState anState cdState ctState), slState⟩) (cState : PySem.W.codeIn K cdState "_law_state" = true) (kState : PySem.W.keepIn K (.ref fState) = true)
    (aDraw : PySem.W.nsIn K mainGlobals "_law_draw" = some (some (.ref fDraw)))
    (lDraw : K.lookup fDraw = some ⟨ocDraw, odDraw, .func (PySem.W.fnOf "_law_draw" "_law_draw" (defArgs sDraw) (defBody sDraw) (defScope sDraw) .none kVDraw dcDraw pmDraw anDraw cdDraw ctDraw), slDraw⟩) (cDraw : PySem.W.codeIn K cdDraw "_law_draw" = true) (kDraw : PySem.W.keepIn K (.ref fDraw) = true)
    (aPick : PySem.W.nsIn K mainGlobals "_law_pick" = some (some (.ref fPick)))
    (lPick : K.lookup fPick = some ⟨ocPick, odPick, .func (PySem.W.fnOf "_law_pick" "_law_pick" (defArgs sPick) (defBody sPick) (defScope sPick) .none kVPick dcPick pmPick anPick cdPick ctPick), slPick⟩) (cPick : PySem.W.codeIn K cdPick "_law_pick" = true) (kPick : PySem.W.keepIn K (.ref fPick) = true)
    (aGraph : PySem.W.nsIn K mainGlobals "_law_graph" = some (some (.ref fGraph)))
    (lGraph : K.lookup fGraph = some ⟨ocGraph, odGraph, .func (PySem.W.fnOf "_law_graph" "_law_graph" (defArgs sGraph) (defBody sGraph) (defScope sGraph) .none kVGraph dcGraph pmGraph anGraph cdGraph ctGraph), slGraph⟩) (cGraph : PySem.W.codeIn K cdGraph "_law_graph" = true) (kGraph : PySem.W.keepIn K (.ref fGraph) = true)
    (aEdges : PySem.W.nsIn K mainGlobals "_law_edges" = some (some (.ref fEdges)))
    (lEdges : K.lookup fEdges = some ⟨ocEdges, odEdges, .func (PySem.W.fnOf "_law_edges" "_law_edges" (defArgs sEdges) (defBody sEdges) (defScope sEdges) .none kVEdges dcEdges pmEdges anEdges cdEdges ctEdges), slEdges⟩) (cEdges : PySem.W.codeIn K cdEdges "_law_edges" = true) (kEdges : PySem.W.keepIn K (.ref fEdges) = true)
    (aReach : PySem.W.nsIn K mainGlobals "_law_reach" = some (some (.ref fReach)))
    (lReach : K.lookup fReach = some ⟨ocReach, odReach, .func (PySem.W.fnOf "_law_reach" "_law_reach" (defArgs sReach) (defBody sReach) (defScope sReach) .none kVReach dcReach pmReach anReach cdReach ctReach), slReach⟩) (cReach : PySem.W.codeIn K cdReach "_law_reach" = true) (kReach : PySem.W.keepIn K (.ref fReach) = true)
    (aLBef : PySem.W.nsIn K mainGlobals "_law_before" = some (some (.ref fLBef)))
    (lLBef : K.lookup fLBef = some ⟨ocLBef, odLBef, .func (PySem.W.fnOf "_law_before" "_law_before" (defArgs sLBef) (defBody sLBef) (defScope sLBef) .none kVLBef dcLBef pmLBef anLBef cdLBef ctLBef), slLBef⟩) (cLBef : PySem.W.codeIn K cdLBef "_law_before" = true) (kLBef : PySem.W.keepIn K (.ref fLBef) = true)
    (aLStr : PySem.W.nsIn K mainGlobals "_law_strictly" = some (some (.ref fLStr)))
    (lLStr : K.lookup fLStr = some ⟨ocLStr, odLStr, .func (PySem.W.fnOf "_law_strictly" "_law_strictly" (defArgs sLStr) (defBody sLStr) (defScope sLStr) .none kVLStr dcLStr pmLStr anLStr cdLStr ctLStr), slLStr⟩) (cLStr : PySem.W.codeIn K cdLStr "_law_strictly" = true) (kLStr : PySem.W.keepIn K (.ref fLStr) = true)
    (aBlocks : PySem.W.nsIn K mainGlobals "_law_blocks" = some (some (.ref fBlocks)))
    (lBlocks : K.lookup fBlocks = some ⟨ocBlocks, odBlocks, .func (PySem.W.fnOf "_law_blocks" "_law_blocks" (defArgs sBlocks) (defBody sBlocks) (defScope sBlocks) .none kVBlocks dcBlocks pmBlocks anBlocks cdBlocks ctBlocks), slBlocks⟩) (cBlocks : PySem.W.codeIn K cdBlocks "_law_blocks" = true) (kBlocks : PySem.W.keepIn K (.ref fBlocks) = true)
    (aLOrd : PySem.W.nsIn K mainGlobals "_law_orders" = some (some (.ref fLOrd)))
    (lLOrd : K.lookup fLOrd = some ⟨ocLOrd, odLOrd, .func (PySem.W.fnOf "_law_orders" "_law_orders" (defArgs sLOrd) (defBody sLOrd) (defScope sLOrd) .none kVLOrd dcLOrd pmLOrd anLOrd cdLOrd ctLOrd), slLOrd⟩) (cLOrd : PySem.W.codeIn K cdLOrd "_law_orders" = true) (kLOrd : PySem.W.keepIn K (.ref fLOrd) = true)
    (aLJmp : PySem.W.nsIn K mainGlobals "_law_jumps" = some (some (.ref fLJmp)))
    (lLJmp : K.lookup fLJmp = some ⟨ocLJmp, odLJmp, .func (PySem.W.fnOf "_law_jumps" "_law_jumps" (defArgs sLJmp) (defBody sLJmp) (defScope sLJmp) .none kVLJmp dcLJmp pmLJmp anLJmp cdLJmp ctLJmp), slLJmp⟩) (cLJmp : PySem.W.codeIn K cdLJmp "_law_jumps" = true) (kLJmp : PySem.W.keepIn K (.ref fLJmp) = true)
    (aLCir : PySem.W.nsIn K mainGlobals "_law_circle" = some (some (.ref fLCir)))
    (lLCir : K.lookup fLCir = some ⟨ocLCir, odLCir, .func (PySem.W.fnOf "_law_circle" "_law_circle" (defArgs sLCir) (defBody sLCir) (defScope sLCir) .none kVLCir dcLCir pmLCir anLCir cdLCir ctLCir), slLCir⟩) (cLCir : PySem.W.codeIn K cdLCir "_law_circle" = true) (kLCir : PySem.W.keepIn K (.ref fLCir) = true)
    (aLBst : PySem.W.nsIn K mainGlobals "_law_best" = some (some (.ref fLBst)))
    (lLBst : K.lookup fLBst = some ⟨ocLBst, odLBst, .func (PySem.W.fnOf "_law_best" "_law_best" (defArgs sLBst) (defBody sLBst) (defScope sLBst) .none kVLBst dcLBst pmLBst anLBst cdLBst ctLBst), slLBst⟩) (cLBst : PySem.W.codeIn K cdLBst "_law_best" = true) (kLBst : PySem.W.keepIn K (.ref fLBst) = true)
    (aLPot : PySem.W.nsIn K mainGlobals "_law_potentials" = some (some (.ref fLPot)))
    (lLPot : K.lookup fLPot = some ⟨ocLPot, odLPot, .func (PySem.W.fnOf "_law_potentials" "_law_potentials" (defArgs sLPot) (defBody sLPot) (defScope sLPot) .none kVLPot dcLPot pmLPot anLPot cdLPot ctLPot), slLPot⟩) (cLPot : PySem.W.codeIn K cdLPot "_law_potentials" = true) (kLPot : PySem.W.keepIn K (.ref fLPot) = true)
    (aLRgt : PySem.W.nsIn K mainGlobals "_law_right" = some (some (.ref fLRgt)))
    (lLRgt : K.lookup fLRgt = some ⟨ocLRgt, odLRgt, .func (PySem.W.fnOf "_law_right" "_law_right" (defArgs sLRgt) (defBody sLRgt) (defScope sLRgt) .none kVLRgt dcLRgt pmLRgt anLRgt cdLRgt ctLRgt), slLRgt⟩) (cLRgt : PySem.W.codeIn K cdLRgt "_law_right" = true) (kLRgt : PySem.W.keepIn K (.ref fLRgt) = true)
    (aTurned : PySem.W.nsIn K mainGlobals "_law_turned" = some (some (.ref fTurned)))
    (lTurned : K.lookup fTurned = some ⟨ocTurned, odTurned, .func (PySem.W.fnOf "_law_turned" "_law_turned" (defArgs sTurned) (defBody sTurned) (defScope sTurned) .none kVTurned dcTurned pmTurned anTurned cdTurned ctTurned), slTurned⟩) (cTurned : PySem.W.codeIn K cdTurned "_law_turned" = true) (kTurned : PySem.W.keepIn K (.ref fTurned) = true)
    (aLaw : PySem.W.nsIn K mainGlobals "law" = some (some (.ref fLaw)))
    (lLaw : K.lookup fLaw = some ⟨ocLaw, odLaw, .func (PySem.W.fnOf "law" "law" (defArgs sLaw) (defBody sLaw) (defScope sLaw) .none kVLaw dcLaw pmLaw anLaw cdLaw ctLaw), slLaw⟩) (cLaw : PySem.W.codeIn K cdLaw "law" = true) (kLaw : PySem.W.keepIn K (.ref fLaw) = true)
    (aSInit : PySem.W.findIn K (.ref Cs) "__init__" = some (some (.ref fSInit))) (iSInit : PySem.W.isFn K (.ref fSInit) = true)
    (lSInit : K.lookup fSInit = some ⟨ocSInit, odSInit, .func (PySem.W.fnOf "__init__" "Settler.__init__" (defArgs sSInit) (defBody sSInit) (defScope sSInit) .none kVSInit dcSInit pmSInit anSInit cdSInit ctSInit), slSInit⟩) (cSInit : PySem.W.codeIn K cdSInit "Settler.__init__" = true) (kSInit : PySem.W.keepIn K (.ref fSInit) = true)
    (aFewest : PySem.W.findIn K (.ref Cs) "fewest" = some (some (.ref fFewest))) (iFewest : PySem.W.isFn K (.ref fFewest) = true)
    (lFewest : K.lookup fFewest = some ⟨ocFewest, odFewest, .func (PySem.W.fnOf "fewest" "Settler.fewest" (defArgs sFewest) (defBody sFewest) (defScope sFewest) .none kVFewest dcFewest pmFewest anFewest cdFewest ctFewest), slFewest⟩) (cFewest : PySem.W.codeIn K cdFewest "Settler.fewest" = true) (kFewest : PySem.W.keepIn K (.ref fFewest) = true)
    (aStarts : PySem.W.findIn K (.ref Cs) "starts" = some (some (.ref fStarts))) (iStarts : PySem.W.isFn K (.ref fStarts) = true)
    (lStarts : K.lookup fStarts = some ⟨ocStarts, odStarts, .func (PySem.W.fnOf "starts" "Settler.starts" (defArgs sStarts) (defBody sStarts) (defScope sStarts) .none kVStarts dcStarts pmStarts anStarts cdStarts ctStarts), slStarts⟩) (cStarts : PySem.W.codeIn K cdStarts "Settler.starts" = true) (kStarts : PySem.W.keepIn K (.ref fStarts) = true)
    (aGInit : PySem.W.findIn K (.ref Cg) "__init__" = some (some (.ref fGInit))) (iGInit : PySem.W.isFn K (.ref fGInit) = true)
    (lGInit : K.lookup fGInit = some ⟨ocGInit, odGInit, .func (PySem.W.fnOf "__init__" "FileGraph.__init__" (defArgs sGInit) (defBody sGInit) (defScope sGInit) .none kVGInit dcGInit pmGInit anGInit cdGInit ctGInit), slGInit⟩) (cGInit : PySem.W.codeIn K cdGInit "FileGraph.__init__" = true) (kGInit : PySem.W.keepIn K (.ref fGInit) = true)
    (aBehind : PySem.W.findIn K (.ref Cg) "behind" = some (some (.ref fBehind))) (iBehind : PySem.W.isFn K (.ref fBehind) = true)
    (lBehind : K.lookup fBehind = some ⟨ocBehind, odBehind, .func (PySem.W.fnOf "behind" "FileGraph.behind" (defArgs sBehind) (defBody sBehind) (defScope sBehind) .none kVBehind dcBehind pmBehind anBehind cdBehind ctBehind), slBehind⟩) (cBehind : PySem.W.codeIn K cdBehind "FileGraph.behind" = true) (kBehind : PySem.W.keepIn K (.ref fBehind) = true)
    (aBefore : PySem.W.findIn K (.ref Cg) "before" = some (some (.ref fBefore))) (iBefore : PySem.W.isFn K (.ref fBefore) = true)
    (lBefore : K.lookup fBefore = some ⟨ocBefore, odBefore, .func (PySem.W.fnOf "before" "FileGraph.before" (defArgs sBefore) (defBody sBefore) (defScope sBefore) .none kVBefore dcBefore pmBefore anBefore cdBefore ctBefore), slBefore⟩) (cBefore : PySem.W.codeIn K cdBefore "FileGraph.before" = true) (kBefore : PySem.W.keepIn K (.ref fBefore) = true)
    (aStrictly : PySem.W.findIn K (.ref Cg) "strictly" = some (some (.ref fStrictly))) (iStrictly : PySem.W.isFn K (.ref fStrictly) = true)
    (lStrictly : K.lookup fStrictly = some ⟨ocStrictly, odStrictly, .func (PySem.W.fnOf "strictly" "FileGraph.strictly" (defArgs sStrictly) (defBody sStrictly) (defScope sStrictly) .none kVStrictly dcStrictly pmStrictly anStrictly cdStrictly ctStrictly), slStrictly⟩) (cStrictly : PySem.W.codeIn K cdStrictly "FileGraph.strictly" = true) (kStrictly : PySem.W.keepIn K (.ref fStrictly) = true)
    (noCsgraph : PySem.W.findIn K (.ref Cs) "graph" = some none)
    (noCsknown : PySem.W.findIn K (.ref Cs) "known" = some none)
    (noCglines : PySem.W.findIn K (.ref Cg) "lines" = some none)
    (noCgpresent : PySem.W.findIn K (.ref Cg) "present" = some none)
    (noCgedges : PySem.W.findIn K (.ref Cg) "edges" = some none)
    (noCgknown : PySem.W.findIn K (.ref Cg) "known" = some none)
    (zlen : PySem.W.nsIn K mainGlobals "len" = some none)
    (zsorted : PySem.W.nsIn K mainGlobals "sorted" = some none)
    (zlist : PySem.W.nsIn K mainGlobals "list" = some none)
    (ztuple : PySem.W.nsIn K mainGlobals "tuple" = some none)
    (zrange : PySem.W.nsIn K mainGlobals "range" = some none)
    (zmin : PySem.W.nsIn K mainGlobals "min" = some none)
    (zmax : PySem.W.nsIn K mainGlobals "max" = some none)
    (zabs : PySem.W.nsIn K mainGlobals "abs" = some none)
    (zint : PySem.W.nsIn K mainGlobals "int" = some none)
    (zrepr : PySem.W.nsIn K mainGlobals "repr" = some none)
    : ∃ fd : FuncData, (∀ (s : Shared) (v : Value), BindsTo s fd ⟨[v], []⟩ [("_law_script", v)]) ∧ ∀ base : Heap, K.In base → base.Ns mainGlobals mg → FnG l.prog w K mg base 15 fa fd ["_law_script"] (spLaw K) := by
  have e := hfa.symm.trans (PySem.W.mg_of X G aLaw)
  cases e
  have B : Bi mg := ⟨PySem.W.mg_none_of X G zlen, PySem.W.mg_none_of X G zsorted, PySem.W.mg_none_of X G zlist, PySem.W.mg_none_of X G ztuple, PySem.W.mg_none_of X G zrange, PySem.W.mg_none_of X G zmin, PySem.W.mg_none_of X G zmax, PySem.W.mg_none_of X G zabs, PySem.W.mg_none_of X G zint, PySem.W.mg_none_of X G zrepr⟩
  have TS : STx K Cs := ⟨⟨pgCs, hdCs, poCs, saCs⟩, noCsgraph, noCsknown⟩
  have TG : GTx K Cg := ⟨⟨pgCg, hdCg, poCg, saCg⟩, noCglines, noCgpresent, noCgedges, noCgknown⟩
  have FFree := fun_mk (st := sFree) lFree cFree kFree
  have bFree := FFree.binds (ps := ["graph", "left"]) fun _ _ _ _ _ _ us hl => match us, hl with | [_, _], _ => rfl
  generalize PySem.W.fnOf "free_lines" "free_lines" (defArgs sFree) (defBody sFree) (defScope sFree) .none kVFree dcFree pmFree anFree cdFree ctFree = dFree at FFree bFree
  have mFree := PySem.W.mg_of X G aFree
  have FJump := fun_mk (st := sJump) lJump cJump kJump
  have bJump := FJump.binds (ps := ["graph", "one", "other"]) fun _ _ _ _ _ _ us hl => match us, hl with | [_, _, _], _ => rfl
  generalize PySem.W.fnOf "jump" "jump" (defArgs sJump) (defBody sJump) (defScope sJump) .none kVJump dcJump pmJump anJump cdJump ctJump = dJump at FJump bJump
  have mJump := PySem.W.mg_of X G aJump
  have FPot := fun_mk (st := sPot) lPot cPot kPot
  have bPot := FPot.binds (ps := ["graph", "block"]) fun _ _ _ _ _ _ us hl => match us, hl with | [_, _], _ => rfl
  generalize PySem.W.fnOf "potentials" "potentials" (defArgs sPot) (defBody sPot) (defScope sPot) .none kVPot dcPot pmPot anPot cdPot ctPot = dPot at FPot bPot
  have mPot := PySem.W.mg_of X G aPot
  have FRight := fun_mk (st := sRight) lRight cRight kRight
  have bRight := FRight.binds (ps := ["graph", "block", "rows", "count"]) fun _ _ _ _ _ _ us hl => match us, hl with | [_, _, _, _], _ => rfl
  generalize PySem.W.fnOf "potentials_right" "potentials_right" (defArgs sRight) (defBody sRight) (defScope sRight) .none kVRight dcRight pmRight anRight cdRight ctRight = dRight at FRight bRight
  have mRight := PySem.W.mg_of X G aRight
  have FState := fun_mk (st := sState) lState cState kState
  have bState := FState.binds (ps := ["_law_script"]) fun _ _ _ _ _ _ us hl => match us, hl with | [_], _ => rfl
  generalize PySem.W.fnOf "_law_state" "_law_state" (defArgs sState) (defBody sState) (defScope sState) .none kVState dcState pmState anState cdState ctState = dState at FState bState
  have mState := PySem.W.mg_of X G aState
  have FDraw := fun_mk (st := sDraw) lDraw cDraw kDraw
  have bDraw := FDraw.binds (ps := ["_law_state_here", "_law_many"]) fun _ _ _ _ _ _ us hl => match us, hl with | [_, _], _ => rfl
  generalize PySem.W.fnOf "_law_draw" "_law_draw" (defArgs sDraw) (defBody sDraw) (defScope sDraw) .none kVDraw dcDraw pmDraw anDraw cdDraw ctDraw = dDraw at FDraw bDraw
  have mDraw := PySem.W.mg_of X G aDraw
  have FPick := fun_mk (st := sPick) lPick cPick kPick
  have bPick := FPick.binds (ps := ["_law_state_here", "_law_row"]) fun _ _ _ _ _ _ us hl => match us, hl with | [_, _], _ => rfl
  generalize PySem.W.fnOf "_law_pick" "_law_pick" (defArgs sPick) (defBody sPick) (defScope sPick) .none kVPick dcPick pmPick anPick cdPick ctPick = dPick at FPick bPick
  have mPick := PySem.W.mg_of X G aPick
  have FGraph := fun_mk (st := sGraph) lGraph cGraph kGraph
  have bGraph := FGraph.binds (ps := ["_law_state_here"]) fun _ _ _ _ _ _ us hl => match us, hl with | [_], _ => rfl
  generalize PySem.W.fnOf "_law_graph" "_law_graph" (defArgs sGraph) (defBody sGraph) (defScope sGraph) .none kVGraph dcGraph pmGraph anGraph cdGraph ctGraph = dGraph at FGraph bGraph
  have mGraph := PySem.W.mg_of X G aGraph
  have FEdges := fun_mk (st := sEdges) lEdges cEdges kEdges
  have bEdges := FEdges.binds (ps := ["_law_pairs"]) fun _ _ _ _ _ _ us hl => match us, hl with | [_], _ => rfl
  generalize PySem.W.fnOf "_law_edges" "_law_edges" (defArgs sEdges) (defBody sEdges) (defScope sEdges) .none kVEdges dcEdges pmEdges anEdges cdEdges ctEdges = dEdges at FEdges bEdges
  have mEdges := PySem.W.mg_of X G aEdges
  have FReach := fun_mk (st := sReach) lReach cReach kReach
  have bReach := FReach.binds (ps := ["_law_edges_here"]) fun _ _ _ _ _ _ us hl => match us, hl with | [_], _ => rfl
  generalize PySem.W.fnOf "_law_reach" "_law_reach" (defArgs sReach) (defBody sReach) (defScope sReach) .none kVReach dcReach pmReach anReach cdReach ctReach = dReach at FReach bReach
  have mReach := PySem.W.mg_of X G aReach
  have FLBef := fun_mk (st := sLBef) lLBef cLBef kLBef
  have bLBef := FLBef.binds (ps := ["_law_reach_here", "_law_one", "_law_other"]) fun _ _ _ _ _ _ us hl => match us, hl with | [_, _, _], _ => rfl
  generalize PySem.W.fnOf "_law_before" "_law_before" (defArgs sLBef) (defBody sLBef) (defScope sLBef) .none kVLBef dcLBef pmLBef anLBef cdLBef ctLBef = dLBef at FLBef bLBef
  have mLBef := PySem.W.mg_of X G aLBef
  have FLStr := fun_mk (st := sLStr) lLStr cLStr kLStr
  have bLStr := FLStr.binds (ps := ["_law_reach_here", "_law_one", "_law_other"]) fun _ _ _ _ _ _ us hl => match us, hl with | [_, _, _], _ => rfl
  generalize PySem.W.fnOf "_law_strictly" "_law_strictly" (defArgs sLStr) (defBody sLStr) (defScope sLStr) .none kVLStr dcLStr pmLStr anLStr cdLStr ctLStr = dLStr at FLStr bLStr
  have mLStr := PySem.W.mg_of X G aLStr
  have FBlocks := fun_mk (st := sBlocks) lBlocks cBlocks kBlocks
  have bBlocks := FBlocks.binds (ps := ["_law_reach_here", "_law_present"]) fun _ _ _ _ _ _ us hl => match us, hl with | [_, _], _ => rfl
  generalize PySem.W.fnOf "_law_blocks" "_law_blocks" (defArgs sBlocks) (defBody sBlocks) (defScope sBlocks) .none kVBlocks dcBlocks pmBlocks anBlocks cdBlocks ctBlocks = dBlocks at FBlocks bBlocks
  have mBlocks := PySem.W.mg_of X G aBlocks
  have FLOrd := fun_mk (st := sLOrd) lLOrd cLOrd kLOrd
  have bLOrd := FLOrd.binds (ps := ["_law_reach_here", "_law_block"]) fun _ _ _ _ _ _ us hl => match us, hl with | [_, _], _ => rfl
  generalize PySem.W.fnOf "_law_orders" "_law_orders" (defArgs sLOrd) (defBody sLOrd) (defScope sLOrd) .none kVLOrd dcLOrd pmLOrd anLOrd cdLOrd ctLOrd = dLOrd at FLOrd bLOrd
  have mLOrd := PySem.W.mg_of X G aLOrd
  have FLJmp := fun_mk (st := sLJmp) lLJmp cLJmp kLJmp
  have bLJmp := FLJmp.binds (ps := ["_law_reach_here", "_law_order"]) fun _ _ _ _ _ _ us hl => match us, hl with | [_, _], _ => rfl
  generalize PySem.W.fnOf "_law_jumps" "_law_jumps" (defArgs sLJmp) (defBody sLJmp) (defScope sLJmp) .none kVLJmp dcLJmp pmLJmp anLJmp cdLJmp ctLJmp = dLJmp at FLJmp bLJmp
  have mLJmp := PySem.W.mg_of X G aLJmp
  have FLCir := fun_mk (st := sLCir) lLCir cLCir kLCir
  have bLCir := FLCir.binds (ps := ["_law_reach_here", "_law_block"]) fun _ _ _ _ _ _ us hl => match us, hl with | [_, _], _ => rfl
  generalize PySem.W.fnOf "_law_circle" "_law_circle" (defArgs sLCir) (defBody sLCir) (defScope sLCir) .none kVLCir dcLCir pmLCir anLCir cdLCir ctLCir = dLCir at FLCir bLCir
  have mLCir := PySem.W.mg_of X G aLCir
  have FLBst := fun_mk (st := sLBst) lLBst cLBst kLBst
  have bLBst := FLBst.binds (ps := ["_law_reach_here", "_law_block"]) fun _ _ _ _ _ _ us hl => match us, hl with | [_, _], _ => rfl
  generalize PySem.W.fnOf "_law_best" "_law_best" (defArgs sLBst) (defBody sLBst) (defScope sLBst) .none kVLBst dcLBst pmLBst anLBst cdLBst ctLBst = dLBst at FLBst bLBst
  have mLBst := PySem.W.mg_of X G aLBst
  have FLPot := fun_mk (st := sLPot) lLPot cLPot kLPot
  have bLPot := FLPot.binds (ps := ["_law_reach_here", "_law_block"]) fun _ _ _ _ _ _ us hl => match us, hl with | [_, _], _ => rfl
  generalize PySem.W.fnOf "_law_potentials" "_law_potentials" (defArgs sLPot) (defBody sLPot) (defScope sLPot) .none kVLPot dcLPot pmLPot anLPot cdLPot ctLPot = dLPot at FLPot bLPot
  have mLPot := PySem.W.mg_of X G aLPot
  have FLRgt := fun_mk (st := sLRgt) lLRgt cLRgt kLRgt
  have bLRgt := FLRgt.binds (ps := ["_law_reach_here", "_law_block", "_law_rows", "_law_count"]) fun _ _ _ _ _ _ us hl => match us, hl with | [_, _, _, _], _ => rfl
  generalize PySem.W.fnOf "_law_right" "_law_right" (defArgs sLRgt) (defBody sLRgt) (defScope sLRgt) .none kVLRgt dcLRgt pmLRgt anLRgt cdLRgt ctLRgt = dLRgt at FLRgt bLRgt
  have mLRgt := PySem.W.mg_of X G aLRgt
  have FTurned := fun_mk (st := sTurned) lTurned cTurned kTurned
  have bTurned := FTurned.binds (ps := ["_law_state_here", "_law_rows"]) fun _ _ _ _ _ _ us hl => match us, hl with | [_, _], _ => rfl
  generalize PySem.W.fnOf "_law_turned" "_law_turned" (defArgs sTurned) (defBody sTurned) (defScope sTurned) .none kVTurned dcTurned pmTurned anTurned cdTurned ctTurned = dTurned at FTurned bTurned
  have mTurned := PySem.W.mg_of X G aTurned
  have FLaw := fun_mk (st := sLaw) lLaw cLaw kLaw
  have bLaw := FLaw.binds (ps := ["_law_script"]) fun _ _ _ _ _ _ us hl => match us, hl with | [_], _ => rfl
  have mLaw := PySem.W.mg_of X G aLaw
  have FSInit := fun_mk (st := sSInit) lSInit cSInit kSInit
  have bSInit := FSInit.binds (ps := ["self", "graph"]) fun _ _ _ _ _ _ us hl => match us, hl with | [_, _], _ => rfl
  generalize PySem.W.fnOf "__init__" "Settler.__init__" (defArgs sSInit) (defBody sSInit) (defScope sSInit) .none kVSInit dcSInit pmSInit anSInit cdSInit ctSInit = dSInit at FSInit bSInit
  have FFewest := fun_mk (st := sFewest) lFewest cFewest kFewest
  have bFewest := FFewest.binds (ps := ["self", "left", "last"]) fun _ _ _ _ _ _ us hl => match us, hl with | [_, _, _], _ => rfl
  generalize PySem.W.fnOf "fewest" "Settler.fewest" (defArgs sFewest) (defBody sFewest) (defScope sFewest) .none kVFewest dcFewest pmFewest anFewest cdFewest ctFewest = dFewest at FFewest bFewest
  have FStarts := fun_mk (st := sStarts) lStarts cStarts kStarts
  have bStarts := FStarts.binds (ps := ["self", "block"]) fun _ _ _ _ _ _ us hl => match us, hl with | [_, _], _ => rfl
  generalize PySem.W.fnOf "starts" "Settler.starts" (defArgs sStarts) (defBody sStarts) (defScope sStarts) .none kVStarts dcStarts pmStarts anStarts cdStarts ctStarts = dStarts at FStarts bStarts
  have FGInit := fun_mk (st := sGInit) lGInit cGInit kGInit
  have bGInit := FGInit.binds (ps := ["self", "lines", "present", "edges"]) fun _ _ _ _ _ _ us hl => match us, hl with | [_, _, _, _], _ => rfl
  generalize PySem.W.fnOf "__init__" "FileGraph.__init__" (defArgs sGInit) (defBody sGInit) (defScope sGInit) .none kVGInit dcGInit pmGInit anGInit cdGInit ctGInit = dGInit at FGInit bGInit
  have FBehind := fun_mk (st := sBehind) lBehind cBehind kBehind
  have bBehind := FBehind.binds (ps := ["self", "vertex"]) fun _ _ _ _ _ _ us hl => match us, hl with | [_, _], _ => rfl
  generalize PySem.W.fnOf "behind" "FileGraph.behind" (defArgs sBehind) (defBody sBehind) (defScope sBehind) .none kVBehind dcBehind pmBehind anBehind cdBehind ctBehind = dBehind at FBehind bBehind
  have FBefore := fun_mk (st := sBefore) lBefore cBefore kBefore
  have bBefore := FBefore.binds (ps := ["self", "one", "other"]) fun _ _ _ _ _ _ us hl => match us, hl with | [_, _, _], _ => rfl
  generalize PySem.W.fnOf "before" "FileGraph.before" (defArgs sBefore) (defBody sBefore) (defScope sBefore) .none kVBefore dcBefore pmBefore anBefore cdBefore ctBefore = dBefore at FBefore bBefore
  have FStrictly := fun_mk (st := sStrictly) lStrictly cStrictly kStrictly
  have bStrictly := FStrictly.binds (ps := ["self", "one", "other"]) fun _ _ _ _ _ _ us hl => match us, hl with | [_, _, _], _ => rfl
  generalize PySem.W.fnOf "strictly" "FileGraph.strictly" (defArgs sStrictly) (defBody sStrictly) (defScope sStrictly) .none kVStrictly dcStrictly pmStrictly anStrictly cdStrictly ctStrictly = dStrictly at FStrictly bStrictly
  refine ⟨PySem.W.fnOf "law" "law" (defArgs sLaw) (defBody sLaw) (defScope sLaw) .none kVLaw dcLaw pmLaw anLaw cdLaw ctLaw, fun s v => .of_eq rfl, fun base _ _ => ?_⟩
  have tg : ∀ G : GCI w Cg, GTx K G.1.C := fun G => by rw [G.2.2]; exact TG
  have kBehind : ∀ G : GCI w Cg, KnM l.prog w K mg base G.1.C "behind" 1 fBehind dBehind ["self", "vertex"] (spBehind G.1) := fun G => ⟨ok_behind G.2.1 FBehind (tg G) B, by rw [G.2.2]; exact ⟨aBehind, iBehind, kBehind⟩, bBehind⟩
  have kBefore : ∀ G : GCI w Cg, KnM l.prog w K mg base G.1.C "before" 2 fBefore dBefore ["self", "one", "other"] (spBefore G.1) := fun G => ⟨ok_before G.2.1 FBefore (tg G) (kBehind G), by rw [G.2.2]; exact ⟨aBefore, iBefore, kBefore⟩, bBefore⟩
  have kStrictly : ∀ G : GCI w Cg, KnM l.prog w K mg base G.1.C "strictly" 3 fStrictly dStrictly ["self", "one", "other"] (spStrictly G.1) := fun G => ⟨ok_strictly G.2.1 FStrictly (tg G) (kBefore G), by rw [G.2.2]; exact ⟨aStrictly, iStrictly, kStrictly⟩, bStrictly⟩
  have nFree : ∀ G : GCI w Cg, Kn l.prog w K mg base "free_lines" 4 fFree dFree ["graph", "left"] (spFree G.1) := fun G => ⟨ok_free G.2.1 FFree (tg G) B (kStrictly G), mFree, kFree, bFree⟩
  have nJump : ∀ G : GCI w Cg, Kn l.prog w K mg base "jump" 4 fJump dJump ["graph", "one", "other"] (spJump G.1) := fun G => ⟨ok_jump G.2.1 FJump (tg G) (kStrictly G), mJump, kJump, bJump⟩
  have sStart : ∀ (G : GCI w Cg) (c : SCI G.1 Cs), FnOk l.prog w K mg base CX0 13 fStarts dStarts ["self", "block"] (spStarts c.1) := by
    rintro G ⟨c, h1, h2⟩
    have hw : c.G.w = w := by rw [h1]; exact G.2.1
    have ts : STx K c.C := by rw [h2]; exact TS
    have nf := nFree G
    have nj := nJump G
    rw [← h1] at nf nj
    have few : KnM l.prog w K mg base c.C "fewest" 12 fFewest dFewest ["self", "left", "last"] (spFewest c 7) := by
      have m : Meth K c.C "fewest" fFewest := by rw [h2]; exact ⟨aFewest, iFewest, kFewest⟩
      exact ⟨ok_fewest hw FFewest ts B m bFewest nf nj 7, m, bFewest⟩
    exact ok_starts hw FStarts ts B nf few
  have nPot : Kn l.prog w K mg base "potentials" 14 fPot dPot ["graph", "block"] (spU w Cg spPot) :=
    ⟨fn_any fun G => ok_pot G.2.1 FPot TS B (PySem.W.mg_of X ‹_› nCs) ⟨mkCs, aSInit, iSInit, kcCs⟩ (ok_sinit (c := ⟨G.1, [], Cs, 0, 0⟩) G.2.1 FSInit TS) bSInit ⟨fn_any (sStart G), ⟨aStarts, iStarts, kStarts⟩, bStarts⟩, mPot, kPot, bPot⟩
  have nRight : Kn l.prog w K mg base "potentials_right" 5 fRight dRight ["graph", "block", "rows", "count"] (spU w Cg spRight) := ⟨fn_any fun G => ok_right G.2.1 FRight B (nFree G) (nJump G), mRight, kRight, bRight⟩
  have nLBef : ∀ G : GCI w Cg, Kn l.prog w K mg base "_law_before" 1 fLBef dLBef pN (spLBef G.1) := fun G => ⟨ok_lbef G.2.1 FLBef, mLBef, kLBef, bLBef⟩
  have nLStr : ∀ G : GCI w Cg, Kn l.prog w K mg base "_law_strictly" 2 fLStr dLStr pN (spLStr G.1) := fun G => ⟨ok_lstr G.2.1 FLStr (nLBef G), mLStr, kLStr, bLStr⟩
  have nLJmp : ∀ G : GCI w Cg, Kn l.prog w K mg base "_law_jumps" 3 fLJmp dLJmp ["_law_reach_here", "_law_order"] (spLJmp G.1) := fun G => ⟨ok_ljmp G.2.1 FLJmp B (nLStr G), mLJmp, kLJmp, bLJmp⟩
  have nLOrd : ∀ G : GCI w Cg, Kn l.prog w K mg base "_law_orders" 3 fLOrd dLOrd ["_law_reach_here", "_law_block"] (spLOrd G.1) := fun G => ⟨ok_lord G.2.1 FLOrd B (nLStr G), mLOrd, kLOrd, bLOrd⟩
  have nDraw : Kn l.prog w K mg base "_law_draw" 1 fDraw dDraw ["_law_state_here", "_law_many"] spDraw := ⟨ok_draw FDraw B, mDraw, kDraw, bDraw⟩
  have nPick : Kn l.prog w K mg base "_law_pick" 2 fPick dPick ["_law_state_here", "_law_row"] spPick := ⟨ok_pick FPick B nDraw, mPick, kPick, bPick⟩
  exact ok_law FLaw B TG {
    mI := ⟨mkCg, aGInit, iGInit, kcCg⟩
    mC := PySem.W.mg_of X ‹_› nCg
    ini := ok_ginit FGInit TG
    bI := bGInit
    st := ⟨ok_state FState B, mState, kState, bState⟩
    dr := nDraw
    gr := ⟨ok_graph FGraph B nDraw nPick, mGraph, kGraph, bGraph⟩
    ed := ⟨ok_edges FEdges B, mEdges, kEdges, bEdges⟩
    re := ⟨fn_any fun G => ok_reach G.2.1 FReach B, mReach, kReach, bReach⟩
    bl := ⟨fn_any fun G => ok_blocks G.2.1 FBlocks B (nLStr G), mBlocks, kBlocks, bBlocks⟩
    ci := ⟨fn_any fun G => ok_lcir G.2.1 FLCir (nLBef G), mLCir, kLCir, bLCir⟩
    jm := ⟨fn_any fun G => (nLJmp G).ok, mLJmp, kLJmp, bLJmp⟩
    bs := ⟨fn_any fun G => ok_lbst G.2.1 FLBst (nLOrd G) (nLJmp G), mLBst, kLBst, bLBst⟩
    po := nPot
    lp := ⟨fn_any fun G => ok_lpot G.2.1 FLPot B (nLOrd G) (nLJmp G), mLPot, kLPot, bLPot⟩
    ri := nRight
    lr := ⟨fn_any fun G => ok_lrgt G.2.1 FLRgt B (nLStr G), mLRgt, kLRgt, bLRgt⟩
    tu := ⟨ok_turned FTurned B nDraw nPick, mTurned, kTurned, bTurned⟩ }
end QW
end
set_option Elab.async false
open PySem PySem.W PyProof.Rows
set_option maxRecDepth 100000 in
set_option maxHeartbeats 0 in
theorem PySem.Challenge.cw_quiltward_k46_whole_potentials_show_that_holds : PySem.Challenge.rw_quiltward_k46_whole_potentials_show_that.Holds := by
  w_on; o_law; k_head; (case hw => w_witness2)
  k_fill
  refine QW.walkG (l := PySem.Challenge.rw_quiltward_k46_whole_potentials_show_that) (k := 15) (x := "_law_script") (sp := fun w => QW.spLaw _) rfl rfl ⟨rfl, by decide, by decide⟩ (fun w h Y => PySem.W.kIn_of Y) ?F (fun w H a ns hl hS => ⟨a, ns, rfl, hS, hl, fun _ => rfl⟩)
  case F =>
    intro w mg fa h KX G hmg
    refine' QW.all_facts KX G hmg ?nCs ?pgCs ?hdCs ?poCs ?saCs ?mkCs ?kcCs ?nCg ?pgCg ?hdCg ?poCg ?saCg ?mkCg ?kcCg ?aFree ?lFree ?cFree ?kFree ?aJump ?lJump ?cJump ?kJump ?aPot ?lPot ?cPot ?kPot ?aRight ?lRight ?cRight ?kRight ?aState ?lState ?cState ?kState ?aDraw ?lDraw ?cDraw ?kDraw ?aPick ?lPick ?cPick ?kPick ?aGraph ?lGraph ?cGraph ?kGraph ?aEdges ?lEdges ?cEdges ?kEdges ?aReach ?lReach ?cReach ?kReach ?aLBef ?lLBef ?cLBef ?kLBef ?aLStr ?lLStr ?cLStr ?kLStr ?aBlocks ?lBlocks ?cBlocks ?kBlocks ?aLOrd ?lLOrd ?cLOrd ?kLOrd ?aLJmp ?lLJmp ?cLJmp ?kLJmp ?aLCir ?lLCir ?cLCir ?kLCir ?aLBst ?lLBst ?cLBst ?kLBst ?aLPot ?lLPot ?cLPot ?kLPot ?aLRgt ?lLRgt ?cLRgt ?kLRgt ?aTurned ?lTurned ?cTurned ?kTurned ?aLaw ?lLaw ?cLaw ?kLaw ?aSInit ?iSInit ?lSInit ?cSInit ?kSInit ?aFewest ?iFewest ?lFewest ?cFewest ?kFewest ?aStarts ?iStarts ?lStarts ?cStarts ?kStarts ?aGInit ?iGInit ?lGInit ?cGInit ?kGInit ?aBehind ?iBehind ?lBehind ?cBehind ?kBehind ?aBefore ?iBefore ?lBefore ?cBefore ?kBefore ?aStrictly ?iStrictly ?lStrictly ?cStrictly ?kStrictly ?noCsgraph ?noCsknown ?noCglines ?noCgpresent ?noCgedges ?noCgknown ?zlen ?zsorted ?zlist ?ztuple ?zrange ?zmin ?zmax ?zabs ?zint ?zrepr
    (case nCs => k_is); (case pgCs => k_is); (case hdCs => k_is); (case poCs => k_is); (case saCs => k_is); (case mkCs => k_is)
    (case kcCs => k_is); (case nCg => k_is); (case pgCg => k_is); (case hdCg => k_is); (case poCg => k_is); (case saCg => k_is)
    (case mkCg => k_is); (case kcCg => k_is); (case aFree => k_is); (case lFree => k_is); (case cFree => k_is); (case kFree => k_is)
    (case aJump => k_is); (case lJump => k_is); (case cJump => k_is); (case kJump => k_is); (case aPot => k_is); (case lPot => k_is)
    (case cPot => k_is); (case kPot => k_is); (case aRight => k_is); (case lRight => k_is); (case cRight => k_is); (case kRight => k_is)
    (case aState => k_is); (case lState => k_is); (case cState => k_is); (case kState => k_is); (case aDraw => k_is); (case lDraw => k_is)
    (case cDraw => k_is); (case kDraw => k_is); (case aPick => k_is); (case lPick => k_is); (case cPick => k_is); (case kPick => k_is)
    (case aGraph => k_is); (case lGraph => k_is); (case cGraph => k_is); (case kGraph => k_is); (case aEdges => k_is); (case lEdges => k_is)
    (case cEdges => k_is); (case kEdges => k_is); (case aReach => k_is); (case lReach => k_is); (case cReach => k_is); (case kReach => k_is)
    (case aLBef => k_is); (case lLBef => k_is); (case cLBef => k_is); (case kLBef => k_is); (case aLStr => k_is); (case lLStr => k_is)
    (case cLStr => k_is); (case kLStr => k_is); (case aBlocks => k_is); (case lBlocks => k_is); (case cBlocks => k_is); (case kBlocks => k_is)
    (case aLOrd => k_is); (case lLOrd => k_is); (case cLOrd => k_is); (case kLOrd => k_is); (case aLJmp => k_is); (case lLJmp => k_is)
    (case cLJmp => k_is); (case kLJmp => k_is); (case aLCir => k_is); (case lLCir => k_is); (case cLCir => k_is); (case kLCir => k_is)
    (case aLBst => k_is); (case lLBst => k_is); (case cLBst => k_is); (case kLBst => k_is); (case aLPot => k_is); (case lLPot => k_is)
    (case cLPot => k_is); (case kLPot => k_is); (case aLRgt => k_is); (case lLRgt => k_is); (case cLRgt => k_is); (case kLRgt => k_is)
    (case aTurned => k_is); (case lTurned => k_is); (case cTurned => k_is); (case kTurned => k_is); (case aLaw => k_is); (case lLaw => k_is)
    (case cLaw => k_is); (case kLaw => k_is); (case aSInit => k_is); (case iSInit => k_is); (case lSInit => k_is); (case cSInit => k_is)
    (case kSInit => k_is); (case aFewest => k_is); (case iFewest => k_is); (case lFewest => k_is); (case cFewest => k_is); (case kFewest => k_is)
    (case aStarts => k_is); (case iStarts => k_is); (case lStarts => k_is); (case cStarts => k_is); (case kStarts => k_is); (case aGInit => k_is)
    (case iGInit => k_is); (case lGInit => k_is); (case cGInit => k_is); (case kGInit => k_is); (case aBehind => k_is); (case iBehind => k_is)
    (case lBehind => k_is); (case cBehind => k_is); (case kBehind => k_is); (case aBefore => k_is); (case iBefore => k_is); (case lBefore => k_is)
    (case cBefore => k_is); (case kBefore => k_is); (case aStrictly => k_is); (case iStrictly => k_is); (case lStrictly => k_is); (case cStrictly => k_is)
    (case kStrictly => k_is); (case noCsgraph => k_is); (case noCsknown => k_is); (case noCglines => k_is); (case noCgpresent => k_is); (case noCgedges => k_is)
    (case noCgknown => k_is); (case zlen => k_is); (case zsorted => k_is); (case zlist => k_is); (case ztuple => k_is); (case zrange => k_is)
    (case zmin => k_is); (case zmax => k_is); (case zabs => k_is); (case zint => k_is); (case zrepr => k_is)
