import PyProof.Rows.All
import Wide.All
import OpenK.AllK
import Wide.FinOn
import HandS.ForMost
import HandS.Set
import HandS.SetFor
import HandS.SetKeys
import HandS.Strs
import HandS.Conv
import HandS.DictComp
import HandS.Codes
import HandS.IsInst
import HandS.RevRange
import PySem.Challenge.RW_countsworn_k33_nodes_that_are_reached
set_option Elab.async false
set_option linter.all false
set_option maxRecDepth 100000
set_option maxHeartbeats 4000000
/-! The plain law: rules, what they name, what is reached. No program here. -/
namespace K33
open PySem PySem.Spec PyProof.Rows L2

/-- a rule as the law draws it: one of five leaves, or one with children -/
inductive Rl where
  | lf (j : Nat)
  | unit (a : Nat)
  | choice (a b : Nat)
  | parts (row : List Nat)
  | more (a : Nat)
  | less (a : Nat)

def Rl.kids : Rl → List Nat
  | .lf _ => []
  | .unit a => [a]
  | .choice a b => [a, b]
  | .parts row => row
  | .more a => [a]
  | .less a => [a]
def lfW : Nat → Str
  | 0 => "yes"
  | 1 => "no"
  | 2 => "open"
  | 3 => "refuted"
  | _ => "some"
def lfR : Nat → List PyData
  | 0 => []
  | 1 => []
  | 2 => []
  | 3 => [.tuple [.tuple []]]
  | _ => [.tuple [.int (-3), .int 4]]
def Rl.word : Rl → Str
  | .lf j => lfW j
  | .unit _ => "unit"
  | .choice _ _ => "choice"
  | .parts _ => "parts"
  | .more _ => "more"
  | .less _ => "less"
def nD (n : Nat) : PyData := .int (n : Int)
def Rl.tl : Rl → List PyData
  | .lf j => lfR j
  | .unit a => [.int (-7), nD a]
  | .choice a b => [.int 5, nD a, nD b]
  | .parts row => [.tuple (row.map nD)]
  | .more a => [.tuple [.int 1, .int 2], nD a]
  | .less a => [nD a]
def Rl.dat (r : Rl) : PyData := .tuple (.str r.word :: r.tl)
def Rl.ren (f : Nat → Nat) : Rl → Rl
  | .lf j => .lf j
  | .unit a => .unit (f a)
  | .choice a b => .choice (f a) (f b)
  | .parts row => .parts (row.map f)
  | .more a => .more (f a)
  | .less a => .less (f a)
theorem Rl.ren_word (f : Nat → Nat) (r : Rl) : (r.ren f).word = r.word := by cases r <;> rfl
theorem Rl.ren_kids (f : Nat → Nat) (r : Rl) : (r.ren f).kids = r.kids.map f := by cases r <;> rfl

/-! ### the words -/
theorem lfW_in (j : Nat) : lfW j = "yes" ∨ lfW j = "no" ∨ lfW j = "open" ∨ lfW j = "refuted" ∨ lfW j = "some" := by
  match j with
  | 0 => exact .inl rfl
  | 1 => exact .inr (.inl rfl)
  | 2 => exact .inr (.inr (.inl rfl))
  | 3 => exact .inr (.inr (.inr (.inl rfl)))
  | _ + 4 => exact .inr (.inr (.inr (.inr rfl)))
def ten : List Str := ["choice", "less", "more", "no", "open", "parts", "refuted", "some", "unit", "yes"]
theorem lfW_no (j : Nat) {w : Str} (h1 : ¬ ("yes" : Str) = w) (h2 : ¬ ("no" : Str) = w) (h3 : ¬ ("open" : Str) = w) (h4 : ¬ ("refuted" : Str) = w) (h5 : ¬ ("some" : Str) = w) : ¬ lfW j = w := by
  rcases lfW_in j with e | e | e | e | e <;> (rw [e]; assumption)
theorem word_ten (r : Rl) : r.word ∈ ten := by
  cases r with
  | lf j =>
    show lfW j ∈ ten
    rcases lfW_in j with e | e | e | e | e <;> (rw [e]; unfold ten; simp)
  | unit a => show ("unit" : Str) ∈ ten; unfold ten; simp
  | choice a b => show ("choice" : Str) ∈ ten; unfold ten; simp
  | parts row => show ("parts" : Str) ∈ ten; unfold ten; simp
  | more a => show ("more" : Str) ∈ ten; unfold ten; simp
  | less a => show ("less" : Str) ∈ ten; unfold ten; simp
theorem w_unit {r : Rl} (h : r.word = "unit") : ∃ a, r = .unit a := by
  cases r with
  | unit a => exact ⟨a, rfl⟩
  | lf j => exact absurd h (lfW_no j (by decide +kernel) (by decide +kernel) (by decide +kernel) (by decide +kernel) (by decide +kernel))
  | choice a b => exact absurd (show ("choice" : Str) = "unit" from h) (by decide +kernel)
  | parts row => exact absurd (show ("parts" : Str) = "unit" from h) (by decide +kernel)
  | more a => exact absurd (show ("more" : Str) = "unit" from h) (by decide +kernel)
  | less a => exact absurd (show ("less" : Str) = "unit" from h) (by decide +kernel)
theorem w_more {r : Rl} (h : r.word = "more") : ∃ a, r = .more a := by
  cases r with
  | more a => exact ⟨a, rfl⟩
  | lf j => exact absurd h (lfW_no j (by decide +kernel) (by decide +kernel) (by decide +kernel) (by decide +kernel) (by decide +kernel))
  | choice a b => exact absurd (show ("choice" : Str) = "more" from h) (by decide +kernel)
  | parts row => exact absurd (show ("parts" : Str) = "more" from h) (by decide +kernel)
  | unit a => exact absurd (show ("unit" : Str) = "more" from h) (by decide +kernel)
  | less a => exact absurd (show ("less" : Str) = "more" from h) (by decide +kernel)
theorem w_choice {r : Rl} (h : r.word = "choice") : ∃ a b, r = .choice a b := by
  cases r with
  | choice a b => exact ⟨a, b, rfl⟩
  | lf j => exact absurd h (lfW_no j (by decide +kernel) (by decide +kernel) (by decide +kernel) (by decide +kernel) (by decide +kernel))
  | more a => exact absurd (show ("more" : Str) = "choice" from h) (by decide +kernel)
  | parts row => exact absurd (show ("parts" : Str) = "choice" from h) (by decide +kernel)
  | unit a => exact absurd (show ("unit" : Str) = "choice" from h) (by decide +kernel)
  | less a => exact absurd (show ("less" : Str) = "choice" from h) (by decide +kernel)
theorem w_parts {r : Rl} (h : r.word = "parts") : ∃ row, r = .parts row := by
  cases r with
  | parts row => exact ⟨row, rfl⟩
  | lf j => exact absurd h (lfW_no j (by decide +kernel) (by decide +kernel) (by decide +kernel) (by decide +kernel) (by decide +kernel))
  | more a => exact absurd (show ("more" : Str) = "parts" from h) (by decide +kernel)
  | choice a b => exact absurd (show ("choice" : Str) = "parts" from h) (by decide +kernel)
  | unit a => exact absurd (show ("unit" : Str) = "parts" from h) (by decide +kernel)
  | less a => exact absurd (show ("less" : Str) = "parts" from h) (by decide +kernel)
theorem w_less {r : Rl} (h : r.word = "less") : ∃ a, r = .less a := by
  cases r with
  | less a => exact ⟨a, rfl⟩
  | lf j => exact absurd h (lfW_no j (by decide +kernel) (by decide +kernel) (by decide +kernel) (by decide +kernel) (by decide +kernel))
  | more a => exact absurd (show ("more" : Str) = "less" from h) (by decide +kernel)
  | choice a b => exact absurd (show ("choice" : Str) = "less" from h) (by decide +kernel)
  | unit a => exact absurd (show ("unit" : Str) = "less" from h) (by decide +kernel)
  | parts row => exact absurd (show ("parts" : Str) = "less" from h) (by decide +kernel)
theorem w_leaf {r : Rl} (h1 : ¬ r.word = "unit") (h2 : ¬ r.word = "more") (h3 : ¬ r.word = "choice") (h4 : ¬ r.word = "parts") (h5 : ¬ r.word = "less") : ∃ j, r = .lf j := by
  cases r with
  | lf j => exact ⟨j, rfl⟩
  | unit a => exact absurd rfl h1
  | more a => exact absurd rfl h2
  | choice a b => exact absurd rfl h3
  | parts row => exact absurd rfl h4
  | less a => exact absurd rfl h5

/-! ### what is reached -/
def kidsOf (rs : List Rl) (k : Nat) : List Nat := match rs[k]? with
  | some r => r.kids
  | none => []
theorem kidsOf_at {rs : List Rl} {k : Nat} {r : Rl} (h : rs[k]? = some r) : kidsOf rs k = r.kids := by
  unfold kidsOf
  rw [h]
theorem kidsOf_out {rs : List Rl} {k : Nat} (h : rs.length ≤ k) : kidsOf rs k = [] := by
  unfold kidsOf
  rw [List.getElem?_eq_none h]
inductive Rch (rs : List Rl) : Nat → Prop
  | root : Rch rs (rs.length - 1)
  | kid {k m : Nat} : Rch rs k → m ∈ kidsOf rs k → Rch rs m
/-- children below their node -/
def Low (rs : List Rl) : Prop := ∀ k m, m ∈ kidsOf rs k → m < k
theorem Rch.lt {rs : List Rl} (hl : Low rs) (h0 : 0 < rs.length) {m : Nat} (h : Rch rs m) : m < rs.length := by
  induction h with
  | root => omega
  | kid _ hm ih =>
    have := hl _ _ hm
    omega
/-- named by the numbers from j on -/
def Aft (rs : List Rl) (j m : Nat) : Prop := m = rs.length - 1 ∨ ∃ k, j ≤ k ∧ Rch rs k ∧ m ∈ kidsOf rs k
theorem aft_end {rs : List Rl} {m : Nat} : Aft rs rs.length m ↔ m = rs.length - 1 := by
  constructor
  · rintro (h | ⟨k, hk, _, hm⟩)
    · exact h
    · rw [kidsOf_out hk] at hm
      cases hm
  · exact .inl
theorem aft_zero {rs : List Rl} {m : Nat} : Aft rs 0 m ↔ Rch rs m := by
  constructor
  · rintro (h | ⟨k, _, hk, hm⟩)
    · rw [h]
      exact .root
    · exact .kid hk hm
  · intro h
    cases h with
    | root => exact .inl rfl
    | kid hk hm => exact .inr ⟨_, Nat.zero_le _, hk, hm⟩
theorem aft_at {rs : List Rl} (hl : Low rs) {j : Nat} : Aft rs (j + 1) j ↔ Rch rs j := by
  constructor
  · rintro (h | ⟨k, _, hk, hm⟩)
    · rw [h]
      exact .root
    · exact .kid hk hm
  · intro h
    cases h with
    | root => exact .inl rfl
    | kid hk hm =>
      have := hl _ _ hm
      exact .inr ⟨_, this, hk, hm⟩
theorem aft_step {rs : List Rl} {j m : Nat} : Aft rs j m ↔ Aft rs (j + 1) m ∨ (Rch rs j ∧ m ∈ kidsOf rs j) := by
  constructor
  · rintro (h | ⟨k, hk, hr, hm⟩)
    · exact .inl (.inl h)
    · by_cases e : k = j
      · rw [e] at hr hm
        exact .inr ⟨hr, hm⟩
      · exact .inl (.inr ⟨k, by omega, hr, hm⟩)
  · rintro ((h | ⟨k, hk, hr, hm⟩) | ⟨hr, hm⟩)
    · exact .inl h
    · exact .inr ⟨k, by omega, hr, hm⟩
    · exact .inr ⟨j, Nat.le_refl _, hr, hm⟩
theorem aft_skip {rs : List Rl} (hl : Low rs) {j m : Nat} (hj : ¬ Aft rs (j + 1) j) : Aft rs j m ↔ Aft rs (j + 1) m := by
  rw [aft_step]
  constructor
  · rintro (h | ⟨h, _⟩)
    · exact h
    · exact absurd ((aft_at hl).mpr h) hj
  · exact .inl
theorem aft_take {rs : List Rl} (hl : Low rs) {j m : Nat} (hj : Aft rs (j + 1) j) : Aft rs j m ↔ Aft rs (j + 1) m ∨ m ∈ kidsOf rs j := by
  rw [aft_step]
  have h := (aft_at hl).mp hj
  constructor
  · rintro (q | ⟨_, q⟩)
    · exact .inl q
    · exact .inr q
  · rintro (q | q)
    · exact .inl q
    · exact .inr ⟨h, q⟩

noncomputable def reach (rs : List Rl) : List Nat := (List.range rs.length).filter fun m => @decide (Rch rs m) (Classical.propDecidable _)
theorem dec_iff {p : Prop} : @decide p (Classical.propDecidable p) = true ↔ p := @decide_eq_true_iff p (Classical.propDecidable p)
theorem mem_reach {rs : List Rl} (hl : Low rs) (h0 : 0 < rs.length) {m : Nat} : m ∈ reach rs ↔ Rch rs m := by
  unfold reach
  rw [List.mem_filter, List.mem_range]
  constructor
  · rintro ⟨_, h⟩
    exact dec_iff.mp h
  · exact fun h => ⟨h.lt hl h0, dec_iff.mpr h⟩
theorem range_up (n : Nat) : (List.range n).Pairwise (· < ·) := List.pairwise_lt_range
theorem reach_up (rs : List Rl) : (reach rs).Pairwise (· < ·) := List.Pairwise.filter _ (range_up _)
theorem reach_lt {rs : List Rl} {m : Nat} (h : m ∈ reach rs) : m < rs.length := List.mem_range.mp (List.mem_filter.mp h).1
theorem reach_len (rs : List Rl) : (reach rs).length ≤ rs.length := by
  have h := List.length_filter_le (fun m => @decide (Rch rs m) (Classical.propDecidable _)) (List.range rs.length)
  rw [List.length_range] at h
  exact h
/-- two rising lists with the same members are one -/
theorem up_same : ∀ {a b : List Int}, a.Pairwise (· < ·) → b.Pairwise (· < ·) → (∀ z, z ∈ a ↔ z ∈ b) → a = b
  | [], [], _, _, _ => rfl
  | [], y :: b, _, _, h => absurd ((h y).mpr List.mem_cons_self) (by simp)
  | x :: a, [], _, _, h => absurd ((h x).mp List.mem_cons_self) (by simp)
  | x :: a, y :: b, ha, hb, h => by
    obtain ⟨ha1, ha2⟩ := List.pairwise_cons.mp ha
    obtain ⟨hb1, hb2⟩ := List.pairwise_cons.mp hb
    have exy : x = y := by
      rcases List.mem_cons.mp ((h x).mp List.mem_cons_self) with e | e
      · exact e
      · rcases List.mem_cons.mp ((h y).mpr List.mem_cons_self) with e2 | e2
        · exact e2.symm
        · have h1 := hb1 x e
          have h2 := ha1 y e2
          omega
    subst exy
    have hab : ∀ z, z ∈ a ↔ z ∈ b := fun z => by
      constructor
      · intro hz
        rcases List.mem_cons.mp ((h z).mp (List.mem_cons_of_mem _ hz)) with e | e
        · have := ha1 z hz
          omega
        · exact e
      · intro hz
        rcases List.mem_cons.mp ((h z).mpr (List.mem_cons_of_mem _ hz)) with e | e
        · have := hb1 z hz
          omega
        · exact e
    rw [up_same ha2 hb2 hab]
def zs (l : List Nat) : List Int := List.map (fun (n : Nat) => (n : Int)) l
theorem zs_up {l : List Nat} (h : l.Pairwise (· < ·)) : (zs l).Pairwise (· < ·) := by
  unfold zs
  rw [List.pairwise_map]
  exact h.imp fun {a b} e => by omega
theorem mem_zs {l : List Nat} {z : Int} : z ∈ zs l ↔ ∃ n : Nat, n ∈ l ∧ (n : Int) = z := List.mem_map
theorem mem_zs_nat {l : List Nat} {n : Nat} : (n : Int) ∈ zs l ↔ n ∈ l := by
  rw [mem_zs]
  constructor
  · rintro ⟨m, hm, e⟩
    have e' : m = n := by omega
    rw [← e']
    exact hm
  · exact fun h => ⟨n, h, rfl⟩
/-- a rising list whose members are the reached ones -/
theorem the_reach {rs : List Rl} (hl : Low rs) (h0 : 0 < rs.length) {a : List Int} (ha : a.Pairwise (· < ·)) (hm : ∀ z : Int, z ∈ a ↔ ∃ n : Nat, Rch rs n ∧ (n : Int) = z) : a = zs (reach rs) :=
  up_same ha (zs_up (reach_up rs)) fun z => by
    rw [hm z, mem_zs]
    constructor
    · rintro ⟨n, h, e⟩
      exact ⟨n, (mem_reach hl h0).mpr h, e⟩
    · rintro ⟨n, h, e⟩
      exact ⟨n, (mem_reach hl h0).mp h, e⟩
theorem kid_reach {rs : List Rl} (hl : Low rs) (h0 : 0 < rs.length) {k m : Nat} (hk : k ∈ reach rs) (hm : m ∈ kidsOf rs k) : m ∈ reach rs :=
  (mem_reach hl h0).mpr (.kid ((mem_reach hl h0).mp hk) hm)

/-! ### what is open, the words that are reached, their counts -/
def wordAt (rs : List Rl) (m : Nat) : Str := match rs[m]? with
  | some r => r.word
  | none => "yes"
theorem wordAt_at {rs : List Rl} {m : Nat} {r : Rl} (h : rs[m]? = some r) : wordAt rs m = r.word := by
  unfold wordAt
  rw [h]
noncomputable def words (rs : List Rl) : List Str := (reach rs).map (wordAt rs)
theorem word_at_ten (rs : List Rl) (m : Nat) : wordAt rs m ∈ ten := by
  unfold wordAt
  cases rs[m]? with
  | some r => exact word_ten r
  | none => show ("yes" : Str) ∈ ten; unfold ten; simp
theorem words_ten (rs : List Rl) : ∀ x ∈ words rs, x ∈ ten := fun x hx => by
  obtain ⟨m, _, e⟩ := List.mem_map.mp hx
  rw [← e]
  exact word_at_ten rs m
/-- the place of a word among the ten -/
def rank (x : Str) : Nat := ten.idxOf x
theorem at_idx {α : Type} [DecidableEq α] {l : List α} {x : α} (h : x ∈ l) : l[l.idxOf x]? = some x := by
  have hlt := List.idxOf_lt_length_of_mem h
  rw [List.getElem?_eq_getElem hlt, List.getElem_idxOf hlt]
theorem rank_inj {x y : Str} (hx : x ∈ ten) (h : rank x = rank y) : x = y := by
  have h1 : ten[ten.idxOf x]? = some x := at_idx hx
  have e : ten.idxOf x = ten.idxOf y := h
  have hlt : ten.idxOf y < ten.length := by
    rw [← e]
    exact List.idxOf_lt_length_of_mem hx
  have hy : y ∈ ten := List.idxOf_lt_length_iff.mp hlt
  have h2 : ten[ten.idxOf y]? = some y := at_idx hy
  rw [e, h2] at h1
  exact (Option.some.inj h1).symm
theorem ten_order : (ten.all fun x => ten.all fun y => ltCps x.cps.toList y.cps.toList == decide (rank x < rank y)) = true := by decide +kernel
theorem lt_rank {x y : Str} (hx : x ∈ ten) (hy : y ∈ ten) : ltCps x.cps.toList y.cps.toList = decide (rank x < rank y) := by
  have h := List.all_eq_true.mp (List.all_eq_true.mp ten_order x hx) y hy
  exact beq_iff_eq.mp h
theorem rising_ranks : ∀ (l : List Str) (p : Str), p ∈ ten → (∀ x ∈ l, x ∈ ten) → risingS p l = true → (p :: l).Pairwise (fun x y => rank x ≤ rank y)
  | [], p, _, _, _ => List.pairwise_singleton _ _
  | x :: l, p, hp, hl, h => by
    have h' : (!ltCps x.cps.toList p.cps.toList && risingS x l) = true := h
    rw [Bool.and_eq_true] at h'
    obtain ⟨h1, h2⟩ := h'
    have hx := hl x List.mem_cons_self
    rw [lt_rank hx hp, Bool.not_eq_true', decide_eq_false_iff_not] at h1
    have ih := rising_ranks l x hx (fun y hy => hl y (List.mem_cons_of_mem _ hy)) h2
    refine List.pairwise_cons.mpr ⟨fun y hy => ?_, ih⟩
    rcases List.mem_cons.mp hy with e | e
    · rw [e]
      omega
    · have := (List.pairwise_cons.mp ih).1 y e
      omega
theorem sorted_ranks {l : List Str} (hl : ∀ x ∈ l, x ∈ ten) (h : sortedS l = true) : l.Pairwise (fun x y => rank x ≤ rank y) := by
  cases l with
  | nil => exact List.Pairwise.nil
  | cons x l => exact rising_ranks l x (hl x List.mem_cons_self) (fun y hy => hl y (List.mem_cons_of_mem _ hy)) h
/-- a sorted list of different words of the ten is told by its members -/
theorem words_same : ∀ {a b : List Str}, (∀ x ∈ a, x ∈ ten) → (∀ x ∈ b, x ∈ ten) → a.Nodup → b.Nodup → a.Pairwise (fun x y => rank x ≤ rank y) → b.Pairwise (fun x y => rank x ≤ rank y) → (∀ z, z ∈ a ↔ z ∈ b) → a = b := by
  intro a b hta htb na nb pa pb h
  refine List.Perm.eq_of_pairwise (le := fun x y => rank x ≤ rank y) (fun x y hx hy h1 h2 => rank_inj (hta x hx) (Nat.le_antisymm h1 h2)) pa pb ?_
  exact (List.perm_ext_iff_of_nodup na nb).mpr h
end K33

set_option maxHeartbeats 4000000
/-! Sets made of a list of ints or of a list of texts, and sorted of the latter; list.count of a text. Keys as the layer's dicts have them (Key). -/
namespace K33
open PySem PySem.Spec PyProof.Rows L2

/-- the key that a value stands for -/
def keyV : Value → Key
  | .int k _ => .inl k
  | .str x _ => .inr x
  | _ => .inl 0
theorem keyV_of {k : Key} {v : Value} (h : keyIs k v = true) : keyV v = k := by
  rcases keyIs_shape h with ⟨i, t, rfl, rfl⟩ | ⟨x, t, rfl, rfl⟩ <;> rfl
theorem scan_of {k : Key} {v : Value} (h : keyIs k v = true) : v.scannable = true := by
  rcases keyIs_shape h with ⟨i, t, rfl, rfl⟩ | ⟨x, t, rfl, rfl⟩ <;> rfl
/-- an entry that holds a key beside its hash -/
def RowK (w : World) (e : Int × Value) : Prop := ∃ k : Key, keyIs k e.2 = true ∧ e.1 = keyH w k
theorem rowK_elems {P : Program} {w : World} {l : List (Int × Value)} (g : ∀ e ∈ l, RowK w e) : ElemsOf (mixKind P w) l := fun e he =>
  let ⟨k, h1, h2⟩ := g e he
  ⟨⟨k, h1, h2⟩, scan_of h1⟩
theorem rowK_mem {w : World} {l : List (Int × Value)} (g : ∀ e ∈ l, RowK w e) (k : Key) : k ∈ l.map (fun e => keyV e.2) ↔ ∃ e ∈ l, keyIs k e.2 = true := by
  rw [List.mem_map]
  constructor
  · rintro ⟨e, he, q⟩
    obtain ⟨k', h1, _⟩ := g e he
    rw [keyV_of h1] at q
    rw [← q]
    exact ⟨e, he, h1⟩
  · rintro ⟨e, he, q⟩
    exact ⟨e, he, keyV_of q⟩

/-- at a stands a set of the keys of which S speaks, n of them, that can be walked -/
structure SetG (w : World) (h : Heap) (a : Addr) (S : Key → Prop) (n : Nat) : Prop where
  ex : ∃ (o : Obj) (es : Array (Int × Value)) (ep : Nat) (t : SetTable), (h.get? a = some o ∧ o.ExactSet ∧ o.data = .set es ep t) ∧ (∀ e ∈ es.toList, RowK w e) ∧ (es.toList.map fun e => keyV e.2).Nodup ∧
    (∀ k, S k ↔ k ∈ es.toList.map fun e => keyV e.2) ∧ es.size < scanBound ∧ t.fits es.size = true ∧ es.size = n ∧ Ris t.place.toList ∧ (w.params.followText "set-order" = true ∨ t.led = true)
theorem SetG.at {w : World} {h h' : Heap} {a : Addr} {S : Key → Prop} {n : Nat} (R : SetG w h a S n) (k : ∀ o, h.get? a = some o → h'.get? a = some o) : SetG w h' a S n := by
  obtain ⟨o, es, ep, t, ⟨ho, q⟩, r⟩ := R.ex
  exact ⟨o, es, ep, t, ⟨k o ho, q⟩, r⟩
theorem SetG.to {w : World} {h : Heap} {a : Addr} {S S' : Key → Prop} {n : Nat} (R : SetG w h a S n) (e : ∀ k, S' k ↔ S k) : SetG w h a S' n := by
  obtain ⟨o, es, ep, t, q, g, nd, hm, r⟩ := R.ex
  exact ⟨o, es, ep, t, q, g, nd, fun k => (e k).trans (hm k), r⟩

section
variable {P : Program} {w : World} {A : Around} {E : Value → Shared → Prop} {s : Shared} {a : Addr} {S : Key → Prop} {n : Nat}
/-- the new rows are stored; the table may be laid anew -/
theorem setG_tail {g : Bool → Sem Unit} (hg : ∀ (b : Bool) (s₁ : Shared) (Q' : Unit → Shared → Prop), Q' () s₁ → wpAny (model P w) A (g b) Q' E s₁)
    {o : Obj} {es es1 : Array (Int × Value)} {ep : Nat} {t t2 : SetTable} (ob : s.heap.get? a = some o ∧ o.ExactSet ∧ o.data = .set es ep t) {S' : Key → Prop} (g1 : ∀ e ∈ es1.toList, RowK w e) (nd1 : (es1.toList.map fun e => keyV e.2).Nodup)
    (m1 : ∀ k, S' k ↔ k ∈ es1.toList.map fun e => keyV e.2) (few1 : es1.size < scanBound) (fit2 : t2.fits es1.size = true) (hr : Ris t2.place.toList) (hl : w.params.followText "set-order" = true ∨ t2.led = true) {wd : Bool} {R : Option Bool → Shared → Prop}
    (hR : ∀ h', Heap.SameBut a s.heap h' → SetG w h' a S' es1.size → R (some true) { s with heap := h' }) :
    wpAny (model P w) A (do
        storeSet a es1 t2
        if (!wd && t2.tooFull) = true then (do g (relayAll t2 es1 (SetTable.grown es1.size)).2.2; storeSet a (relayAll t2 es1 (SetTable.grown es1.size)).1 (relayAll t2 es1 (SetTable.grown es1.size)).2.1; pure (some true))
        else pure (some true)) R E s := by
  obtain ⟨ho, hex, hd⟩ := ob
  have st1 := store_at (es' := es1) (t' := t2) ho hd
  have but1 := Heap.SameBut.update s.heap a (Obj.putSet es1 t2)
  refine wpAny_bind (wpAny_storeSet_of ho hd ?_ (fits_of_scanBound few1))
  split
  · obtain ⟨pmt, fit3, ris3, led3⟩ : (relayAll t2 es1 (SetTable.grown es1.size)).1.toList.Perm es1.toList ∧ (relayAll t2 es1 (SetTable.grown es1.size)).2.1.fits (relayAll t2 es1 (SetTable.grown es1.size)).1.size = true ∧
        Ris (relayAll t2 es1 (SetTable.grown es1.size)).2.1.place.toList ∧ (relayAll t2 es1 (SetTable.grown es1.size)).2.1.led = t2.led := ⟨relayAll_perm _ _ _, relayAll_fits _ _ _, relayAll_ris _ _ _, relayAll_led _ _ _⟩
    generalize relayAll t2 es1 (SetTable.grown es1.size) = Z at pmt fit3 ris3 led3 ⊢
    obtain ⟨es2, t3, gave⟩ := Z
    dsimp only at pmt fit3 ris3 led3 ⊢
    have esz : es2.size = es1.size := by
      have q := pmt.length_eq
      rwa [Array.length_toList, Array.length_toList] at q
    refine wpAny_bind (hg _ _ _ (wpAny_bind (wpAny_storeSet_of st1 rfl (wpAny_pure (hR _ (but1.trans (Heap.SameBut.update _ a _)) ?_)) (fits_of_scanBound (by rw [esz]; exact few1)))))
    refine ⟨_, es2, _, t3, ⟨store_at (es' := es2) (t' := t3) st1 rfl, hex, rfl⟩, fun e he => g1 e (pmt.mem_iff.mp he), (pmt.map _).nodup_iff.mpr nd1, fun k => (m1 k).trans (pmt.map _).mem_iff.symm, by rw [esz]; exact few1, fit3, esz, ris3, ?_⟩
    rw [led3]
    exact hl
  · exact wpAny_pure (hR _ but1 ⟨_, es1, _, t2, ⟨st1, hex, rfl⟩, g1, nd1, m1, few1, fit2, rfl, hr, hl⟩)

theorem setG_add {k : Key} {v : Value} {Q : Bool → Shared → Prop} (hk : keyIs k v = true) (R : SetG w s.heap a S n) (room : n + 1 < scanBound)
    (hQ : ∀ b h' c, Heap.SameBut a s.heap h' → c ≤ n + 1 → SetG w h' a (fun j => S j ∨ j = k) c → Q b { s with heap := h' }) :
    wpAny (model P w) A (setAddHashed a v ((mixKind P w).hash k)) Q E s := by
  obtain ⟨o, es, ep, t, ⟨ho, hex, hd⟩, g, nd, hm, few, hf, hn, hr, hl⟩ := R.ex
  have scan := scan_of hk
  have elems : ElemsOf (mixKind P w) es.toList := rowK_elems g
  have isK : (mixKind P w).is k v = true := hk
  unfold setAddHashed setAddHashedIn; refine wpAny_holding (wpAny_bind (wpAny_setState_of ho hd hf ?_)); dsimp only
  rw [byScan_of scan few elems]
  simp only [↓reduceIte]
  unfold setAddByScan
  refine wpAny_bind (wpAny_bind (wpAny_rule (wpAny_bind (wpAny_setScan_of isK ho hd hf elems ?_))))
  cases hit : List.findIdx? (fun e => (mixKind P w).is k e.2) es.toList with
  | some j =>
    dsimp only
    obtain ⟨hj, pj, _⟩ := List.findIdx?_eq_some_iff_getElem.mp hit
    have hin : S k := (hm k).mpr ((rowK_mem g k).mpr ⟨_, List.getElem_mem hj, pj⟩)
    refine wpAny_pure (wpAny_pure (hQ _ s.heap n (Heap.SameBut.refl a s.heap) (Nat.le_succ n) (R.to fun i => ?_)))
    constructor
    · rintro (z | z)
      · exact z
      · rw [z]
        exact hin
    · exact .inl
  | none =>
    dsimp only
    have out : k ∉ es.toList.map fun e => keyV e.2 := fun z => by
      obtain ⟨e, he, q⟩ := (rowK_mem g k).mp z
      have c := List.findIdx?_eq_none_iff.mp hit e he
      have q' : (mixKind P w).is k e.2 = true := q
      rw [q'] at c
      cases c
    obtain ⟨pmt, fit1, ris1, keepLed⟩ : (layNew t es ((mixKind P w).hash k) v).1.toList.Perm (es.push ((mixKind P w).hash k, v)).toList ∧ (layNew t es ((mixKind P w).hash k) v).2.1.fits (layNew t es ((mixKind P w).hash k) v).1.size = true ∧
        Ris (layNew t es ((mixKind P w).hash k) v).2.1.place.toList ∧ (layNew t es ((mixKind P w).hash k) v).2.1.led = t.led := ⟨layNew_perm _ _ _ _, layNew_fits _ _ _ _, layNew_ris _ _ _ _ hr, layNew_led _ _ _ _⟩
    generalize layNew t es ((mixKind P w).hash k) v = Z at pmt fit1 ris1 keepLed ⊢
    obtain ⟨es1, t1, wd, gave⟩ := Z
    dsimp only at pmt fit1 ris1 keepLed ⊢
    rw [Array.toList_push] at pmt
    have pc : es1.toList.Perm (((mixKind P w).hash k, v) :: es.toList) := pmt.trans (List.perm_append_singleton _ _)
    have pk : (es1.toList.map fun e => keyV e.2).Perm (k :: es.toList.map fun e => keyV e.2) := by
      have q := pc.map fun e : Int × Value => keyV e.2
      rw [List.map_cons, keyV_of hk] at q
      exact q
    have g1 : ∀ e ∈ es1.toList, RowK w e := fun e he => by
      rcases List.mem_cons.mp (pc.mem_iff.mp he) with z | z
      · rw [z]
        exact ⟨k, hk, rfl⟩
      · exact g e z
    have nd1 := pk.nodup_iff.mpr (List.nodup_cons.mpr ⟨out, nd⟩)
    have m1 : ∀ i, (S i ∨ i = k) ↔ i ∈ es1.toList.map fun e => keyV e.2 := fun i => by
      rw [pk.mem_iff, List.mem_cons, hm i]
      exact Or.comm
    have esz : es1.size = n + 1 := by
      have q := pc.length_eq
      rw [Array.length_toList, List.length_cons, Array.length_toList, hn] at q
      exact q
    have few1 : es1.size < scanBound := by
      rw [esz]
      exact room
    have led1 : w.params.followText "set-order" = true ∨ t1.led = true := by
      rw [keepLed]
      exact hl
    have gw : ∀ (b : Bool) (s₁ : Shared) (Q' : Unit → Shared → Prop), Q' () s₁ → wpAny (model P w) A (match b with | true => rule "set.scan.the-table-gave-way" | false => pure ()) Q' E s₁ :=
      fun b s₁ Q' q => by cases b <;> first | exact wpAny_pure q | exact wpAny_rule q
    refine wpAny_bind (gw _ _ _ ?_)
    split
    · refine wpAny_bind ?_
      rw [hashByValue_scannable 8 scan]; refine wpAny_pure (setG_tail ?_ ⟨ho, hex, hd⟩ g1 nd1 m1 few1 ?_ ?_ ?_ ?_)
      · intro b s₁ Q' q
        cases b <;> first | exact wpAny_pure q | exact wpAny_rule q
      · first
        | exact fit1
        | (split
           · exact SetTable.fits_plain_off fit1
           · exact fit1)
        | (split
           · exact fit1
           · exact SetTable.fits_plain_off fit1)
      · first
        | exact ris1
        | (split <;> exact ris1)
      · first
        | exact led1
        | (split <;> exact led1)
      · intro h' sb r
        exact wpAny_pure (hQ true h' _ sb (Nat.le_of_eq esz) r)
    · refine wpAny_bind (wpAny_pure ?_)
      simp only [↓reduceIte]
      refine setG_tail ?_ ⟨ho, hex, hd⟩ g1 nd1 m1 few1 fit1 ris1 led1 ?_
      · intro b s₁ Q' q
        cases b <;> first | exact wpAny_pure q | exact wpAny_rule q
      · intro h' sb r
        exact wpAny_pure (hQ true h' _ sb (Nat.le_of_eq esz) r)

/-- the loop that fills a new set from an iterator -/
theorem setG_loop {I : Addr} {fp wr : List Addr} {G : Array GenState → Array GenState → Prop} {m : Nat} {Pv : Nat → Value → Prop} {St : Nat → Shared → Prop} {R : Result → Shared → Prop}
    (W : WalksS P w A.in1 I fp wr G m Pv St) (D : Addr) (hD : D ∉ fp) (ks : List Key) (hm : m = ks.length) (few : ks.length + 1 < scanBound) (hv : ∀ i v, Pv i v → ∃ k, ks[i]? = some k ∧ keyIs k v = true) :
    ∀ (j i : Nat) (s : Shared), m - i = j → i ≤ m → St i s → (∃ c, c ≤ i ∧ SetG w s.heap D (fun k => k ∈ ks.take i) c) →
      (∀ s' c, Moved (D :: wr) G s s' → c ≤ m → SetG w s'.heap D (fun k => k ∈ ks) c → R (.ok (.ret .none)) s') →
      codeAny (model P w) A (.builtin "set.update.loop" ⟨[.ref D, .ref I], []⟩) R s := by
  have hDw : D ∉ wr := fun h => hD (W.sub _ h)
  have wider : ∀ b ∈ wr, b ∈ D :: wr := fun b q => List.mem_cons_of_mem _ q
  intro j
  induction j with
  | zero =>
    intro i s ej hi st ⟨c, hc, g⟩ hR
    obtain rfl : i = m := by omega
    refine codeAny_builtin F.entry_set_update_loop ?_; rw [Around.under_plainId F.plain_set_update_loop _]
    refine wpAny_bind (W.done s _ _ st fun s' mv => ?_)
    have all : ks.take i = ks := List.take_of_length_le (Nat.le_of_eq hm.symm)
    rw [all] at g
    exact wpAny_pure (hR s' c (mv.mono wider) hc (g.at fun o e => mv.heap D o hDw e))
  | succ j ih =>
    intro i s ej hi st ⟨c, hc, g⟩ hR
    have lt : i < m := by omega
    refine codeAny_builtin F.entry_set_update_loop ?_; rw [Around.under_plainId F.plain_set_update_loop _]
    refine wpAny_bind (W.item i s _ _ lt st fun v s1 hp st1 mv => ?_)
    obtain ⟨k, hki, hkv⟩ := hv i v hp
    have g1 := g.at fun o e => mv.heap D o hDw e
    show wpAny _ A.in1 (holding [v] (setAdd D v) >>= _) _ _ s1
    refine wpAny_bind (wpAny_holding ?_)
    unfold setAdd
    refine wpAny_holding (wpAny_bind ((mixKind P w).pyHash (k := k) hkv ?_))
    refine setG_add (s := { s1 with toks := s1.toks + 1 }) hkv g1 (by omega) fun b h' c' but hc' g2 => ?_
    have g3 : SetG w h' D (fun q => q ∈ ks.take (i + 1)) c' := g2.to fun q => by
      rw [List.take_add_one, hki, List.mem_append]
      simp
    have keep : ∀ b o, b ≠ D → s1.heap.get? b = some o → h'.get? b = some o := fun b o few e => (but.2 b few).trans e
    refine wpAny_pure ⟨plainId_quiet F.plain_set_update_loop _, ih (i + 1) _ (by omega) lt (W.frame _ s1 _ _ st1 (Nat.le_succ _) fun b few o e => keep b o (fun z => hD (z ▸ few)) e) ⟨c', by omega, g3⟩ fun s2 c2 mv2 hc2 g4 => ?_⟩
    exact hR s2 c2 (Moved.trans W.gtrans ((mv.mono wider).then_heap (Nat.le_succ _) fun b o few e => keep b o (fun z => few (z ▸ List.mem_cons_self)) e) mv2) hc2 g4
theorem setG_fresh {h : Heap} {ks : List Key} (ho : h.get? a = some { cls := .type "set", dict := none, data := .set #[] 0 (.fresh 0 0 (!w.params.followText "set-order")) }) : SetG w h a (fun k => k ∈ ks.take 0) 0 := by
  refine ⟨_, #[], 0, _, ⟨ho, ⟨rfl, rfl, rfl⟩, rfl⟩, fun e he => (by simp at he), by simp, fun k => by simp, by decide, by rfl, rfl, List.Pairwise.nil, ?_⟩
  show _ ∨ (!w.params.followText "set-order") = true; cases w.params.followText "set-order"
  · exact .inr rfl
  · exact .inl rfl
end
end K33

set_option maxHeartbeats 4000000
namespace K33
open PySem PySem.Spec PyProof.Rows L2
section
variable {P : Program} {w : World} {A : Around} {E : Value → Shared → Prop} {s : Shared}
/-- an empty set object -/
abbrev emptySet (w : World) : Obj := { cls := .type "set", dict := none, data := .set #[] 0 (.fresh 0 0 (!w.params.followText "set-order")) }
/-- set(xs), xs a list of keys: the run of the call -/
theorem call_setG {l : Addr} {items : Array Value} (ks : List Key) {Q : Value → Shared → Prop} (hh : A.handled = none) (hl : s.heap.IsList l items) (hn : items.size = ks.length) (hb : ks.length + 1 < scanBound)
    (hv : ∀ (i : Nat) (v : Value), items[i]? = some v → ∃ k, ks[i]? = some k ∧ keyIs k v = true)
    (h : ∀ (h' : Heap) (tk c : Nat), SetG w h' s.heap.objs.size (fun k => k ∈ ks) c → c ≤ ks.length → (∀ b o, s.heap.get? b = some o → h'.get? b = some o) → Q (.ref s.heap.objs.size) { s with heap := h', toks := tk }) :
    wpAny (model P w) A (call (.type "set") [.ref l]) Q E s := by
  have hlt : l < s.heap.objs.size := by
    obtain ⟨o, ho, _⟩ := id hl
    exact Heap.lt_size ho
  have isMade := F.called_set.made; have isSub := F.called_set.sub; have noType := F.called_set.notType; have mayMake := F.called_set.canCreate; have typed := F.typeCall_set_1 (.ref l)
  obtain ⟨c, tl, mro⟩ := F.called_set.mro
  refine wpAny_call (codeAny_of_tree (show wpAny _ _ (callAny (.type "set") _) _ _ _ from wpAny_pure ⟨Code.quiet_builtin _ (by decide +kernel), codeAny_builtin F.entry_type_call ?_⟩))
  rw [Around.under_plain (weight_type_call_type "set" [.ref l] []) rfl]; repeat (any_goals (first | assumption | wp_step))
  refine codeAny_mono (code_set_led1 (.ref l) (E := E) (Q₁ := fun ob s₁ => ob = .ref s.heap.objs.size ∧ s₁ = { s with heap := s.heap.push (emptySet w) }) ⟨rfl, rfl⟩) fun r s₁ hr => ?_
  cases r with
  | error e => exact hr
  | ok fl =>
    cases fl with
    | ret ob =>
      obtain ⟨rfl, rfl⟩ := hr
      have new : (s.heap.push (emptySet w)).get? s.heap.objs.size = some (emptySet w) := Heap.get?_push_size _ rfl
      have hT : Shared.TypeIs { s with heap := s.heap.push (emptySet w) } (.ref s.heap.objs.size) "set" := ⟨_, new, rfl⟩
      have initAt := F.called_set.init.lookup; have initTo := F.called_set.init.bind (.ref s.heap.objs.size); repeat (any_goals (first | assumption | wp_step))
      refine codeAny_mono (codeAny_call_builtin (R := wants (fun r s₂ => r = .none ∧ ∃ h' tk c, s₂ = { s with heap := h', toks := tk } ∧ SetG w h' s.heap.objs.size (fun k => k ∈ ks) c ∧ c ≤ ks.length ∧ (∀ b o, s.heap.get? b = some o → h'.get? b = some o)) E)
          F.called_set.init.plain F.entry_set_init (check_set_init_1 hT ?_)) fun r₂ s₂ hr₂ => ?_
      · obtain ⟨⟨ocls, odict, odata, oslots⟩, hol, hcl, nl, hdl⟩ := hl
        simp only at hcl hdl
        subst hcl hdl
        have hol' : (s.heap.push (emptySet w)).get? l = some { cls := .type "list", dict := odict, data := .seq items nl, slots := oslots } := Heap.get?_push_of_some _ hol
        have hl1 : (s.heap.push (emptySet w)).IsList l items := ⟨_, hol', rfl, nl, rfl⟩
        have no1 := F.sub_list_set; have no2 := F.sub_list_frozenset; have no3 : (Value.type "list" == Value.type "dict") = false := by decide
        unfold Builtin.«set.__init__» noKeywords Builtin.Frozenset.updateFrom; generalize itIs : pyIter = It0; wp_walk; subst itIs
        refine wpAny_pyIter_list hl1 (wpAny_bind (wpAny_runValue ?_))
        have hz1 : (s.heap.push (emptySet w)).objs.size = s.heap.objs.size + 1 := Heap.size_push ..
        have ne1 : l ≠ (s.heap.push (emptySet w)).objs.size := by
          rw [hz1]
          exact Nat.ne_of_lt (Nat.lt_succ_of_lt hlt)
        have ne2 : s.heap.objs.size ∉ [(s.heap.push (emptySet w)).objs.size, l] := by
          rw [hz1]
          simp only [List.mem_cons, List.not_mem_nil, or_false, not_or]
          exact ⟨Nat.ne_of_lt (Nat.lt_succ_self _), Nat.ne_of_gt hlt⟩
        refine setG_loop ((Walks.list (A := A.in1.in1.in1) (by simp [hh]) _ l ne1 items).toS) s.heap.objs.size ne2 ks hn hb hv (items.size - 0) 0 _ (by omega) (Nat.zero_le _) ⟨⟨_, Heap.get?_push_size _ rfl, rfl, rfl⟩, (hl1.push _)⟩
          ⟨0, Nat.le_refl 0, setG_fresh (Heap.get?_push_of_some _ new)⟩ fun s' c' hm hc' g => ?_
        obtain ⟨h', gn, dr, tk', ox⟩ := s'
        obtain rfl : gn = s.gens := hm.gens
        obtain rfl : dr = s.drawn := hm.drawn
        obtain rfl : ox = s.os := hm.os
        refine wpAny_pure (wpAny_pure ⟨rfl, h', tk', c', rfl, g, by rw [← hn]; exact hc', fun b o e => ?_⟩)
        have lt := Heap.lt_size e
        refine hm.heap b o ?_ (Heap.get?_push_of_some _ (Heap.get?_push_of_some _ e))
        rw [hz1]
        simp only [List.mem_cons, List.not_mem_nil, or_false, not_or]
        exact ⟨Nat.ne_of_lt lt, Nat.ne_of_lt (Nat.lt_succ_of_lt lt)⟩
      · cases r₂ with
        | error e => exact hr₂
        | ok fl₂ =>
          cases fl₂ with
          | ret r =>
            obtain ⟨rfl, h', tk, c, rfl, g, hc, k⟩ := hr₂
            any_goals (repeat (any_goals (first | assumption | wp_step)))
            exact h _ _ _ g hc k
          | _ => exact hr₂.elim
    | _ => exact hr.elim
end
/-- the set as the abstract heap tracks it -/
def SetGO (w : World) (a : Addr) (S : Key → Prop) (n : Nat) : HO := .ext fun h => SetG w h a S n
theorem setGO_ok {P : Program} {w : World} {H : Hp} {h : Heap} {a : Addr} {S : Key → Prop} {n : Nat} (R : SetG w h a S n) : ObjOk P w H h a (SetGO w a S n) := by
  have ⟨o, _, _, _, ⟨ho, _⟩, _⟩ := R.ex
  exact ⟨R, ⟨o, ho⟩, fun h1 h2 p k => SetG.at p k⟩
theorem keyIs_rel {k : Key} {u : Value} (r : RelV (kV k) u) : keyIs k u = true := by
  cases k with
  | inl i =>
    obtain ⟨t, rfl⟩ := r
    exact keyIs_int i t
  | inr x =>
    obtain ⟨t, rfl⟩ := r
    exact keyIs_str x t
theorem vals_keys : ∀ {ks : List Key} {us : List Value}, Vals (ks.map kV) us → ∀ (i : Nat) (v : Value), us[i]? = some v → ∃ k, ks[i]? = some k ∧ keyIs k v = true
  | [], _, .nil, i, v, h => by simp at h
  | k :: ks, _, .cons r t, 0, v, h => by
    have e := Option.some.inj h
    subst e
    exact ⟨k, rfl, keyIs_rel r⟩
  | k :: ks, _, .cons r t, i + 1, v, h => vals_keys t i v h
section
variable {X : Cx}
/-- set(xs) -/
def rSetG (K : PySem.W.Frag) (w : World) : List V → Hp → VK → Prop := fun xs H Q => ∃ (l : Addr) (ks : List Key), xs = [V.ref l] ∧ SqL K H l (ks.map kV) ∧ ks.length + 1 < scanBound ∧
  ∀ a c, H a = none → c ≤ ks.length → Q (.ref a) (upd H a (SetGO w a (fun k => k ∈ ks) c))
theorem cr_setG (hc : X.calm = true) : CallR X (.type "set") (rSetG X.K X.w) := by
  intro pins s σ H xs us Q I r h
  obtain ⟨l, ks, rfl, hl, hb, q⟩ := h
  rw [Vals.ref1 r]
  obtain ⟨its, rv, pl, hz⟩ := I.list hl
  have hlen := rv.length
  rw [List.length_map] at hlen
  refine call_setG (P := X.prog) (w := X.w) ks (I.ok.hd hc) pl.isList (by rw [List.size_toArray]; exact hlen.symm) hb (fun i v hv => vals_keys rv i v (by simpa using hv)) fun h' tk c g hcn k => ?_
  exact ⟨.ref s.heap.objs.size, upd H s.heap.objs.size (SetGO X.w s.heap.objs.size (fun k => k ∈ ks) c), I.laid (t' := tk) k (Nat.le_refl _) (setGO_ok g), rfl, q _ c (I.hok.fresh (Nat.le_refl _)) hcn⟩

end
/-- list.sort of the values vs leaves out in the list, of which Out holds -/
def Sorts (P : Program) (w : World) (vs : List Value) (Out : Array Value → Prop) : Prop :=
  ∀ (A : Around) (E : Value → Shared → Prop) (s : Shared) (a : Addr) (n : Nat) (Pf : PySem.Fin → Shared → Prop), s.heap.get? a = some (seqObj "list" vs.toArray n) →
    (∀ out, Out out → Pf (.done (.ret .none)) { s with heap := sortedHeap s.heap a vs out }) → wpAny (model P w) A (Builtin.«list.sort» ⟨[.ref a], []⟩) Pf E s
theorem sorts_ints {P : Program} {w : World} {vs : List Value} {ns : List Int} (hi : IntsAre vs ns) (h64 : vs.length < 64) : Sorts P w vs fun out => ∃ ns', IntsAre out.toList ns' ∧ ns'.Perm ns ∧ ns'.Pairwise (· ≤ ·) :=
  fun A E s a n Pf ho h => list_sort_tree ho hi h64 fun out ns' h1 h2 h3 => h out ⟨ns', h1, h2, h3⟩
theorem sorts_strs {P : Program} {w : World} {vs : List Value} {ss : List Str} (hS : StrsAre vs ss) (h64 : vs.length < 64) : Sorts P w vs fun out => ∃ ss', StrsAre out.toList ss' ∧ ss'.Perm ss ∧ sortedS ss' = true :=
  fun A E s a n Pf ho h => list_sort_treeK strKind_oneLt ho hS.keysOf (fun v₁ v₂ rest e => keyKind_strs (by rw [← e]; exact hS)) h64 fun st' hp hs => h _ (sorted_out_str hS hp hs)
section
variable {P : Program} {w : World} {A : Around} {E : Value → Shared → Prop} {s : Shared}
/-- sorted(s) of a set: its members, put in order -/
theorem sorted_setG {a : Addr} {S : Key → Prop} {n : Nat} {Q : Value → Shared → Prop} {Out : List Value → Array Value → Prop} (R : SetG w s.heap a S n) (hh : A.handled = none)
    (hs : ∀ vs : List Value, vs.length = n → (∀ v ∈ vs, ∃ k, S k ∧ keyIs k v = true) → Sorts P w vs (Out vs))
    (hQ : ∀ (s' : Shared) (p : Addr) (vs : List Value) (out : Array Value) (c : Nat), (∀ b o, s.heap.get? b = some o → s'.heap.get? b = some o) → s'.gens = s.gens → s'.os = s.os → s.heap.objs.size ≤ p →
      s'.heap.get? p = some (seqObj "list" out c) → vs.length = n → (vs.map keyV).Nodup → (∀ k, S k ↔ k ∈ vs.map keyV) → (∀ v ∈ vs, ∃ k, S k ∧ keyIs k v = true) → Out vs out → Q (.ref p) s') :
    wpAny (model P w) A (call (.builtin "sorted") [.ref a]) Q E s := by
  obtain ⟨o, es, ep, t, ⟨ho, hex, hd⟩, g, nd, hm, hb, hf, hn, hr, hl⟩ := R.ex
  refine Calls.call_function_entry kind_sorted plain_sorted entry_sorted (args_sorted1 _) ?_; unfold Builtin.«sorted»
  refine wpAny_bind (m := checkCount "sorted" 1 1 _) (wpAny_pure (wpAny_bind (collect_set (A := A.in1) hh ⟨o, ho, hex.1, hd⟩ hf hb hr hl fun s1 vs k1 hz g1 o1 pm => ?_)))
  have hvl : vs.length = n := by
    rw [pm.length_eq, List.length_map, Array.length_toList]
    exact hn
  have pk : (vs.map keyV).Perm (es.toList.map fun e => keyV e.2) := by
    have q := pm.map keyV
    rw [List.map_map] at q
    exact q
  have hnd := pk.nodup_iff.mpr nd
  have hmem : ∀ k, S k ↔ k ∈ vs.map keyV := fun k => (hm k).trans pk.mem_iff.symm
  have hkey : ∀ v ∈ vs, ∃ k, S k ∧ keyIs k v = true := fun v hv => by
    obtain ⟨e, he, q⟩ := List.mem_map.mp (pm.mem_iff.mp hv)
    obtain ⟨k, hk, _⟩ := g e he
    rw [← q]
    exact ⟨k, (hm k).mpr ((rowK_mem g k).mpr ⟨e, he, hk⟩), hk⟩
  have room : vs.length ≤ sizeLine := by
    rw [hvl, ← hn]
    exact fits_of_scanBound hb
  refine wpAny_bind (wpAny_newList ?_ room)
  have made : (s1.heap.push (seqObj "list" vs.toArray 0)).get? s1.heap.objs.size = some (seqObj "list" vs.toArray 0) := Heap.get?_push_size _ rfl
  refine wpAny_bind (wpAny_holding (wpAny_call_entry slot_list_sort ⟨_, made, rfl⟩ entry_list_sort (hs vs hvl hkey _ _ _ _ 0 _ made fun out hout => ⟨_, rfl, ?_⟩) (args_list_sort _)))
  obtain ⟨c, hc⟩ := sortedHeap_at (vs := vs) (out := out) made
  refine wpAny_pure ⟨_, rfl, hQ _ s1.heap.objs.size vs out c (fun b u e => ?_) g1 o1 hz hc hvl hnd hmem hkey hout⟩
  have lt := Heap.lt_size (k1 b u e)
  show (sortedHeap (s1.heap.push (seqObj "list" vs.toArray 0)) s1.heap.objs.size vs out).get? b = some u; rw [sortedHeap_old (Nat.ne_of_lt lt) (by rw [size_push']; exact Nat.lt_succ_of_lt lt)]
  exact Heap.get?_push_of_some _ (k1 b u e)
end
theorem ints_keyed : ∀ {vs : List Value}, (∀ v ∈ vs, ∃ k : Int, keyIs (.inl k) v = true) → ∃ ns : List Int, IntsAre vs ns ∧ vs.map keyV = ns.map Sum.inl
  | [], _ => ⟨[], .nil, rfl⟩
  | v :: vs, h => by
    obtain ⟨k, hk⟩ := h v List.mem_cons_self
    obtain ⟨ns, h1, h2⟩ := ints_keyed (vs := vs) fun u hu => h u (List.mem_cons_of_mem _ hu)
    have e := keyV_of hk
    rcases keyIs_shape hk with ⟨i, t, e1, rfl⟩ | ⟨x, t, e1, rfl⟩
    · exact ⟨i :: ns, .cons i t h1, by rw [List.map_cons, List.map_cons, h2] <;> rfl⟩
    · cases e1
theorem strs_keyed : ∀ {vs : List Value}, (∀ v ∈ vs, ∃ x : Str, keyIs (.inr x) v = true) → ∃ xs : List Str, StrsAre vs xs ∧ vs.map keyV = xs.map Sum.inr
  | [], _ => ⟨[], .nil, rfl⟩
  | v :: vs, h => by
    obtain ⟨k, hk⟩ := h v List.mem_cons_self
    obtain ⟨xs, h1, h2⟩ := strs_keyed (vs := vs) fun u hu => h u (List.mem_cons_of_mem _ hu)
    rcases keyIs_shape hk with ⟨i, t, e1, rfl⟩ | ⟨x, t, e1, rfl⟩
    · cases e1
    · exact ⟨x :: xs, .cons x t h1, by rw [List.map_cons, List.map_cons, h2] <;> rfl⟩
theorem ints_one : ∀ {vs : List Value} {a b : List Int}, IntsAre vs a → IntsAre vs b → a = b
  | _, _, _, .nil, .nil => rfl
  | _, _, _, .cons n t h, .cons _ _ h' => by rw [ints_one h h']
theorem strs_one : ∀ {vs : List Value} {a b : List Str}, StrsAre vs a → StrsAre vs b → a = b
  | _, _, _, .nil, .nil => rfl
  | _, _, _, .cons n t h, .cons _ _ h' => by rw [strs_one h h']
section
variable {X : Cx}
theorem new_list {pins : List (Addr × Obj)} {σ : L2.St} {H : Hp} {s s' : Shared} {p : Addr} {out : Array Value} {c : Nat} {xs : List V} (I : Inv X pins σ H s) (k : ∀ b o, s.heap.get? b = some o → s'.heap.get? b = some o)
    (g : s'.gens = s.gens) (o : s'.os = s.os) (hp : s.heap.objs.size ≤ p) (hg : s'.heap.get? p = some (seqObj "list" out c)) (rv : Vals xs out.toList) (hz : xs.length ≤ sizeLine) : Inv X pins σ (upd H p (.lst xs)) s' :=
  I.call' (ch := []) o (Un.laid k hp (I.hok.fresh hp)) (I.hok.laid k hp ⟨hz, out.toList, c, rv, hg⟩) (by rw [g]; exact I.bare) (fun _ z => nomatch z)
/-- sorted(s), s a set of ints -/
def rSortGI (w : World) : List V → Hp → VK → Prop := fun xs H Q => ∃ (a : Addr) (ks : List Int) (n : Nat), xs = [V.ref a] ∧ H a = some (SetGO w a (fun k => k ∈ ks.map Sum.inl) n) ∧ n < 64 ∧
  ∀ (ns : List Int) (p : Addr), ns.Pairwise (· < ·) → (∀ z, z ∈ ns ↔ z ∈ ks) → H p = none → Q (.ref p) (upd H p (.lst (ns.map V.int)))
theorem cr_sortGI (hc : X.calm = true) : CallR X (.builtin "sorted") (rSortGI X.w) := by
  intro pins s σ H xs us Q I r h
  obtain ⟨a, ks, n, rfl, ha, h64, q⟩ := h
  have R : SetG X.w s.heap a (fun k => k ∈ ks.map Sum.inl) n := (I.hok a _ ha).1
  rw [Vals.ref1 r]
  have shape : ∀ vs : List Value, (∀ v ∈ vs, ∃ k, k ∈ ks.map Sum.inl ∧ keyIs k v = true) → ∃ ns : List Int, IntsAre vs ns ∧ vs.map keyV = ns.map Sum.inl := fun vs hv => ints_keyed fun v hm => by
    obtain ⟨k, h1, h2⟩ := hv v hm
    obtain ⟨i, _, e⟩ := List.mem_map.mp h1
    exact ⟨i, by rw [e]; exact h2⟩
  refine sorted_setG (Out := fun vs out => ∀ ns, IntsAre vs ns → ∃ ns', IntsAre out.toList ns' ∧ ns'.Perm ns ∧ ns'.Pairwise (· ≤ ·)) R (I.ok.hd hc) (fun vs hl hv => ?_) fun s' p vs out c k g o hp hg hl hnd hmem hv hout => ?_
  · obtain ⟨ns, hi, _⟩ := shape vs hv
    have S := sorts_ints (P := X.prog) (w := X.w) hi (by rw [hl]; exact h64)
    exact fun A E s a n Pf ho hh => S A E s a n Pf ho fun out ⟨ns', h1, h2, h3⟩ => hh out fun ms hm => ⟨ns', h1, by rw [ints_one hm hi]; exact h2, h3⟩
  · obtain ⟨ns, hi, ek⟩ := shape vs hv
    obtain ⟨ns', h1, h2, h3⟩ := hout ns hi
    have nd0 : ns.Nodup := by
      rw [ek] at hnd
      exact List.Pairwise.of_map Sum.inl (fun _ _ hne e => hne (congrArg _ e)) hnd
    have hlen : (ns'.map V.int).length ≤ sizeLine := by
      rw [List.length_map, h2.length_eq, ← hi.length, hl]
      exact Nat.le_trans (Nat.le_of_lt h64) (by decide)
    refine ⟨.ref p, _, new_list I k g o hp hg (vals_of_ints h1) hlen, rfl, q ns' p (lt_of_le_nodup ns' h3 (h2.nodup_iff.mpr nd0)) (fun z => ?_) (I.hok.fresh hp)⟩
    have e := hmem (Sum.inl z)
    rw [ek, List.mem_map, List.mem_map] at e
    rw [h2.mem_iff]
    constructor
    · intro hz
      obtain ⟨y, hy, ey⟩ := e.mpr ⟨z, hz, rfl⟩
      rw [← Sum.inl.inj ey]
      exact hy
    · intro hz
      obtain ⟨y, hy, ey⟩ := e.mp ⟨z, hz, rfl⟩
      rw [← Sum.inl.inj ey]
      exact hy
/-- sorted(s), s a set of texts -/
def rSortGS (w : World) : List V → Hp → VK → Prop := fun xs H Q => ∃ (a : Addr) (ks : List Str) (n : Nat), xs = [V.ref a] ∧ H a = some (SetGO w a (fun k => k ∈ ks.map Sum.inr) n) ∧ n < 64 ∧
  ∀ (ys : List Str) (p : Addr), ys.Nodup → sortedS ys = true → (∀ z, z ∈ ys ↔ z ∈ ks) → H p = none → Q (.ref p) (upd H p (.lst (ys.map V.str)))
theorem cr_sortGS (hc : X.calm = true) : CallR X (.builtin "sorted") (rSortGS X.w) := by
  intro pins s σ H xs us Q I r h
  obtain ⟨a, ks, n, rfl, ha, h64, q⟩ := h
  have R : SetG X.w s.heap a (fun k => k ∈ ks.map Sum.inr) n := (I.hok a _ ha).1
  rw [Vals.ref1 r]
  have shape : ∀ vs : List Value, (∀ v ∈ vs, ∃ k, k ∈ ks.map Sum.inr ∧ keyIs k v = true) → ∃ ns : List Str, StrsAre vs ns ∧ vs.map keyV = ns.map Sum.inr := fun vs hv => strs_keyed fun v hm => by
    obtain ⟨k, h1, h2⟩ := hv v hm
    obtain ⟨i, _, e⟩ := List.mem_map.mp h1
    exact ⟨i, by rw [e]; exact h2⟩
  refine sorted_setG (Out := fun vs out => ∀ ns, StrsAre vs ns → ∃ ns', StrsAre out.toList ns' ∧ ns'.Perm ns ∧ sortedS ns' = true) R (I.ok.hd hc) (fun vs hl hv => ?_) fun s' p vs out c k g o hp hg hl hnd hmem hv hout => ?_
  · obtain ⟨ns, hi, _⟩ := shape vs hv
    have S := sorts_strs (P := X.prog) (w := X.w) hi (by rw [hl]; exact h64)
    exact fun A E s a n Pf ho hh => S A E s a n Pf ho fun out ⟨ns', h1, h2, h3⟩ => hh out fun ms hm => ⟨ns', h1, by rw [strs_one hm hi]; exact h2, h3⟩
  · obtain ⟨ns, hi, ek⟩ := shape vs hv
    obtain ⟨ns', h1, h2, h3⟩ := hout ns hi
    have nd0 : ns.Nodup := by
      rw [ek] at hnd
      exact List.Pairwise.of_map Sum.inr (fun _ _ hne e => hne (congrArg _ e)) hnd
    have hlen : (ns'.map V.str).length ≤ sizeLine := by
      rw [List.length_map, h2.length_eq, ← hi.length, hl]
      exact Nat.le_trans (Nat.le_of_lt h64) (by decide)
    refine ⟨.ref p, _, new_list I k g o hp hg (vals_of_strs h1) hlen, rfl, q ns' p (h2.nodup_iff.mpr nd0) h3 (fun z => ?_) (I.hok.fresh hp)⟩
    have e := hmem (Sum.inr z)
    rw [ek, List.mem_map, List.mem_map] at e
    rw [h2.mem_iff]
    constructor
    · intro hz
      obtain ⟨y, hy, ey⟩ := e.mpr ⟨z, hz, rfl⟩
      rw [← Sum.inr.inj ey]
      exact hy
    · intro hz
      obtain ⟨y, hy, ey⟩ := e.mp ⟨z, hz, rfl⟩
      rw [← Sum.inr.inj ey]
      exact hy
/-- xs.count(x), texts -/
theorem count_strs {x : Str} : ∀ {us : List Value} {ys : List Str}, Vals (ys.map V.str) us → us.countP (eqU (.str x)) = ys.count x
  | _, [], .nil => rfl
  | _, y :: ys, .cons r t => by
    have ih := count_strs (x := x) t
    have e : eqU (.str x) _ = eqV (.str y) (.str x) := eqU_of r rfl
    rw [List.countP_cons, List.count_cons, ih, e] <;> rfl
def rCntS (K : PySem.W.Frag) : V → List V → Hp → VK → Prop := fun x xs H Q => ∃ (p : Addr) (ys : List Str) (z : Str), x = .ref p ∧ xs = [.str z] ∧ SqL K H p (ys.map V.str) ∧ Q (.int ((ys.count z : Nat) : Int)) H
theorem mt_countS : MtR X "list.count" (rCntS X.K) := by
  intro pins s σ H x xs v us Q I rx rxs h
  obtain ⟨p, ys, z, rfl, rfl, hs, q⟩ := h
  cases rx
  obtain ⟨u, rfl, ru⟩ := rxs.one
  obtain ⟨its, rv, ⟨⟨cls, dd, dt, sl⟩, n, ho, hc, _, hd⟩, _⟩ := I.list hs
  simp only at hc hd
  subst hc hd
  refine call_meets PySem.F.slot_list_count ⟨_, ho, rfl⟩ PySem.F.entry_list_count (PySem.F.args_list_count_2 _ _) (SeqAt.list_countAt p its.toArray n dd sl u (eqU (.str z)))
    ⟨ho, fun y hy => mem_eqAt (x := .str z) ru rfl rv (flat_strs ys) y (by simpa using hy), ?_⟩
  refine ⟨.int ((ys.count z : Nat) : Int), H, I.tok _, ⟨s.toks, ?_⟩, q⟩
  have e : its.toArray.toList.countP (eqU (.str z)) = ys.count z := count_strs rv
  rw [e]
end
end K33

set_option maxHeartbeats 4000000
/-! Data made of tuples alone, as it stands in the abstract heap; it stays as long as the tuples stay. -/
namespace K33
open PySem PySem.Spec PyProof.Rows L2

mutual
inductive Td (H : Hp) : V → PyData → Prop
  | int (i : Int) : Td H (.int i) (.int i)
  | str (x : Str) : Td H (.str x) (.str x)
  | tup {a : Addr} {xs : List V} {ds : List PyData} : H a = some (.tup xs) → TdA H xs ds → Td H (.ref a) (.tuple ds)
inductive TdA (H : Hp) : List V → List PyData → Prop
  | nil : TdA H [] []
  | cons {v : V} {vs : List V} {d : PyData} {ds : List PyData} : Td H v d → TdA H vs ds → TdA H (v :: vs) (d :: ds)
end
/-- the tuples of H stand in H' -/
def TK (H H' : Hp) : Prop := ∀ b xs, H b = some (.tup xs) → H' b = some (.tup xs)
theorem TK.rfl' {H : Hp} : TK H H := fun _ _ h => h
theorem TK.of {H H' : Hp} (s : Same H H') : TK H H' := fun b xs h => s b _ h
theorem TK.trans {H H1 H2 : Hp} (a : TK H H1) (b : TK H1 H2) : TK H H2 := fun c xs h => b c xs (a c xs h)
theorem TK.new {H : Hp} {p : Addr} {o : HO} (h : H p = none) : TK H (upd H p o) := fun b xs e => by
  rw [upd_ne (ne_of_none e h)]
  exact e
theorem TK.mut {H : Hp} {p : Addr} {o u : HO} (h : H p = some u) (n : ∀ xs, u ≠ .tup xs) : TK H (upd H p o) := fun b xs e => by
  rw [upd_ne (ne_of e h fun z => n xs z.symm)]
  exact e
theorem same_new {H : Hp} {p : Addr} {o : HO} (h : H p = none) : Same H (upd H p o) := fun b u e => by
  rw [upd_ne (ne_of_none e h)]
  exact e
mutual
theorem Td.keep {H H' : Hp} (k : TK H H') : ∀ (d : PyData) (v : V), Td H v d → Td H' v d
  | .int _, _, h => by
    cases h
    exact .int _
  | .str _, _, h => by
    cases h
    exact .str _
  | .tuple ds, _, h => by
    cases h with
    | tup e t => exact .tup (k _ _ e) (TdA.keep k ds _ t)
  | .none, _, h => by cases h
  | .bool _, _, h => by cases h
  | .list _, _, h => by cases h
  | .dict _, _, h => by cases h
theorem TdA.keep {H H' : Hp} (k : TK H H') : ∀ (ds : List PyData) (vs : List V), TdA H vs ds → TdA H' vs ds
  | [], _, h => by
    cases h
    exact .nil
  | d :: ds, _, h => by
    cases h with
    | cons a b => exact .cons (Td.keep k d _ a) (TdA.keep k ds _ b)
end
mutual
theorem Td.dp {K : PySem.W.Frag} {H : Hp} : ∀ (d : PyData) (v : V), Td H v d → Dp K H v d
  | .int _, _, h => by
    cases h
    exact .int _
  | .str _, _, h => by
    cases h
    exact .str _
  | .tuple ds, _, h => by
    cases h with
    | tup e t => exact .tup (SqT.of e) (TdA.dp ds _ t)
  | .none, _, h => by cases h
  | .bool _, _, h => by cases h
  | .list _, _, h => by cases h
  | .dict _, _, h => by cases h
theorem TdA.dp {K : PySem.W.Frag} {H : Hp} : ∀ (ds : List PyData) (vs : List V), TdA H vs ds → DpAll K H vs ds
  | [], _, h => by
    cases h
    exact .nil
  | d :: ds, _, h => by
    cases h with
    | cons a b => exact .cons (Td.dp d _ a) (TdA.dp ds _ b)
end
theorem Td.k {H H' : Hp} {d : PyData} {v : V} (h : Td H v d) (k : TK H H') : Td H' v d := Td.keep k d v h
theorem TdA.k {H H' : Hp} {ds : List PyData} {vs : List V} (h : TdA H vs ds) (k : TK H H') : TdA H' vs ds := TdA.keep k ds vs h
theorem Td.d {K : PySem.W.Frag} {H : Hp} {d : PyData} {v : V} (h : Td H v d) : Dp K H v d := Td.dp d v h
theorem td_tup {H : Hp} {v : V} {ds : List PyData} (h : Td H v (.tuple ds)) : ∃ a xs, v = .ref a ∧ H a = some (.tup xs) ∧ TdA H xs ds := by
  cases h with
  | tup e t => exact ⟨_, _, rfl, e, t⟩
theorem td_int {H : Hp} {v : V} {i : Int} (h : Td H v (.int i)) : v = .int i := by
  cases h
  rfl
theorem td_str {H : Hp} {v : V} {x : Str} (h : Td H v (.str x)) : v = .str x := by
  cases h
  rfl
theorem tda_cons {H : Hp} {vs : List V} {d : PyData} {ds : List PyData} (h : TdA H vs (d :: ds)) : ∃ v r, vs = v :: r ∧ Td H v d ∧ TdA H r ds := by
  cases h with
  | cons a b => exact ⟨_, _, rfl, a, b⟩
theorem tda_nil {H : Hp} {vs : List V} (h : TdA H vs []) : vs = [] := by
  cases h
  rfl
theorem TdA.len {H : Hp} : ∀ {ds : List PyData} {vs : List V}, TdA H vs ds → vs.length = ds.length
  | [], _, h => by
    cases h
    rfl
  | d :: ds, _, h => by
    cases h with
    | cons a b => rw [List.length_cons, List.length_cons, TdA.len b]
theorem TdA.get {H : Hp} : ∀ {ds : List PyData} {vs : List V} {i : Nat} {d : PyData}, TdA H vs ds → ds[i]? = some d → ∃ v, vs[i]? = some v ∧ Td H v d
  | [], _, i, d, _, e => by simp at e
  | d0 :: ds, _, 0, d, h, e => by
    obtain rfl := Option.some.inj e
    cases h with
    | cons a b => exact ⟨_, rfl, a⟩
  | d0 :: ds, _, i + 1, d, h, e => by
    cases h with
    | cons a b =>
      obtain ⟨v, h1, h2⟩ := TdA.get b (show ds[i]? = some d from e)
      exact ⟨v, h1, h2⟩
theorem TdA.app {H : Hp} : ∀ {ds es : List PyData} {vs us : List V}, TdA H vs ds → TdA H us es → TdA H (vs ++ us) (ds ++ es)
  | [], _, _, _, h, g => by
    cases h
    exact g
  | d :: ds, _, _, _, h, g => by
    cases h with
    | cons a b => exact .cons a (TdA.app b g)
theorem TdA.snoc {H : Hp} {ds : List PyData} {vs : List V} {d : PyData} {v : V} (h : TdA H vs ds) (g : Td H v d) : TdA H (vs ++ [v]) (ds ++ [d]) := h.app (.cons g .nil)
/-- a tuple of numbers -/
def nv (row : List Nat) : List V := List.map (fun (n : Nat) => V.int (n : Int)) row
theorem nv_len (row : List Nat) : (nv row).length = row.length := List.length_map _
theorem nv_at {row : List Nat} {i m : Nat} (h : row[i]? = some m) : (nv row)[i]? = some (.int (m : Int)) := by
  unfold nv
  rw [List.getElem?_map, h]
  rfl
theorem nv_of {row : List Nat} {i : Nat} {x : V} (h : (nv row)[i]? = some x) : ∃ m, row[i]? = some m ∧ x = .int (m : Int) := by
  unfold nv at h
  rw [List.getElem?_map] at h
  cases e : row[i]? with
  | none =>
    rw [e] at h
    cases h
  | some m =>
    rw [e] at h
    exact ⟨m, rfl, (Option.some.inj h).symm⟩
theorem nv_zs (row : List Nat) : nv row = (zs row).map V.int := by
  unfold nv zs
  rw [List.map_map]
  rfl
theorem td_nv {H : Hp} : ∀ (row : List Nat), TdA H (nv row) (row.map nD)
  | [] => .nil
  | n :: row => .cons (.int _) (td_nv row)
theorem nv_td {H : Hp} : ∀ {row : List Nat} {vs : List V}, TdA H vs (row.map nD) → vs = nv row
  | [], _, h => tda_nil h
  | n :: row, _, h => by
    obtain ⟨v, r, rfl, h1, h2⟩ := tda_cons h
    rw [td_int h1, nv_td h2]
    rfl

/-! ### == of data: small and without strange signs -/
def Shp (n : Nat) (d : PyData) : Prop := d.canLay0 = true ∧ d.depth ≤ n
theorem canAll : ∀ {ds : List PyData}, (∀ d ∈ ds, d.canLay0 = true) → PyData.canLayAll0 ds = true
  | [], _ => rfl
  | d :: ds, h => by
    rw [PyData.canLayAll0, h d List.mem_cons_self, canAll fun e he => h e (List.mem_cons_of_mem _ he)]
    rfl
theorem depAll {n : Nat} : ∀ {ds : List PyData}, (∀ d ∈ ds, d.depth ≤ n) → PyData.depthAll ds ≤ n
  | [], _ => Nat.zero_le _
  | d :: ds, h => by
    have h1 := h d List.mem_cons_self
    have h2 := depAll fun e he => h e (List.mem_cons_of_mem _ he)
    simp only [PyData.depthAll]
    omega
theorem shp_int (n : Nat) (i : Int) : Shp n (.int i) := ⟨rfl, by simp [PyData.depth]⟩
theorem shp_str (n : Nat) {x : Str} (h : PyData.strOk x = true) : Shp n (.str x) := ⟨h, by simp [PyData.depth]⟩
theorem shp_tup {n : Nat} {ds : List PyData} (h : ∀ d ∈ ds, Shp n d) : Shp (n + 1) (.tuple ds) := by
  refine ⟨canAll fun d hd => (h d hd).1, ?_⟩
  have := depAll fun d hd => (h d hd).2
  simp only [PyData.depth]
  omega
theorem shp_lst {n : Nat} {ds : List PyData} (h : ∀ d ∈ ds, Shp n d) : Shp (n + 1) (.list ds) := by
  refine ⟨canAll fun d hd => (h d hd).1, ?_⟩
  have := depAll fun d hd => (h d hd).2
  simp only [PyData.depth]
  omega
theorem Shp.mono {n m : Nat} {d : PyData} (h : Shp n d) (l : n ≤ m) : Shp m d := ⟨h.1, Nat.le_trans h.2 l⟩
theorem Shp.shaped {n : Nat} {d : PyData} (h : Shp n d) (l : n ≤ 64) : SeqAt.shaped d = true := by
  unfold SeqAt.shaped
  rw [h.1, decide_eq_true (Nat.le_trans h.2 l)]
  rfl
theorem Shp.refl {n : Nat} {d : PyData} (h : Shp n d) : PyData.eqv d d = true := SeqAt.eqv_refl d h.1
theorem ten_ok : (ten.all fun x => PyData.strOk x) = true := by decide +kernel
theorem word_ok {x : Str} (h : x ∈ ten) : PyData.strOk x = true := List.all_eq_true.mp ten_ok x h
theorem shp_nats (n : Nat) (row : List Nat) : ∀ d ∈ row.map nD, Shp n d := fun d hd => by
  obtain ⟨m, _, rfl⟩ := List.mem_map.mp hd
  exact shp_int _ _
theorem shp_one {n : Nat} {d : PyData} (h : Shp n d) : ∀ e ∈ [d], Shp n e := fun e he => by
  rw [List.mem_singleton.mp he]
  exact h
theorem shp_two {n : Nat} {c d : PyData} (h : Shp n c) (g : Shp n d) : ∀ e ∈ [c, d], Shp n e := fun e he => by
  rcases List.mem_cons.mp he with z | z
  · rw [z]
    exact h
  · exact shp_one g e z
theorem shp_tl (r : Rl) : ∀ d ∈ r.tl, Shp 2 d := by
  cases r with
  | lf j =>
    match j with
    | 0 => exact fun d hd => (by cases hd)
    | 1 => exact fun d hd => (by cases hd)
    | 2 => exact fun d hd => (by cases hd)
    | 3 => exact shp_one (shp_tup (shp_one (shp_tup (n := 0) fun d hd => (by cases hd))))
    | _ + 4 => exact shp_one (shp_tup (shp_two (shp_int 1 _) (shp_int 1 _)))
  | unit a => exact shp_two (shp_int _ _) (shp_int _ _)
  | choice a b =>
    intro d hd
    rcases List.mem_cons.mp hd with z | z
    · rw [z]
      exact shp_int _ _
    · exact shp_two (shp_int _ _) (shp_int _ _) d z
  | parts row => exact shp_one (shp_tup (shp_nats 1 row))
  | more a => exact shp_two (shp_tup (shp_two (shp_int 1 _) (shp_int 1 _))) (shp_int _ _)
  | less a => exact shp_one (shp_int _ _)
theorem shp_rl (r : Rl) : Shp 3 r.dat := shp_tup fun d hd => by
  rcases List.mem_cons.mp hd with z | z
  · rw [z]
    exact shp_str _ (word_ok (word_ten r))
  · exact shp_tl r d z
end K33

set_option maxHeartbeats 4000000
/-! The text by places; children_of. -/
namespace K33
open PySem PySem.Spec PyProof.Rows L2
def topS (i : Nat) : Stmt := PySem.Challenge.pw_countsworn_k33_nodes_that_are_reached.main.body.getD i (.Pass ⟨0, 0, 0, 0⟩)
abbrev sKids : Stmt := topS 1
abbrev sReached : Stmt := topS 2
abbrev sOpen : Stmt := topS 3
abbrev sTally : Stmt := topS 4
abbrev sRen : Stmt := topS 5
abbrev sTrim : Stmt := topS 6
abbrev sDraw : Stmt := topS 8
abbrev sTake : Stmt := topS 9
abbrev sRule : Stmt := topS 10
abbrev sRenL : Stmt := topS 11
abbrev sLaw : Stmt := topS 12
theorem scKids : FnScope ["rule"] ["rule"] (defScope sKids) := ⟨rfl, rfl, rfl, by decide +kernel, rfl, by decide +kernel, by decide +kernel⟩
theorem scReached : FnScope ["sheet", "nodes", "found", "number", "child"] ["sheet"] (defScope sReached) := ⟨rfl, rfl, rfl, by decide +kernel, rfl, by decide +kernel, by decide +kernel⟩
theorem scOpen : FnScope ["sheet", "number"] ["sheet"] (defScope sOpen) := ⟨rfl, rfl, rfl, by decide +kernel, rfl, by decide +kernel, by decide +kernel⟩
theorem scTally : FnScope ["sheet", "found", "number", "word"] ["sheet"] (defScope sTally) := ⟨rfl, rfl, rfl, by decide +kernel, rfl, by decide +kernel, by decide +kernel⟩
theorem scRen : FnScope ["rule", "numbers", "child"] ["rule", "numbers"] (defScope sRen) := ⟨rfl, rfl, rfl, by decide +kernel, rfl, by decide +kernel, by decide +kernel⟩
theorem scTrim : FnScope ["sheet", "kept", "numbers", "nodes", "at", "number"] ["sheet"] (defScope sTrim) := ⟨rfl, rfl, rfl, by decide +kernel, rfl, by decide +kernel, by decide +kernel⟩
theorem scDraw : FnScope ["_law_script", "_law_seed", "_law_cell"] ["_law_script"] (defScope sDraw) := ⟨rfl, rfl, rfl, by decide +kernel, rfl, by decide +kernel, by decide +kernel⟩
theorem scTake : FnScope ["_law_draw_here", "_law_many", "_law_found"] ["_law_draw_here", "_law_many"] (defScope sTake) := ⟨rfl, rfl, rfl, by decide +kernel, rfl, by decide +kernel, by decide +kernel⟩
theorem scRule : FnScope ["_law_draw_here", "_law_below", "_law_k", "_law_a", "_law_b", "_law_row", "_law_j"] ["_law_draw_here", "_law_below"] (defScope sRule) := ⟨rfl, rfl, rfl, by decide +kernel, rfl, by decide +kernel, by decide +kernel⟩
theorem scRenL : FnScope ["_law_rule_here", "_law_children", "_law_numbers", "_law_new", "_law_child"] ["_law_rule_here", "_law_children", "_law_numbers"] (defScope sRenL) := ⟨rfl, rfl, rfl, by decide +kernel, rfl, by decide +kernel, by decide +kernel⟩
theorem scLaw : FnScope ["_law_script", "_law_draw_here", "_law_nodes", "_law_rows", "_law_number", "_law_rule_here", "_law_children", "_law_formula", "_law_sheet", "_law_found", "_law_words", "_law_answer", "_law_numbers", "_law_k", "_law_due", "_law_child", "_law_word"] ["_law_script"] (defScope sLaw) := ⟨rfl, rfl, rfl, by decide +kernel, rfl, by decide +kernel, by decide +kernel⟩

/-! rules with the written part named: for the element of a comprehension -/
theorem ixT {X : Cx} (K : PySem.W.Frag) (h : X.K = K := by rfl) : IxR X (rIxT K) := h ▸ ix_tup
theorem ixL {X : Cx} (K : PySem.W.Frag) (h : X.K = K := by rfl) : IxR X (rIxL K) := h ▸ ix_list
theorem eqDK {X : Cx} (K : PySem.W.Frag) (hu : X.A.units + 64 < cLine) (h : X.K = K := by rfl) : OpR X (compareOp .Eq) (rEqD K) := h ▸ op_eqD hu
theorem notInK {X : Cx} (K : PySem.W.Frag) (h : X.K = K := by rfl) : OpR X (compareOp .NotIn) (rIn K true) := h ▸ op_notIn_seq
theorem in_two {w u m : Str} : inV (.str w) [.str u, .str m] = true ↔ w = u ∨ w = m := by
  show ((u == w) || ((m == w) || false)) = true ↔ _
  rw [Bool.or_false, Bool.or_eq_true, beq_iff_eq, beq_iff_eq]
  constructor
  · rintro (h | h)
    · exact .inl h.symm
    · exact .inr h.symm
  · rintro (h | h)
    · exact .inl h.symm
    · exact .inr h.symm
theorem dec_str {w u : Str} : decide (V.str w = V.str u) = true ↔ w = u := by
  rw [decide_eq_true_eq]
  exact ⟨fun h => V.str.inj h, fun h => by rw [h]⟩
theorem dat_at {H : Hp} {a : Addr} {r : Rl} (h : Td H (.ref a) r.dat) : ∃ xs, H a = some (.tup (.str r.word :: xs)) ∧ TdA H xs r.tl := by
  obtain ⟨a', xs, e, h1, h2⟩ := td_tup h
  cases e
  obtain ⟨v, ys, rfl, h3, h4⟩ := tda_cons h2
  rw [td_str h3] at h1
  exact ⟨ys, h1, h4⟩
section
variable {P : Program} {w : World} {K : PySem.W.Frag} {mg : Str → Option Value} {base : Heap}
def spKids : Sp := fun vs H Q _ => ∃ (a : Addr) (r : Rl), vs = [.ref a] ∧ Td H (.ref a) r.dat ∧ ∀ H' p, Same H H' → H' p = some (.tup (nv r.kids)) → Q (.ref p) H'
theorem ok_kids {f : Addr} {fd : FuncData} {k : Nat} (F : Fun K "children_of" "children_of" sKids f fd) : FnOk P w K mg base CX0 (k + 1) f fd ["rule"] spKids := by
  refine F.ok scKids (fun vs H Q E h => ?_) (fun cdv A outer s H vs Q E hr h => ?_)
  · obtain ⟨a, r, rfl, _⟩ := h
    rfl
  · obtain ⟨a, r, rfl, hd, q⟩ := h
    obtain ⟨xs, h1, h2⟩ := dat_at hd
    refine ⟨_, pss_cons (ps_if (pt_cmpR op_in_seq (pe_ix ix_tup (pv 0) pe_int (fun _ _ => rfl)) (pe_tup (pa_cons pe_str (pa_cons pe_str pa_nil))) (by rfl))
        (pss_one (ps_ret (pe_tup (pa_cons (pe_ix ix_tup (pv 0) pe_int (fun _ _ => rfl)) pa_nil)))) pss_nil)
      (pss_cons (ps_if (pt_cmpR op_eq (pe_ix ix_tup (pv 0) pe_int (fun _ _ => rfl)) pe_str (nomark _))
        (pss_one (ps_ret (pe_tup (pa_cons (pe_ix ix_tup (pv 0) pe_int (fun _ _ => rfl)) (pa_cons (pe_ix ix_tup (pv 0) pe_int (fun _ _ => rfl)) pa_nil))))) pss_nil)
      (pss_cons (ps_if (pt_cmpR op_eq (pe_ix ix_tup (pv 0) pe_int (fun _ _ => rfl)) pe_str (nomark _))
        (pss_one (ps_ret (pe_ix ix_tup (pv 0) pe_int (fun _ _ => rfl)))) pss_nil)
      (pss_cons (ps_if (pt_cmpR op_eq (pe_ix ix_tup (pv 0) pe_int (fun _ _ => rfl)) pe_str (nomark _))
        (pss_one (ps_ret (pe_tup (pa_cons (pe_ix ix_tup (pv 0) pe_int (fun _ _ => rfl)) pa_nil)))) pss_nil)
      (pss_one (ps_ret (pe_tup pa_nil)))))), ?_⟩
    -- rule[0] in ("unit", "more")
    refine ⟨.ref a, rfl, a, _, 0, .str r.word, rfl, rfl, SqT.of h1, atI_nat (j := 0) rfl, (by show 2 ≤ sizeLine; decide), fun t ht => ?_⟩
    have h1' : (upd H t (.tup [.str "unit", .str "more"])) a = some (.tup (.str r.word :: xs)) := same_new ht _ _ h1
    refine ⟨t, _, rfl, .inr (SqT.of upd_same), rfl, rfl, _, rfl, ite2 (fun e => ?_) (fun e => ?_)⟩
    · -- return (rule[2],)
      obtain ⟨v, m, ex, ek⟩ : ∃ (v : V) (m : Nat), xs = [v, .int (m : Int)] ∧ r.kids = [m] := by
        rcases in_two.mp e with z | z
        · obtain ⟨m, rfl⟩ := w_unit z
          obtain ⟨v, ys, rfl, g1, g2⟩ := tda_cons h2
          obtain ⟨v2, zs, rfl, g3, g4⟩ := tda_cons g2
          rw [tda_nil g4, td_int g3]
          exact ⟨v, m, rfl, rfl⟩
        · obtain ⟨m, rfl⟩ := w_more z
          obtain ⟨v, ys, rfl, g1, g2⟩ := tda_cons h2
          obtain ⟨v2, zs, rfl, g3, g4⟩ := tda_cons g2
          rw [tda_nil g4, td_int g3]
          exact ⟨v, m, rfl, rfl⟩
      rw [ex] at h1'
      refine ⟨.ref a, rfl, a, _, 2, .int (m : Int), rfl, rfl, SqT.of h1', atI_nat (j := 2) rfl, (by show 1 ≤ sizeLine; decide), fun p hp => ?_⟩
      refine q _ p ((same_new ht).trans (same_new hp)) ?_
      rw [upd_same, ek]
      rfl
    · have n1 : ¬ r.word = "unit" := fun z => e (in_two.mpr (.inl z))
      have n2 : ¬ r.word = "more" := fun z => e (in_two.mpr (.inr z))
      -- rule[0] == "choice"
      refine ⟨.ref a, rfl, a, _, 0, .str r.word, rfl, rfl, SqT.of h1', atI_nat (j := 0) rfl, rfl, _, rfl, ite2 (fun e => ?_) (fun e => ?_)⟩
      · obtain ⟨m, n, rfl⟩ := w_choice (dec_str.mp e)
        obtain ⟨v1, y1, rfl, g1, g2⟩ := tda_cons h2
        obtain ⟨v2, y2, rfl, g3, g4⟩ := tda_cons g2
        obtain ⟨v3, y3, rfl, g5, g6⟩ := tda_cons g4
        rw [tda_nil g6, td_int g3, td_int g5] at h1'
        refine ⟨.ref a, rfl, a, _, 2, .int (m : Int), rfl, rfl, SqT.of h1', atI_nat (j := 2) rfl, .ref a, rfl, a, _, 3, .int (n : Int), rfl, rfl, SqT.of h1', atI_nat (j := 3) rfl, (by show 2 ≤ sizeLine; decide), fun p hp => ?_⟩
        exact q _ p ((same_new ht).trans (same_new hp)) upd_same
      · have n3 : ¬ r.word = "choice" := fun z => e (dec_str.mpr z)
        -- rule[0] == "parts"
        refine ⟨.ref a, rfl, a, _, 0, .str r.word, rfl, rfl, SqT.of h1', atI_nat (j := 0) rfl, rfl, _, rfl, ite2 (fun e => ?_) (fun e => ?_)⟩
        · obtain ⟨row, rfl⟩ := w_parts (dec_str.mp e)
          obtain ⟨v1, y1, rfl, g1, g2⟩ := tda_cons h2
          obtain ⟨b, zs, rfl, e1, e2⟩ := td_tup g1
          refine ⟨.ref a, rfl, a, _, 1, .ref b, rfl, rfl, SqT.of h1', atI_nat (j := 1) rfl, ?_⟩
          refine q _ b (same_new ht) (same_new ht _ _ ?_)
          rw [e1, nv_td e2]
          rfl
        · have n4 : ¬ r.word = "parts" := fun z => e (dec_str.mpr z)
          -- rule[0] == "less"
          refine ⟨.ref a, rfl, a, _, 0, .str r.word, rfl, rfl, SqT.of h1', atI_nat (j := 0) rfl, rfl, _, rfl, ite2 (fun e => ?_) (fun e => ?_)⟩
          · obtain ⟨m, rfl⟩ := w_less (dec_str.mp e)
            obtain ⟨v1, y1, rfl, g1, g2⟩ := tda_cons h2
            rw [td_int g1] at h1'
            refine ⟨.ref a, rfl, a, _, 1, .int (m : Int), rfl, rfl, SqT.of h1', atI_nat (j := 1) rfl, (by show 1 ≤ sizeLine; decide), fun p hp => ?_⟩
            exact q _ p ((same_new ht).trans (same_new hp)) upd_same
          · have n5 : ¬ r.word = "less" := fun z => e (dec_str.mpr z)
            obtain ⟨j, rfl⟩ := w_leaf n1 n2 n3 n4 n5
            refine ⟨Nat.zero_le _, fun p hp => ?_⟩
            exact q _ p ((same_new ht).trans (same_new hp)) upd_same
end
end K33

set_option maxHeartbeats 4000000
/-! Sheets as data; dicts keyed by numbers; reached. -/
namespace K33
open PySem PySem.Spec PyProof.Rows L2

/-- the built-ins' names are not the module's -/
structure Glob (mg : Str → Option Value) : Prop where
  len : mg "len" = none
  range : mg "range" = none
  sorted : mg "sorted" = none
  list : mg "list" = none
  any : mg "any" = none
  tuple : mg "tuple" = none
  abs : mg "abs" = none
  int : mg "int" = none
  max : mg "max" = none
  reversed : mg "reversed" = none
  set : mg "set" = none
  isinstance : mg "isinstance" = none
  bool : mg "bool" = none

/-! ### sheets -/
def resD (i : Nat) : PyData := .tuple [.tuple [.int ((i : Int) + 1)]]
def nodeD (i : Nat) (r : Rl) : PyData := .tuple [resD i, r.dat]
def nodesD (rs : List Rl) : List PyData := rs.mapIdx nodeD
theorem nodesD_len (rs : List Rl) : (nodesD rs).length = rs.length := List.length_mapIdx
theorem nodesD_at {rs : List Rl} {i : Nat} {r : Rl} (h : rs[i]? = some r) : (nodesD rs)[i]? = some (nodeD i r) := by
  unfold nodesD
  rw [List.getElem?_mapIdx, h]
  rfl
theorem nodesD_snoc (rs : List Rl) (r : Rl) : nodesD (rs ++ [r]) = nodesD rs ++ [nodeD rs.length r] := by
  unfold nodesD
  rw [List.mapIdx_append]
  simp
def sheetD (f : PyData) (rs : List Rl) : PyData := .tuple [f, .tuple (nodesD rs)]
/-- one node: its place in the tuple of nodes -/
def NodeAt (H : Hp) (xs : List V) (i : Nat) (r : Rl) : Prop := ∃ (a : Addr) (rv : V) (c : Addr), xs[i]? = some (.ref a) ∧ H a = some (.tup [rv, .ref c]) ∧ Td H rv (resD i) ∧ Td H (.ref c) r.dat
theorem node_at {H : Hp} {xs : List V} {rs : List Rl} (h : TdA H xs (nodesD rs)) {i : Nat} {r : Rl} (e : rs[i]? = some r) : NodeAt H xs i r := by
  obtain ⟨v, h1, h2⟩ := h.get (nodesD_at e)
  obtain ⟨a, ys, rfl, h3, h4⟩ := td_tup h2
  obtain ⟨rv, y2, rfl, g1, g2⟩ := tda_cons h4
  obtain ⟨cv, y3, rfl, g3, g4⟩ := tda_cons g2
  rw [tda_nil g4] at h3
  obtain ⟨c, zs, rfl, _, _⟩ := td_tup g3
  exact ⟨a, rv, c, h1, h3, g1, g3⟩
theorem sheet_at {H : Hp} {p : Addr} {f : PyData} {rs : List Rl} (h : Td H (.ref p) (sheetD f rs)) : ∃ (fv : V) (n : Addr) (xs : List V), H p = some (.tup [fv, .ref n]) ∧ Td H fv f ∧ H n = some (.tup xs) ∧ TdA H xs (nodesD rs) := by
  obtain ⟨a, ys, e, h1, h2⟩ := td_tup h
  cases e
  obtain ⟨fv, y2, rfl, g1, g2⟩ := tda_cons h2
  obtain ⟨nv, y3, rfl, g3, g4⟩ := tda_cons g2
  obtain ⟨n, xs, rfl, g5, g6⟩ := td_tup g3
  rw [tda_nil g4] at h1
  exact ⟨fv, n, xs, h1, g1, g5, g6⟩

/-! ### dicts whose keys are numbers of nodes -/
def kN (n : Nat) : Key := Sum.inl (n : Int)
theorem kN_inj {a b : Nat} (h : kN a = kN b) : a = b := by
  have e : (a : Int) = (b : Int) := Sum.inl.inj h
  omega
structure KeyD (kvs : List (Key × V)) (ks : List Nat) : Prop where
  map : kvs.map (·.1) = ks.map kN
  nd : ks.Nodup
theorem KeyD.len {kvs : List (Key × V)} {ks : List Nat} (h : KeyD kvs ks) : kvs.length = ks.length := by
  have e := congrArg List.length h.map
  rwa [List.length_map, List.length_map] at e
theorem mem_kN {ks : List Nat} {m : Nat} : kN m ∈ ks.map kN ↔ m ∈ ks := by
  rw [List.mem_map]
  constructor
  · rintro ⟨a, ha, e⟩
    rw [← kN_inj e]
    exact ha
  · exact fun h => ⟨m, h, rfl⟩
theorem valV_key {kvs : List (Key × V)} {k : Key} : (valV kvs k).isSome = true ↔ k ∈ kvs.map (·.1) := by
  rw [← valV_any, List.any_eq_true, List.mem_map]
  constructor
  · rintro ⟨p, hp, e⟩
    exact ⟨p, hp, of_decide_eq_true e⟩
  · rintro ⟨p, hp, e⟩
    exact ⟨p, hp, decide_eq_true e⟩
theorem KeyD.has {kvs : List (Key × V)} {ks : List Nat} (h : KeyD kvs ks) (m : Nat) : (valV kvs (kN m)).isSome = true ↔ m ∈ ks := by
  rw [valV_key, h.map, mem_kN]
theorem putK_keys {kvs : List (Key × V)} {k : Key} {v : V} (h : (valV kvs k).isSome = true) : (putK kvs k v).map (·.1) = kvs.map (·.1) := by
  unfold putK
  rw [valV_any, if_pos h, List.map_map]
  refine List.map_congr_left fun p _ => ?_
  show (if p.1 = k then (p.1, v) else p).1 = p.1
  split <;> rfl
theorem KeyD.put {kvs : List (Key × V)} {ks : List Nat} (h : KeyD kvs ks) (m : Nat) (v : V) : ∃ ks', KeyD (putK kvs (kN m) v) ks' ∧ ∀ z, z ∈ ks' ↔ z ∈ ks ∨ z = m := by
  by_cases hm : m ∈ ks
  · refine ⟨ks, ⟨by rw [putK_keys ((h.has m).mpr hm)]; exact h.map, h.nd⟩, fun z => ⟨.inl, ?_⟩⟩
    rintro (q | q)
    · exact q
    · rw [q]
      exact hm
  · have hn : valV kvs (kN m) = none := by
      cases e : valV kvs (kN m) with
      | none => rfl
      | some y => exact absurd ((h.has m).mp (by rw [e]; rfl)) hm
    refine ⟨ks ++ [m], ⟨?_, ?_⟩, fun z => by rw [List.mem_append, List.mem_singleton]⟩
    · rw [putK_new v hn, List.map_append, List.map_append, h.map]
      rfl
    · rw [List.nodup_append]
      refine ⟨h.nd, by simp, fun a ha b hb e => hm ?_⟩
      rw [← List.mem_singleton.mp hb, ← e]
      exact ha
theorem nd_below {ks : List Nat} {n : Nat} (h : ks.Nodup) (l : ∀ m ∈ ks, m < n) : ks.length ≤ n := by
  have q := List.Nodup.length_le_of_subset h (fun m hm => List.mem_range.mpr (l m hm) : ks ⊆ List.range n)
  rwa [List.length_range] at q
theorem le_up_lt : ∀ {l : List Int}, l.Pairwise (· ≤ ·) → l.Nodup → l.Pairwise (· < ·)
  | [], _, _ => .nil
  | x :: l, h, d => by
    obtain ⟨h1, h2⟩ := List.pairwise_cons.mp h
    obtain ⟨d1, d2⟩ := List.nodup_cons.mp d
    refine List.pairwise_cons.mpr ⟨fun y hy => ?_, le_up_lt h2 d2⟩
    have a := h1 y hy
    have b : x ≠ y := fun z => d1 (z ▸ hy)
    omega
theorem zs_nd {ks : List Nat} (h : ks.Nodup) : (zs ks).Nodup := by
  unfold zs
  unfold List.Nodup
  rw [List.pairwise_map]
  exact h.imp fun {a b} hne e => hne (by omega)
theorem keys_vals {kvs : List (Key × V)} {ks : List Nat} (h : KeyD kvs ks) : kvs.map (fun kv => kV kv.1) = (zs ks).map V.int := by
  have e : kvs.map (fun kv => kV kv.1) = (kvs.map (·.1)).map kV := by
    rw [List.map_map]
    rfl
  rw [e, h.map]
  unfold zs
  rw [List.map_map, List.map_map]
  rfl
section
variable {P : Program} {w : World} {K : PySem.W.Frag} {mg : Str → Option Value} {base : Heap}
def spReached : Sp := fun vs H Q _ => ∃ (p : Addr) (f : PyData) (rs : List Rl), vs = [.ref p] ∧ Td H (.ref p) (sheetD f rs) ∧ Low rs ∧ 0 < rs.length ∧ rs.length ≤ 14 ∧
  ∀ H' q, Same H H' → H q = none → H' q = some (.lst (nv (reach rs))) → Q (.ref q) H'
theorem ok_reached {f fK : Addr} {fd fdK : FuncData} (F : Fun K "reached" "reached" sReached f fd) (G : Glob mg) (FK : Fun K "children_of" "children_of" sKids fK fdK) (bK : Binds K fdK ["rule"] []) (gK : mg "children_of" = some (.ref fK)) :
    FnOk P w K mg base CX0 2 f fd ["sheet"] spReached := by
  have GK : FnOk P w K mg base CX0 1 fK fdK ["rule"] spKids := ok_kids FK
  refine F.ok scReached (fun vs H Q E h => ?_) (fun cdv A outer s H vs Q E hr h => ?_)
  · obtain ⟨p, f, rs, rfl, _⟩ := h
    rfl
  · obtain ⟨p, f, rs, rfl, hd, hl, h0, h14, q⟩ := h
    have hu := hu_of hr
    obtain ⟨fv, n, xs, h1, h2, h3, h4⟩ := sheet_at hd
    have hlen : xs.length = rs.length := by rw [h4.len, nodesD_len]
    refine ⟨_, pss_cons (ps_set (i := 1) scReached.nd rfl (.inl rfl) (pe_ix ix_tup (pv 0) pe_int (fun _ _ => rfl)))
      (pss_cons (ps_set (i := 2) scReached.nd rfl (.inl rfl) (pe_disp (pps_cons (pe_op op_sub (pe_callB call_len_seq (by rfl) G.len PySem.boot_len (pa_cons (pv 1) pa_nil)) pe_int) pe_bl pps_nil) (by rfl) (by rfl) (fun z => by cases z) (by decide)))
      (pss_cons (ps_for PassesOwn.never rfl (pi_range3 rfl G.range (pa_cons (pe_op op_sub (pe_callB call_len_seq (by rfl) G.len PySem.boot_len (pa_cons (pv 1) pa_nil)) pe_int) (pa_cons (pe_un un_neg pe_int) (pa_cons (pe_un un_neg pe_int) pa_nil))))
          (pg_name (i := 3) scReached.nd rfl (.inl rfl))
        (pss_one (ps_if (pt_cmp (pc_din hu (pv 3) (pv 2)))
          (pss_one (ps_for PassesOwn.never rfl (pi_tup (pe_call GK hr (by rfl) gK FK.kp bK .nil pass0 (pa_cons (pe_ix ix_tup (pe_ix ix_tup (pv 1) (pv 3) (fun _ _ => rfl)) pe_int (fun _ _ => rfl)) pa_nil)))
              (pg_name (i := 4) scReached.nd rfl (.inl rfl)) (pss_one (ps_dput hu (pv 2) (pv 4) pe_bl rfl)))) pss_nil)))
      (pss_one (ps_ret (pe_callB cr_sorted (by rfl) G.sorted (by decide +kernel) (pa_cons (pe_callTy (call_list_dK rfl) (by rfl) G.list (by decide +kernel) (pa_cons (pv 2) pa_nil)) pa_nil)))))), ?_⟩
    -- nodes = sheet[1]
    refine ⟨.ref p, rfl, p, _, 1, .ref n, rfl, rfl, SqT.of h1, atI_nat (j := 1) rfl, ?_⟩
    -- found = {len(nodes) - 1: True}
    intro d nd
    have s0 : Same H (upd H d (.dK [])) := same_new nd
    refine ⟨.ref n, rfl, n, xs, rfl, .inr (SqT.of (s0 _ _ h3)), _, 1, rfl, rfl, upd_same, [(kN (rs.length - 1), .bl true)], ?_, (by show 1 ≤ 15; decide), ?_⟩
    · have e : ((xs.length : Nat) : Int) - 1 = ((rs.length - 1 : Nat) : Int) := by omega
      show [(V.int (((xs.length : Nat) : Int) - 1), V.bl true)] = [(V.int ((rs.length - 1 : Nat) : Int), V.bl true)]
      rw [e]
    have s1 : Same H (upd (upd H d (.dK [])) d (.dK (mergeK [] [(kN (rs.length - 1), .bl true)]))) := fun b o e => by
      rw [upd_ne (ne_of_none e nd)]
      exact s0 b o e
    -- the loop
    refine ⟨.ref n, rfl, n, xs, rfl, .inr (SqT.of (s1 _ _ h3)), _, 1, rfl, rfl, _, rfl, _, rfl, ((xs.length : Nat) : Int) - 1, -1, -1, (((xs.length : Nat) : Int) - 1 - (-1)).toNat, rfl, RgC.neg (by omega) (by omega) (by omega) (by omega), ?_⟩
    have en : (((xs.length : Nat) : Int) - 1 - (-1)).toNat = rs.length := by omega
    rw [en]
    refine for_rangeC (lo := ((xs.length : Nat) : Int) - 1) (c := -1) (n := rs.length) (fun i σ H' => ∃ (kvs : List (Key × V)) (ks : List Nat) (v3 v4 : Option V), σ = [some (.ref p), some (.ref n), some (.ref d), v3, v4] ∧ Same H H' ∧ H' d = some (.dK kvs) ∧ KeyD kvs ks ∧
        ∀ m, m ∈ ks ↔ Aft rs (rs.length - i) m) ⟨_, [rs.length - 1], none, none, rfl, s1, upd_same, ⟨rfl, by simp⟩, fun m => ?_⟩ ?_ ?_
    · rw [Nat.sub_zero, aft_end, List.mem_singleton]
    · rintro i σ H' hi ⟨kvs, ks, v3, v4, rfl, sm, hD, KD, hk⟩
      obtain ⟨j, hj⟩ : ∃ j, j = rs.length - 1 - i := ⟨_, rfl⟩
      have ej : ((xs.length : Nat) : Int) - 1 + ((i : Nat) : Int) * -1 = (j : Int) := by omega
      have e1 : rs.length - i = j + 1 := by omega
      have e2 : rs.length - (i + 1) = j := by omega
      have jlt : j < rs.length := by omega
      rw [ej]
      rw [e1] at hk
      -- if number in found
      refine ⟨_, rfl, _, rfl, d, _, rfl, DGet.k (k := kN j) hD, _, rfl, ?_⟩
      refine ite2 (fun e => ?_) (fun e => ?_)
      · have hin : Aft rs (j + 1) j := (hk j).mp ((KD.has j).mp e)
        obtain ⟨r, hrj⟩ : ∃ r, rs[j]? = some r := ⟨rs[j], List.getElem?_eq_getElem jlt⟩
        obtain ⟨a, rv, c, g1, g2, g3, g4⟩ := node_at h4 hrj
        -- for child in children_of(nodes[number][1])
        refine ⟨.ref n, rfl, .int (j : Int), rfl, n, xs, (j : Int), .ref a, rfl, rfl, SqT.of (sm _ _ h3), atI_nat g1, a, _, 1, .ref c, rfl, rfl, SqT.of (sm _ _ g2), atI_nat (j := 1) rfl, c, r, rfl, g4.k (TK.of sm), fun H2 t sm2 ht => ?_⟩
        refine ⟨t, rfl, ⟨_, SqT.of ht⟩, for_tup (K := K) (a := t) (xs := nv r.kids) (fun u σ H3 => ∃ (kvs : List (Key × V)) (ks : List Nat) (v4 : Option V), σ = [some (.ref p), some (.ref n), some (.ref d), some (.int (j : Int)), v4] ∧ Same H H3 ∧ H3 t = some (.tup (nv r.kids)) ∧
          H3 d = some (.dK kvs) ∧ KeyD kvs ks ∧ ∀ m, m ∈ ks ↔ Aft rs (j + 1) m ∨ m ∈ r.kids.take u) ⟨kvs, ks, v4, rfl, sm.trans sm2, ht, sm2 _ _ hD, KD, fun m => ?_⟩ (fun u σ H3 _ ⟨_, _, _, _, _, z, _⟩ => SqT.of z) ?_ ?_⟩
        · rw [hk m]
          simp
        · rintro u x σ H3 hx ⟨kvs3, ks3, v43, rfl, sm3, ht3, hD3, KD3, hk3⟩
          obtain ⟨m, hm, rfl⟩ := nv_of hx
          have bel : ∀ z ∈ ks3, z < rs.length := fun z hz => by
            rcases (hk3 z).mp hz with y | y
            · rcases y with y | ⟨k, _, hk', hm'⟩
              · omega
              · exact Rch.lt hl h0 (.kid hk' hm')
            · have := hl j z (by rw [kidsOf_at hrj]; exact List.mem_of_mem_take y)
              omega
          have room := nd_below KD3.nd bel
          -- found[child] = True
          refine ⟨_, rfl, _, rfl, d, _, rfl, DPut.k (k := kN m) hD3 (small1000 (by rw [KD3.len]; omega)), ?_⟩
          obtain ⟨ks', KD', hk'⟩ := KD3.put m (.bl true)
          refine ⟨_, ks', _, rfl, fun b o e => ?_, ?_, upd_same, KD', fun z => ?_⟩
          · rw [upd_ne (ne_of_none e nd)]
            exact sm3 b o e
          · rw [upd_ne (ne_of ht3 hD3 fun z => by cases z)]
            exact ht3
          · rw [hk' z, hk3 z, List.take_add_one, hm, List.mem_append]
            simp only [Option.toList_some, List.mem_singleton]
            exact or_assoc
        · rintro σ H3 ⟨kvs3, ks3, v43, rfl, sm3, ht3, hD3, KD3, hk3⟩
          refine ⟨kvs3, ks3, _, _, rfl, sm3, hD3, KD3, fun m => ?_⟩
          rw [e2, hk3 m, nv_len, List.take_length, aft_take hl hin, kidsOf_at hrj]
      · have hout : ¬ Aft rs (j + 1) j := fun z => e ((KD.has j).mpr ((hk j).mpr z))
        refine ⟨kvs, ks, _, _, rfl, sm, hD, KD, fun m => ?_⟩
        rw [e2, hk m, aft_skip hl hout]
    · rintro σ H' ⟨kvs, ks, v3, v4, rfl, sm, hD, KD, hk⟩
      have hk' : ∀ m, m ∈ ks ↔ Rch rs m := fun m => by
        rw [hk m, Nat.sub_self, aft_zero]
      have bel : ∀ z ∈ ks, z < rs.length := fun z hz => Rch.lt hl h0 ((hk' z).mp hz)
      have room := nd_below KD.nd bel
      -- return sorted(list(found))
      refine ⟨.ref d, rfl, d, kvs, rfl, hD, fun l nl => ?_⟩
      rw [keys_vals KD]
      refine ⟨l, zs ks, rfl, SqL.of upd_same, ?_, fun ns' o perm up no => ?_⟩
      · unfold zs
        rw [List.length_map]
        omega
      · have es : ns' = zs (reach rs) := the_reach hl h0 (le_up_lt up (perm.nodup_iff.mpr (zs_nd KD.nd))) fun z => by
          rw [perm.mem_iff, mem_zs]
          constructor
          · rintro ⟨m, hm, e⟩
            exact ⟨m, (hk' m).mp hm, e⟩
          · rintro ⟨m, hm, e⟩
            exact ⟨m, (hk' m).mpr hm, e⟩
        have sm2 : Same H (upd H' l (.lst ((zs ks).map V.int))) := sm.trans (same_new nl)
        refine q _ o (sm2.trans (same_new no)) (sm2.free no) ?_
        rw [upd_same, es, nv_zs]
end
end K33

set_option maxHeartbeats 4000000
/-! is_open, tally. -/
namespace K33
open PySem PySem.Spec PyProof.Rows L2

def opB (rs : List Rl) (m : Nat) : Bool := wordAt rs m == "open"
theorem eqv_open (r : Rl) : PyData.eqv r.dat (.tuple [.str "open"]) = (r.word == "open") := by
  have e : PyData.eqv r.dat (.tuple [.str "open"]) = ((r.word == "open") && PyData.eqvAll r.tl []) := by
    show PyData.eqv (.tuple (.str r.word :: r.tl)) (.tuple [.str "open"]) = _
    rw [PyData.eqv, PyData.eqvAll, PyData.eqv]
  rw [e]
  cases h : (r.word == "open") with
  | false => rfl
  | true =>
    have hw : r.word = "open" := beq_iff_eq.mp h
    cases r with
    | lf j =>
      match j with
      | 0 => exact absurd hw (by decide +kernel)
      | 1 => exact absurd hw (by decide +kernel)
      | 2 => rfl
      | 3 => exact absurd hw (by decide +kernel)
      | _ + 4 => exact absurd (show ("some" : Str) = "open" from hw) (by decide +kernel)
    | unit a => exact absurd (show ("unit" : Str) = "open" from hw) (by decide +kernel)
    | choice a b => exact absurd (show ("choice" : Str) = "open" from hw) (by decide +kernel)
    | parts row => exact absurd (show ("parts" : Str) = "open" from hw) (by decide +kernel)
    | more a => exact absurd (show ("more" : Str) = "open" from hw) (by decide +kernel)
    | less a => exact absurd (show ("less" : Str) = "open" from hw) (by decide +kernel)

/-! ### counts of words -/
structure Cnt (kvs : List (Key × V)) (ws : List Str) : Prop where
  keys : ∃ ks : List Str, kvs.map (·.1) = ks.map Sum.inr ∧ ks.Nodup ∧ ∀ x, x ∈ ks ↔ x ∈ ws
  val : ∀ x : Str, valV kvs (Sum.inr x : Key) = if x ∈ ws then some (.int ((ws.count x : Nat) : Int)) else none
theorem Cnt.nil : Cnt [] [] := ⟨⟨[], rfl, .nil, fun x => Iff.rfl⟩, fun x => by simp [valV]⟩
theorem mem_inr {ks : List Str} {x : Str} : (Sum.inr x : Key) ∈ ks.map Sum.inr ↔ x ∈ ks := by
  rw [List.mem_map]
  constructor
  · rintro ⟨a, ha, e⟩
    rw [← Sum.inr.inj e]
    exact ha
  · exact fun h => ⟨x, h, rfl⟩
theorem Cnt.get {kvs : List (Key × V)} {ws : List Str} (h : Cnt kvs ws) (x : Str) : (valV kvs (Sum.inr x : Key)).getD (.int 0) = .int ((ws.count x : Nat) : Int) := by
  rw [h.val x]
  by_cases e : x ∈ ws
  · rw [if_pos e]
    rfl
  · rw [if_neg e, List.count_eq_zero.mpr e]
    rfl
theorem Cnt.put {kvs : List (Key × V)} {ws : List Str} (h : Cnt kvs ws) (x : Str) : Cnt (putK kvs (Sum.inr x : Key) (.int (((ws.count x : Nat) : Int) + 1))) (ws ++ [x]) := by
  constructor
  · obtain ⟨ks, e1, e2, e3⟩ := h.keys
    by_cases hx : x ∈ ws
    · refine ⟨ks, ?_, e2, fun y => ?_⟩
      · rw [putK_keys (valV_key.mpr (by rw [e1]; exact mem_inr.mpr ((e3 x).mpr hx))), e1]
      · rw [e3 y, List.mem_append, List.mem_singleton]
        constructor
        · exact .inl
        · rintro (q | q)
          · exact q
          · rw [q]
            exact hx
    · have hn : valV kvs (Sum.inr x : Key) = none := by rw [h.val x, if_neg hx]
      refine ⟨ks ++ [x], ?_, ?_, fun y => by rw [List.mem_append, List.mem_append, e3 y]⟩
      · rw [putK_new _ hn, List.map_append, List.map_append, e1]
        rfl
      · rw [List.nodup_append]
        refine ⟨e2, by simp, fun a ha b hb e => hx ?_⟩
        rw [← List.mem_singleton.mp hb, ← e]
        exact (e3 a).mp ha
  · intro y
    rw [valV_put, List.count_append]
    by_cases e : y = x
    · subst e
      rw [if_pos rfl, if_pos (by simp)]
      simp
    · rw [if_neg (fun z => e (Sum.inr.inj z)), h.val y]
      have c0 : ([x] : List Str).count y = 0 := List.count_eq_zero.mpr (by simpa using e)
      rw [c0, Nat.add_zero]
      by_cases hy : y ∈ ws
      · rw [if_pos hy, if_pos (by simp [hy])]
      · rw [if_neg hy, if_neg (by simp [hy, e])]
theorem Cnt.len {kvs : List (Key × V)} {ws : List Str} (h : Cnt kvs ws) : kvs.length ≤ ws.length := by
  obtain ⟨ks, e1, e2, e3⟩ := h.keys
  have e := congrArg List.length e1
  rw [List.length_map, List.length_map] at e
  rw [e]
  exact List.Nodup.length_le_of_subset e2 fun x hx => (e3 x).mp hx
/-- the words among the ten that stand in ws -/
def tenOf (ws : List Str) : List Str := ten.filter fun x => decide (x ∈ ws)
theorem ten_nd : ten.Nodup := by decide +kernel
theorem ten_up : ten.Pairwise (fun x y => rank x ≤ rank y) := by decide +kernel
theorem mem_tenOf {ws : List Str} (h : ∀ x ∈ ws, x ∈ ten) {x : Str} : x ∈ tenOf ws ↔ x ∈ ws := by
  unfold tenOf
  rw [List.mem_filter, decide_eq_true_eq]
  exact ⟨fun z => z.2, fun z => ⟨h x z, z⟩⟩
/-- sorted and without repeats, with these members: it is that one -/
theorem the_words {ws ys : List Str} (h : ∀ x ∈ ws, x ∈ ten) (nd : ys.Nodup) (st : sortedS ys = true) (hm : ∀ z, z ∈ ys ↔ z ∈ ws) : ys = tenOf ws := by
  have ht : ∀ x ∈ ys, x ∈ ten := fun x hx => h x ((hm x).mp hx)
  refine words_same ht (fun x hx => (List.mem_filter.mp hx).1) nd (List.Nodup.sublist List.filter_sublist ten_nd) (sorted_ranks ht st) (List.Pairwise.sublist List.filter_sublist ten_up) fun z => ?_
  rw [hm z, mem_tenOf h]
def pairD (ws : List Str) (x : Str) : PyData := .tuple [.str x, .int ((ws.count x : Nat) : Int)]
noncomputable def tallyD (rs : List Rl) : List PyData := (tenOf (words rs)).map (pairD (words rs))
theorem words_len (rs : List Rl) : (words rs).length ≤ rs.length := by
  unfold words
  rw [List.length_map]
  exact reach_len rs
theorem words_at {rs : List Rl} {i m : Nat} (h : (reach rs)[i]? = some m) : (words rs)[i]? = some (wordAt rs m) := by
  unfold words
  rw [List.getElem?_map, h]
  rfl
section
variable {P : Program} {w : World} {K : PySem.W.Frag} {mg : Str → Option Value} {base : Heap}
def spOpen : Sp := fun vs H Q _ => ∃ (p : Addr) (f : PyData) (rs : List Rl), vs = [.ref p] ∧ Td H (.ref p) (sheetD f rs) ∧ Low rs ∧ 0 < rs.length ∧ rs.length ≤ 14 ∧
  ∀ H', Same H H' → Q (.bl ((reach rs).any (opB rs))) H'
theorem shp_open : Shp 3 (.tuple [.str "open"]) := (shp_tup (shp_one (shp_str 0 (by decide +kernel)))).mono (by decide)
theorem ok_open {f fR : Addr} {fd fdR : FuncData} (F : Fun K "is_open" "is_open" sOpen f fd) (G : Glob mg) (GR : FnOk P w K mg base CX0 2 fR fdR ["sheet"] spReached) (kR : PySem.W.keepIn K (.ref fR) = true) (bR : Binds K fdR ["sheet"] []) (gR : mg "reached" = some (.ref fR)) :
    FnOk P w K mg base CX0 3 f fd ["sheet"] spOpen := by
  refine F.ok scOpen (fun vs H Q E h => ?_) (fun cdv A outer s H vs Q E hr h => ?_)
  · obtain ⟨p, f, rs, rfl, _⟩ := h
    rfl
  · obtain ⟨p, f, rs, rfl, hd, hl, h0, h14, q⟩ := h
    obtain ⟨fv, n, xs, h1, h2, h3, h4⟩ := sheet_at hd
    refine ⟨_, pss_one (ps_ret (pe_callB (cr_any rfl) (by rfl) G.any (by decide +kernel) (pa_cons (pe_lc (own := [("number", 1)]) (g := gName 1) (by rfl) scOpen.nd
      (pi_list (pe_call GR hr (by rfl) gR kR bR .nil pass0 (pa_cons (pv 0) pa_nil))) (blkOk_by (own := [("number", 1)]) (N := ["sheet", "number"]) (sc := defScope sOpen) (by decide +kernel))
      (fun _ _ _ _ _ => pg_name (i := 1) scOpen.nd rfl (.inl rfl)) (fun _ _ _ _ _ => pts_nil)
      (fun _ _ _ _ _ => pe_cmpR (eqDK K hr.units) (pe_ix (ixT K) (pe_ix (ixT K) (pe_ix (ixT K) (pv 0) pe_int (fun _ _ => rfl)) (pv 1) (fun _ _ => rfl)) pe_int (fun _ _ => rfl)) (pe_tup (pa_cons pe_str pa_nil)) (nomark _))) pa_nil))), ?_⟩
    refine ⟨.ref p, rfl, p, f, rs, rfl, hd, hl, h0, h14, fun H1 o sm no ho => ?_⟩
    refine ⟨o, rfl, ⟨_, SqL.of ho⟩, fun D nD => ?_⟩
    refine lc_list (K := K) (a := o) (xs := nv (reach rs)) (fun i H' => Same H1 H' ∧ H' D = some (.lst (((reach rs).take i).map fun m => V.bl (opB rs m)))) ⟨same_new nD, upd_same⟩ (fun i H' _ z => SqL.of (z.1 _ _ ho)) ?_ ?_
    · rintro i x H' hx ⟨s1, hD⟩
      obtain ⟨m, hm, rfl⟩ := nv_of hx
      have hmr : m ∈ reach rs := List.mem_of_getElem? hm
      have mlt := reach_lt hmr
      obtain ⟨r, hrm⟩ : ∃ r, rs[m]? = some r := ⟨rs[m], List.getElem?_eq_getElem mlt⟩
      obtain ⟨a, rv, c, g1, g2, g3, g4⟩ := node_at h4 hrm
      have sh := sm.trans s1
      refine ⟨rfl, .ref p, rfl, p, _, 1, .ref n, rfl, rfl, SqT.of (sh _ _ h1), atI_nat (j := 1) rfl, .int (m : Int), rfl, n, xs, (m : Int), .ref a, rfl, rfl, SqT.of (sh _ _ h3), atI_nat g1, a, _, 1, .ref c, rfl, rfl, SqT.of (sh _ _ g2), atI_nat (j := 1) rfl, (by show 1 ≤ sizeLine; decide), fun t nt => ?_⟩
      have st := same_new (o := .tup [.str "open"]) nt
      refine ⟨r.dat, .tuple [.str "open"], (g4.k (TK.of (sh.trans st))).d, (Td.tup upd_same (.cons (.str "open") .nil)).d, (shp_rl r).shaped (by decide), shp_open.shaped (by decide), _, st _ _ hD, ?_, fun b u e => ?_, ?_⟩
      · rw [List.length_map, List.length_take]
        exact Nat.lt_of_le_of_lt (Nat.min_le_right _ _) (small1000 (by have := reach_len rs; omega))
      · rw [upd_ne (ne_of_none e nD)]
        exact st _ _ (s1 _ _ e)
      · rw [upd_same, List.take_add_one, hm, List.map_append, eqv_open]
        show _ = some (HO.lst (_ ++ [V.bl (opB rs m)]))
        unfold opB
        rw [wordAt_at hrm]
    · rintro H' ⟨s1, hD⟩
      rw [nv_len, List.take_length] at hD
      refine ⟨D, (reach rs).map (opB rs), rfl, SqL.of (by rw [hD, List.map_map]; rfl), ?_⟩
      rw [List.any_map]
      exact q H' (sm.trans s1)
end
end K33

set_option maxHeartbeats 4000000
/-! tally. -/
namespace K33
open PySem PySem.Spec PyProof.Rows L2
section
variable {P : Program} {w : World} {K : PySem.W.Frag} {mg : Str → Option Value} {base : Heap}
def spTally : Sp := fun vs H Q _ => ∃ (p : Addr) (f : PyData) (rs : List Rl), vs = [.ref p] ∧ Td H (.ref p) (sheetD f rs) ∧ Low rs ∧ 0 < rs.length ∧ rs.length ≤ 14 ∧
  ∀ H' q xs, Same H H' → H q = none → H' q = some (.lst xs) → TdA H' xs (tallyD rs) → Q (.ref q) H'
theorem keys_strs {kvs : List (Key × V)} {ks : List Str} (h : kvs.map (·.1) = ks.map Sum.inr) : kvs.map (fun kv => kV kv.1) = ks.map V.str := by
  have e : kvs.map (fun kv => kV kv.1) = (kvs.map (·.1)).map kV := by
    rw [List.map_map]
    rfl
  rw [e, h, List.map_map]
  rfl
theorem ok_tally {f fR : Addr} {fd fdR : FuncData} (F : Fun K "tally" "tally" sTally f fd) (G : Glob mg) (GR : FnOk P w K mg base CX0 2 fR fdR ["sheet"] spReached) (kR : PySem.W.keepIn K (.ref fR) = true) (bR : Binds K fdR ["sheet"] []) (gR : mg "reached" = some (.ref fR)) :
    FnOk P w K mg base CX0 3 f fd ["sheet"] spTally := by
  refine F.ok scTally (fun vs H Q E h => ?_) (fun cdv A outer s H vs Q E hr h => ?_)
  · obtain ⟨p, f, rs, rfl, _⟩ := h
    rfl
  · obtain ⟨p, f, rs, rfl, hd, hl, h0, h14, q⟩ := h
    have hu := hu_of hr
    obtain ⟨fv, n, xs, h1, h2, h3, h4⟩ := sheet_at hd
    refine ⟨_, pss_cons (ps_set (i := 1) scTally.nd rfl (.inr rfl) pe_dnewK)
      (pss_cons (ps_for PassesOwn.never rfl (pi_list (pe_call GR hr (by rfl) gR kR bR .nil pass0 (pa_cons (pv 0) pa_nil))) (pg_name (i := 2) scTally.nd rfl (.inl rfl))
        (pss_cons (ps_set (i := 3) scTally.nd rfl (.inl rfl) (pe_ix ix_tup (pe_ix ix_tup (pe_ix ix_tup (pe_ix ix_tup (pv 0) pe_int (fun _ _ => rfl)) (pv 2) (fun _ _ => rfl)) pe_int (fun _ _ => rfl)) pe_int (fun _ _ => rfl)))
          (pss_one (ps_dput hu (pv 1) (pv 3) (pe_op op_add (pe_dget2 hu (pv 1) (pv 3) pe_int ⟨rfl, rfl, rfl, rfl⟩) pe_int) rfl))))
      (pss_one (ps_ret (pe_lc (own := [("word", 3)]) (g := gName 3) (by rfl) scTally.nd
        (pi_list (pe_callB cr_sortedS (by rfl) G.sorted (by decide +kernel) (pa_cons (pe_callTy (call_list_dK rfl) (by rfl) G.list (by decide +kernel) (pa_cons (pv 1) pa_nil)) pa_nil)))
        (blkOk_by (own := [("word", 3)]) (N := ["sheet", "found", "number", "word"]) (sc := defScope sTally) (by decide +kernel))
        (fun _ _ _ _ _ => pg_name (i := 3) scTally.nd rfl (.inl rfl)) (fun _ _ _ _ _ => pts_nil)
        (fun _ _ _ _ _ => pe_tup (pa_cons (pv 3) (pa_cons (pe_dget hu (pv 1) (pv 3) (fun _ _ => rfl)) pa_nil))))))), ?_⟩
    -- found = {}
    intro d nd
    have s0 := same_new (o := .dK []) nd
    -- for number in reached(sheet)
    refine ⟨.ref p, rfl, p, f, rs, rfl, hd.k (TK.of s0), hl, h0, h14, fun H1 o sm no ho => ?_⟩
    have hD1 : H1 d = some (.dK []) := sm _ _ upd_same
    have sH : Same H H1 := s0.trans sm
    have nod : o ≠ d := fun e => by
      rw [e, upd_same] at no
      cases no
    refine ⟨o, rfl, ⟨_, SqL.of ho⟩, for_list (K := K) (a := o) (xs := nv (reach rs)) (fun i σ H' => ∃ (kvs : List (Key × V)) (v2 v3 : Option V), σ = [some (.ref p), some (.ref d), v2, v3] ∧ Same H H' ∧ H' o = some (.lst (nv (reach rs))) ∧ H' d = some (.dK kvs) ∧
        Cnt kvs ((words rs).take i)) ⟨[], none, none, rfl, sH, ho, hD1, by rw [List.take_zero]; exact Cnt.nil⟩ (fun i σ H' _ ⟨_, _, _, _, _, z, _⟩ => SqL.of z) ?_ ?_⟩
    · rintro i x σ H' hx ⟨kvs, v2, v3, rfl, sh, ho', hD, C⟩
      obtain ⟨m, hm, rfl⟩ := nv_of hx
      have hmr : m ∈ reach rs := List.mem_of_getElem? hm
      have mlt := reach_lt hmr
      obtain ⟨r, hrm⟩ : ∃ r, rs[m]? = some r := ⟨rs[m], List.getElem?_eq_getElem mlt⟩
      obtain ⟨a, rv, c, g1, g2, g3, g4⟩ := node_at h4 hrm
      obtain ⟨ys, g5, _⟩ := dat_at g4
      -- word = sheet[1][number][1][0]
      refine ⟨.ref p, rfl, p, _, 1, .ref n, rfl, rfl, SqT.of (sh _ _ h1), atI_nat (j := 1) rfl, .int (m : Int), rfl, n, xs, (m : Int), .ref a, rfl, rfl, SqT.of (sh _ _ h3), atI_nat g1, a, _, 1, .ref c, rfl, rfl, SqT.of (sh _ _ g2), atI_nat (j := 1) rfl,
        c, _, 0, .str r.word, rfl, rfl, SqT.of (sh _ _ g5), atI_nat (j := 0) rfl, ?_⟩
      -- found[word] = found.get(word, 0) + 1
      have hw : (words rs)[i]? = some r.word := by
        rw [words_at hm, wordAt_at hrm]
      have hlen : kvs.length ≤ 14 := by
        have e1 := C.len
        have e2 := words_len rs
        rw [List.length_take] at e1
        omega
      refine ⟨.ref d, rfl, d, rfl, .inl ⟨kvs, .inl hD⟩, .str r.word, rfl, valV kvs (Sum.inr r.word), DGet.k (k := Sum.inr r.word) hD, (((words rs).take i).count r.word : Nat), 1, C.get r.word, rfl, .ref d, rfl, .str r.word, rfl, d, _, rfl, DPut.k (k := Sum.inr r.word) hD (small1000 (by omega)), ?_⟩
      refine ⟨_, _, _, rfl, fun b u e => ?_, ?_, upd_same, ?_⟩
      · rw [upd_ne (ne_of_none e nd)]
        exact sh _ _ e
      · rw [upd_ne nod]
        exact ho'
      · have e := C.put r.word
        rw [List.take_add_one, hw]
        exact e
    · rintro σ H' ⟨kvs, v2, v3, rfl, sh, ho', hD, C⟩
      rw [nv_len, List.take_of_length_le (by unfold words; rw [List.length_map]; exact Nat.le_refl _)] at C
      obtain ⟨ks, e1, e2, e3⟩ := id C.keys
      have hk14 : ks.length ≤ 14 := by
        have z1 := C.len
        have z2 := words_len rs
        have z3 := congrArg List.length e1
        rw [List.length_map, List.length_map] at z3
        omega
      -- [(word, found[word]) for word in sorted(list(found))]
      refine ⟨.ref d, rfl, d, kvs, rfl, hD, fun l nl => ?_⟩
      rw [keys_strs e1]
      refine ⟨l, ks, rfl, SqL.of upd_same, by omega, fun ys t perm srt nt => ?_⟩
      have ey : ys = tenOf (words rs) := the_words (words_ten rs) (perm.nodup_iff.mpr e2) srt fun z => by rw [perm.mem_iff, e3 z]
      have sl := same_new (o := .lst (ks.map V.str)) nl
      have st := same_new (o := .lst (ys.map V.str)) nt
      have hD2 := st _ _ (sl _ _ hD)
      refine ⟨t, rfl, ⟨_, SqL.of upd_same⟩, fun D nD => ?_⟩
      refine lc_list (K := K) (a := t) (xs := ys.map V.str) (fun i H2 => ∃ us, Same (upd (upd H' l (.lst (ks.map V.str))) t (.lst (ys.map V.str))) H2 ∧ H2 D = some (.lst us) ∧ TdA H2 us ((ys.take i).map (pairD (words rs)))) ⟨[], same_new nD, upd_same, .nil⟩ (fun i H2 _ ⟨_, z, _⟩ => SqL.of (z _ _ upd_same)) ?_ ?_
      · rintro i x H2 hx ⟨us, s2, hDD, T⟩
        obtain ⟨y, hy, rfl⟩ : ∃ y, ys[i]? = some y ∧ x = .str y := by
          rw [List.getElem?_map] at hx
          cases e : ys[i]? with
          | none =>
            rw [e] at hx
            cases hx
          | some y =>
            rw [e] at hx
            exact ⟨y, rfl, (Option.some.inj hx).symm⟩
        have hyw : y ∈ words rs := by
          have z : y ∈ ys := List.mem_of_getElem? hy
          exact (e3 y).mp (perm.mem_iff.mp z)
        have hv : valV kvs (Sum.inr y : Key) = some (.int (((words rs).count y : Nat) : Int)) := by rw [C.val y, if_pos hyw]
        refine ⟨rfl, .str y, rfl, .ref d, rfl, .str y, rfl, d, .int (((words rs).count y : Nat) : Int), rfl, by rw [← hv]; exact DGet.k (k := Sum.inr y) (s2 _ _ hD2), (by show 2 ≤ sizeLine; decide), fun u nu => ?_⟩
        have su := same_new (o := .tup [.str y, .int (((words rs).count y : Nat) : Int)]) nu
        have hDu := su _ _ hDD
        have kD : TK _ (upd (upd H2 u (.tup [.str y, .int (((words rs).count y : Nat) : Int)])) D (.lst (us ++ [.ref u]))) := TK.mut hDu fun _ => by
          intro z
          cases z
        refine ⟨us, hDu, ?_, us ++ [.ref u], fun b e z => ?_, upd_same, ?_⟩
        · rw [T.len, List.length_map, List.length_take, perm.length_eq]
          exact Nat.lt_of_le_of_lt (Nat.min_le_right _ _) (small1000 (by omega))
        · rw [upd_ne (ne_of_none z nD)]
          exact su _ _ (s2 _ _ z)
        · rw [List.take_add_one, hy, List.map_append]
          exact ((T.k (TK.of su)).k kD).snoc ((Td.tup upd_same (.cons (.str _) (.cons (.int _) .nil))).k kD)
      · rintro H2 ⟨us, s2, hDD, T⟩
        rw [List.length_map, List.take_length, ey] at T
        have all := (sh.trans sl).trans st
        exact q H2 D us (all.trans s2) (all.free nD) hDD T
end
end K33

set_option maxHeartbeats 4000000
/-! renumbered, the law's own renaming. -/
namespace K33
open PySem PySem.Spec PyProof.Rows L2

/-- what of a rule stands ahead of its children -/
def Rl.pre : Rl → List PyData
  | .lf j => .str (lfW j) :: lfR j
  | .unit _ => [.str "unit", .int (-7)]
  | .choice _ _ => [.str "choice", .int 5]
  | .parts _ => [.str "parts"]
  | .more _ => [.str "more", .tuple [.int 1, .int 2]]
  | .less _ => [.str "less"]
theorem dat_pre (r : Rl) (h : ¬ r.word = "parts") : r.dat = .tuple (r.pre ++ r.kids.map nD) := by
  cases r with
  | lf j =>
    show PyData.tuple (.str (lfW j) :: lfR j) = PyData.tuple ((.str (lfW j) :: lfR j) ++ [])
    rw [List.append_nil]
  | parts row => exact absurd rfl h
  | _ => rfl
theorem pre_ren (r : Rl) (g : Nat → Nat) : (r.ren g).pre = r.pre := by cases r <;> rfl
theorem dat_ren (r : Rl) (g : Nat → Nat) (h : ¬ r.word = "parts") : (r.ren g).dat = .tuple (r.pre ++ (r.kids.map g).map nD) := by
  rw [dat_pre _ (by rw [r.ren_word g]; exact h), pre_ren, r.ren_kids g]
theorem pre_ne (r : Rl) : r.pre ≠ [] := by cases r <;> exact fun z => by cases z
theorem pre_len (r : Rl) : r.pre.length ≤ 2 := by
  cases r with
  | lf j =>
    match j with
    | 0 => exact (by decide : 1 ≤ 2)
    | 1 => exact (by decide : 1 ≤ 2)
    | 2 => exact (by decide : 1 ≤ 2)
    | 3 => exact (by decide : 2 ≤ 2)
    | _ + 4 => exact (by decide : 2 ≤ 2)
  | unit a => exact (by decide : 2 ≤ 2)
  | choice a b => exact (by decide : 2 ≤ 2)
  | parts row => exact (by decide : 1 ≤ 2)
  | more a => exact (by decide : 2 ≤ 2)
  | less a => exact (by decide : 1 ≤ 2)
theorem tda_split {H : Hp} : ∀ {ds es : List PyData} {vs : List V}, TdA H vs (ds ++ es) → ∃ a b, vs = a ++ b ∧ TdA H a ds ∧ TdA H b es
  | [], es, vs, h => ⟨[], vs, rfl, .nil, h⟩
  | d :: ds, es, vs, h => by
    obtain ⟨v, r, rfl, h1, h2⟩ := tda_cons h
    obtain ⟨a, b, rfl, h3, h4⟩ := tda_split h2
    exact ⟨v :: a, b, rfl, .cons h1 h3, h4⟩
theorem eqv_nil (row : List Nat) : PyData.eqv (.tuple (row.map nD)) (.tuple []) = row.isEmpty := by
  cases row with
  | nil => rfl
  | cons x r =>
    show PyData.eqv (.tuple (nD x :: r.map nD)) (.tuple []) = false
    rw [PyData.eqv, PyData.eqvAll]
theorem cut_pre (a b : List V) (n : Int) (h : n = ((a.length : Nat) : Int)) : cutV (a ++ b) none (some n) = a := by
  unfold cutV
  rw [HT.sIx_none, h, HT.sIx_nat, List.drop_zero, Nat.sub_zero, List.length_append, Nat.min_eq_left (Nat.le_add_right _ _), List.take_left]
section
variable {P : Program} {w : World} {K : PySem.W.Frag} {mg : Str → Option Value} {base : Heap}
/-- d tells the new numbers of the children of r -/
def Tells (kvs : List (Key × V)) (r : Rl) (g : Nat → Nat) : Prop := ∀ m ∈ r.kids, valV kvs (kN m) = some (.int ((g m : Nat) : Int))
def spRen : Sp := fun vs H Q _ => ∃ (a d : Addr) (r : Rl) (g : Nat → Nat) (kvs : List (Key × V)), vs = [.ref a, .ref d] ∧ Td H (.ref a) r.dat ∧ H d = some (.dK kvs) ∧ Tells kvs r g ∧ r.kids.length ≤ 4 ∧
  ∀ H' p, Same H H' → Td H' (.ref p) (r.ren g).dat → Q (.ref p) H'
/-- [numbers[child] for child in row], and the tuple of it -/
theorem tells_turn {kvs : List (Key × V)} {row : List Nat} {g : Nat → Nat} (h : ∀ m ∈ row, valV kvs (kN m) = some (.int ((g m : Nat) : Int))) {i m : Nat} (hm : row[i]? = some m) : valV kvs (kN m) = some (.int ((g m : Nat) : Int)) := h m (List.mem_of_getElem? hm)
theorem nv_step {row : List Nat} {g : Nat → Nat} {i m : Nat} (hm : row[i]? = some m) : nv ((row.take i).map g) ++ [.int ((g m : Nat) : Int)] = nv ((row.take (i + 1)).map g) := by
  rw [List.take_add_one, hm, List.map_append]
  unfold nv
  rw [List.map_append]
  rfl
theorem ok_ren {f : Addr} {fd : FuncData} (F : Fun K "renumbered" "renumbered" sRen f fd) (G : Glob mg) : FnOk P w K mg base CX0 1 f fd ["rule", "numbers"] spRen := by
  refine F.ok scRen (fun vs H Q E h => ?_) (fun cdv A outer s H vs Q E hr h => ?_)
  · obtain ⟨a, d, r, g, kvs, rfl, _⟩ := h
    rfl
  · obtain ⟨a, d, r, g, kvs, rfl, hd, hD, ht, h4, q⟩ := h
    have hu := hu_of hr
    obtain ⟨xs, h1, h2⟩ := dat_at hd
    refine ⟨_, pss_cons (ps_if (pt_cmpR op_in_seq (pe_ix ix_tup (pv 0) pe_int (fun _ _ => rfl)) (pe_tup (pa_cons pe_str (pa_cons pe_str pa_nil))) (by rfl))
        (pss_one (ps_ret (pe_tup (pa_cons (pe_ix ix_tup (pv 0) pe_int (fun _ _ => rfl)) (pa_cons (pe_ix ix_tup (pv 0) pe_int (fun _ _ => rfl)) (pa_cons (pe_dget hu (pv 1) (pe_ix ix_tup (pv 0) pe_int (fun _ _ => rfl)) (fun _ _ => rfl)) pa_nil)))))) pss_nil)
      (pss_cons (ps_if (pt_cmpR op_eq (pe_ix ix_tup (pv 0) pe_int (fun _ _ => rfl)) pe_str (nomark _))
        (pss_one (ps_ret (pe_tup (pa_cons pe_str (pa_cons (pe_ix ix_tup (pv 0) pe_int (fun _ _ => rfl)) (pa_cons (pe_dget hu (pv 1) (pe_ix ix_tup (pv 0) pe_int (fun _ _ => rfl)) (fun _ _ => rfl))
          (pa_cons (pe_dget hu (pv 1) (pe_ix ix_tup (pv 0) pe_int (fun _ _ => rfl)) (fun _ _ => rfl)) pa_nil))))))) pss_nil)
      (pss_cons (ps_if (pt_cmpR op_eq (pe_ix ix_tup (pv 0) pe_int (fun _ _ => rfl)) pe_str (nomark _))
        (pss_one (ps_ret (pe_tup (pa_cons pe_str (pa_cons (pe_callTy call_tuple_of (by rfl) G.tuple (by decide +kernel) (pa_cons
          (pe_lc (own := [("child", 2)]) (g := gName 2) (by rfl) scRen.nd (pi_tup (pe_ix ix_tup (pv 0) pe_int (fun _ _ => rfl))) (blkOk_by (own := [("child", 2)]) (N := ["rule", "numbers", "child"]) (sc := defScope sRen) (by decide +kernel))
            (fun _ _ _ _ _ => pg_name (i := 2) scRen.nd rfl (.inl rfl)) (fun _ _ _ _ _ => pts_nil) (fun _ _ _ _ _ => pe_dget hu (pv 1) (pv 2) (fun _ _ => rfl))) pa_nil)) pa_nil))))) pss_nil)
      (pss_cons (ps_if (pt_cmpR op_eq (pe_ix ix_tup (pv 0) pe_int (fun _ _ => rfl)) pe_str (nomark _))
        (pss_one (ps_ret (pe_tup (pa_cons pe_str (pa_cons (pe_dget hu (pv 1) (pe_ix ix_tup (pv 0) pe_int (fun _ _ => rfl)) (fun _ _ => rfl)) pa_nil))))) pss_nil)
      (pss_one (ps_ret (pv 0)))))), ?_⟩
    refine ⟨.ref a, rfl, a, _, 0, .str r.word, rfl, rfl, SqT.of h1, atI_nat (j := 0) rfl, (by show 2 ≤ sizeLine; decide), fun t nt => ?_⟩
    have st := same_new (o := .tup [.str "unit", .str "more"]) nt
    have h1' := st _ _ h1
    have hD' := st _ _ hD
    refine ⟨t, _, rfl, .inr (SqT.of upd_same), rfl, rfl, _, rfl, ite2 (fun e => ?_) (fun e => ?_)⟩
    · -- (rule[0], rule[1], numbers[rule[2]])
      obtain ⟨v, m, dv, ex, tv, ek, ed⟩ : ∃ (v : V) (m : Nat) (dv : PyData), xs = [v, .int (m : Int)] ∧ Td H v dv ∧ m ∈ r.kids ∧ (r.ren g).dat = .tuple [.str r.word, dv, nD (g m)] := by
        rcases in_two.mp e with z | z
        · obtain ⟨m, rfl⟩ := w_unit z
          obtain ⟨v, ys, rfl, g1, g2⟩ := tda_cons h2
          obtain ⟨v2, zs, rfl, g3, g4⟩ := tda_cons g2
          rw [tda_nil g4, td_int g3]
          exact ⟨v, m, _, rfl, g1, List.mem_cons_self, rfl⟩
        · obtain ⟨m, rfl⟩ := w_more z
          obtain ⟨v, ys, rfl, g1, g2⟩ := tda_cons h2
          obtain ⟨v2, zs, rfl, g3, g4⟩ := tda_cons g2
          rw [tda_nil g4, td_int g3]
          exact ⟨v, m, _, rfl, g1, List.mem_cons_self, rfl⟩
      rw [ex] at h1'
      refine ⟨.ref a, rfl, a, _, 0, .str r.word, rfl, rfl, SqT.of h1', atI_nat (j := 0) rfl, .ref a, rfl, a, _, 1, v, rfl, rfl, SqT.of h1', atI_nat (j := 1) rfl, .ref d, rfl, .ref a, rfl, a, _, 2, .int (m : Int), rfl, rfl, SqT.of h1', atI_nat (j := 2) rfl,
        d, .int ((g m : Nat) : Int), rfl, by rw [← ht m ek]; exact DGet.k (k := kN m) hD', (by show 3 ≤ sizeLine; decide), fun p np => ?_⟩
      have sp := same_new (o := .tup [.str r.word, v, .int ((g m : Nat) : Int)]) np
      refine q _ p (st.trans sp) ?_
      rw [ed]
      exact .tup upd_same (.cons (.str _) (.cons (tv.k (TK.of (st.trans sp))) (.cons (.int _) .nil)))
    · have n1 : ¬ r.word = "unit" := fun z => e (in_two.mpr (.inl z))
      have n2 : ¬ r.word = "more" := fun z => e (in_two.mpr (.inr z))
      refine ⟨.ref a, rfl, a, _, 0, .str r.word, rfl, rfl, SqT.of h1', atI_nat (j := 0) rfl, rfl, _, rfl, ite2 (fun e => ?_) (fun e => ?_)⟩
      · -- ("choice", rule[1], numbers[rule[2]], numbers[rule[3]])
        obtain ⟨m, n, rfl⟩ := w_choice (dec_str.mp e)
        obtain ⟨v1, y1, rfl, g1, g2⟩ := tda_cons h2
        obtain ⟨v2, y2, rfl, g3, g4⟩ := tda_cons g2
        obtain ⟨v3, y3, rfl, g5, g6⟩ := tda_cons g4
        rw [tda_nil g6, td_int g3, td_int g5] at h1'
        have km : m ∈ (Rl.choice m n).kids := List.mem_cons_self
        have kn : n ∈ (Rl.choice m n).kids := List.mem_cons_of_mem _ List.mem_cons_self
        refine ⟨.ref a, rfl, a, _, 1, v1, rfl, rfl, SqT.of h1', atI_nat (j := 1) rfl, .ref d, rfl, .ref a, rfl, a, _, 2, .int (m : Int), rfl, rfl, SqT.of h1', atI_nat (j := 2) rfl, d, .int ((g m : Nat) : Int), rfl, by rw [← ht m km]; exact DGet.k (k := kN m) hD',
          .ref d, rfl, .ref a, rfl, a, _, 3, .int (n : Int), rfl, rfl, SqT.of h1', atI_nat (j := 3) rfl, d, .int ((g n : Nat) : Int), rfl, by rw [← ht n kn]; exact DGet.k (k := kN n) hD', (by show 4 ≤ sizeLine; decide), fun p np => ?_⟩
        have sp := same_new (o := .tup [.str "choice", v1, .int ((g m : Nat) : Int), .int ((g n : Nat) : Int)]) np
        exact q _ p (st.trans sp) (.tup upd_same (.cons (.str _) (.cons (g1.k (TK.of (st.trans sp))) (.cons (.int _) (.cons (.int _) .nil)))))
      · have n3 : ¬ r.word = "choice" := fun z => e (dec_str.mpr z)
        refine ⟨.ref a, rfl, a, _, 0, .str r.word, rfl, rfl, SqT.of h1', atI_nat (j := 0) rfl, rfl, _, rfl, ite2 (fun e => ?_) (fun e => ?_)⟩
        · -- ("parts", tuple([numbers[child] for child in rule[1]]))
          obtain ⟨row, rfl⟩ := w_parts (dec_str.mp e)
          obtain ⟨v1, y1, rfl, g1, g2⟩ := tda_cons h2
          obtain ⟨b, zs, rfl, e1, e2⟩ := td_tup g1
          rw [nv_td e2] at e1
          have hrow : row.length ≤ 4 := h4
          have ht' : ∀ m ∈ row, valV kvs (kN m) = some (.int ((g m : Nat) : Int)) := ht
          refine ⟨.ref a, rfl, a, _, 1, .ref b, rfl, rfl, SqT.of h1', atI_nat (j := 1) rfl, b, rfl, ⟨_, SqT.of (st _ _ e1)⟩, fun D nwD => ?_⟩
          refine lc_tup (K := K) (a := b) (xs := nv row) (fun i H2 => Same (upd H t (.tup [.str "unit", .str "more"])) H2 ∧ H2 D = some (.lst (nv ((row.take i).map g)))) ⟨same_new nwD, upd_same⟩ (fun i H2 _ z => SqT.of (z.1 _ _ (st _ _ e1))) ?_ ?_
          · rintro i x H2 hx ⟨s2, hDD⟩
            obtain ⟨m, hm, rfl⟩ := nv_of hx
            refine ⟨rfl, .ref d, rfl, .int (m : Int), rfl, d, .int ((g m : Nat) : Int), rfl, by rw [← tells_turn ht' hm]; exact DGet.k (k := kN m) (s2 _ _ hD'), _, hDD, ?_, fun c o z => ?_, ?_⟩
            · rw [nv_len, List.length_map, List.length_take]
              exact Nat.lt_of_le_of_lt (Nat.min_le_right _ _) (small1000 (by omega))
            · rw [upd_ne (ne_of_none z nwD)]
              exact s2 _ _ z
            · rw [upd_same, nv_step hm]
          · rintro H2 ⟨s2, hDD⟩
            rw [nv_len, List.take_length] at hDD
            refine ⟨D, _, rfl, .inl ⟨SqL.of hDD, fun l nl => ?_⟩⟩
            have sl := same_new (o := .tup (nv (row.map g))) nl
            refine ⟨(by show 2 ≤ sizeLine; decide), fun p np => ?_⟩
            have sp := same_new (o := .tup [.str "parts", .ref l]) np
            exact q _ p (((st.trans s2).trans sl).trans sp) (.tup upd_same (.cons (.str _) (.cons (.tup (sp _ _ upd_same) (td_nv _)) .nil)))
        · have n4 : ¬ r.word = "parts" := fun z => e (dec_str.mpr z)
          refine ⟨.ref a, rfl, a, _, 0, .str r.word, rfl, rfl, SqT.of h1', atI_nat (j := 0) rfl, rfl, _, rfl, ite2 (fun e => ?_) (fun e => ?_)⟩
          · -- ("less", numbers[rule[1]])
            obtain ⟨m, rfl⟩ := w_less (dec_str.mp e)
            obtain ⟨v1, y1, rfl, g1, g2⟩ := tda_cons h2
            rw [td_int g1] at h1'
            have km : m ∈ (Rl.less m).kids := List.mem_cons_self
            refine ⟨.ref d, rfl, .ref a, rfl, a, _, 1, .int (m : Int), rfl, rfl, SqT.of h1', atI_nat (j := 1) rfl, d, .int ((g m : Nat) : Int), rfl, by rw [← ht m km]; exact DGet.k (k := kN m) hD', (by show 2 ≤ sizeLine; decide), fun p np => ?_⟩
            have sp := same_new (o := .tup [.str "less", .int ((g m : Nat) : Int)]) np
            exact q _ p (st.trans sp) (.tup upd_same (.cons (.str _) (.cons (.int _) .nil)))
          · have n5 : ¬ r.word = "less" := fun z => e (dec_str.mpr z)
            obtain ⟨j, rfl⟩ := w_leaf n1 n2 n3 n4 n5
            exact ⟨.ref a, rfl, q _ a st (hd.k (TK.of st))⟩
def spRenL : Sp := fun vs H Q _ => ∃ (a c d : Addr) (r : Rl) (g : Nat → Nat) (kvs : List (Key × V)), vs = [.ref a, .ref c, .ref d] ∧ Td H (.ref a) r.dat ∧ H c = some (.tup (nv r.kids)) ∧ H d = some (.dK kvs) ∧ Tells kvs r g ∧ r.kids.length ≤ 4 ∧
  ∀ H' p, Same H H' → Td H' (.ref p) (r.ren g).dat → Q (.ref p) H'
theorem ok_renL {f : Addr} {fd : FuncData} (F : Fun K "_law_renamed" "_law_renamed" sRenL f fd) (G : Glob mg) : FnOk P w K mg base CX0 1 f fd ["_law_rule_here", "_law_children", "_law_numbers"] spRenL := by
  refine F.ok scRenL (fun vs H Q E h => ?_) (fun cdv A outer s H vs Q E hr h => ?_)
  · obtain ⟨a, c, d, r, g, kvs, rfl, _⟩ := h
    rfl
  · obtain ⟨a, c, d, r, g, kvs, rfl, hd, hc, hD, ht, h4, q⟩ := h
    have hu := hu_of hr
    obtain ⟨xs, h1, h2⟩ := dat_at hd
    refine ⟨_, pss_cons (ps_set (i := 3) scRenL.nd rfl (.inl rfl) (pe_callTy call_tuple_of (by rfl) G.tuple (by decide +kernel) (pa_cons
          (pe_lc (own := [("_law_child", 4)]) (g := gName 4) (by rfl) scRenL.nd (pi_tup (pv 1)) (blkOk_by (own := [("_law_child", 4)]) (N := ["_law_rule_here", "_law_children", "_law_numbers", "_law_new", "_law_child"]) (sc := defScope sRenL) (by decide +kernel))
            (fun _ _ _ _ _ => pg_name (i := 4) scRenL.nd rfl (.inl rfl)) (fun _ _ _ _ _ => pts_nil) (fun _ _ _ _ _ => pe_dget hu (pv 2) (pv 4) (fun _ _ => rfl))) pa_nil)))
      (pss_cons (ps_if (pt_cmpR op_eq (pe_ix ix_tup (pv 0) pe_int (fun _ _ => rfl)) pe_str (nomark _)) (pss_one (ps_ret (pe_tup (pa_cons pe_str (pa_cons (pv 3) pa_nil))))) pss_nil)
      (pss_cons (ps_if (pt_cmpR (op_eqD hr.units) (pv 1) (pe_tup pa_nil) (nomark _)) (pss_one (ps_ret (pv 0))) pss_nil)
      (pss_one (ps_ret (pe_op op_catT (pe_slice sl_tup (pv 0) po_none (po_some (pe_op op_sub (pe_callB call_len_seq (by rfl) G.len PySem.boot_len (pa_cons (pv 0) pa_nil)) (pe_callB call_len_seq (by rfl) G.len PySem.boot_len (pa_cons (pv 1) pa_nil))))) (pv 3)))))), ?_⟩
    -- new = tuple([numbers[child] for child in children])
    refine ⟨.ref c, rfl, c, rfl, ⟨_, SqT.of hc⟩, fun D nwD => ?_⟩
    refine lc_tup (K := K) (a := c) (xs := nv r.kids) (fun i H2 => Same H H2 ∧ H2 D = some (.lst (nv ((r.kids.take i).map g)))) ⟨same_new nwD, upd_same⟩ (fun i H2 _ z => SqT.of (z.1 _ _ hc)) ?_ ?_
    · rintro i x H2 hx ⟨s2, hDD⟩
      obtain ⟨m, hm, rfl⟩ := nv_of hx
      refine ⟨rfl, .ref d, rfl, .int (m : Int), rfl, d, .int ((g m : Nat) : Int), rfl, by rw [← tells_turn ht hm]; exact DGet.k (k := kN m) (s2 _ _ hD), _, hDD, ?_, fun b o z => ?_, ?_⟩
      · rw [nv_len, List.length_map, List.length_take]
        exact Nat.lt_of_le_of_lt (Nat.min_le_right _ _) (small1000 (by omega))
      · rw [upd_ne (ne_of_none z nwD)]
        exact s2 _ _ z
      · rw [upd_same, nv_step hm]
    · rintro H2 ⟨s2, hDD⟩
      rw [nv_len, List.take_length] at hDD
      refine ⟨D, _, rfl, .inl ⟨SqL.of hDD, fun l nl => ?_⟩⟩
      have sl := same_new (o := .tup (nv (r.kids.map g))) nl
      have s3 := s2.trans sl
      have h1' := s3 _ _ h1
      -- rule[0] == "parts"
      refine ⟨.ref a, rfl, a, _, 0, .str r.word, rfl, rfl, SqT.of h1', atI_nat (j := 0) rfl, rfl, _, rfl, ite2 (fun e => ?_) (fun e => ?_)⟩
      · obtain ⟨row, rfl⟩ := w_parts (dec_str.mp e)
        refine ⟨.ref l, rfl, (by show 2 ≤ sizeLine; decide), fun p np => ?_⟩
        have sp := same_new (o := .tup [.str "parts", .ref l]) np
        exact q _ p (s3.trans sp) (.tup upd_same (.cons (.str _) (.cons (.tup (sp _ _ upd_same) (td_nv _)) .nil)))
      · have np : ¬ r.word = "parts" := fun z => e (dec_str.mpr z)
        -- children == ()
        refine ⟨.ref c, rfl, Nat.zero_le _, fun t nt => ?_⟩
        have st := same_new (o := .tup []) nt
        have s4 := s3.trans st
        refine ⟨.tuple (r.kids.map nD), .tuple [], (Td.tup (s4 _ _ hc) (td_nv _)).d, (Td.tup upd_same .nil).d, (shp_tup (shp_nats 0 _)).shaped (by decide), (shp_tup (n := 0) fun d hd => (by cases hd)).shaped (by decide), _, rfl, ?_⟩
        rw [eqv_nil]
        refine ite2 (fun e => ?_) (fun e => ?_)
        · have ek : r.kids = [] := List.isEmpty_iff.mp e
          have z : (r.ren g).dat = r.dat := by rw [dat_ren r g np, dat_pre r np, ek, List.map_nil]
          refine ⟨.ref a, rfl, q _ a s4 ?_⟩
          rw [z]
          exact hd.k (TK.of s4)
        · have nk : r.kids ≠ [] := fun z => e (List.isEmpty_iff.mpr z)
          rw [dat_pre r np] at hd
          obtain ⟨a', ys, ea, g1, g2⟩ := td_tup hd
          cases ea
          obtain ⟨pa, pb, rfl, g3, g4⟩ := tda_split g2
          rw [nv_td g4] at g1
          have g1' := s4 _ _ g1
          have lp : pa.length = r.pre.length := g3.len
          have lp2 := pre_len r
          have kpos : 0 < r.kids.length := List.length_pos_iff.mpr nk
          have en : (((pa ++ nv r.kids).length : Nat) : Int) - ((nv r.kids).length : Nat) = ((pa.length : Nat) : Int) := by
            rw [List.length_append]
            omega
          -- rule[:len(rule) - len(children)] + new
          refine ⟨.ref a, rfl, .ref a, rfl, a, _, rfl, .inr (SqT.of g1'), .ref c, rfl, c, _, rfl, .inr (SqT.of (s4 _ _ hc)), _, _, rfl, rfl, _, rfl, a, _, rfl, SqT.of g1', ?_, fun u nu => ?_⟩
          · rintro ⟨_, z⟩
            rw [en, HT.sIx_nat, List.length_append, nv_len] at z
            omega
          · rw [en, cut_pre pa _ _ rfl]
            have su := same_new (o := .tup pa) nu
            have s5 := s4.trans su
            have hl5 := su _ _ (st _ _ (show (upd H2 l (.tup (nv (r.kids.map g)))) l = some (.tup (nv (r.kids.map g))) from upd_same))
            refine ⟨.ref l, rfl, u, l, pa, nv (r.kids.map g), rfl, rfl, SqT.of upd_same, SqT.of hl5, ?_, ?_, fun z => ?_, fun _ p np2 => ?_⟩
            · intro z
              rw [z] at lp
              exact pre_ne r (List.length_eq_zero_iff.mp lp.symm)
            · rw [nv_len, List.length_map]
              exact Nat.le_of_lt (small1000 (by omega))
            · have z2 := congrArg List.length z
              rw [nv_len, List.length_map] at z2
              have z3 : r.kids.length = 0 := z2
              omega
            · have sp := same_new (o := .tup (pa ++ nv (r.kids.map g))) np2
              refine q _ p (s5.trans sp) ?_
              rw [dat_ren r g np]
              exact .tup upd_same ((g3.k (TK.of (s5.trans sp))).app (td_nv _))
end
end K33

set_option maxHeartbeats 4000000
/-! trimmed. -/
namespace K33
open PySem PySem.Spec PyProof.Rows L2

def ruleAt (rs : List Rl) (m : Nat) : Rl := (rs[m]?).getD (.lf 0)
theorem ruleAt_at {rs : List Rl} {m : Nat} {r : Rl} (h : rs[m]? = some r) : ruleAt rs m = r := by
  unfold ruleAt
  rw [h]
  rfl
noncomputable def pos (rs : List Rl) (m : Nat) : Nat := (reach rs).idxOf m
/-- a node with its new number -/
noncomputable def keptD (rs : List Rl) (m : Nat) : PyData := .tuple [resD m, ((ruleAt rs m).ren (pos rs)).dat]
noncomputable def trimD (f : PyData) (rs : List Rl) : PyData := .tuple [f, .tuple ((reach rs).map (keptD rs))]

/-! ### the dict of new numbers, filled from the first on -/
def NumUp (rs : List Rl) (i : Nat) (kvs : List (Key × V)) : Prop := kvs.length ≤ i ∧ ∀ j m, j < i → (reach rs)[j]? = some m → valV kvs (kN m) = some (.int (j : Int))
theorem numUp_zero (rs : List Rl) : NumUp rs 0 [] := ⟨Nat.le_refl _, fun j m h => absurd h (Nat.not_lt_zero _)⟩
theorem putK_le (kvs : List (Key × V)) (k : Key) (v : V) : (putK kvs k v).length ≤ kvs.length + 1 := by
  unfold putK
  split
  · rw [List.length_map]
    exact Nat.le_succ _
  · rw [List.length_append]
    exact Nat.le_refl _
theorem reach_nd (rs : List Rl) : (reach rs).Nodup := (reach_up rs).imp fun {a b} h => by
  show a ≠ b
  omega
theorem numUp_put {rs : List Rl} {i m : Nat} {kvs : List (Key × V)} (h : NumUp rs i kvs) (hm : (reach rs)[i]? = some m) : NumUp rs (i + 1) (putK kvs (kN m) (.int (i : Int))) := by
  refine ⟨Nat.le_trans (putK_le _ _ _) (Nat.succ_le_succ h.1), fun j z hj hz => ?_⟩
  rw [valV_put]
  by_cases e : z = m
  · have ej : j = i := by
      rw [e] at hz
      exact nd_ix (reach_nd rs) hz hm
    rw [e, ej, if_pos rfl]
  · rw [if_neg (fun q => e (kN_inj q))]
    refine h.2 j z ?_ hz
    have hne : j ≠ i := fun q => e (by
      rw [q, hm] at hz
      exact (Option.some.inj hz).symm)
    omega
def NumD (rs : List Rl) (kvs : List (Key × V)) : Prop := ∀ m ∈ reach rs, valV kvs (kN m) = some (.int ((pos rs m : Nat) : Int))
theorem numUp_end {rs : List Rl} {kvs : List (Key × V)} (h : NumUp rs (reach rs).length kvs) : NumD rs kvs := fun m hm => h.2 _ m (List.idxOf_lt_length_of_mem hm) (at_idx hm)
theorem numD_tells {rs : List Rl} {kvs : List (Key × V)} (hl : Low rs) (h0 : 0 < rs.length) (h : NumD rs kvs) {m : Nat} {r : Rl} (hm : m ∈ reach rs) (hr : rs[m]? = some r) : Tells kvs r (pos rs) := fun z hz =>
  h z (kid_reach hl h0 hm (by rw [kidsOf_at hr]; exact hz))

/-- {k: v for x in range(lo, lo + n)}, by what holds between two turns -/
theorem dc_range {lo : Int} {n : Nat} {g : TG} {tt : TT} {tk tv : TE} {vs : List Nat} {σ : L2.St} {H1 : Hp} {D : Addr} {Z : Hp → Prop} (W : Nat → Hp → Prop) (start : W 0 (upd H1 D (.dK [])))
    (turn : ∀ j Ha, j < n → W j Ha → g (.int (lo + j)) (wipe σ vs) Ha fun τ Hb => wipe τ vs = wipe σ vs ∧ tt τ Hb fun ok Hc => if ok = true then tk τ Hc fun key Hd => tv τ Hd fun val He =>
      ∃ kvs k, key = kV k ∧ He D = some (.dK kvs) ∧ kvs.length < sizeLine ∧ W (j + 1) (upd He D (.dK (putK kvs k val))) else W (j + 1) Hc) (fin : ∀ Hz, W n Hz → Z Hz) :
    ∃ U : Nat → Nat → Hp → Prop, (∃ left, U 0 left (upd H1 D (.dK []))) ∧ ∀ j left Ha, U j left Ha → ((Itr lo n).stop j Ha ∧ Z Ha) ∨ ((Itr lo n).go j Ha ∧ ∃ Nx : Hp → Prop, (∀ Hb, Nx Hb → ∃ less, less < left ∧ U (j + 1) less Hb) ∧
      ∀ x Hb, (Itr lo n).yld j Ha x Hb → g x (wipe σ vs) Hb fun τ Hc => wipe τ vs = wipe σ vs ∧ tt τ Hc fun ok Hd => if ok = true then tk τ Hd fun key He => tv τ He fun val Hf =>
        ∃ kvs k, key = kV k ∧ Hf D = some (.dK kvs) ∧ kvs.length < sizeLine ∧ Nx (upd Hf D (.dK (putK kvs k val))) else Nx Hd) := by
  refine ⟨fun j left Ha => left + j = n ∧ W j Ha, ⟨n, Nat.add_zero n, start⟩, fun j left Ha ⟨e, p⟩ => ?_⟩
  by_cases lt : j < n
  · refine .inr ⟨lt, W (j + 1), fun Hb pb => ⟨left - 1, by omega, by omega, pb⟩, ?_⟩
    rintro x Hb ⟨rfl, rfl⟩
    exact turn j _ lt p
  · obtain rfl : j = n := by omega
    exact .inl ⟨Nat.le_refl _, fin Ha p⟩
section
variable {P : Program} {w : World} {K : PySem.W.Frag} {mg : Str → Option Value} {base : Heap}
/-- few children everywhere -/
def Few (rs : List Rl) : Prop := ∀ (m : Nat) (r : Rl), rs[m]? = some r → r.kids.length ≤ 4
def spTrim : Sp := fun vs H Q _ => ∃ (p : Addr) (f : PyData) (rs : List Rl), vs = [.ref p] ∧ Td H (.ref p) (sheetD f rs) ∧ Low rs ∧ 0 < rs.length ∧ rs.length ≤ 14 ∧ Few rs ∧
  ∀ H' q, Same H H' → Td H' (.ref q) (trimD f rs) → Q (.ref q) H'
theorem ok_trim {f fR fN : Addr} {fd fdR fdN : FuncData} (F : Fun K "trimmed" "trimmed" sTrim f fd) (G : Glob mg) (GR : FnOk P w K mg base CX0 2 fR fdR ["sheet"] spReached) (kR : PySem.W.keepIn K (.ref fR) = true) (bR : Binds K fdR ["sheet"] []) (gR : mg "reached" = some (.ref fR))
    (GN : FnOk P w K mg base CX0 1 fN fdN ["rule", "numbers"] spRen) (kN' : PySem.W.keepIn K (.ref fN) = true) (bN : Binds K fdN ["rule", "numbers"] []) (gN : mg "renumbered" = some (.ref fN)) :
    FnOk P w K mg base CX0 3 f fd ["sheet"] spTrim := by
  refine F.ok scTrim (fun vs H Q E h => ?_) (fun cdv A outer s H vs Q E hr h => ?_)
  · obtain ⟨p, f, rs, rfl, _⟩ := h
    rfl
  · obtain ⟨p, f, rs, rfl, hd, hl, h0, h14, hf, q⟩ := h
    have hr1 : Room 1 _ := hr.mono (by decide)
    obtain ⟨fv, n, xs, h1, h2, h3, h4⟩ := sheet_at hd
    refine ⟨_, pss_cons (ps_set (i := 1) scTrim.nd rfl (.inr rfl) (pe_call GR hr (by rfl) gR kR bR .nil pass0 (pa_cons (pv 0) pa_nil)))
      (pss_cons (ps_set (i := 2) scTrim.nd rfl (.inr rfl) (pe_dc (own := [("at", 4)]) (g := gName 4) (by rfl) scTrim.nd (pi_range1 rfl G.range (pa_cons (pe_callB call_len_seq (by rfl) G.len PySem.boot_len (pa_cons (pv 1) pa_nil)) pa_nil))
          (blkOk_by (own := [("at", 4)]) (N := ["sheet", "kept", "numbers", "nodes", "at", "number"]) (sc := defScope sTrim) (by decide +kernel))
          (fun _ _ _ _ _ => pg_name (i := 4) scTrim.nd rfl (.inl rfl)) (fun _ _ _ _ _ => pts_nil) (fun _ _ _ _ _ => pe_ix (ixL K) (pv 1) (pv 4) (fun _ _ => rfl)) (fun _ _ _ _ _ => pv 4)))
      (pss_cons (ps_setLc (i := 3) (own := [("number", 5)]) (g := gName 5) rfl scTrim.nd rfl rfl (sw_true rfl rfl rfl (by decide +kernel)) (pi_list (pv 1))
          (blkOk_by (own := [("number", 5)]) (N := ["sheet", "kept", "numbers", "nodes", "at", "number"]) (sc := defScope sTrim) (by decide +kernel))
          (fun _ _ _ _ _ => pg_name (i := 5) scTrim.nd rfl (.inl rfl)) (fun _ _ _ _ _ => pts_nil)
          (fun _ _ _ _ _ => pe_tup (pa_cons (pe_ix (ixT K) (pe_ix (ixT K) (pe_ix (ixT K) (pv 0) pe_int (fun _ _ => rfl)) (pv 5) (fun _ _ => rfl)) pe_int (fun _ _ => rfl))
            (pa_cons (pe_call GN hr1 (by rfl) gN kN' bN .nil pass0 (pa_cons (pe_ix (ixT K) (pe_ix (ixT K) (pe_ix (ixT K) (pv 0) pe_int (fun _ _ => rfl)) (pv 5) (fun _ _ => rfl)) pe_int (fun _ _ => rfl)) (pa_cons (pv 2) pa_nil))) pa_nil))))
      (pss_one (ps_ret (pe_tup (pa_cons (pe_ix ix_tup (pv 0) pe_int (fun _ _ => rfl)) (pa_cons (pe_callTy call_tuple_of (by rfl) G.tuple (by decide +kernel) (pa_cons (pv 3) pa_nil)) pa_nil))))))), ?_⟩
    -- kept = reached(sheet)
    refine ⟨.ref p, rfl, p, f, rs, rfl, hd, hl, h0, h14, fun H1 o sm no ho => ?_⟩
    have rl := reach_len rs
    -- numbers = {kept[at]: at for at in range(len(kept))}
    refine ⟨.ref o, rfl, o, _, rfl, .inl (SqL.of ho), (((nv (reach rs)).length : Nat) : Int), rfl, by omega, by rw [nv_len]; omega, fun d nwd => ?_⟩
    have en : (((nv (reach rs)).length : Nat) : Int).toNat = (reach rs).length := by rw [nv_len, Int.toNat_natCast]
    rw [en]
    refine dc_range (lo := 0) (n := (reach rs).length) (fun i H' => ∃ kvs, Same H1 H' ∧ H' d = some (.dK kvs) ∧ NumUp rs i kvs) ⟨[], same_new nwd, upd_same, numUp_zero rs⟩ ?_ ?_
    · rintro i H' hi ⟨kvs, s1, hD, hn⟩
      obtain ⟨m, hm⟩ : ∃ m, (reach rs)[i]? = some m := ⟨(reach rs)[i], List.getElem?_eq_getElem hi⟩
      rw [Int.zero_add]
      refine ⟨rfl, .ref o, rfl, .int (i : Int), rfl, o, _, (i : Int), .int (m : Int), rfl, rfl, SqL.of (s1 _ _ ho), atI_nat (nv_at hm), .int (i : Int), rfl, kvs, kN m, rfl, hD, small1000 (by have := hn.1; omega), _, fun b u e => ?_, upd_same, numUp_put hn hm⟩
      rw [upd_ne (ne_of_none e nwd)]
      exact s1 _ _ e
    · rintro H' ⟨kvs, s1, hD, hn⟩
      have hND := numUp_end hn
      have sh := sm.trans s1
      have ho' := s1 _ _ ho
      -- nodes = [.. for number in kept]
      refine ⟨.ref o, rfl, o, rfl, ⟨_, SqL.of ho'⟩, fun D nwD => ?_⟩
      refine lc_list (K := K) (a := o) (xs := nv (reach rs)) (fun i H2 => ∃ us, Same H' H2 ∧ H2 D = some (.lst us) ∧ TdA H2 us (((reach rs).take i).map (keptD rs))) ⟨[], same_new nwD, upd_same, .nil⟩ (fun i H2 _ ⟨_, z, _⟩ => SqL.of (z _ _ ho')) ?_ ?_
      · rintro i x H2 hx ⟨us, s2, hDD, T⟩
        obtain ⟨m, hm, rfl⟩ := nv_of hx
        have hmr : m ∈ reach rs := List.mem_of_getElem? hm
        have mlt := reach_lt hmr
        obtain ⟨r, hrm⟩ : ∃ r, rs[m]? = some r := ⟨rs[m], List.getElem?_eq_getElem mlt⟩
        obtain ⟨a, rv, c, g1, g2, g3, g4⟩ := node_at h4 hrm
        have s2h := sh.trans s2
        refine ⟨rfl, .ref p, rfl, p, _, 1, .ref n, rfl, rfl, SqT.of (s2h _ _ h1), atI_nat (j := 1) rfl, .int (m : Int), rfl, n, xs, (m : Int), .ref a, rfl, rfl, SqT.of (s2h _ _ h3), atI_nat g1, a, _, 0, rv, rfl, rfl, SqT.of (s2h _ _ g2), atI_nat (j := 0) rfl,
          .ref p, rfl, p, _, 1, .ref n, rfl, rfl, SqT.of (s2h _ _ h1), atI_nat (j := 1) rfl, .int (m : Int), rfl, n, xs, (m : Int), .ref a, rfl, rfl, SqT.of (s2h _ _ h3), atI_nat g1, a, _, 1, .ref c, rfl, rfl, SqT.of (s2h _ _ g2), atI_nat (j := 1) rfl, .ref d, rfl,
          c, d, r, pos rs, kvs, rfl, g4.k (TK.of s2h), s2 _ _ hD, numD_tells hl h0 hND hmr hrm, hf m r hrm, fun H3 y s3 ty => ?_⟩
        refine ⟨(by show 2 ≤ sizeLine; decide), fun u nu => ?_⟩
        have su := same_new (o := .tup [rv, .ref y]) nu
        have s23 := s3.trans su
        have hDu := s23 _ _ hDD
        have kD : TK (upd H3 u (.tup [rv, .ref y])) (upd (upd H3 u (.tup [rv, .ref y])) D (.lst (us ++ [.ref u]))) := TK.mut hDu fun _ z => by cases z
        refine ⟨us, hDu, ?_, us ++ [.ref u], fun b e z => ?_, upd_same, ?_⟩
        · rw [T.len, List.length_map, List.length_take]
          exact Nat.lt_of_le_of_lt (Nat.min_le_right _ _) (small1000 (by omega))
        · rw [upd_ne (ne_of_none z nwD)]
          exact s23 _ _ (s2 _ _ z)
        · rw [List.take_add_one, hm, List.map_append]
          refine ((T.k (TK.of s23)).k kD).snoc (Td.k ?_ kD)
          show Td _ _ (.tuple [resD m, ((ruleAt rs m).ren (pos rs)).dat])
          rw [ruleAt_at hrm]
          exact .tup upd_same (.cons (g3.k (TK.of (s2h.trans s23))) (.cons (ty.k (TK.of su)) .nil))
      · rintro H2 ⟨us, s2, hDD, T⟩
        rw [nv_len, List.take_length] at T
        have s2h := sh.trans s2
        -- return (sheet[0], tuple(nodes))
        refine ⟨.ref p, rfl, p, _, 0, fv, rfl, rfl, SqT.of (s2h _ _ h1), atI_nat (j := 0) rfl, .ref D, rfl, D, us, rfl, .inl ⟨SqL.of hDD, fun l nl => ?_⟩⟩
        have sl := same_new (o := .tup us) nl
        refine ⟨(by show 2 ≤ sizeLine; decide), fun t nt => ?_⟩
        have st := same_new (o := .tup [fv, .ref l]) nt
        have all := (s2h.trans sl).trans st
        exact q _ t all (.tup upd_same (.cons (h2.k (TK.of all)) (.cons (.tup (st _ _ upd_same) (T.k (TK.of (sl.trans st)))) .nil)))
end
end K33

set_option maxHeartbeats 4000000
/-! The law's draws: _law_draw, _law_take. -/
namespace K33
open PySem PySem.Spec PyProof.Rows L2

/-- a draw at d: the cells at l, the place, the rest of the cell, the seed -/
def DrawAt (H : Hp) (d l : Addr) : Prop := ∃ (ns : List Int) (i x s : Int), H d = some (.lst [.ref l, .int i, .int x, .int s]) ∧ H l = some (.lst (ns.map V.int)) ∧ (∀ n ∈ ns, 0 ≤ n) ∧ -1 ≤ i ∧ 0 ≤ x ∧ 0 ≤ s ∧ s < 2147483647
/-- all stays but d -/
def KpD (d : Addr) (H H' : Hp) : Prop := ∀ b o, H b = some o → b ≠ d → H' b = some o
theorem KpD.of {d : Addr} {H H' : Hp} (s : Same H H') : KpD d H H' := fun b o e _ => s b o e
theorem KpD.trans {d : Addr} {H H1 H2 : Hp} (a : KpD d H H1) (b : KpD d H1 H2) : KpD d H H2 := fun c o e n => b c o (a c o e n) n
theorem KpD.tk {d : Addr} {H H' : Hp} (k : KpD d H H') (h : ∀ xs, H d ≠ some (.tup xs)) : TK H H' := fun b xs e => k b _ e fun z => h xs (by rw [← z]; exact e)
theorem KpD.put {d : Addr} {H : Hp} {o : HO} : KpD d H (upd H d o) := fun b u e n => by
  rw [upd_ne n]
  exact e
theorem DrawAt.ne {H : Hp} {d l : Addr} (h : DrawAt H d l) (xs : List V) : H d ≠ some (.tup xs) := fun z => by
  obtain ⟨ns, i, x, s, e, _⟩ := h
  rw [z] at e
  cases e
theorem DrawAt.some {H : Hp} {d l : Addr} (h : DrawAt H d l) : ∃ o, H d = some o := let ⟨_, _, _, _, e, _⟩ := h; ⟨_, e⟩
theorem DrawAt.same {H H' : Hp} {d l : Addr} (h : DrawAt H d l) (s : Same H H') : DrawAt H' d l := by
  obtain ⟨ns, i, x, z, e, e2, r⟩ := h
  exact ⟨ns, i, x, z, s _ _ e, s _ _ e2, r⟩
theorem draw_ne {H : Hp} {d l : Addr} {ns : List Int} {i x s : Int} (e : H d = some (.lst [.ref l, .int i, .int x, .int s])) (e2 : H l = some (.lst (ns.map V.int))) : l ≠ d := fun z => by
  rw [z, e] at e2
  injection e2 with e3
  injection e3 with e4
  cases ns with
  | nil => cases e4
  | cons a r =>
    injection e4 with e5
    cases e5
section
variable {P : Program} {w : World} {K : PySem.W.Frag} {mg : Str → Option Value} {base : Heap}
def spTake : Sp := fun vs H Q _ => ∃ (d l : Addr) (many : Int), vs = [.ref d, .int many] ∧ 0 < many ∧ many < 1073741824 ∧ DrawAt H d l ∧
  ∀ H' (m : Nat), (m : Int) < many → DrawAt H' d l → KpD d H H' → Q (.int (m : Int)) H'
theorem ok_take {f : Addr} {fd : FuncData} (F : Fun K "_law_take" "_law_take" sTake f fd) (G : Glob mg) : FnOk P w K mg base CX0 1 f fd ["_law_draw_here", "_law_many"] spTake := by
  refine F.ok scTake (fun vs H Q E h => ?_) (fun cdv A outer s H vs Q E hr h => ?_)
  · obtain ⟨d, l, many, rfl, _⟩ := h
    rfl
  · obtain ⟨d, l, many, rfl, hm0, hm1, ⟨ns, i, x, z, e1, e2, hns, hi, hx, hz0, hz1⟩, q⟩ := h
    have hld := draw_ne e1 e2
    refine ⟨_, C8.pss_cut (ps_if (pt_cmpR op_eq (pe_ix ix_list (pv 0) pe_int (fun _ _ => rfl)) pe_int (nomark _))
        (pss_cons (ps_asg (pe_op op_add (pe_ix ix_list (pv 0) pe_int (fun _ _ => rfl)) pe_int) (pg_sub (pv 0) pe_int set_list))
        (C8.pss_cut (ps_if (pt_cmpR op_lt (pe_ix ix_list (pv 0) pe_int (fun _ _ => rfl)) (pe_callB call_len_seq (by rfl) G.len PySem.boot_len (pa_cons (pe_ix ix_list (pv 0) pe_int (fun _ _ => rfl)) pa_nil)) (nomark _))
            (pss_one (ps_asg (pe_ix ix_list (pe_ix ix_list (pv 0) pe_int (fun _ _ => rfl)) (pe_ix ix_list (pv 0) pe_int (fun _ _ => rfl)) (fun _ _ => rfl)) (pg_sub (pv 0) pe_int set_list))) pss_nil)
        (pss_one (ps_if (pt_cmpR op_eq (pe_ix ix_list (pv 0) pe_int (fun _ _ => rfl)) pe_int (nomark _))
          (pss_cons (ps_asg (pe_op op_mod (pe_callTy call_int1 (by rfl) G.int (by decide +kernel) (pa_cons (pe_op op_add (pe_op op_mul (pe_ix ix_list (pv 0) pe_int (fun _ _ => rfl)) pe_int) pe_int) pa_nil)) pe_int) (pg_sub (pv 0) pe_int set_list))
          (pss_one (ps_asg (pe_ix ix_list (pv 0) pe_int (fun _ _ => rfl)) (pg_sub (pv 0) pe_int set_list)))) pss_nil)))) pss_nil)
      (pss_cons (ps_set (i := 2) scTake.nd rfl (.inl rfl) (pe_op op_mod (pe_callTy call_int1 (by rfl) G.int (by decide +kernel) (pa_cons (pe_ix ix_list (pv 0) pe_int (fun _ _ => rfl)) pa_nil)) (pv 1)))
      (pss_cons (ps_asg (pe_op op_fdiv (pe_ix ix_list (pv 0) pe_int (fun _ _ => rfl)) (pv 1)) (pg_sub (pv 0) pe_int set_list))
      (pss_one (ps_ret (pv 2))))), ?_⟩
    refine ⟨fun σ' H' => σ' = [some (.ref d), some (.int many), none] ∧ DrawAt H' d l ∧ KpD d H H', ?_, ?_⟩
    · -- if d[2] == 0
      refine ⟨.ref d, rfl, d, _, 2, .int x, rfl, rfl, SqL.of e1, atI_nat (j := 2) rfl, rfl, _, rfl, ite2 (fun _ => ?_) (fun _ => ?_)⟩
      · -- d[1] = d[1] + 1
        refine ⟨.ref d, rfl, d, _, 1, .int i, rfl, rfl, SqL.of e1, atI_nat (j := 1) rfl, i, 1, rfl, rfl, .ref d, rfl, d, _, 1, 1, rfl, rfl, e1, rfl, ?_⟩
        have k1 : KpD d H (upd H d (.lst [.ref l, .int (i + 1), .int x, .int z])) := KpD.put
        have u1 : (upd H d (.lst [.ref l, .int (i + 1), .int x, .int z])) d = some (.lst [.ref l, .int (i + 1), .int x, .int z]) := upd_same
        have l1 : (upd H d (.lst [.ref l, .int (i + 1), .int x, .int z])) l = some (.lst (ns.map V.int)) := k1 _ _ e2 hld
        refine ⟨fun σ' H' => σ' = [some (.ref d), some (.int many), none] ∧ DrawAt H' d l ∧ KpD d H H', ?_, ?_⟩
        · -- if d[1] < len(d[0])
          refine ⟨.ref d, rfl, d, _, 1, .int (i + 1), rfl, rfl, SqL.of u1, atI_nat (j := 1) rfl, .ref d, rfl, d, _, 0, .ref l, rfl, rfl, SqL.of u1, atI_nat (j := 0) rfl, l, _, rfl, .inl (SqL.of l1), i + 1, _, rfl, rfl, _, rfl, ite2 (fun c => ?_) (fun _ => ?_)⟩
          · have c' : i + 1 < ((ns.map V.int).length : Nat) := of_decide_eq_true c
            rw [List.length_map] at c'
            obtain ⟨j, ej⟩ : ∃ j : Nat, i + 1 = (j : Int) := ⟨(i + 1).toNat, by omega⟩
            have hj : j < ns.length := by omega
            have hat : (ns.map V.int)[j]? = some (.int ns[j]) := by
              rw [List.getElem?_map, List.getElem?_eq_getElem hj]
              rfl
            have pos := hns ns[j] (List.getElem_mem hj)
            -- d[2] = d[0][d[1]]
            refine ⟨.ref d, rfl, d, _, 0, .ref l, rfl, rfl, SqL.of u1, atI_nat (j := 0) rfl, .ref d, rfl, d, _, 1, .int (i + 1), rfl, rfl, SqL.of u1, atI_nat (j := 1) rfl, l, _, i + 1, .int ns[j], rfl, rfl, SqL.of l1, at_of ej hat, .ref d, rfl, d, _, 2, 2, rfl, rfl, u1, rfl, rfl, ?_, fun b o eb nb => ?_⟩
            · exact ⟨ns, i + 1, ns[j], z, upd_same, by rw [upd_ne hld]; exact l1, hns, by omega, pos, hz0, hz1⟩
            · rw [upd_ne nb]
              exact k1 b o eb nb
          · exact ⟨rfl, ⟨ns, i + 1, x, z, u1, l1, hns, by omega, hx, hz0, hz1⟩, k1⟩
        · rintro σ' H' ⟨rfl, ⟨ns2, i2, x2, z2, f1, f2, hns2, hi2, hx2, hz20, hz21⟩, k2⟩
          have hld2 := draw_ne f1 f2
          -- if d[2] == 0
          refine ⟨.ref d, rfl, d, _, 2, .int x2, rfl, rfl, SqL.of f1, atI_nat (j := 2) rfl, rfl, _, rfl, ite2 (fun _ => ?_) (fun _ => ?_)⟩
          · refine ⟨.ref d, rfl, d, _, 3, .int z2, rfl, rfl, SqL.of f1, atI_nat (j := 3) rfl, z2, 48271, rfl, rfl, .inl ⟨by omega, by omega⟩, _, 11, rfl, rfl, .inl ⟨_, rfl, _, 2147483647, rfl, rfl, (by show (0 : Int) < 2147483647; decide), .ref d, rfl, d, _, 3, 3, rfl, rfl, f1, rfl, ?_⟩⟩
            have b0 : 0 ≤ (z2 * 48271 + 11) % 2147483647 := Int.emod_nonneg _ (by decide)
            have b1 : (z2 * 48271 + 11) % 2147483647 < 2147483647 := Int.emod_lt_of_pos _ (by decide)
            have u3 : (upd H' d (.lst [.ref l, .int i2, .int x2, .int ((z2 * 48271 + 11) % 2147483647)])) d = some (.lst [.ref l, .int i2, .int x2, .int ((z2 * 48271 + 11) % 2147483647)]) := upd_same
            refine ⟨.ref d, rfl, d, [.ref l, .int i2, .int x2, .int ((z2 * 48271 + 11) % 2147483647)], 3, .int ((z2 * 48271 + 11) % 2147483647), rfl, rfl, SqL.of u3, atI_nat (j := 3) rfl, .ref d, rfl, d, [.ref l, .int i2, .int x2, .int ((z2 * 48271 + 11) % 2147483647)], 2, 2, rfl, rfl, u3, rfl, rfl, ?_, fun b o eb nb => ?_⟩
            · exact ⟨ns2, i2, (z2 * 48271 + 11) % 2147483647, (z2 * 48271 + 11) % 2147483647, upd_same, by rw [upd_ne hld2, upd_ne hld2]; exact f2, hns2, hi2, b0, b0, b1⟩
            · rw [upd_ne nb, upd_ne nb]
              exact k2 b o eb nb
          · exact ⟨rfl, ⟨ns2, i2, x2, z2, f1, f2, hns2, hi2, hx2, hz20, hz21⟩, k2⟩
      · exact ⟨rfl, ⟨ns, i, x, z, e1, e2, hns, hi, hx, hz0, hz1⟩, fun b o eb _ => eb⟩
    · rintro σ' H' ⟨rfl, ⟨ns2, i2, x2, z2, f1, f2, hns2, hi2, hx2, hz20, hz21⟩, k2⟩
      have hld2 := draw_ne f1 f2
      -- found = int(d[2]) % many; d[2] = d[2] // many; return found
      refine ⟨.ref d, rfl, d, _, 2, .int x2, rfl, rfl, SqL.of f1, atI_nat (j := 2) rfl, .inl ⟨x2, rfl, .int many, rfl, x2, many, rfl, rfl, hm0, ?_⟩⟩
      refine ⟨.ref d, rfl, d, _, 2, .int x2, rfl, rfl, SqL.of f1, atI_nat (j := 2) rfl, .int many, rfl, x2, many, rfl, rfl, ⟨hm0, hm1⟩, .ref d, rfl, d, _, 2, 2, rfl, rfl, f1, rfl, ?_⟩
      have b0 : 0 ≤ x2 % many := Int.emod_nonneg _ (by omega)
      have b1 : x2 % many < many := Int.emod_lt_of_pos _ hm0
      have b2 : 0 ≤ x2 / many := Int.ediv_nonneg hx2 (by omega)
      obtain ⟨m, em⟩ : ∃ m : Nat, x2 % many = (m : Int) := ⟨(x2 % many).toNat, by omega⟩
      rw [em] at b1
      refine ⟨.int (m : Int), by rw [← em]; rfl, q _ m b1 ⟨ns2, i2, x2 / many, z2, upd_same, by rw [upd_ne hld2]; exact f2, hns2, hi2, b2, hz20, hz21⟩ fun b o eb nb => ?_⟩
      rw [upd_ne nb]
      exact k2 b o eb nb
def spDraw (K : PySem.W.Frag) : Sp := fun vs H Q _ => ∃ (a : Addr) (ns : List Int), vs = [.ref a] ∧ SqL K H a (ns.map V.int) ∧ ns.length ≤ 63 ∧ ∀ H' d l, Same H H' → H d = none → DrawAt H' d l → Q (.ref d) H'
theorem ints_at {ns : List Int} {i : Nat} {x : V} (h : (ns.map V.int)[i]? = some x) : ∃ z, ns[i]? = some z ∧ x = .int z := by
  rw [List.getElem?_map] at h
  cases e : ns[i]? with
  | none =>
    rw [e] at h
    cases h
  | some z =>
    rw [e] at h
    exact ⟨z, rfl, (Option.some.inj h).symm⟩
theorem ok_draw {f : Addr} {fd : FuncData} (F : Fun K "_law_draw" "_law_draw" sDraw f fd) (G : Glob mg) : FnOk P w K mg base CX0 1 f fd ["_law_script"] (spDraw K) := by
  refine F.ok scDraw (fun vs H Q E h => ?_) (fun cdv A outer s H vs Q E hr h => ?_)
  · obtain ⟨a, ns, rfl, _⟩ := h
    rfl
  · obtain ⟨a, ns, rfl, hS, hlen, q⟩ := h
    refine ⟨_, pss_cons (ps_set (i := 1) scDraw.nd rfl (.inl rfl) pe_int)
      (pss_cons (ps_for PassesOwn.never rfl (pi_list (pv 0)) (pg_name (i := 2) scDraw.nd rfl (.inl rfl))
        (pss_one (ps_set (i := 1) scDraw.nd rfl (.inl rfl) (pe_op op_mod (pe_callTy call_int1 (by rfl) G.int (by decide +kernel) (pa_cons (pe_op op_add (pe_op op_add (pe_op op_mul (pv 1) pe_int)
          (pe_op op_mod (pe_callB call_abs (by rfl) G.abs (by decide +kernel) (pa_cons (pe_callTy call_int1 (by rfl) G.int (by decide +kernel) (pa_cons (pv 2) pa_nil)) pa_nil)) pe_int)) pe_int) pa_nil)) pe_int))))
      (pss_one (ps_ret (pe_lst (pa_cons (pe_lc (own := [("_law_cell", 2)]) (g := gName 2) (by rfl) scDraw.nd (pi_list (pv 0)) (blkOk_by (own := [("_law_cell", 2)]) (N := ["_law_script", "_law_seed", "_law_cell"]) (sc := defScope sDraw) (by decide +kernel))
          (fun _ _ _ _ _ => pg_name (i := 2) scDraw.nd rfl (.inl rfl)) (fun _ _ _ _ _ => pts_nil)
          (fun _ _ _ _ _ => pe_callB call_abs (by rfl) G.abs (by decide +kernel) (pa_cons (pe_callTy call_int1 (by rfl) G.int (by decide +kernel) (pa_cons (pv 2) pa_nil)) pa_nil)))
        (pa_cons (pe_un un_neg pe_int) (pa_cons pe_int (pa_cons (pv 1) pa_nil)))))))), ?_⟩
    -- seed = 7; for cell in script
    refine ⟨.ref a, rfl, a, rfl, ⟨_, hS⟩, for_list (K := K) (a := a) (xs := ns.map V.int) (fun i σ H' => ∃ (z : Int) (v : Option V), σ = [some (.ref a), some (.int z), v] ∧ H' = H ∧ 0 ≤ z ∧ z < 2147483647) ⟨7, none, rfl, rfl, by decide, by decide⟩
      (fun i σ H' _ ⟨_, _, _, e, _⟩ => by rw [e]; exact hS) ?_ ?_⟩
    · rintro i x σ H' hx ⟨z, v, rfl, rfl, z0, z1⟩
      obtain ⟨c, hc, rfl⟩ := ints_at hx
      refine ⟨_, rfl, z, 48271, rfl, rfl, .inl ⟨by omega, by omega⟩, _, rfl, .inl ⟨c, rfl, c, rfl, _, 65521, rfl, rfl, (by show (0 : Int) < 65521; decide), _, _, rfl, rfl, _, 1, rfl, rfl, .inl ⟨_, rfl, _, 2147483647, rfl, rfl, (by show (0 : Int) < 2147483647; decide), ?_⟩⟩⟩
      exact ⟨_, _, rfl, rfl, Int.emod_nonneg _ (by decide), Int.emod_lt_of_pos _ (by decide)⟩
    · rintro σ H' ⟨z, v, rfl, rfl, z0, z1⟩
      -- return [[abs(int(cell)) for cell in script], -1, 0, seed]
      refine ⟨.ref a, rfl, a, rfl, ⟨_, hS⟩, fun D nwD => ?_⟩
      refine lc_list (K := K) (a := a) (xs := ns.map V.int) (fun i H2 => ∃ ms : List Int, Same H' H2 ∧ H2 D = some (.lst (ms.map V.int)) ∧ ms.length = i ∧ ∀ n ∈ ms, 0 ≤ n) ⟨[], same_new nwD, upd_same, rfl, fun n hn => (by cases hn)⟩ (fun i H2 _ ⟨_, e, _⟩ => e.seq hS) ?_ ?_
      · rintro i x H2 hx ⟨ms, s2, hDD, lm, pm⟩
        have hi := (List.getElem?_eq_some_iff.mp hx).1
        rw [List.length_map] at hi
        obtain ⟨c, hc, rfl⟩ := ints_at hx
        refine ⟨rfl, .int c, rfl, .inl ⟨c, rfl, c, rfl, _, hDD, ?_, ms ++ [if c < 0 then -c else c], fun b e eb => ?_, ?_, ?_, fun n hn => ?_⟩⟩
        · rw [List.length_map]
          exact small1000 (by omega)
        · rw [upd_ne (ne_of_none eb nwD)]
          exact s2 _ _ eb
        · rw [upd_same, List.map_append]
          rfl
        · rw [List.length_append, lm]
          rfl
        · rcases List.mem_append.mp hn with h | h
          · exact pm n h
          · rw [List.mem_singleton.mp h]
            split <;> omega
      · rintro H2 ⟨ms, s2, hDD, lm, pm⟩
        refine ⟨_, rfl, _, rfl, (by show 4 ≤ sizeLine; decide), fun d nd => ?_⟩
        have sd := same_new (o := .lst [.ref D, .int (-1), .int 0, .int z]) nd
        exact q _ d D (s2.trans sd) (s2.free nd) ⟨ms, -1, 0, z, upd_same, sd _ _ hDD, pm, by decide, by decide, z0, z1⟩
end
end K33

set_option maxHeartbeats 8000000
/-! _law_rule. -/
namespace K33
open PySem PySem.Spec PyProof.Rows L2

/-- a pair of a leaf and its empty row -/
def LeafAt (H : Hp) (p : Addr) (j : Nat) : Prop := ∃ a c : Addr, H p = some (.tup [.ref a, .ref c]) ∧ Td H (.ref a) (Rl.lf j).dat ∧ H c = some (.tup [])
theorem LeafAt.same {H H' : Hp} {p : Addr} {j : Nat} (h : LeafAt H p j) (s : Same H H') : LeafAt H' p j := by
  obtain ⟨a, c, e, t, e2⟩ := h
  exact ⟨a, c, s _ _ e, t.k (TK.of s), s _ _ e2⟩
theorem leaf_pick {H : Hp} {a b c d e : Addr} (h0 : LeafAt H a 0) (h1 : LeafAt H b 1) (h2 : LeafAt H c 2) (h3 : LeafAt H d 3) (h4 : LeafAt H e 4) : ∀ {j : Nat}, j < 5 → ∃ p, ([.ref a, .ref b, .ref c, .ref d, .ref e] : List V)[j]? = some (.ref p) ∧ LeafAt H p j
  | 0, _ => ⟨a, rfl, h0⟩
  | 1, _ => ⟨b, rfl, h1⟩
  | 2, _ => ⟨c, rfl, h2⟩
  | 3, _ => ⟨d, rfl, h3⟩
  | 4, _ => ⟨e, rfl, h4⟩
  | j + 5, h => absurd h (by omega)
section
variable {P : Program} {w : World} {K : PySem.W.Frag} {mg : Str → Option Value} {base : Heap}
/-- p holds a rule and its children, both tuples -/
def RuleAt (H : Hp) (p : Addr) (r : Rl) : Prop := ∃ a c : Addr, H p = some (.tup [.ref a, .ref c]) ∧ Td H (.ref a) r.dat ∧ H c = some (.tup (nv r.kids))
def spRule : Sp := fun vs H Q _ => ∃ (d l : Addr) (n : Nat), vs = [.ref d, .int (n : Int)] ∧ n ≤ 13 ∧ DrawAt H d l ∧
  ∀ H' (p : Addr) (r : Rl), DrawAt H' d l → KpD d H H' → RuleAt H' p r → (∀ m ∈ r.kids, m < n) → r.kids.length ≤ 4 → Q (.ref p) H'
theorem ok_rule {f fT : Addr} {fd fdT : FuncData} (F : Fun K "_law_rule" "_law_rule" sRule f fd) (G : Glob mg) (GT : FnOk P w K mg base CX0 1 fT fdT ["_law_draw_here", "_law_many"] spTake) (kT : PySem.W.keepIn K (.ref fT) = true)
    (bT : Binds K fdT ["_law_draw_here", "_law_many"] []) (gT : mg "_law_take" = some (.ref fT)) : FnOk P w K mg base CX0 2 f fd ["_law_draw_here", "_law_below"] spRule := by
  refine F.ok scRule (fun vs H Q E h => ?_) (fun cdv A outer s H vs Q E hr h => ?_)
  · obtain ⟨d, l, n, rfl, _⟩ := h
    rfl
  · obtain ⟨d, l, n, rfl, hn, hD, q⟩ := h
    refine ⟨_, pss_cons (ps_set (i := 2) scRule.nd rfl (.inl rfl) (pe_call GT hr (by rfl) gT kT bT .nil pass0 (pa_cons (pv 0) (pa_cons pe_int pa_nil))))
      (pss_cons (ps_set (i := 3) scRule.nd rfl (.inl rfl) (pe_call GT hr (by rfl) gT kT bT .nil pass0 (pa_cons (pv 0) (pa_cons (pe_callB (call_max2 rfl) (by rfl) G.max (by decide +kernel) (pa_cons (pv 1) (pa_cons pe_int pa_nil))) pa_nil))))
      (pss_cons (ps_set (i := 4) scRule.nd rfl (.inl rfl) (pe_call GT hr (by rfl) gT kT bT .nil pass0 (pa_cons (pv 0) (pa_cons (pe_callB (call_max2 rfl) (by rfl) G.max (by decide +kernel) (pa_cons (pv 1) (pa_cons pe_int pa_nil))) pa_nil))))
      (pss_cons (ps_if (PW.pt (pw_or (pt_cmpR op_eq (pv 1) pe_int (nomark _)) (pw_or1 (pt_cmpR op_lt (pv 2) pe_int (nomark _)))))
        (pss_one (ps_ret (pe_ix ix_list (pe_lst
          (pa_cons (pe_tup (pa_cons (pe_tup (pa_cons pe_str pa_nil)) (pa_cons (pe_tup pa_nil) pa_nil)))
          (pa_cons (pe_tup (pa_cons (pe_tup (pa_cons pe_str pa_nil)) (pa_cons (pe_tup pa_nil) pa_nil)))
          (pa_cons (pe_tup (pa_cons (pe_tup (pa_cons pe_str pa_nil)) (pa_cons (pe_tup pa_nil) pa_nil)))
          (pa_cons (pe_tup (pa_cons (pe_tup (pa_cons pe_str (pa_cons (pe_tup (pa_cons (pe_tup pa_nil) pa_nil)) pa_nil))) (pa_cons (pe_tup pa_nil) pa_nil)))
          (pa_cons (pe_tup (pa_cons (pe_tup (pa_cons pe_str (pa_cons (pe_tup (pa_cons (pe_un un_neg pe_int) (pa_cons pe_int pa_nil))) pa_nil))) (pa_cons (pe_tup pa_nil) pa_nil)))
            pa_nil))))))
          (pe_op op_mod (pe_callTy call_int1 (by rfl) G.int (by decide +kernel) (pa_cons (pv 2) pa_nil)) pe_int) (fun _ _ => rfl)))) pss_nil)
      (pss_cons (ps_if (pt_cmpR op_eq (pv 2) pe_int (nomark _))
        (pss_one (ps_ret (pe_tup (pa_cons (pe_tup (pa_cons pe_str (pa_cons (pe_un un_neg pe_int) (pa_cons (pv 3) pa_nil)))) (pa_cons (pe_tup (pa_cons (pv 3) pa_nil)) pa_nil))))) pss_nil)
      (pss_cons (ps_if (pt_cmpR op_eq (pv 2) pe_int (nomark _))
        (pss_one (ps_ret (pe_tup (pa_cons (pe_tup (pa_cons pe_str (pa_cons pe_int (pa_cons (pv 3) (pa_cons (pv 4) pa_nil))))) (pa_cons (pe_tup (pa_cons (pv 3) (pa_cons (pv 4) pa_nil))) pa_nil))))) pss_nil)
      (pss_cons (ps_if (pt_cmpR op_lt (pv 2) pe_int (nomark _))
        (pss_cons (ps_set (i := 5) scRule.nd rfl (.inl rfl) (pe_callTy call_tuple_of (by rfl) G.tuple (by decide +kernel) (pa_cons (pe_lc (own := [("_law_j", 6)]) (g := gName 6) (by rfl) scRule.nd
            (pi_range1 rfl G.range (pa_cons (pe_call GT hr (by rfl) gT kT bT .nil pass0 (pa_cons (pv 0) (pa_cons pe_int pa_nil))) pa_nil))
            (blkOk_by (own := [("_law_j", 6)]) (N := ["_law_draw_here", "_law_below", "_law_k", "_law_a", "_law_b", "_law_row", "_law_j"]) (sc := defScope sRule) (by decide +kernel))
            (fun _ _ _ _ _ => pg_name (i := 6) scRule.nd rfl (.inl rfl)) (fun _ _ _ _ _ => pts_nil)
            (fun _ _ _ _ _ => pe_call GT hr (by rfl) gT kT bT .nil pass0 (pa_cons (pv 0) (pa_cons (pv 1) pa_nil)))) pa_nil)))
        (pss_one (ps_ret (pe_tup (pa_cons (pe_tup (pa_cons pe_str (pa_cons (pv 5) pa_nil))) (pa_cons (pv 5) pa_nil)))))) pss_nil)
      (pss_cons (ps_if (pt_cmpR op_eq (pv 2) pe_int (nomark _))
        (pss_one (ps_ret (pe_tup (pa_cons (pe_tup (pa_cons pe_str (pa_cons (pe_tup (pa_cons pe_int (pa_cons pe_int pa_nil))) (pa_cons (pv 3) pa_nil)))) (pa_cons (pe_tup (pa_cons (pv 3) pa_nil)) pa_nil))))) pss_nil)
      (pss_one (ps_ret (pe_tup (pa_cons (pe_tup (pa_cons pe_str (pa_cons (pv 3) pa_nil))) (pa_cons (pe_tup (pa_cons (pv 3) pa_nil)) pa_nil)))))))))))), ?_⟩
    have mx : ∀ m : Nat, (m : Int) < (if (1 : Int) > (n : Int) then 1 else (n : Int)) → n ≠ 0 → m < n := fun m h h0 => by
      split at h <;> omega
    have mp : (0 : Int) < (if (1 : Int) > (n : Int) then 1 else (n : Int)) ∧ (if (1 : Int) > (n : Int) then 1 else (n : Int)) < 1073741824 := by
      constructor <;> (split <;> omega)
    -- k, a, b
    refine ⟨.ref d, rfl, d, l, 10, rfl, by decide, by decide, hD, fun H1 k kb D1 k1 => ?_⟩
    refine ⟨.ref d, rfl, .int (n : Int), rfl, n, 1, rfl, d, l, _, rfl, mp.1, mp.2, D1, fun H2 a ab D2 k2 => ?_⟩
    refine ⟨.ref d, rfl, .int (n : Int), rfl, n, 1, rfl, d, l, _, rfl, mp.1, mp.2, D2, fun H3 b bb D3 k3 => ?_⟩
    have k13 := (k1.trans k2).trans k3
    refine ⟨.int (n : Int), rfl, rfl, _, rfl, ite2 (fun e0 => ?wA) (fun e0 => ?_)⟩
    rotate_left
    refine ⟨.int (k : Int), rfl, k, 4, rfl, rfl, _, rfl, ite2 (fun e1 => ?wB) (fun e1 => ?_)⟩
    rotate_left
    · -- the rules with children
      have n0 : n ≠ 0 := fun z => e0 (decide_eq_true (by rw [z]; rfl))
      have la := mx a ab n0
      have lb := mx b bb n0
      refine ⟨.int (k : Int), rfl, rfl, _, rfl, ite2 (fun _ => ?_) (fun _ => ?_)⟩
      · -- unit
        refine ⟨_, rfl, .int (a : Int), rfl, (by show 3 ≤ sizeLine; decide), fun p1 n1 => ?_⟩
        have s1 := same_new (o := .tup [.str "unit", .int (-7), .int (a : Int)]) n1
        refine ⟨.int (a : Int), rfl, (by show 1 ≤ sizeLine; decide), fun p2 n2 => ?_⟩
        have s2 := same_new (o := .tup [.int (a : Int)]) n2
        refine ⟨(by show 2 ≤ sizeLine; decide), fun p3 n3 => ?_⟩
        have s3 := same_new (o := .tup [.ref p1, .ref p2]) n3
        refine q _ p3 (.unit a) (((D3.same s1).same s2).same s3) (k13.trans (.of ((s1.trans s2).trans s3))) ⟨p1, p2, upd_same, .tup (s3 _ _ (s2 _ _ upd_same)) (.cons (.str _) (.cons (.int _) (.cons (.int _) .nil))), s3 _ _ upd_same⟩ (fun m hm => ?_) (by show 1 ≤ 4; decide)
        rw [List.mem_singleton.mp hm]
        exact la
      · refine ⟨.int (k : Int), rfl, rfl, _, rfl, ite2 (fun _ => ?_) (fun _ => ?_)⟩
        · -- choice
          refine ⟨.int (a : Int), rfl, .int (b : Int), rfl, (by show 4 ≤ sizeLine; decide), fun p1 n1 => ?_⟩
          have s1 := same_new (o := .tup [.str "choice", .int 5, .int (a : Int), .int (b : Int)]) n1
          refine ⟨.int (a : Int), rfl, .int (b : Int), rfl, (by show 2 ≤ sizeLine; decide), fun p2 n2 => ?_⟩
          have s2 := same_new (o := .tup [.int (a : Int), .int (b : Int)]) n2
          refine ⟨(by show 2 ≤ sizeLine; decide), fun p3 n3 => ?_⟩
          have s3 := same_new (o := .tup [.ref p1, .ref p2]) n3
          refine q _ p3 (.choice a b) (((D3.same s1).same s2).same s3) (k13.trans (.of ((s1.trans s2).trans s3))) ⟨p1, p2, upd_same, .tup (s3 _ _ (s2 _ _ upd_same)) (.cons (.str _) (.cons (.int _) (.cons (.int _) (.cons (.int _) .nil)))), s3 _ _ upd_same⟩ (fun m hm => ?_) (by show 2 ≤ 4; decide)
          rcases List.mem_cons.mp hm with z | z
          · rw [z]
            exact la
          · rw [List.mem_singleton.mp z]
            exact lb
        · refine ⟨.int (k : Int), rfl, k, 8, rfl, rfl, _, rfl, ite2 (fun _ => ?_) (fun _ => ?_)⟩
          · -- parts: row = tuple([take(d, below) for j in range(take(d, 4))])
            refine ⟨.ref d, rfl, d, l, 4, rfl, by decide, by decide, D3, fun H4 c cb D4 k4 => ?_⟩
            have c4 : c < 4 := by omega
            refine ⟨(c : Int), rfl, by omega, by omega, fun D nwD => ?_⟩
            rw [Int.toNat_natCast]
            have nDd : D ≠ d := fun z => by
              obtain ⟨o, eo⟩ := D4.some
              rw [z, eo] at nwD
              cases nwD
            have s4 := same_new (o := .lst []) nwD
            refine lc_range (lo := 0) (n := c) (fun i H5 => ∃ row : List Nat, row.length = i ∧ (∀ m ∈ row, m < n) ∧ DrawAt H5 d l ∧ KpD d H4 H5 ∧ H5 D = some (.lst (nv row))) ⟨[], rfl, fun m hm => (by cases hm), D4.same s4, .of s4, upd_same⟩ ?_ ?_
            · rintro i H5 hi ⟨row, lr, br, D5, k5, hDD⟩
              refine ⟨rfl, .ref d, rfl, .int (n : Int), rfl, d, l, (n : Int), rfl, by omega, by omega, D5, fun H6 m mb D6 k6 => ?_⟩
              have hD6 := k6 _ _ hDD nDd
              refine ⟨nv row, hD6, by rw [nv_len]; exact small1000 (by omega), row ++ [m], by rw [List.length_append, lr]; rfl, fun z hz => ?_, ?_, fun b o eb nb => ?_, ?_⟩
              · rcases List.mem_append.mp hz with h | h
                · exact br z h
                · rw [List.mem_singleton.mp h]
                  omega
              · obtain ⟨ns, i', x, zz, f1, f2, r⟩ := D6
                refine ⟨ns, i', x, zz, by rw [upd_ne nDd.symm]; exact f1, ?_, r⟩
                have hlD : l ≠ D := fun z => by
                  obtain ⟨_, _, _, _, _, g2, _⟩ := D4
                  rw [z, nwD] at g2
                  cases g2
                rw [upd_ne hlD]
                exact f2
              · rw [upd_ne (ne_of_none eb nwD)]
                exact k6 _ _ (k5 _ _ eb nb) nb
              · rw [upd_same]
                unfold nv
                rw [List.map_append]
                rfl
            · rintro H5 ⟨row, lr, br, D5, k5, hDD⟩
              refine ⟨D, _, rfl, .inl ⟨SqL.of hDD, fun t nt => ?_⟩⟩
              have s5 := same_new (o := .tup (nv row)) nt
              refine ⟨.ref t, rfl, (by show 2 ≤ sizeLine; decide), fun p1 n1 => ?_⟩
              have s6 := same_new (o := .tup [.str "parts", .ref t]) n1
              refine ⟨.ref t, rfl, (by show 2 ≤ sizeLine; decide), fun p2 n2 => ?_⟩
              have s7 := same_new (o := .tup [.ref p1, .ref t]) n2
              exact q _ p2 (.parts row) (((D5.same s5).same s6).same s7) (((k13.trans k4).trans k5).trans (.of ((s5.trans s6).trans s7)))
                ⟨p1, t, upd_same, .tup (s7 _ _ upd_same) (.cons (.str _) (.cons (.tup (s7 _ _ (s6 _ _ upd_same)) (td_nv _)) .nil)), s7 _ _ (s6 _ _ upd_same)⟩ br (by show row.length ≤ 4; omega)
          · refine ⟨.int (k : Int), rfl, rfl, _, rfl, ite2 (fun _ => ?_) (fun _ => ?_)⟩
            · -- more
              refine ⟨(by show 2 ≤ sizeLine; decide), fun p0 n0' => ?_⟩
              have s0 := same_new (o := .tup [.int 1, .int 2]) n0'
              refine ⟨.int (a : Int), rfl, (by show 3 ≤ sizeLine; decide), fun p1 n1 => ?_⟩
              have s1 := same_new (o := .tup [.str "more", .ref p0, .int (a : Int)]) n1
              refine ⟨.int (a : Int), rfl, (by show 1 ≤ sizeLine; decide), fun p2 n2 => ?_⟩
              have s2 := same_new (o := .tup [.int (a : Int)]) n2
              refine ⟨(by show 2 ≤ sizeLine; decide), fun p3 n3 => ?_⟩
              have s3 := same_new (o := .tup [.ref p1, .ref p2]) n3
              refine q _ p3 (.more a) ((((D3.same s0).same s1).same s2).same s3) (k13.trans (.of (((s0.trans s1).trans s2).trans s3)))
                ⟨p1, p2, upd_same, .tup (s3 _ _ (s2 _ _ upd_same)) (.cons (.str _) (.cons (.tup (s3 _ _ (s2 _ _ (s1 _ _ upd_same))) (.cons (.int _) (.cons (.int _) .nil))) (.cons (.int _) .nil))), s3 _ _ upd_same⟩ (fun m hm => ?_) (by show 1 ≤ 4; decide)
              rw [List.mem_singleton.mp hm]
              exact la
            · -- less
              refine ⟨.int (a : Int), rfl, (by show 2 ≤ sizeLine; decide), fun p1 n1 => ?_⟩
              have s1 := same_new (o := .tup [.str "less", .int (a : Int)]) n1
              refine ⟨.int (a : Int), rfl, (by show 1 ≤ sizeLine; decide), fun p2 n2 => ?_⟩
              have s2 := same_new (o := .tup [.int (a : Int)]) n2
              refine ⟨(by show 2 ≤ sizeLine; decide), fun p3 n3 => ?_⟩
              have s3 := same_new (o := .tup [.ref p1, .ref p2]) n3
              refine q _ p3 (.less a) (((D3.same s1).same s2).same s3) (k13.trans (.of ((s1.trans s2).trans s3))) ⟨p1, p2, upd_same, .tup (s3 _ _ (s2 _ _ upd_same)) (.cons (.str _) (.cons (.int _) .nil)), s3 _ _ upd_same⟩ (fun m hm => ?_) (by show 1 ≤ 4; decide)
              rw [List.mem_singleton.mp hm]
              exact la
    all_goals
      -- the leaves
      refine ⟨(by show 1 ≤ sizeLine; decide), fun a1 m1 => ⟨Nat.zero_le _, fun a2 m2 => ⟨(by show 2 ≤ sizeLine; decide), fun a3 m3 => ?_⟩⟩⟩
      have t1 := same_new (o := .tup [.str "yes"]) m1
      have t2 := same_new (o := .tup []) m2
      have t3 := same_new (o := .tup [.ref a1, .ref a2]) m3
      have L0 : LeafAt _ a3 0 := ⟨a1, a2, upd_same, .tup (t3 _ _ (t2 _ _ upd_same)) (.cons (.str _) .nil), t3 _ _ upd_same⟩
      refine ⟨(by show 1 ≤ sizeLine; decide), fun b1 m1 => ⟨Nat.zero_le _, fun b2 m2 => ⟨(by show 2 ≤ sizeLine; decide), fun b3 m3 => ?_⟩⟩⟩
      have u1 := same_new (o := .tup [.str "no"]) m1
      have u2 := same_new (o := .tup []) m2
      have u3 := same_new (o := .tup [.ref b1, .ref b2]) m3
      have L1 : LeafAt _ b3 1 := ⟨b1, b2, upd_same, .tup (u3 _ _ (u2 _ _ upd_same)) (.cons (.str _) .nil), u3 _ _ upd_same⟩
      refine ⟨(by show 1 ≤ sizeLine; decide), fun c1 m1 => ⟨Nat.zero_le _, fun c2 m2 => ⟨(by show 2 ≤ sizeLine; decide), fun c3 m3 => ?_⟩⟩⟩
      have v1 := same_new (o := .tup [.str "open"]) m1
      have v2 := same_new (o := .tup []) m2
      have v3 := same_new (o := .tup [.ref c1, .ref c2]) m3
      have L2 : LeafAt _ c3 2 := ⟨c1, c2, upd_same, .tup (v3 _ _ (v2 _ _ upd_same)) (.cons (.str _) .nil), v3 _ _ upd_same⟩
      refine ⟨Nat.zero_le _, fun d1 m1 => ⟨(by show 1 ≤ sizeLine; decide), fun d2 m2 => ⟨(by show 2 ≤ sizeLine; decide), fun d3 m3 => ⟨Nat.zero_le _, fun d4 m4 => ⟨(by show 2 ≤ sizeLine; decide), fun d5 m5 => ?_⟩⟩⟩⟩⟩
      have w1 := same_new (o := .tup []) m1
      have w2 := same_new (o := .tup [.ref d1]) m2
      have w3 := same_new (o := .tup [.str "refuted", .ref d2]) m3
      have w4 := same_new (o := .tup []) m4
      have w5 := same_new (o := .tup [.ref d3, .ref d4]) m5
      have w45 := w4.trans w5
      have w35 := w3.trans w45
      have L3 : LeafAt _ d5 3 := ⟨d3, d4, upd_same, .tup (w45 _ _ upd_same) (.cons (.str _) (.cons (.tup (w35 _ _ upd_same) (.cons (.tup (w35 _ _ (w2 _ _ upd_same)) .nil) .nil)) .nil)), w5 _ _ upd_same⟩
      refine ⟨_, rfl, (by show 2 ≤ sizeLine; decide), fun f1 m1 => ⟨(by show 2 ≤ sizeLine; decide), fun f2 m2 => ⟨Nat.zero_le _, fun f3 m3 => ⟨(by show 2 ≤ sizeLine; decide), fun f4 m4 => ?_⟩⟩⟩⟩
      have x1 := same_new (o := .tup [.int (-3), .int 4]) m1
      have x2 := same_new (o := .tup [.str "some", .ref f1]) m2
      have x3 := same_new (o := .tup []) m3
      have x4 := same_new (o := .tup [.ref f2, .ref f3]) m4
      have x34 := x3.trans x4
      have L4 : LeafAt _ f4 4 := ⟨f2, f3, upd_same, .tup (x34 _ _ upd_same) (.cons (.str _) (.cons (.tup (x34 _ _ (x2 _ _ upd_same)) (.cons (.int _) (.cons (.int _) .nil))) .nil)), x4 _ _ upd_same⟩
      refine ⟨(by show 5 ≤ sizeLine; decide), fun g m0 => ?_⟩
      have y := same_new (o := .lst [.ref a3, .ref b3, .ref c3, .ref d5, .ref f4]) m0
      have xs := (((x1.trans x2).trans x34).trans y)
      have ws := ((w1.trans w2).trans w35).trans xs
      have vs := ((v1.trans v2).trans v3).trans ws
      have us := ((u1.trans u2).trans u3).trans vs
      have ts := ((t1.trans t2).trans t3).trans us
      obtain ⟨j, hj, ej⟩ : ∃ j : Nat, j < 5 ∧ ((k : Nat) : Int) % 5 = (j : Int) := ⟨k % 5, Nat.mod_lt _ (by decide), by omega⟩
      obtain ⟨p, hp, hL⟩ := leaf_pick (L0.same us) (L1.same vs) (L2.same ws) (L3.same xs) (L4.same y) hj
      obtain ⟨a', c', z1, z2, z3⟩ := hL
      refine ⟨.int (k : Int), rfl, .inl ⟨k, rfl, k, 5, rfl, rfl, (by show (0 : Int) < 5; decide), g, _, (k : Int) % 5, .ref p, rfl, rfl, SqL.of upd_same, at_of ej hp, ?_⟩⟩
      exact q _ p (.lf j) (D3.same ts) (k13.trans (.of ts)) ⟨a', c', z1, z2, z3⟩ (fun m hm => (by cases hm)) (Nat.zero_le _)
end
end K33

set_option maxHeartbeats 16000000
/-! The law: its nodes, what is reached, is_open, tally, trimmed. -/
namespace K33
open PySem PySem.Spec PyProof.Rows L2

theorem iteNB {b : Bool} {A B : Prop} (hb : b = true) (h : B) : if (!b) = true then A else B := by
  rw [hb]
  exact h
theorem bmK {X : Cx} (K : PySem.W.Frag) {T : String} {r : V → List V → Hp → VK → Prop} {to : TE} {t : TA} {e : Expr} (p : PE X e (tBM X.K T r to t)) (h : X.K = K := by rfl) : PE X e (tBM K T r to t) := h ▸ p
theorem countK {X : Cx} (K : PySem.W.Frag) (h : X.K = K := by rfl) : MtR X "list.count" (rCntS K) := h ▸ mt_countS
theorem DrawAt.put {H : Hp} {d l p : Addr} {o : HO} (h : DrawAt H d l) (h1 : d ≠ p) (h2 : l ≠ p) : DrawAt (upd H p o) d l := by
  obtain ⟨ns, i, x, z, e, e2, r⟩ := h
  exact ⟨ns, i, x, z, by rw [upd_ne h1]; exact e, by rw [upd_ne h2]; exact e2, r⟩
theorem DrawAt.l {H : Hp} {d l : Addr} (h : DrawAt H d l) : ∃ o, H l = Option.some o := let ⟨_, _, _, _, _, e, _⟩ := h; ⟨_, e⟩
theorem ne_some {H : Hp} {a b : Addr} (h : ∃ o, H a = some o) (n : H b = none) : a ≠ b := fun z => by
  obtain ⟨o, e⟩ := h
  rw [z, n] at e
  cases e
theorem low_snoc {rs : List Rl} {r : Rl} (h : Low rs) (g : ∀ m ∈ r.kids, m < rs.length) : Low (rs ++ [r]) := fun k m hm => by
  by_cases c : k < rs.length
  · refine h k m ?_
    have e : (rs ++ [r])[k]? = rs[k]? := List.getElem?_append_left c
    unfold kidsOf at hm ⊢
    rw [e] at hm
    exact hm
  · by_cases c2 : k = rs.length
    · rw [kidsOf_at (show (rs ++ [r])[k]? = some r by rw [c2]; simp)] at hm
      rw [c2]
      exact g m hm
    · rw [kidsOf_out (by rw [List.length_append, List.length_singleton]; omega)] at hm
      cases hm
theorem few_snoc {rs : List Rl} {r : Rl} (h : Few rs) (g : r.kids.length ≤ 4) : Few (rs ++ [r]) := fun k q hq => by
  by_cases c : k < rs.length
  · rw [List.getElem?_append_left c] at hq
    exact h k q hq
  · have hk := (List.getElem?_eq_some_iff.mp hq).1
    rw [List.length_append, List.length_singleton] at hk
    have c2 : k = rs.length := by omega
    rw [c2] at hq
    have e : (rs ++ [r])[rs.length]? = some r := by simp
    rw [e] at hq
    rw [← Option.some.inj hq]
    exact g
/-- the law's lists of nodes and of rows -/
structure Nd (H : Hp) (N R : Addr) (rs : List Rl) : Prop where
  low : Low rs
  few : Few rs
  at_ : ∃ (xs cs : List V), H N = some (.lst xs) ∧ H R = some (.lst cs) ∧ TdA H xs (nodesD rs) ∧ cs.length = rs.length ∧ ∀ (j : Nat) (r : Rl), rs[j]? = some r → ∃ c : Addr, cs[j]? = some (.ref c) ∧ H c = some (.tup (nv r.kids))
theorem Nd.same {H H' : Hp} {N R : Addr} {rs : List Rl} (h : Nd H N R rs) (s : Same H H') : Nd H' N R rs := by
  obtain ⟨xs, cs, e1, e2, t, l, r⟩ := h.at_
  refine ⟨h.low, h.few, xs, cs, s _ _ e1, s _ _ e2, t.k (TK.of s), l, fun j q hq => ?_⟩
  obtain ⟨c, f1, f2⟩ := r j q hq
  exact ⟨c, f1, s _ _ f2⟩
/-- .. and the sheet, its formula -/
structure Sh (H : Hp) (N R fo sh : Addr) (f : PyData) (rs : List Rl) : Prop where
  nd : Nd H N R rs
  fo : Td H (.ref fo) f
  sh : Td H (.ref sh) (sheetD f rs)
theorem Sh.same {H H' : Hp} {N R fo sh : Addr} {f : PyData} {rs : List Rl} (h : Sh H N R fo sh f rs) (s : Same H H') : Sh H' N R fo sh f rs := ⟨h.nd.same s, h.fo.k (TK.of s), h.sh.k (TK.of s)⟩
/-! ### numbers in a list -/
theorem nv_flat (ks : List Nat) : (nv ks).all flatV = true := by
  unfold nv
  rw [List.all_map]
  exact List.all_eq_true.mpr fun _ _ => rfl
theorem inV_nv (m : Nat) (ks : List Nat) : inV (.int (m : Int)) (nv ks) = true ↔ m ∈ ks := by
  unfold inV nv
  rw [List.any_map, List.any_eq_true]
  constructor
  · rintro ⟨x, hx, e⟩
    have e' : ((x : Int) == (m : Int)) = true := e
    have e2 : (x : Int) = (m : Int) := beq_iff_eq.mp e'
    have e3 : x = m := by omega
    rw [← e3]
    exact hx
  · intro h
    exact ⟨m, h, beq_self_eq_true (m : Int)⟩
theorem inV_word (x : Str) (ws : List Str) : inV (.str x) (ws.map V.str) = ws.any (· == x) := by
  unfold inV
  rw [List.any_map]
  rfl
theorem nv_app (a b : List Nat) : nv a ++ nv b = nv (a ++ b) := by
  unfold nv
  rw [List.map_append]
theorem nv_keys (ks : List Nat) : nv ks = ((zs ks).map Sum.inl).map kV := by
  unfold nv zs
  rw [List.map_map, List.map_map]
  rfl
theorem strs_keys (ws : List Str) : ws.map V.str = (ws.map Sum.inr).map kV := by
  rw [List.map_map]
  rfl
/-- (1, .., 16) -/
theorem td_rg {H : Hp} (f : Nat → Int) : ∀ l : List Nat, TdA H (l.map fun i => V.int (f i)) (l.map fun i => .int (f i))
  | [] => .nil
  | _ :: l => .cons (.int _) (td_rg f l)
def rgD : PyData := .tuple ((List.range 16).map fun i => .int (1 + ((i : Nat) : Int)))
def formD (rs : List Rl) : PyData := .tuple [rgD, .tuple [], resD (rs.length - 1)]
theorem shp_res (i : Nat) : Shp 2 (resD i) := shp_tup (shp_one (shp_tup (shp_one (shp_int 0 _))))
theorem shp_form (rs : List Rl) : Shp 3 (formD rs) := shp_tup fun d hd => by
  rcases List.mem_cons.mp hd with z | z
  · rw [z]
    refine (shp_tup (n := 0) fun e he => ?_).mono (by decide)
    obtain ⟨i, _, rfl⟩ := List.mem_map.mp he
    exact shp_int _ _
  · exact shp_two ((shp_tup (n := 0) fun e he => (by cases he)).mono (by decide)) (shp_res _) d z
theorem shp_kept (rs : List Rl) (m : Nat) : Shp 4 (keptD rs m) := shp_tup (shp_two ((shp_res m).mono (by decide)) (shp_rl _))
theorem shp_trim (rs : List Rl) : Shp 6 (trimD (formD rs) rs) := shp_tup (shp_two ((shp_form rs).mono (by decide)) (shp_tup fun d hd => by
  obtain ⟨m, _, rfl⟩ := List.mem_map.mp hd
  exact shp_kept rs m))
theorem shp_tally (rs : List Rl) : Shp 2 (.list (tallyD rs)) := shp_lst fun d hd => by
  obtain ⟨x, hx, rfl⟩ := List.mem_map.mp hd
  exact shp_tup (shp_two (shp_str _ (word_ok (List.mem_filter.mp hx).1)) (shp_int _ _))
theorem shp_reach (rs : List Rl) : Shp 1 (.list ((reach rs).map nD)) := shp_lst (shp_nats 0 _)
section
variable {P : Program} {w : World} {K : PySem.W.Frag} {mg : Str → Option Value} {base : Heap}
/-- a def of the program as the law calls it -/
structure Callee (P : Program) (w : World) (K : PySem.W.Frag) (mg : Str → Option Value) (base : Heap) (k : Nat) (x : Str) (ps : List Str) (sp : Sp) (f : Addr) (fd : FuncData) : Prop where
  ok : FnOk P w K mg base CX0 k f fd ps sp
  kp : PySem.W.keepIn K (.ref f) = true
  b : Binds K fd ps []
  g : mg x = some (.ref f)
def spLaw (K : PySem.W.Frag) : Sp := fun vs H Q _ => ∃ (a : Addr) (ns : List Int), vs = [.ref a] ∧ SqL K H a (ns.map V.int) ∧ ns.length ≤ 63 ∧ ∀ H', Q (.bl true) H'
abbrev lawN : List Str := ["_law_script", "_law_draw_here", "_law_nodes", "_law_rows", "_law_number", "_law_rule_here", "_law_children", "_law_formula", "_law_sheet", "_law_found", "_law_words", "_law_answer", "_law_numbers", "_law_k", "_law_due", "_law_child", "_law_word"]
theorem ok_law {f fK fR fO fTa fTr fD fT fU fN : Addr} {fd fdK fdR fdO fdTa fdTr fdD fdT fdU fdN : FuncData} (F : Fun K "law" "law" sLaw f fd) (G : Glob mg)
    (CK : Callee P w K mg base 1 "children_of" ["rule"] spKids fK fdK) (CR : Callee P w K mg base 2 "reached" ["sheet"] spReached fR fdR) (CO : Callee P w K mg base 3 "is_open" ["sheet"] spOpen fO fdO)
    (CTa : Callee P w K mg base 3 "tally" ["sheet"] spTally fTa fdTa) (CTr : Callee P w K mg base 3 "trimmed" ["sheet"] spTrim fTr fdTr) (CD : Callee P w K mg base 1 "_law_draw" ["_law_script"] (spDraw K) fD fdD)
    (CT : Callee P w K mg base 1 "_law_take" ["_law_draw_here", "_law_many"] spTake fT fdT) (CU : Callee P w K mg base 2 "_law_rule" ["_law_draw_here", "_law_below"] spRule fU fdU)
    (CN : Callee P w K mg base 1 "_law_renamed" ["_law_rule_here", "_law_children", "_law_numbers"] spRenL fN fdN) : FnOk P w K mg base CX0 4 f fd ["_law_script"] (spLaw K) := by
  refine F.ok scLaw (fun vs H Q E h => ?_) (fun cdv A outer s H vs Q E hr h => ?_)
  · obtain ⟨a, ns, rfl, _⟩ := h
    rfl
  · obtain ⟨a, ns, rfl, hS, hlen, q⟩ := h
    have hu := hu_of hr
    have hr1 : Room 1 _ := hr.mono (by decide)
    have hr2 : Room 2 _ := hr.mono (by decide)
    refine ⟨_, pss_cons (ps_set (i := 1) scLaw.nd rfl (.inl rfl) (pe_call CD.ok hr1 (by rfl) CD.g CD.kp CD.b .nil pass0 (pa_cons (pv 0) pa_nil)))
      (pss_cons (ps_set (i := 2) scLaw.nd rfl (.inr rfl) (pe_lst pa_nil))
      (pss_cons (ps_set (i := 3) scLaw.nd rfl (.inr rfl) (pe_lst pa_nil))
      (C8.pss_cut (ps_for PassesOwn.never rfl (pi_range1 (by rfl) G.range (pa_cons (pe_op op_add pe_int (pe_call CT.ok hr1 (by rfl) CT.g CT.kp CT.b .nil pass0 (pa_cons (pv 1) (pa_cons pe_int pa_nil)))) pa_nil)) (pg_name (i := 4) scLaw.nd rfl (.inl rfl))
        (pss_cons (ps_asg (pe_call CU.ok hr2 (by rfl) CU.g CU.kp CU.b .nil pass0 (pa_cons (pv 1) (pa_cons (pv 4) pa_nil))) (pg_tup (by rfl) (pgs_cons (pg_name (i := 5) scLaw.nd rfl (.inl rfl)) (pgs_cons (pg_name (i := 6) scLaw.nd rfl (.inl rfl)) pgs_nil))))
        (pss_cons (ps_expr (pe_bm PySem.F.plainAttrs_list PySem.F.slot_list_append PySem.F.type_list_append mt_append (pv 2) (pa_cons (pe_tup (pa_cons (pe_tup (pa_cons (pe_tup (pa_cons (pe_op op_add (pv 4) pe_int) pa_nil)) pa_nil)) (pa_cons (pv 5) pa_nil))) pa_nil)))
        (pss_cons (ps_expr (pe_bm PySem.F.plainAttrs_list PySem.F.slot_list_append PySem.F.type_list_append mt_append (pv 3) (pa_cons (pv 6) pa_nil)))
        (pss_one (ps_if (pt_cmpR (op_neD hr.units) (pe_call CK.ok hr1 (by rfl) CK.g CK.kp CK.b .nil pass0 (pa_cons (pv 5) pa_nil)) (pv 6) (nomark _)) (pss_one (ps_ret pe_bl)) pss_nil))))))
      (pss_cons (ps_set (i := 7) scLaw.nd rfl (.inl rfl) (pe_tup (pa_cons (pe_tupRg rfl (by rfl) G.tuple (prg_2 (by rfl) G.range pe_int pe_int)) (pa_cons (pe_tup pa_nil) (pa_cons (pe_ix ix_tup (pe_ix ix_list (pv 2) (pe_op op_sub (pe_callB call_len_seq (by rfl) G.len PySem.boot_len (pa_cons (pv 2) pa_nil)) pe_int) (fun _ _ => rfl)) pe_int (fun _ _ => rfl)) pa_nil)))))
      (pss_cons (ps_set (i := 8) scLaw.nd rfl (.inl rfl) (pe_tup (pa_cons (pv 7) (pa_cons (pe_callTy call_tuple_of (by rfl) G.tuple (by decide +kernel) (pa_cons (pv 2) pa_nil)) pa_nil))))
      (pss_cons (ps_set (i := 9) scLaw.nd rfl (.inr rfl) (pe_lst (pa_cons (pe_op op_sub (pe_callB call_len_seq (by rfl) G.len PySem.boot_len (pa_cons (pv 2) pa_nil)) pe_int) pa_nil)))
      (pss_cons (ps_for PassesOwn.never rfl (pi_revR (by rfl) G.reversed (prg_1 (by rfl) G.range (pe_callB call_len_seq (by rfl) G.len PySem.boot_len (pa_cons (pv 2) pa_nil)))) (pg_name (i := 4) scLaw.nd rfl (.inl rfl))
        (pss_one (ps_if (pt_cmpR op_in_seq (pv 4) (pv 9) (by rfl))
          (pss_one (ps_set (i := 9) scLaw.nd rfl (.inr rfl) (pe_op op_cat (pv 9) (pe_lc (own := [("_law_child", 15)]) (g := gName 15) (by rfl) scLaw.nd (pi_tup (pe_ix ix_list (pv 3) (pv 4) (fun _ _ => rfl)))
            (blkOk_by (own := [("_law_child", 15)]) (N := lawN) (sc := defScope sLaw) (by decide +kernel)) (fun _ _ _ _ _ => pg_name (i := 15) scLaw.nd rfl (.inl rfl)) (fun _ _ _ _ _ => pts_one (pt_cmpR (notInK K) (pv 15) (pv 9) (by rfl))) (fun _ _ _ _ _ => pv 15))))) pss_nil)))
      (C8.pss_cut (ps_set (i := 9) scLaw.nd rfl (.inr rfl) (pe_callB (cr_sortGI rfl) (by rfl) G.sorted (by decide +kernel) (pa_cons (pe_callTy (cr_setG rfl) (by rfl) G.set (by decide +kernel) (pa_cons (pv 9) pa_nil)) pa_nil)))
      (pss_cons (ps_if (pt_cmpR (op_neD hr.units) (pe_call CR.ok hr2 (by rfl) CR.g CR.kp CR.b .nil pass0 (pa_cons (pv 8) pa_nil)) (pv 9) (nomark _)) (pss_one (ps_ret pe_bl)) pss_nil)
      (pss_cons (ps_set (i := 10) scLaw.nd rfl (.inr rfl) (pe_lc (own := [("_law_number", 4)]) (g := gName 4) (by rfl) scLaw.nd (pi_list (pv 9)) (blkOk_by (own := [("_law_number", 4)]) (N := lawN) (sc := defScope sLaw) (by decide +kernel))
          (fun _ _ _ _ _ => pg_name (i := 4) scLaw.nd rfl (.inl rfl)) (fun _ _ _ _ _ => pts_nil) (fun _ _ _ _ _ => pe_ix (ixT K) (pe_ix (ixT K) (pe_ix (ixL K) (pv 2) (pv 4) (fun _ _ => rfl)) pe_int (fun _ _ => rfl)) pe_int (fun _ _ => rfl))))
      (pss_cons (ps_set (i := 11) scLaw.nd rfl (.inl rfl) (pe_call CO.ok hr (by rfl) CO.g CO.kp CO.b .nil pass0 (pa_cons (pv 8) pa_nil)))
      (pss_cons (ps_if (PW.pt (pw_or (pt_not (pt_val (pe_callB call_isi (by rfl) G.isinstance (by decide +kernel) (pa_cons (pv 11) (pa_cons (pe_bltn (v := .ty "bool") (by rfl) G.bool (by decide +kernel) rfl) pa_nil)))))
          (pw_or1 (pt_cmpR op_ne (pv 11) (pe_cmpR op_in_seq pe_str (pv 10) (by rfl)) (nomark _))))) (pss_one (ps_ret pe_bl)) pss_nil)
      (C8.pss_cut (ps_if (pt_cmpR (op_neD hr.units) (pe_call CTa.ok hr (by rfl) CTa.g CTa.kp CTa.b .nil pass0 (pa_cons (pv 8) pa_nil))
          (pe_lc (own := [("_law_word", 16)]) (g := gName 16) (by rfl) scLaw.nd (pi_list (pe_callB (cr_sortGS rfl) (by rfl) G.sorted (by decide +kernel) (pa_cons (pe_callTy (cr_setG rfl) (by rfl) G.set (by decide +kernel) (pa_cons (pv 10) pa_nil)) pa_nil)))
            (blkOk_by (own := [("_law_word", 16)]) (N := lawN) (sc := defScope sLaw) (by decide +kernel)) (fun _ _ _ _ _ => pg_name (i := 16) scLaw.nd rfl (.inl rfl)) (fun _ _ _ _ _ => pts_nil)
            (fun _ _ _ _ _ => pe_tup (pa_cons (pv 16) (pa_cons (bmK K (pe_bm PySem.F.plainAttrs_list PySem.F.slot_list_count PySem.F.type_list_count (countK K) (pv 10) (pa_cons (pv 16) pa_nil))) pa_nil)))) (nomark _)) (pss_one (ps_ret pe_bl)) pss_nil)
      (pss_cons (ps_set (i := 12) scLaw.nd rfl (.inr rfl) pe_dnewK)
      (pss_cons (ps_for PassesOwn.never rfl (pi_range1 (by rfl) G.range (pa_cons (pe_callB call_len_seq (by rfl) G.len PySem.boot_len (pa_cons (pv 9) pa_nil)) pa_nil)) (pg_name (i := 13) scLaw.nd rfl (.inl rfl))
        (pss_one (ps_dput hu (pv 12) (pe_ix ix_list (pv 9) (pv 13) (fun _ _ => rfl)) (pv 13) rfl)))
      (pss_cons (ps_setLc (i := 14) (own := [("_law_number", 4)]) (g := gName 4) rfl scLaw.nd rfl rfl (sw_true rfl rfl rfl (by decide +kernel)) (pi_list (pv 9)) (blkOk_by (own := [("_law_number", 4)]) (N := lawN) (sc := defScope sLaw) (by decide +kernel))
          (fun _ _ _ _ _ => pg_name (i := 4) scLaw.nd rfl (.inl rfl)) (fun _ _ _ _ _ => pts_nil)
          (fun _ _ _ _ _ => pe_tup (pa_cons (pe_ix (ixT K) (pe_ix (ixL K) (pv 2) (pv 4) (fun _ _ => rfl)) pe_int (fun _ _ => rfl))
            (pa_cons (pe_call CN.ok hr1 (by rfl) CN.g CN.kp CN.b .nil pass0 (pa_cons (pe_ix (ixT K) (pe_ix (ixL K) (pv 2) (pv 4) (fun _ _ => rfl)) pe_int (fun _ _ => rfl)) (pa_cons (pe_ix (ixL K) (pv 3) (pv 4) (fun _ _ => rfl)) (pa_cons (pv 12) pa_nil)))) pa_nil))))
      (pss_one (ps_ret (pe_cmpR (op_eqD hr.units) (pe_call CTr.ok hr (by rfl) CTr.g CTr.kp CTr.b .nil pass0 (pa_cons (pv 8) pa_nil)) (pe_tup (pa_cons (pv 7) (pa_cons (pe_callTy call_tuple_of (by rfl) G.tuple (by decide +kernel) (pa_cons (pv 14) pa_nil)) pa_nil))) (nomark _)))))))))))))))))))), ?_⟩
    -- the draw, the two lists
    refine ⟨.ref a, rfl, a, ns, rfl, hS, hlen, fun H1 d l sm1 nd1 D1 => ?_⟩
    refine ⟨Nat.zero_le _, fun N nN => ?_⟩
    refine ⟨Nat.zero_le _, fun R nR => ?_⟩
    have hdN : d ≠ N := ne_some D1.some nN
    have hlN : l ≠ N := ne_some D1.l nN
    have hNR : N ≠ R := ne_some ⟨_, upd_same⟩ nR
    have nR1 : H1 R = none := by
      rw [upd_ne hNR.symm] at nR
      exact nR
    have hdR : d ≠ R := ne_some D1.some nR1
    have hlR : l ≠ R := ne_some D1.l nR1
    have D3 : DrawAt (upd (upd H1 N (.lst [])) R (.lst [])) d l := (D1.put hdN hlN).put hdR hlR
    have hN3 : (upd (upd H1 N (.lst [])) R (.lst [])) N = some (.lst []) := by rw [upd_ne hNR, upd_same]
    -- the nodes
    refine ⟨fun σ H' => ∃ (rs : List Rl) (v4 v5 v6 : Option V), σ = [some (.ref a), some (.ref d), some (.ref N), some (.ref R), v4, v5, v6, none, none, none, none, none, none, none, none, none, none] ∧ Nd H' N R rs ∧ 0 < rs.length ∧ rs.length ≤ 14,
      ⟨.ref d, rfl, d, l, 14, rfl, by decide, by decide, D3, fun H4 m mb D4 k4 => ⟨1, (m : Int), rfl, rfl, _, rfl, by omega, by omega, ?_⟩⟩, ?_⟩
    · have en : (1 + (m : Int)).toNat = m + 1 := by omega
      rw [en]
      refine for_range (lo := 0) (n := m + 1) (fun i σ H' => ∃ (rs : List Rl) (v4 v5 v6 : Option V), σ = [some (.ref a), some (.ref d), some (.ref N), some (.ref R), v4, v5, v6, none, none, none, none, none, none, none, none, none, none] ∧ DrawAt H' d l ∧ Nd H' N R rs ∧ rs.length = i)
        ⟨[], none, none, none, rfl, D4, ⟨fun k z hz => ?_, fun k z hz => ?_, [], [], k4 _ _ hN3 hdN.symm, k4 _ _ upd_same hdR.symm, .nil, rfl, fun j z hz => ?_⟩, rfl⟩ ?_ ?_
      · rw [kidsOf_out (Nat.zero_le _)] at hz
        cases hz
      · simp at hz
      · simp at hz
      · rintro i σ H' hi ⟨rs, v4, v5, v6, rfl, D5, nd5, lr⟩
        rw [Int.zero_add]
        -- rule, children = _law_rule(draw, number)
        refine ⟨.ref d, rfl, .int (i : Int), rfl, d, l, i, rfl, by omega, D5, fun H6 p r D6 k6 RA hk h4 => ?_⟩
        obtain ⟨ra, c, e1, td, e2⟩ := RA
        obtain ⟨xs, cs, hN5, hR5, T5, lc, rows⟩ := nd5.at_
        have tk6 := k6.tk D5.ne
        have hN6 := k6 _ _ hN5 hdN.symm
        have hR6 := k6 _ _ hR5 hdR.symm
        have lx : xs.length = i := by rw [T5.len, nodesD_len, lr]
        refine ⟨p, [.ref ra, .ref c], rfl, SqT.of e1, rfl, .ref ra, [.ref c], rfl, .ref c, [], rfl, rfl, ?_⟩
        -- nodes.append((((number + 1,),), rule))
        refine ⟨.ref N, rfl, .inl ⟨rfl, _, SqL.of hN6⟩, .int (i : Int), rfl, i, 1, rfl, rfl, (by show 1 ≤ sizeLine; decide), fun t1 n1 => ⟨(by show 1 ≤ sizeLine; decide), fun t2 n2 => ⟨.ref ra, rfl, (by show 2 ≤ sizeLine; decide), fun t3 n3 => ?_⟩⟩⟩
        have s1 := same_new (o := .tup [.int ((i : Int) + 1)]) n1
        have s2 := same_new (o := .tup [.ref t1]) n2
        have s3 := same_new (o := .tup [.ref t2, .ref ra]) n3
        have s13 := (s1.trans s2).trans s3
        refine ⟨N, xs, .ref t3, rfl, rfl, s13 _ _ hN6, small1000 (by omega), ?_⟩
        have tkN := TK.mut (o := .lst (xs ++ [.ref t3])) (s13 _ _ hN6) fun _ z => by cases z
        have hR10 := (upd_ne (o := .lst (xs ++ [.ref t3])) hNR.symm).trans (s13 _ _ hR6)
        -- rows.append(children)
        refine ⟨.ref R, rfl, .inl ⟨rfl, _, SqL.of hR10⟩, .ref c, rfl, R, cs, .ref c, rfl, rfl, hR10, small1000 (by omega), ?_⟩
        have tkR := TK.mut (o := .lst (cs ++ [.ref c])) hR10 fun _ z => by cases z
        have tk9 := (TK.of s13).trans (tkN.trans tkR)
        -- children_of(rule) != children
        refine ⟨.ref ra, rfl, ra, r, rfl, td.k tk9, fun H12 u s12 hu12 => ?_⟩
        have tk12 := tk9.trans (TK.of s12)
        refine ⟨.ref c, rfl, .tuple (r.kids.map nD), .tuple (r.kids.map nD), (Td.tup hu12 (td_nv _)).d, (Td.tup (tk12 _ _ e2) (td_nv _)).d, (shp_tup (shp_nats 0 _)).shaped (by decide), (shp_tup (shp_nats 0 _)).shaped (by decide), _, rfl, iteNB (shp_tup (shp_nats 0 _)).refl ?_⟩
        have D12 : DrawAt H12 d l := (((D6.same s13).put hdN hlN).put hdR hlR).same s12
        refine ⟨rs ++ [r], _, _, _, rfl, D12, ⟨low_snoc nd5.low (by rw [lr]; exact hk), few_snoc nd5.few h4, xs ++ [.ref t3], cs ++ [.ref c], s12 _ _ (by rw [upd_ne hNR, upd_same]), s12 _ _ upd_same, ?_, by rw [List.length_append, List.length_append, lc]; rfl, fun j z hz => ?_⟩, by rw [List.length_append, lr]; rfl⟩
        · rw [nodesD_snoc]
          refine (T5.k (tk6.trans tk12)).snoc ?_
          rw [lr]
          refine (Td.tup (s3 _ _ upd_same |> fun _ => upd_same) (.cons (.tup (s3 _ _ upd_same) (.cons (.tup (s3 _ _ (s2 _ _ upd_same)) (.cons (.int _) .nil)) .nil)) (.cons (td.k (TK.of s13)) .nil)) : Td _ (.ref t3) (nodeD i r)).k ((tkN.trans tkR).trans (TK.of s12))
        · by_cases cj : j < rs.length
          · rw [List.getElem?_append_left cj] at hz
            obtain ⟨c', f1, f2⟩ := rows j z hz
            exact ⟨c', by rw [List.getElem?_append_left (by omega)]; exact f1, (tk6.trans tk12) _ _ f2⟩
          · have hj := (List.getElem?_eq_some_iff.mp hz).1
            rw [List.length_append, List.length_singleton] at hj
            obtain rfl : j = rs.length := by omega
            have ez : (rs ++ [r])[rs.length]? = some r := by simp
            rw [ez] at hz
            obtain rfl := Option.some.inj hz
            exact ⟨c, by rw [← lc]; simp, tk12 _ _ e2⟩
      · rintro σ H' ⟨rs, v4, v5, v6, rfl, D5, nd5, lr⟩
        exact ⟨rs, v4, v5, v6, rfl, nd5, by omega, by omega⟩
    · rintro σ HA ⟨rs, v4, v5, v6, rfl, nd, h0, h14⟩
      obtain ⟨xs, cs, hN, hR, T, lc, rows⟩ := nd.at_
      have hl := nd.low
      have lx : xs.length = rs.length := by rw [T.len, nodesD_len]
      obtain ⟨r0, hr0⟩ : ∃ r, rs[rs.length - 1]? = some r := ⟨_, List.getElem?_eq_getElem (by omega)⟩
      obtain ⟨na, nrv, nc, g1, g2, g3, g4⟩ := node_at T hr0
      have ei : ((xs.length : Nat) : Int) - 1 = ((rs.length - 1 : Nat) : Int) := by omega
      -- formula = (tuple(range(1, 17)), (), nodes[len(nodes) - 1][0])
      refine ⟨1, 17, rfl, rfl, RgOk.of_le (by decide) (by decide) (by decide) (by decide), fun p1 n1 => ⟨Nat.zero_le _, fun p2 n2 => ?_⟩⟩
      have s1 := same_new (o := .tup (rgV 1 17)) n1
      have s2 := same_new (o := .tup []) n2
      have s12 := s1.trans s2
      refine ⟨.ref N, rfl, .ref N, rfl, N, xs, rfl, .inl (SqL.of (s12 _ _ hN)), _, 1, rfl, rfl, N, xs, _, .ref na, rfl, rfl, SqL.of (s12 _ _ hN), at_of ei g1, na, _, 0, nrv, rfl, rfl, SqT.of (s12 _ _ g2), atI_nat (j := 0) rfl, (by show 3 ≤ sizeLine; decide), fun p3 n3 => ?_⟩
      have s3 := same_new (o := .tup [.ref p1, .ref p2, nrv]) n3
      have s13 := s12.trans s3
      have tform : Td _ (.ref p3) (formD rs) := .tup upd_same (.cons (.tup (s3 _ _ (s2 _ _ upd_same)) (td_rg (fun i => 1 + ((i : Nat) : Int)) (List.range 16))) (.cons (.tup (s3 _ _ upd_same) .nil) (.cons (g3.k (TK.of s13)) .nil)))
      -- sheet = (formula, tuple(nodes))
      refine ⟨.ref p3, rfl, .ref N, rfl, N, xs, rfl, .inl ⟨SqL.of (s13 _ _ hN), fun p4 n4 => ⟨(by show 2 ≤ sizeLine; decide), fun p5 n5 => ?_⟩⟩⟩
      have s4 := same_new (o := .tup xs) n4
      have s5 := same_new (o := .tup [.ref p3, .ref p4]) n5
      have s45 := s4.trans s5
      have s15 := s13.trans s45
      have SH : Sh _ N R p3 p5 (formD rs) rs := ⟨nd.same s15, tform.k (TK.of s45), .tup upd_same (.cons (tform.k (TK.of s45)) (.cons (.tup (s5 _ _ upd_same) (T.k (TK.of s15))) .nil))⟩
      -- found = [len(nodes) - 1]
      refine ⟨.ref N, rfl, N, xs, rfl, .inl (SqL.of (s15 _ _ hN)), _, 1, rfl, rfl, (by show 1 ≤ sizeLine; decide), fun fa nfa => ?_⟩
      have s6 := same_new (o := .lst [.int (((xs.length : Nat) : Int) - 1)]) nfa
      have s16 := s15.trans s6
      -- for number in reversed(range(len(nodes)))
      refine ⟨.ref N, rfl, N, xs, rfl, .inl (SqL.of (s16 _ _ hN)), _, rfl, by decide, by decide, by omega, by omega, ?_⟩
      have en : (((xs.length : Nat) : Int) - 0).toNat = rs.length := by omega
      rw [en]
      refine for_rangeC (lo := 0 + ((rs.length : Nat) : Int) - 1) (c := -1) (n := rs.length) (fun i σ H' => ∃ (fa : Addr) (ks : List Nat) (v4 : Option V), σ = [some (.ref a), some (.ref d), some (.ref N), some (.ref R), v4, v5, v6, some (.ref p3), some (.ref p5), some (.ref fa), none, none, none, none, none, none, none] ∧
          Sh H' N R p3 p5 (formD rs) rs ∧ H' fa = some (.lst (nv ks)) ∧ (∀ m, m ∈ ks ↔ Aft rs (rs.length - i) m) ∧ ks.length ≤ 1 + 4 * i)
        ⟨fa, [rs.length - 1], v4, rfl, SH.same s6, by rw [upd_same]; show some (HO.lst [V.int (((xs.length : Nat) : Int) - 1)]) = _; rw [ei]; rfl, fun m => by rw [Nat.sub_zero, aft_end, List.mem_singleton], Nat.le_refl _⟩ ?_ ?_
      · rintro i σ H' hi ⟨fa, ks, v4, rfl, sh, hfa, hk, lk⟩
        obtain ⟨j, hj⟩ : ∃ j, j = rs.length - 1 - i := ⟨_, rfl⟩
        have ej : 0 + ((rs.length : Nat) : Int) - 1 + ((i : Nat) : Int) * -1 = (j : Int) := by omega
        have e1 : rs.length - i = j + 1 := by omega
        have e2 : rs.length - (i + 1) = j := by omega
        have jlt : j < rs.length := by omega
        rw [ej]
        rw [e1] at hk
        -- if number in found
        refine ⟨_, rfl, _, rfl, fa, nv ks, rfl, .inl (SqL.of hfa), rfl, nv_flat ks, _, rfl, ite2 (fun e => ?_) (fun e => ?_)⟩
        · have hin : Aft rs (j + 1) j := (hk j).mp ((inV_nv j ks).mp e)
          obtain ⟨r, hrj⟩ : ∃ r, rs[j]? = some r := ⟨rs[j], List.getElem?_eq_getElem jlt⟩
          obtain ⟨xs', cs', hN', hR', T', lc', rows'⟩ := sh.nd.at_
          obtain ⟨c, f1, f2⟩ := rows' j r hrj
          have k4 := sh.nd.few j r hrj
          -- found + [child for child in rows[number] if child not in found]
          refine ⟨_, rfl, _, rfl, .int (j : Int), rfl, R, cs', (j : Int), .ref c, rfl, rfl, SqL.of hR', atI_nat f1, c, rfl, ⟨_, SqT.of f2⟩, fun D nwD => ?_⟩
          refine lc_tup (K := K) (a := c) (xs := nv r.kids) (fun u H2 => ∃ us : List Nat, Same H' H2 ∧ H2 D = some (.lst (nv us)) ∧ (∀ m, m ∈ us ↔ m ∈ r.kids.take u ∧ m ∉ ks) ∧ us.length ≤ u) ⟨[], same_new nwD, upd_same, fun m => by simp, Nat.le_refl _⟩ (fun u H2 _ ⟨_, z, _⟩ => SqT.of (z _ _ f2)) ?_ ?_
          · rintro u x H2 hx ⟨us, s2', hDD, hus, lus⟩
            obtain ⟨m, hm, rfl⟩ := nv_of hx
            have hu4 := (List.getElem?_eq_some_iff.mp hm).1
            refine ⟨rfl, .int (m : Int), rfl, .ref fa, rfl, fa, nv ks, rfl, .inl (SqL.of (s2' _ _ hfa)), rfl, nv_flat ks, _, rfl, ite2 (fun e3 => ?_) (fun e3 => ?_)⟩
            · have hno : m ∉ ks := fun z => by
                have z2 := (inV_nv m ks).mpr z
                have e4 : (!inV (.int (m : Int)) (nv ks)) = true := e3
                rw [z2] at e4
                cases e4
              refine ⟨.int (m : Int), rfl, nv us, hDD, by rw [nv_len]; exact small1000 (by omega), us ++ [m], fun b o eb => ?_, ?_, fun z => ?_, ?_⟩
              · rw [upd_ne (ne_of_none eb nwD)]
                exact s2' _ _ eb
              · rw [upd_same, ← nv_app]
                rfl
              · rw [List.mem_append, hus z, List.take_add_one, hm, List.mem_append]
                simp only [Option.toList_some, List.mem_singleton]
                constructor
                · rintro (⟨z1, z2⟩ | z1)
                  · exact ⟨.inl z1, z2⟩
                  · rw [z1]
                    exact ⟨.inr rfl, hno⟩
                · rintro ⟨z1 | z1, z2⟩
                  · exact .inl ⟨z1, z2⟩
                  · exact .inr z1
              · rw [List.length_append, List.length_singleton]
                omega
            · have hyes : m ∈ ks := by
                refine (inV_nv m ks).mp ?_
                cases e4 : inV (.int (m : Int)) (nv ks) with
                | true => rfl
                | false =>
                  refine absurd ?_ e3
                  show (!inV (.int (m : Int)) (nv ks)) = true
                  rw [e4]
                  rfl
              refine ⟨us, s2', hDD, fun z => ?_, by omega⟩
              rw [hus z, List.take_add_one, hm, List.mem_append]
              simp only [Option.toList_some, List.mem_singleton]
              constructor
              · rintro ⟨z1, z2⟩
                exact ⟨.inl z1, z2⟩
              · rintro ⟨z1 | z1, z2⟩
                · exact ⟨z1, z2⟩
                · exact absurd (z1 ▸ hyes) z2
          · rintro H2 ⟨us, s2', hDD, hus, lus⟩
            rw [nv_len] at hus lus
            rw [List.take_length] at hus
            refine ⟨fa, D, nv ks, nv us, rfl, rfl, s2' _ _ hfa, hDD, ?_, fun o no => ?_⟩
            · rw [nv_len, nv_len]
              exact Nat.le_of_lt (small1000 (by omega))
            · refine ⟨o, ks ++ us, _, rfl, sh.same (s2'.trans (same_new no)), by rw [upd_same, nv_app], fun z => ?_, ?_⟩
              · rw [e2, aft_take hl hin, kidsOf_at hrj, List.mem_append, hus z, hk z]
                constructor
                · rintro (z1 | ⟨z1, _⟩)
                  · exact .inl z1
                  · exact .inr z1
                · rintro (z1 | z1)
                  · exact .inl z1
                  · by_cases z2 : Aft rs (j + 1) z
                    · exact .inl z2
                    · exact .inr ⟨z1, z2⟩
              · rw [List.length_append]
                omega
        · have hout : ¬ Aft rs (j + 1) j := fun z => e ((inV_nv j ks).mpr ((hk j).mpr z))
          refine ⟨fa, ks, _, rfl, sh, hfa, fun m => ?_, by omega⟩
          rw [e2, hk m, aft_skip hl hout]
      · rintro σ H' ⟨fa, ks, v4, rfl, sh, hfa, hk, lk⟩
        have hk' : ∀ m, m ∈ ks ↔ Rch rs m := fun m => by
          rw [hk m, Nat.sub_self, aft_zero]
        -- found = sorted(set(found))
        refine ⟨fun σ H' => ∃ (fa : Addr) (v4 : Option V), σ = [some (.ref a), some (.ref d), some (.ref N), some (.ref R), v4, v5, v6, some (.ref p3), some (.ref p5), some (.ref fa), none, none, none, none, none, none, none] ∧
          Sh H' N R p3 p5 (formD rs) rs ∧ H' fa = some (.lst (nv (reach rs))), ?_, ?_⟩
        · refine ⟨.ref fa, rfl, fa, (zs ks).map Sum.inl, rfl, by rw [← nv_keys]; exact SqL.of hfa, ?_, fun sa c nsa hc => ?_⟩
          · rw [List.length_map]
            unfold zs scanBound
            rw [List.length_map]
            omega
          · have hc64 : c < 64 := by
              rw [List.length_map] at hc
              unfold zs at hc
              rw [List.length_map] at hc
              omega
            refine ⟨sa, zs ks, c, rfl, upd_same, hc64, fun ns' o up hm no => ?_⟩
            have es : ns' = zs (reach rs) := the_reach hl h0 up fun z => by
              rw [hm z, mem_zs]
              constructor
              · rintro ⟨m, h1, h2⟩
                exact ⟨m, (hk' m).mp h1, h2⟩
              · rintro ⟨m, h1, h2⟩
                exact ⟨m, (hk' m).mpr h1, h2⟩
            exact ⟨o, v4, rfl, sh.same ((same_new nsa).trans (same_new no)), by rw [upd_same, es, nv_zs]⟩
        · rintro σ HB ⟨fa, v4, rfl, sh, hfa⟩
          obtain ⟨xs, cs, hN, hR, T, lc, rows⟩ := sh.nd.at_
          have rl := reach_len rs
          have wl := words_len rs
          have dR : ∀ {Hx : Hp} {p : Addr}, Hx p = some (.lst (nv (reach rs))) → Dp K Hx (.ref p) (.list ((reach rs).map nD)) := fun e => .lst (SqL.of e) (TdA.dp _ _ (td_nv _))
          -- if reached(sheet) != found
          refine ⟨.ref p5, rfl, p5, formD rs, rs, rfl, sh.sh, hl, h0, h14, fun HC o sC no ho => ⟨.ref fa, rfl, .list ((reach rs).map nD), .list ((reach rs).map nD), dR ho, dR (sC _ _ hfa), (shp_reach rs).shaped (by decide), (shp_reach rs).shaped (by decide), _, rfl, iteNB (shp_reach rs).refl ?_⟩⟩
          -- words = [nodes[number][1][0] for number in found]
          refine ⟨.ref fa, rfl, fa, rfl, ⟨_, SqL.of (sC _ _ hfa)⟩, fun D nwD => ?_⟩
          refine lc_list (K := K) (a := fa) (xs := nv (reach rs)) (fun i H2 => Same HC H2 ∧ H2 D = some (.lst (((words rs).take i).map V.str))) ⟨same_new nwD, upd_same⟩ (fun i H2 _ z => SqL.of (z.1 _ _ (sC _ _ hfa))) ?_ ?_
          · rintro i x H2 hx ⟨s2, hDD⟩
            obtain ⟨m, hm, rfl⟩ := nv_of hx
            have mlt := reach_lt (List.mem_of_getElem? hm)
            obtain ⟨r, hrm⟩ : ∃ r, rs[m]? = some r := ⟨rs[m], List.getElem?_eq_getElem mlt⟩
            obtain ⟨na, rv, c, g1, g2, g3, g4⟩ := node_at T hrm
            obtain ⟨ys, g5, _⟩ := dat_at g4
            have sh2 := sC.trans s2
            refine ⟨rfl, .ref N, rfl, .int (m : Int), rfl, N, xs, (m : Int), .ref na, rfl, rfl, SqL.of (sh2 _ _ hN), atI_nat g1, na, _, 1, .ref c, rfl, rfl, SqT.of (sh2 _ _ g2), atI_nat (j := 1) rfl, c, _, 0, .str r.word, rfl, rfl, SqT.of (sh2 _ _ g5), atI_nat (j := 0) rfl, _, hDD, ?_, fun b u e => ?_, ?_⟩
            · rw [List.length_map, List.length_take]
              exact Nat.lt_of_le_of_lt (Nat.min_le_right _ _) (small1000 (by omega))
            · rw [upd_ne (ne_of_none e nwD)]
              exact s2 _ _ e
            · have hw : (words rs)[i]? = some r.word := by rw [words_at hm, wordAt_at hrm]
              rw [upd_same, List.take_add_one, hw, List.map_append]
              rfl
          · rintro H2 ⟨s2, hDD⟩
            rw [nv_len, List.take_of_length_le (by unfold words; rw [List.length_map]; exact Nat.le_refl _)] at hDD
            have sB2 := sC.trans s2
            -- answer = is_open(sheet)
            refine ⟨.ref p5, rfl, p5, formD rs, rs, rfl, (sh.same sB2).sh, hl, h0, h14, fun H3 s3 => ?_⟩
            have hD3 := s3 _ _ hDD
            -- not isinstance(answer, bool) or answer != ("open" in words)
            refine ⟨_, rfl, _, .ty "bool", .type "bool", .type "bool", true, rfl, .ty _, .base (.bl _), kit_ty (by decide +kernel), true, rfl, iteNB rfl ?_⟩
            refine ⟨_, rfl, .ref D, rfl, D, (words rs).map V.str, rfl, .inl (SqL.of hD3), rfl, flat_strs _, rfl, _, rfl, iteNS ?_ ?_⟩
            · show V.bl ((reach rs).any (opB rs)) = V.bl (inV (.str "open") ((words rs).map V.str))
              rw [inV_word]
              unfold words
              rw [List.any_map]
              rfl
            -- tally(sheet) != [(word, words.count(word)) for word in sorted(set(words))]
            · refine ⟨fun σ H' => ∃ (v10 v11 : Option V), σ = [some (.ref a), some (.ref d), some (.ref N), some (.ref R), v4, v5, v6, some (.ref p3), some (.ref p5), some (.ref fa), v10, v11, none, none, none, none, none] ∧
                Sh H' N R p3 p5 (formD rs) rs ∧ H' fa = some (.lst (nv (reach rs))), ?_, ?_⟩
              · refine ⟨.ref p5, rfl, p5, formD rs, rs, rfl, (sh.same (sB2.trans s3)).sh, hl, h0, h14, fun H4 o4 us4 s4 no4 ho4 T4 => ?_⟩
                have hD4 := s4 _ _ hD3
                refine ⟨.ref D, rfl, D, (words rs).map Sum.inr, rfl, by rw [← strs_keys]; exact SqL.of hD4, ?_, fun sa c nsa hc => ?_⟩
                · rw [List.length_map]
                  unfold scanBound
                  omega
                · rw [List.length_map] at hc
                  refine ⟨sa, words rs, c, rfl, upd_same, by omega, fun ys t ynd ysrt ymem nt => ?_⟩
                  have ey : ys = tenOf (words rs) := the_words (words_ten rs) ynd ysrt ymem
                  have sa' := same_new (o := SetGO w sa (fun k => k ∈ (words rs).map Sum.inr) c) nsa
                  have st' := same_new (o := .lst (ys.map V.str)) nt
                  have sx := sa'.trans st'
                  have yl : ys.length ≤ 14 := by
                    have z := List.Nodup.length_le_of_subset ynd (fun z hz => (ymem z).mp hz : ys ⊆ words rs)
                    omega
                  refine ⟨t, rfl, ⟨_, SqL.of upd_same⟩, fun D2 nwD2 => ?_⟩
                  refine lc_list (K := K) (a := t) (xs := ys.map V.str) (fun i H5 => ∃ us, Same (upd (upd H4 sa (SetGO w sa (fun k => k ∈ (words rs).map Sum.inr) c)) t (.lst (ys.map V.str))) H5 ∧ H5 D2 = some (.lst us) ∧ TdA H5 us ((ys.take i).map (pairD (words rs)))) ⟨[], same_new nwD2, upd_same, .nil⟩ (fun i H5 _ ⟨_, z, _⟩ => SqL.of (z _ _ upd_same)) ?_ ?_
                  · rintro i x H5 hx ⟨us, s5, hDD5, T5⟩
                    obtain ⟨y, hy, rfl⟩ : ∃ y, ys[i]? = some y ∧ x = .str y := by
                      rw [List.getElem?_map] at hx
                      cases e : ys[i]? with
                      | none =>
                        rw [e] at hx
                        cases hx
                      | some y =>
                        rw [e] at hx
                        exact ⟨y, rfl, (Option.some.inj hx).symm⟩
                    have hD5 := s5 _ _ (sx _ _ hD4)
                    refine ⟨rfl, .str y, rfl, .ref D, rfl, .inl ⟨rfl, _, SqL.of hD5⟩, .str y, rfl, D, words rs, y, rfl, rfl, SqL.of hD5, (by show 2 ≤ sizeLine; decide), fun u nu => ?_⟩
                    have su := same_new (o := .tup [.str y, .int (((words rs).count y : Nat) : Int)]) nu
                    have hDu := su _ _ hDD5
                    have kD : TK _ (upd (upd H5 u (.tup [.str y, .int (((words rs).count y : Nat) : Int)])) D2 (.lst (us ++ [.ref u]))) := TK.mut hDu fun _ z => by cases z
                    refine ⟨us, hDu, ?_, us ++ [.ref u], fun b e z => ?_, upd_same, ?_⟩
                    · rw [T5.len, List.length_map, List.length_take]
                      exact Nat.lt_of_le_of_lt (Nat.min_le_right _ _) (small1000 (by omega))
                    · rw [upd_ne (ne_of_none z nwD2)]
                      exact su _ _ (s5 _ _ z)
                    · rw [List.take_add_one, hy, List.map_append]
                      exact ((T5.k (TK.of su)).k kD).snoc ((Td.tup upd_same (.cons (.str _) (.cons (.int _) .nil))).k kD)
                  · rintro H5 ⟨us, s5, hDD5, T5⟩
                    rw [List.length_map, List.take_length, ey] at T5
                    have sf := sx.trans s5
                    refine ⟨.list (tallyD rs), .list (tallyD rs), .lst (SqL.of (sf _ _ ho4)) (TdA.dp _ _ (T4.k (TK.of sf))), .lst (SqL.of hDD5) (TdA.dp _ _ T5), (shp_tally rs).shaped (by decide), (shp_tally rs).shaped (by decide), _, rfl, iteNB (shp_tally rs).refl ?_⟩
                    have all := ((sB2.trans s3).trans s4).trans sf
                    exact ⟨_, _, rfl, sh.same all, all _ _ hfa⟩
              · rintro σ HC ⟨v10, v11, rfl, sh, hfa⟩
                obtain ⟨xs, cs, hN, hR, T, lc, rows⟩ := sh.nd.at_
                -- numbers = {}
                intro d2 nd2
                have s0 := same_new (o := .dK []) nd2
                -- for k in range(len(found)): numbers[found[k]] = k
                refine ⟨.ref fa, rfl, fa, _, rfl, .inl (SqL.of (s0 _ _ hfa)), (((nv (reach rs)).length : Nat) : Int), rfl, by omega, by rw [nv_len]; omega, ?_⟩
                have en : (((nv (reach rs)).length : Nat) : Int).toNat = (reach rs).length := by rw [nv_len, Int.toNat_natCast]
                rw [en]
                refine for_range (lo := 0) (n := (reach rs).length) (fun i σ H' => ∃ (kvs : List (Key × V)) (v13 : Option V), σ = [some (.ref a), some (.ref d), some (.ref N), some (.ref R), v4, v5, v6, some (.ref p3), some (.ref p5), some (.ref fa), v10, v11, some (.ref d2), v13, none, none, none] ∧
                  Same HC H' ∧ H' d2 = some (.dK kvs) ∧ NumUp rs i kvs) ⟨[], none, rfl, s0, upd_same, numUp_zero rs⟩ ?_ ?_
                · rintro i σ H' hi ⟨kvs, v13, rfl, s1, hD, hn⟩
                  obtain ⟨m, hm⟩ : ∃ m, (reach rs)[i]? = some m := ⟨(reach rs)[i], List.getElem?_eq_getElem hi⟩
                  rw [Int.zero_add]
                  refine ⟨.int (i : Int), rfl, .ref d2, rfl, .ref fa, rfl, .int (i : Int), rfl, fa, _, (i : Int), .int (m : Int), rfl, rfl, SqL.of (s1 _ _ hfa), atI_nat (nv_at hm), d2, _, rfl, DPut.k (k := kN m) hD (small1000 (by have := hn.1; omega)), ?_⟩
                  refine ⟨_, _, rfl, fun b u e => ?_, upd_same, numUp_put hn hm⟩
                  rw [upd_ne (ne_of_none e nd2)]
                  exact s1 _ _ e
                · rintro σ H' ⟨kvs, v13, rfl, s1, hD, hn⟩
                  have hND := numUp_end hn
                  -- due = [(nodes[number][0], renamed(nodes[number][1], rows[number], numbers)) for number in found]
                  refine ⟨.ref fa, rfl, fa, rfl, ⟨_, SqL.of (s1 _ _ hfa)⟩, fun D nwD => ?_⟩
                  refine lc_list (K := K) (a := fa) (xs := nv (reach rs)) (fun i H2 => ∃ us, Same H' H2 ∧ H2 D = some (.lst us) ∧ TdA H2 us (((reach rs).take i).map (keptD rs))) ⟨[], same_new nwD, upd_same, .nil⟩ (fun i H2 _ ⟨_, z, _⟩ => SqL.of (z _ _ (s1 _ _ hfa))) ?_ ?_
                  · rintro i x H2 hx ⟨us, s2, hDD, T2⟩
                    obtain ⟨m, hm, rfl⟩ := nv_of hx
                    have hmr : m ∈ reach rs := List.mem_of_getElem? hm
                    have mlt := reach_lt hmr
                    obtain ⟨r, hrm⟩ : ∃ r, rs[m]? = some r := ⟨rs[m], List.getElem?_eq_getElem mlt⟩
                    obtain ⟨na, rv, c, g1, g2, g3, g4⟩ := node_at T hrm
                    obtain ⟨rc, f1, f2⟩ := rows m r hrm
                    have sh2 := s1.trans s2
                    refine ⟨rfl, .ref N, rfl, .int (m : Int), rfl, N, xs, (m : Int), .ref na, rfl, rfl, SqL.of (sh2 _ _ hN), atI_nat g1, na, _, 0, rv, rfl, rfl, SqT.of (sh2 _ _ g2), atI_nat (j := 0) rfl,
                      .ref N, rfl, .int (m : Int), rfl, N, xs, (m : Int), .ref na, rfl, rfl, SqL.of (sh2 _ _ hN), atI_nat g1, na, _, 1, .ref c, rfl, rfl, SqT.of (sh2 _ _ g2), atI_nat (j := 1) rfl,
                      .ref R, rfl, .int (m : Int), rfl, R, cs, (m : Int), .ref rc, rfl, rfl, SqL.of (sh2 _ _ hR), atI_nat f1, .ref d2, rfl,
                      c, rc, d2, r, pos rs, kvs, rfl, g4.k (TK.of sh2), sh2 _ _ f2, s2 _ _ hD, numD_tells hl h0 hND hmr hrm, sh.nd.few m r hrm, fun H3 y s3 ty => ?_⟩
                    refine ⟨(by show 2 ≤ sizeLine; decide), fun u nu => ?_⟩
                    have su := same_new (o := .tup [rv, .ref y]) nu
                    have s23 := s3.trans su
                    have hDu := s23 _ _ hDD
                    have kD : TK (upd H3 u (.tup [rv, .ref y])) (upd (upd H3 u (.tup [rv, .ref y])) D (.lst (us ++ [.ref u]))) := TK.mut hDu fun _ z => by cases z
                    refine ⟨us, hDu, ?_, us ++ [.ref u], fun b e z => ?_, upd_same, ?_⟩
                    · rw [T2.len, List.length_map, List.length_take]
                      exact Nat.lt_of_le_of_lt (Nat.min_le_right _ _) (small1000 (by omega))
                    · rw [upd_ne (ne_of_none z nwD)]
                      exact s23 _ _ (s2 _ _ z)
                    · rw [List.take_add_one, hm, List.map_append]
                      refine ((T2.k (TK.of s23)).k kD).snoc (Td.k ?_ kD)
                      show Td _ _ (.tuple [resD m, ((ruleAt rs m).ren (pos rs)).dat])
                      rw [ruleAt_at hrm]
                      exact .tup upd_same (.cons (g3.k (TK.of (sh2.trans s23))) (.cons (ty.k (TK.of su)) .nil))
                  · rintro H2 ⟨us, s2, hDD, T2⟩
                    rw [nv_len, List.take_length] at T2
                    have sh2 := s1.trans s2
                    have SH2 := sh.same sh2
                    -- trimmed(sheet) == (formula, tuple(due))
                    refine ⟨.ref p5, rfl, p5, formD rs, rs, rfl, SH2.sh, hl, h0, h14, sh.nd.few, fun H3 y s3 ty => ?_⟩
                    refine ⟨.ref p3, rfl, .ref D, rfl, D, us, rfl, .inl ⟨SqL.of (s3 _ _ hDD), fun l1 nl => ?_⟩⟩
                    have sl := same_new (o := .tup us) nl
                    refine ⟨(by show 2 ≤ sizeLine; decide), fun u nu => ?_⟩
                    have su := same_new (o := .tup [.ref p3, .ref l1]) nu
                    have s3u := (s3.trans sl).trans su
                    have due : Td _ (.ref u) (trimD (formD rs) rs) := .tup upd_same (.cons ((SH2.same s3u).fo) (.cons (.tup (su _ _ upd_same) (T2.k (TK.of s3u))) .nil))
                    refine ⟨trimD (formD rs) rs, trimD (formD rs) rs, (ty.k (TK.of (sl.trans su))).d, due.d, (shp_trim rs).shaped (by decide), (shp_trim rs).shaped (by decide), ?_⟩
                    rw [(shp_trim rs).refl]
                    exact q _
end
end K33

/-! What the top has written, and the law's own head. -/
namespace K33
open PySem PySem.Spec PyProof.Rows L2
theorem all_mk {l : PySem.W.OpenLaw} {w : World} {K : PySem.W.Frag} {h : Heap} {mg : Str → Option Value} {fa f1 f2 f3 f4 f5 f6 f7 f8 f9 f10 f11 : Addr} (X : K.In h) (G : h.Ns mainGlobals mg) (hfa : mg "law" = some (.ref fa))
    {od1 an1 od2 an2 od3 an3 od4 an4 od5 an5 od6 an6 od7 an7 od8 an8 od9 an9 od10 an10 od11 an11 : Option Addr} {sl1 sl2 sl3 sl4 sl5 sl6 sl7 sl8 sl9 sl10 sl11 : Array (Option Value)} {oc1 kV1 dc1 pm1 cd1 ct1 oc2 kV2 dc2 pm2 cd2 ct2 oc3 kV3 dc3 pm3 cd3 ct3 oc4 kV4 dc4 pm4 cd4 ct4 oc5 kV5 dc5 pm5 cd5 ct5 oc6 kV6 dc6 pm6 cd6 ct6 oc7 kV7 dc7 pm7 cd7 ct7 oc8 kV8 dc8 pm8 cd8 ct8 oc9 kV9 dc9 pm9 cd9 ct9 oc10 kV10 dc10 pm10 cd10 ct10 oc11 kV11 dc11 pm11 cd11 ct11 : Value}
    (a1 : PySem.W.nsIn K mainGlobals "children_of" = some (some (.ref f1))) (l1 : K.lookup f1 = some ⟨oc1, od1, .func (PySem.W.fnOf "children_of" "children_of" (defArgs sKids) (defBody sKids) (defScope sKids) .none kV1 dc1 pm1 an1 cd1 ct1), sl1⟩) (c1 : PySem.W.codeIn K cd1 "children_of" = true) (k1 : PySem.W.keepIn K (.ref f1) = true)
    (a2 : PySem.W.nsIn K mainGlobals "reached" = some (some (.ref f2))) (l2 : K.lookup f2 = some ⟨oc2, od2, .func (PySem.W.fnOf "reached" "reached" (defArgs sReached) (defBody sReached) (defScope sReached) .none kV2 dc2 pm2 an2 cd2 ct2), sl2⟩) (c2 : PySem.W.codeIn K cd2 "reached" = true) (k2 : PySem.W.keepIn K (.ref f2) = true)
    (a3 : PySem.W.nsIn K mainGlobals "is_open" = some (some (.ref f3))) (l3 : K.lookup f3 = some ⟨oc3, od3, .func (PySem.W.fnOf "is_open" "is_open" (defArgs sOpen) (defBody sOpen) (defScope sOpen) .none kV3 dc3 pm3 an3 cd3 ct3), sl3⟩) (c3 : PySem.W.codeIn K cd3 "is_open" = true) (k3 : PySem.W.keepIn K (.ref f3) = true)
    (a4 : PySem.W.nsIn K mainGlobals "tally" = some (some (.ref f4))) (l4 : K.lookup f4 = some ⟨oc4, od4, .func (PySem.W.fnOf "tally" "tally" (defArgs sTally) (defBody sTally) (defScope sTally) .none kV4 dc4 pm4 an4 cd4 ct4), sl4⟩) (c4 : PySem.W.codeIn K cd4 "tally" = true) (k4 : PySem.W.keepIn K (.ref f4) = true)
    (a5 : PySem.W.nsIn K mainGlobals "renumbered" = some (some (.ref f5))) (l5 : K.lookup f5 = some ⟨oc5, od5, .func (PySem.W.fnOf "renumbered" "renumbered" (defArgs sRen) (defBody sRen) (defScope sRen) .none kV5 dc5 pm5 an5 cd5 ct5), sl5⟩) (c5 : PySem.W.codeIn K cd5 "renumbered" = true) (k5 : PySem.W.keepIn K (.ref f5) = true)
    (a6 : PySem.W.nsIn K mainGlobals "trimmed" = some (some (.ref f6))) (l6 : K.lookup f6 = some ⟨oc6, od6, .func (PySem.W.fnOf "trimmed" "trimmed" (defArgs sTrim) (defBody sTrim) (defScope sTrim) .none kV6 dc6 pm6 an6 cd6 ct6), sl6⟩) (c6 : PySem.W.codeIn K cd6 "trimmed" = true) (k6 : PySem.W.keepIn K (.ref f6) = true)
    (a7 : PySem.W.nsIn K mainGlobals "_law_draw" = some (some (.ref f7))) (l7 : K.lookup f7 = some ⟨oc7, od7, .func (PySem.W.fnOf "_law_draw" "_law_draw" (defArgs sDraw) (defBody sDraw) (defScope sDraw) .none kV7 dc7 pm7 an7 cd7 ct7), sl7⟩) (c7 : PySem.W.codeIn K cd7 "_law_draw" = true) (k7 : PySem.W.keepIn K (.ref f7) = true)
    (a8 : PySem.W.nsIn K mainGlobals "_law_take" = some (some (.ref f8))) (l8 : K.lookup f8 = some ⟨oc8, od8, .func (PySem.W.fnOf "_law_take" "_law_take" (defArgs sTake) (defBody sTake) (defScope sTake) .none kV8 dc8 pm8 an8 cd8 ct8), sl8⟩) (c8 : PySem.W.codeIn K cd8 "_law_take" = true) (k8 : PySem.W.keepIn K (.ref f8) = true)
    (a9 : PySem.W.nsIn K mainGlobals "_law_rule" = some (some (.ref f9))) (l9 : K.lookup f9 = some ⟨oc9, od9, .func (PySem.W.fnOf "_law_rule" "_law_rule" (defArgs sRule) (defBody sRule) (defScope sRule) .none kV9 dc9 pm9 an9 cd9 ct9), sl9⟩) (c9 : PySem.W.codeIn K cd9 "_law_rule" = true) (k9 : PySem.W.keepIn K (.ref f9) = true)
    (a10 : PySem.W.nsIn K mainGlobals "_law_renamed" = some (some (.ref f10))) (l10 : K.lookup f10 = some ⟨oc10, od10, .func (PySem.W.fnOf "_law_renamed" "_law_renamed" (defArgs sRenL) (defBody sRenL) (defScope sRenL) .none kV10 dc10 pm10 an10 cd10 ct10), sl10⟩) (c10 : PySem.W.codeIn K cd10 "_law_renamed" = true) (k10 : PySem.W.keepIn K (.ref f10) = true)
    (a11 : PySem.W.nsIn K mainGlobals "law" = some (some (.ref f11))) (l11 : K.lookup f11 = some ⟨oc11, od11, .func (PySem.W.fnOf "law" "law" (defArgs sLaw) (defBody sLaw) (defScope sLaw) .none kV11 dc11 pm11 an11 cd11 ct11), sl11⟩) (c11 : PySem.W.codeIn K cd11 "law" = true) (k11 : PySem.W.keepIn K (.ref f11) = true)
    (z1 : PySem.W.nsIn K mainGlobals "len" = some none) (z2 : PySem.W.nsIn K mainGlobals "range" = some none) (z3 : PySem.W.nsIn K mainGlobals "sorted" = some none) (z4 : PySem.W.nsIn K mainGlobals "list" = some none) (z5 : PySem.W.nsIn K mainGlobals "any" = some none) (z6 : PySem.W.nsIn K mainGlobals "tuple" = some none) (z7 : PySem.W.nsIn K mainGlobals "abs" = some none) (z8 : PySem.W.nsIn K mainGlobals "int" = some none) (z9 : PySem.W.nsIn K mainGlobals "max" = some none) (z10 : PySem.W.nsIn K mainGlobals "reversed" = some none) (z11 : PySem.W.nsIn K mainGlobals "set" = some none) (z12 : PySem.W.nsIn K mainGlobals "isinstance" = some none) (z13 : PySem.W.nsIn K mainGlobals "bool" = some none) :
    ∃ fd : FuncData, (∀ (s : Shared) (v : Value), BindsTo s fd ⟨[v], []⟩ [("_law_script", v)]) ∧ ∀ base : Heap, K.In base → base.Ns mainGlobals mg → FnOk l.prog w K mg base CX0 4 fa fd ["_law_script"] (spLaw K) := by
  have e := hfa.symm.trans (PySem.W.mg_of X G a11)
  cases e
  have F1 := fun_mk (st := sKids) l1 c1 k1
  have F2 := fun_mk (st := sReached) l2 c2 k2
  have F3 := fun_mk (st := sOpen) l3 c3 k3
  have F4 := fun_mk (st := sTally) l4 c4 k4
  have F5 := fun_mk (st := sRen) l5 c5 k5
  have F6 := fun_mk (st := sTrim) l6 c6 k6
  have F7 := fun_mk (st := sDraw) l7 c7 k7
  have F8 := fun_mk (st := sTake) l8 c8 k8
  have F9 := fun_mk (st := sRule) l9 c9 k9
  have F10 := fun_mk (st := sRenL) l10 c10 k10
  have F11 := fun_mk (st := sLaw) l11 c11 k11
  have b1 := F1.binds (ps := ["rule"]) fun _ _ _ _ _ _ us hl => match us, hl with | [_], _ => rfl
  have g1 := PySem.W.mg_of X G a1
  have b2 := F2.binds (ps := ["sheet"]) fun _ _ _ _ _ _ us hl => match us, hl with | [_], _ => rfl
  have g2 := PySem.W.mg_of X G a2
  have b3 := F3.binds (ps := ["sheet"]) fun _ _ _ _ _ _ us hl => match us, hl with | [_], _ => rfl
  have g3 := PySem.W.mg_of X G a3
  have b4 := F4.binds (ps := ["sheet"]) fun _ _ _ _ _ _ us hl => match us, hl with | [_], _ => rfl
  have g4 := PySem.W.mg_of X G a4
  have b5 := F5.binds (ps := ["rule", "numbers"]) fun _ _ _ _ _ _ us hl => match us, hl with | [_, _], _ => rfl
  have g5 := PySem.W.mg_of X G a5
  have b6 := F6.binds (ps := ["sheet"]) fun _ _ _ _ _ _ us hl => match us, hl with | [_], _ => rfl
  have g6 := PySem.W.mg_of X G a6
  have b7 := F7.binds (ps := ["_law_script"]) fun _ _ _ _ _ _ us hl => match us, hl with | [_], _ => rfl
  have g7 := PySem.W.mg_of X G a7
  have b8 := F8.binds (ps := ["_law_draw_here", "_law_many"]) fun _ _ _ _ _ _ us hl => match us, hl with | [_, _], _ => rfl
  have g8 := PySem.W.mg_of X G a8
  have b9 := F9.binds (ps := ["_law_draw_here", "_law_below"]) fun _ _ _ _ _ _ us hl => match us, hl with | [_, _], _ => rfl
  have g9 := PySem.W.mg_of X G a9
  have b10 := F10.binds (ps := ["_law_rule_here", "_law_children", "_law_numbers"]) fun _ _ _ _ _ _ us hl => match us, hl with | [_, _, _], _ => rfl
  have g10 := PySem.W.mg_of X G a10
  have T : Glob mg := ⟨PySem.W.mg_none_of X G z1, PySem.W.mg_none_of X G z2, PySem.W.mg_none_of X G z3, PySem.W.mg_none_of X G z4, PySem.W.mg_none_of X G z5, PySem.W.mg_none_of X G z6, PySem.W.mg_none_of X G z7, PySem.W.mg_none_of X G z8, PySem.W.mg_none_of X G z9, PySem.W.mg_none_of X G z10, PySem.W.mg_none_of X G z11, PySem.W.mg_none_of X G z12, PySem.W.mg_none_of X G z13⟩
  refine ⟨PySem.W.fnOf "law" "law" (defArgs sLaw) (defBody sLaw) (defScope sLaw) .none kV11 dc11 pm11 an11 cd11 ct11, fun s v => .of_eq rfl, fun base _ _ => ?_⟩
  have G1 : FnOk l.prog w K mg base CX0 1 f1 _ ["rule"] spKids := ok_kids F1
  have G2 : FnOk l.prog w K mg base CX0 2 f2 _ ["sheet"] spReached := ok_reached F2 T F1 b1 g1
  have G3 : FnOk l.prog w K mg base CX0 3 f3 _ ["sheet"] spOpen := ok_open F3 T G2 k2 b2 g2
  have G4 : FnOk l.prog w K mg base CX0 3 f4 _ ["sheet"] spTally := ok_tally F4 T G2 k2 b2 g2
  have G5 : FnOk l.prog w K mg base CX0 1 f5 _ ["rule", "numbers"] spRen := ok_ren F5 T
  have G6 : FnOk l.prog w K mg base CX0 3 f6 _ ["sheet"] spTrim := ok_trim F6 T G2 k2 b2 g2 G5 k5 b5 g5
  have G7 : FnOk l.prog w K mg base CX0 1 f7 _ ["_law_script"] (spDraw K) := ok_draw F7 T
  have G8 : FnOk l.prog w K mg base CX0 1 f8 _ ["_law_draw_here", "_law_many"] spTake := ok_take F8 T
  have G9 : FnOk l.prog w K mg base CX0 2 f9 _ ["_law_draw_here", "_law_below"] spRule := ok_rule F9 T G8 k8 b8 g8
  have G10 : FnOk l.prog w K mg base CX0 1 f10 _ ["_law_rule_here", "_law_children", "_law_numbers"] spRenL := ok_renL F10 T
  exact ok_law F11 T ⟨G1, k1, b1, g1⟩ ⟨G2, k2, b2, g2⟩ ⟨G3, k3, b3, g3⟩ ⟨G4, k4, b4, g4⟩ ⟨G6, k6, b6, g6⟩ ⟨G7, k7, b7, g7⟩ ⟨G8, k8, b8, g8⟩ ⟨G9, k9, b9, g9⟩ ⟨G10, k10, b10, g10⟩

end K33
open PySem PySem.W PyProof.Rows
set_option maxHeartbeats 0 in
theorem PySem.Challenge.cw_countsworn_k33_nodes_that_are_reached_holds : PySem.Challenge.rw_countsworn_k33_nodes_that_are_reached.Holds := by
  w_on; o_law; k_head; (case hw => w_witness2)
  k_fill
  refine L2.walk_of (l := PySem.Challenge.rw_countsworn_k33_nodes_that_are_reached) (n := 63) (k := 4) (x := "_law_script") (CX := fun _ => L2.CX0) (sp := fun w => K33.spLaw _) rfl (by decide) rfl ⟨rfl, by decide, by decide⟩ (fun w h Y => PySem.W.kIn_of Y) ?F (fun _ _ a ns hl _ hS => ⟨a, ns, rfl, hS, hl, fun _ => rfl⟩) (fun _ _ _ _ _ h => h)
  case F =>
    intro w mg fa h KX G hmg
    refine' K33.all_mk KX G hmg ?a1 ?l1 ?c1 ?k1 ?a2 ?l2 ?c2 ?k2 ?a3 ?l3 ?c3 ?k3 ?a4 ?l4 ?c4 ?k4 ?a5 ?l5 ?c5 ?k5 ?a6 ?l6 ?c6 ?k6 ?a7 ?l7 ?c7 ?k7 ?a8 ?l8 ?c8 ?k8 ?a9 ?l9 ?c9 ?k9 ?a10 ?l10 ?c10 ?k10 ?a11 ?l11 ?c11 ?k11 ?z1 ?z2 ?z3 ?z4 ?z5 ?z6 ?z7 ?z8 ?z9 ?z10 ?z11 ?z12 ?z13
    (case a1 => k_is)
    (case l1 => k_is)
    (case c1 => k_is)
    (case k1 => k_is)
    (case a2 => k_is)
    (case l2 => k_is)
    (case c2 => k_is)
    (case k2 => k_is)
    (case a3 => k_is)
    (case l3 => k_is)
    (case c3 => k_is)
    (case k3 => k_is)
    (case a4 => k_is)
    (case l4 => k_is)
    (case c4 => k_is)
    (case k4 => k_is)
    (case a5 => k_is)
    (case l5 => k_is)
    (case c5 => k_is)
    (case k5 => k_is)
    (case a6 => k_is)
    (case l6 => k_is)
    (case c6 => k_is)
    (case k6 => k_is)
    (case a7 => k_is)
    (case l7 => k_is)
    (case c7 => k_is)
    (case k7 => k_is)
    (case a8 => k_is)
    (case l8 => k_is)
    (case c8 => k_is)
    (case k8 => k_is)
    (case a9 => k_is)
    (case l9 => k_is)
    (case c9 => k_is)
    (case k9 => k_is)
    (case a10 => k_is)
    (case l10 => k_is)
    (case c10 => k_is)
    (case k10 => k_is)
    (case a11 => k_is)
    (case l11 => k_is)
    (case c11 => k_is)
    (case k11 => k_is)
    (case z1 => k_is)
    (case z2 => k_is)
    (case z3 => k_is)
    (case z4 => k_is)
    (case z5 => k_is)
    (case z6 => k_is)
    (case z7 => k_is)
    (case z8 => k_is)
    (case z9 => k_is)
    (case z10 => k_is)
    (case z11 => k_is)
    (case z12 => k_is)
    (case z13 => k_is)
