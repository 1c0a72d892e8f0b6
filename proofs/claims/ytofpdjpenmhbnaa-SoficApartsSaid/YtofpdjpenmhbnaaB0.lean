/- Nets of letters: what the functions compute, in plain Lean. -/
import Derived.Test.YtofpdjpenmhbnaaA0
set_option linter.unusedVariables false
set_option linter.unusedSimpArgs false
set_option linter.unusedSectionVars false
namespace Go.Kx
def stepF (f : Nat → Nat → Int) (set x : Nat) : Nat → Nat
  | 0 => 0
  | i + 1 => if (set >>> i) % 2 = 1 ∧ 0 ≤ f i x then stepF f set x i ||| 2 ^ (f i x).toNat else stepF f set x i

theorem stepF_pos {f : Nat → Nat → Int} {set x i : Nat} (h : (set >>> i) % 2 = 1) (h' : 0 ≤ f i x) : stepF f set x (i + 1) = stepF f set x i ||| 2 ^ (f i x).toNat := by simp only [stepF]; rw [if_pos ⟨h, h'⟩]
theorem stepF_neg {f : Nat → Nat → Int} {set x i : Nat} (h : ¬ ((set >>> i) % 2 = 1 ∧ 0 ≤ f i x)) : stepF f set x (i + 1) = stepF f set x i := by simp only [stepF]; rw [if_neg h]

structure Okf (k : Nat) (f : Nat → Nat → Int) : Prop where
  k5 : k ≤ 5
  lo : ∀ i x, i < k → x < 2 → -1 ≤ f i x
  hi : ∀ i x, i < k → x < 2 → f i x < k

theorem stepF_lt {k : Nat} {f : Nat → Nat → Int} (h : Okf k f) (set x : Nat) (hx : x < 2) : ∀ i, i ≤ k → stepF f set x i < 2 ^ k
  | 0, _ => by simp [stepF, Nat.two_pow_pos]
  | i + 1, hi => by
    have ih := stepF_lt h set x hx i (by omega)
    unfold stepF
    split
    · have h2 := h.hi i x (by omega) hx
      exact Nat.or_lt_two_pow ih (Nat.pow_lt_pow_right (by decide) (by omega))
    · exact ih

theorem pow_le_32 {k : Nat} (h : k ≤ 5) : 2 ^ k ≤ 32 := by
  have : 2 ^ k ≤ 2 ^ 5 := Nat.pow_le_pow_right (by decide) h
  omega

theorem two_pow_small {k : Nat} {j : Int} (h : j < k) (h5 : k ≤ 5) : 2 ^ j.toNat ≤ 16 := by
  have : 2 ^ j.toNat ≤ 2 ^ 4 := Nat.pow_le_pow_right (by decide) (by omega)
  omega

def reachF (f : Nat → Nat → Int) (k v : Nat) : Nat → Nat
  | 0 => stepF f (2 ^ v) 0 k ||| stepF f (2 ^ v) 1 k
  | r + 1 => reachF f k v r ||| stepF f (reachF f k v r) 0 k ||| stepF f (reachF f k v r) 1 k
theorem reachF_lt {k : Nat} {f : Nat → Nat → Int} (h : Okf k f) (v : Nat) : ∀ r, reachF f k v r < 2 ^ k
  | 0 => Nat.or_lt_two_pow (stepF_lt h _ 0 (by decide) k (Nat.le_refl _)) (stepF_lt h _ 1 (by decide) k (Nat.le_refl _))
  | r + 1 => Nat.or_lt_two_pow (Nat.or_lt_two_pow (reachF_lt h v r) (stepF_lt h _ 0 (by decide) k (Nat.le_refl _))) (stepF_lt h _ 1 (by decide) k (Nat.le_refl _))
def hangsTo (f : Nat → Nat → Int) (k : Nat) : Nat → Bool
  | 0 => true
  | v + 1 => hangsTo f k v && (reachF f k v k == 2 ^ k - 1)
def hangsF (f : Nat → Nat → Int) (k : Nat) : Bool := hangsTo f k k
theorem hangsTo_le {f : Nat → Nat → Int} {k : Nat} : ∀ {v}, hangsTo f k v = false → ∀ {v'}, v ≤ v' → hangsTo f k v' = false := by
  intro v h v' hv
  induction v' with
  | zero => obtain rfl : v = 0 := by omega
            exact h
  | succ v' ih =>
    rcases Nat.lt_or_ge v (v' + 1) with h1 | h1
    · simp [hangsTo, ih (by omega)]
    · obtain rfl : v = v' + 1 := by omega
      exact h
theorem hangs_no {f : Nat → Nat → Int} {k v : Nat} (hv : v < k) (h : ¬ reachF f k v k = 2 ^ k - 1) : hangsF f k = false :=
  hangsTo_le (v := v + 1) (by simp [hangsTo, h]) (by omega)
theorem hangs_step {f : Nat → Nat → Int} {k v : Nat} (h : hangsTo f k v = true) (h' : reachF f k v k = 2 ^ k - 1) : hangsTo f k (v + 1) = true := by simp [hangsTo, h, h']
theorem one_shl_lt {v k : Nat} (h : v < k) (h5 : k ≤ 5) : 2 ^ v < 32 := by
  have : 2 ^ v ≤ 2 ^ 4 := Nat.pow_le_pow_right (by decide) (by omega)
  omega
end Go.Kx
/- Words. -/
namespace Go.Kx
def Lets (s : ByteArray) : Prop := ∀ i, i < s.size → byt s i = 97 ∨ byt s i = 98
def fromTo (f : Nat → Nat → Int) (k set : Nat) (s : ByteArray) : Nat → Nat
  | 0 => set
  | i + 1 => stepF f (fromTo f k set s i) (byt s i - 97) k
theorem fromTo_lt {k : Nat} {f : Nat → Nat → Int} (h : Okf k f) {set : Nat} (hs : set < 2 ^ k) {s : ByteArray} (hl : Lets s) : ∀ i, i ≤ s.size → fromTo f k set s i < 2 ^ k
  | 0, _ => hs
  | i + 1, hi => stepF_lt h _ _ (by have := hl i (by omega); omega) k (Nat.le_refl _)
def wordTo (s : ByteArray) : Nat → Bool
  | 0 => true
  | i + 1 => wordTo s i && (byt s i == 97 || byt s i == 98)
def wordB (s : ByteArray) : Bool := wordTo s s.size && decide (s.size ≤ 100)
theorem wordTo_iff (s : ByteArray) : ∀ n, wordTo s n = true ↔ ∀ i, i < n → byt s i = 97 ∨ byt s i = 98
  | 0 => by simp [wordTo]
  | n + 1 => by
    simp only [wordTo, Bool.and_eq_true, wordTo_iff s n, Bool.or_eq_true, beq_iff_eq]
    constructor
    · rintro ⟨h1, h2⟩ i hi
      rcases Nat.lt_or_ge i n with h | h
      · exact h1 i h
      · obtain rfl : i = n := by omega
        exact h2
    · intro h
      exact ⟨fun i hi => h i (by omega), h n (by omega)⟩
theorem wordB_lets {s : ByteArray} (h : wordB s = true) : Lets s := by
  simp only [wordB, Bool.and_eq_true] at h
  exact (wordTo_iff s s.size).1 h.1
end Go.Kx
/- What a net of letters is. -/
namespace Go.Kx
def tabR (ps : List (Int × Int)) (i x : Nat) : Int := pr (ps.getD i (0, 0)) x
def tabN (nx : List Int) (i x : Nat) : Int := nx.getD (2 * i + x) 0
theorem tabR_at {ps : List (Int × Int)} {i x : Nat} (hi : i < ps.length) (hx : x < 2) : (prs ps)[(i : Int).toNat * 2 + (x : Int).toNat * 1]? = some (.int .i64 (tabR ps i x)) := prs_atN hi hx
theorem tabR_0 (ps : List (Int × Int)) (i : Nat) : tabR ps i 0 = (ps.getD i (0, 0)).1 := rfl
theorem tabR_1 (ps : List (Int × Int)) (i : Nat) : tabR ps i 1 = (ps.getD i (0, 0)).2 := rfl

def RowOk (ps : List (Int × Int)) (v : Nat) : Prop :=
  (∀ x, x < 2 → -1 ≤ tabR ps v x ∧ tabR ps v x < ps.length) ∧ ¬ (tabR ps v 0 = -1 ∧ tabR ps v 1 = -1)
instance (ps : List (Int × Int)) (v : Nat) : Decidable (RowOk ps v) := by unfold RowOk; infer_instance
def intoTo (ps : List (Int × Int)) : Nat → Nat
  | 0 => 0
  | n + 1 => if 0 ≤ tabR ps (n / 2) (n % 2) then intoTo ps n ||| 2 ^ (tabR ps (n / 2) (n % 2)).toNat else intoTo ps n
def NetOk (ps : List (Int × Int)) : Prop := (1 ≤ ps.length ∧ ps.length ≤ 5) ∧ (∀ v, v < ps.length → RowOk ps v) ∧ intoTo ps (2 * ps.length) = 2 ^ ps.length - 1
instance (ps : List (Int × Int)) : Decidable (NetOk ps) := by unfold NetOk; infer_instance
def netB (ps : List (Int × Int)) : Bool := decide (NetOk ps)

theorem intoTo_pos {ps : List (Int × Int)} {v x : Nat} (hx : x < 2) (h : 0 ≤ tabR ps v x) : intoTo ps (2 * v + x + 1) = intoTo ps (2 * v + x) ||| 2 ^ (tabR ps v x).toNat := by
  have e1 : (2 * v + x) / 2 = v := by omega
  have e2 : (2 * v + x) % 2 = x := by omega
  simp only [intoTo, e1, e2, if_pos h]
theorem intoTo_neg {ps : List (Int × Int)} {v x : Nat} (hx : x < 2) (h : ¬ 0 ≤ tabR ps v x) : intoTo ps (2 * v + x + 1) = intoTo ps (2 * v + x) := by
  have e1 : (2 * v + x) / 2 = v := by omega
  have e2 : (2 * v + x) % 2 = x := by omega
  simp only [intoTo, e1, e2, if_neg h]
theorem NetOk.okf {ps : List (Int × Int)} (h : NetOk ps) : Okf ps.length (tabR ps) := ⟨h.1.2, fun i x hi hx => ((h.2.1 i hi).1 x hx).1, fun i x hi hx => ((h.2.1 i hi).1 x hx).2⟩
theorem netB_no {ps : List (Int × Int)} (h : ¬ NetOk ps) : netB ps = false := decide_eq_false h
theorem intoTo_lt {ps : List (Int × Int)} (k : Nat) : ∀ n, (∀ j, j < n → tabR ps (j / 2) (j % 2) < k) → intoTo ps n < 2 ^ k
  | 0, _ => by simp [intoTo, Nat.two_pow_pos]
  | n + 1, h => by
    have ih := intoTo_lt k n (fun j hj => h j (by omega))
    unfold intoTo
    split
    · have := h n (by omega)
      exact Nat.or_lt_two_pow ih (Nat.pow_lt_pow_right (by decide) (by omega))
    · exact ih
theorem intoTo_bit {ps : List (Int × Int)} (t : Nat) : ∀ n, (intoTo ps n).testBit t = true ↔ ∃ j, j < n ∧ tabR ps (j / 2) (j % 2) = t
  | 0 => by simp [intoTo]
  | n + 1 => by
    have ih := intoTo_bit (ps := ps) t n
    unfold intoTo
    split
    · rename_i h
      rw [Nat.testBit_or, Bool.or_eq_true, ih, Nat.testBit_two_pow, decide_eq_true_iff]
      constructor
      · rintro (⟨j, hj, e⟩ | e)
        · exact ⟨j, by omega, e⟩
        · exact ⟨n, by omega, by omega⟩
      · rintro ⟨j, hj, e⟩
        rcases Nat.lt_or_ge j n with h1 | h1
        · exact .inl ⟨j, h1, e⟩
        · obtain rfl : j = n := by omega
          right; omega
    · rename_i h
      rw [ih]
      constructor
      · rintro ⟨j, hj, e⟩; exact ⟨j, by omega, e⟩
      · rintro ⟨j, hj, e⟩
        rcases Nat.lt_or_ge j n with h1 | h1
        · exact ⟨j, h1, e⟩
        · obtain rfl : j = n := by omega
          omega
theorem full_iff {m k : Nat} (h : m < 2 ^ k) : m = 2 ^ k - 1 ↔ ∀ t, t < k → m.testBit t = true := by
  constructor
  · rintro rfl t ht
    rw [Nat.testBit_two_pow_sub_one]; simpa using ht
  · intro hb
    apply Nat.eq_of_testBit_eq
    intro t
    rw [Nat.testBit_two_pow_sub_one]
    by_cases ht : t < k
    · rw [hb t ht]; simp [ht]
    · rw [Nat.testBit_lt_two_pow (Nat.lt_of_lt_of_le h (Nat.pow_le_pow_right (by decide) (by omega)))]; simp [ht]
theorem into_iff {ps : List (Int × Int)} (hr : ∀ v, v < ps.length → RowOk ps v) : intoTo ps (2 * ps.length) = 2 ^ ps.length - 1 ↔ ∀ t, t < ps.length → ∃ j, j < 2 * ps.length ∧ tabR ps (j / 2) (j % 2) = t := by
  have hlt : intoTo ps (2 * ps.length) < 2 ^ ps.length := intoTo_lt _ _ (fun j hj => ((hr (j / 2) (by omega)).1 (j % 2) (by omega)).2)
  rw [full_iff hlt]
  exact ⟨fun h t ht => (intoTo_bit t _).1 (h t ht), fun h t ht => (intoTo_bit t _).2 (h t ht)⟩
end Go.Kx
/- Letters. -/
namespace Go.Kx
def letF (r : Int) : Int := if r = 97 then 0 else if r = 98 then 1 else -1
theorem letF_small : ∀ r : Nat, r < 128 → Lib.indexByte [97, 98] r.toUInt8 = letF r := by decide
theorem letF_ascii {r : Int} (h0 : 0 ≤ r) (h1 : r < 128) : Lib.indexByte (⟨#[97, 98]⟩ : ByteArray).data.toList r.toNat.toUInt8 = letF r := by
  have := letF_small r.toNat (by omega)
  rw [Int.toNat_of_nonneg h0] at this
  exact this
theorem letF_else {r : Int} (h : ¬ (0 ≤ r ∧ r < 128)) : letF r = -1 := by
  unfold letF; rw [if_neg (by omega), if_neg (by omega)]
theorem indexByte_nil (s : ByteArray) (h : s.size = 0) (c : UInt8) : Lib.indexByte s.data.toList c = -1 := by
  have : s.data.toList = [] := List.eq_nil_of_length_eq_zero (by simpa using h)
  rw [this]; rfl
theorem ab_byt {p : Nat} (h : p < (⟨#[97, 98]⟩ : ByteArray).size) : byt ⟨#[97, 98]⟩ p = 97 + p := by
  have : p < 2 := h
  obtain rfl | rfl : p = 0 ∨ p = 1 := by omega
  · rfl
  · rfl
theorem ab_decode {p : Nat} (h : p < (⟨#[97, 98]⟩ : ByteArray).size) : Utf8.decode ⟨#[97, 98]⟩ p = (97 + p, 1) := by
  have h2 : p < 2 := h
  rw [decode_byt h (by rw [ab_byt h]; omega), ab_byt h]
theorem ab_size : (⟨#[97, 98]⟩ : ByteArray).size = 2 := rfl
theorem encode_last {r : Int} (hv : Go.validRune r = true) (h : 128 ≤ r) : 2 ≤ (Utf8.encode r).size ∧ (Utf8.encode r).size ≤ 4 ∧ 128 ≤ byt (Utf8.encode r) ((Utf8.encode r).size - 1) := by
  obtain ⟨h1, h2, h3⟩ := encode_facts r (by rw [validRune_eq]; exact hv) h
  refine ⟨h1, h2, ?_⟩
  have := h3 (by omega)
  rw [← get_byt (by omega)]
  have hk : (Utf8.encode r).size - 1 < (Utf8.encode r).size := by omega
  have e : (Utf8.encode r).get! ((Utf8.encode r).size - 1) = (Utf8.encode r)[(Utf8.encode r).size - 1]'hk := by
    simp [ByteArray.get!, getElem!_pos, hk]; rfl
  rw [e]; exact this
theorem letF_lets {c : Nat} (h : c = 97 ∨ c = 98) : letF (c : Int) = ((c - 97 : Nat) : Int) := by rcases h with rfl | rfl <;> rfl
theorem wordB_no {s : ByteArray} {i : Nat} (hi : i < s.size) (h : ¬ (byt s i = 97 ∨ byt s i = 98)) : wordB s = false := by
  unfold wordB
  have : wordTo s s.size = false := by
    rw [Bool.eq_false_iff]; intro h'
    exact h ((wordTo_iff s s.size).1 h' i hi)
  rw [this]; rfl
theorem wordB_of {s : ByteArray} (h : wordTo s s.size = true) : wordB s = decide ((s.size : Int) ≤ 100) := by
  unfold wordB; rw [h, Bool.true_and]
  exact decide_eq_decide.2 (by omega)
theorem wordTo_step {s : ByteArray} {i : Nat} (h : wordTo s i = true) (hb : byt s i = 97 ∨ byt s i = 98) : wordTo s (i + 1) = true := by
  simp only [wordTo, h, Bool.true_and, Bool.or_eq_true, beq_iff_eq]; exact hb
end Go.Kx
/- Opening a net. -/
namespace Go.Kx
def idxB (bs : List Bool) (b : Bool) : Int := if b ∈ bs then (bs.idxOf b : Int) else -1
theorem idxB_none {bs : List Bool} {b : Bool} (h : ∀ j, j < bs.length → ¬ b = bs.getD j false) : idxB bs b = -1 := by
  unfold idxB
  rw [if_neg]
  intro hm
  obtain ⟨j, hj, e⟩ := List.mem_iff_getElem.1 hm
  exact h j hj (by rw [List.getD, List.getElem?_eq_getElem hj]; exact e.symm)
theorem idxB_at {bs : List Bool} {b : Bool} {i : Nat} (hi : i < bs.length) (he : b = bs.getD i false) (h : ∀ j, j < i → ¬ b = bs.getD j false) : idxB bs b = i := by
  have hg : ∀ j (hj : j < bs.length), bs.getD j false = bs[j] := fun j hj => by rw [List.getD, List.getElem?_eq_getElem hj]; rfl
  unfold idxB
  have hm : b ∈ bs := by rw [he, hg i hi]; exact List.getElem_mem hi
  rw [if_pos hm]
  congr 1
  have hlt := List.idxOf_lt_length_of_mem hm
  have hx : bs[bs.idxOf b] = b := List.getElem_idxOf hlt
  have h1 : ¬ bs.idxOf b < i := fun hl => h _ hl (by rw [hg _ hlt]; exact hx.symm)
  have h2 : ¬ i < bs.idxOf b := fun hl => by
    have := List.not_of_lt_findIdx (p := (· == b)) (xs := bs) (i := i) hl
    have e : bs[i] = b := by rw [← hg i hi]; exact he.symm
    simp [e] at this
  omega
theorem idxB_ge (bs : List Bool) (b : Bool) : decide (idxB bs b ≥ 0) = decide (b ∈ bs) := by
  unfold idxB
  split <;> rename_i h
  · simp [h]
  · simp [h]

def NxOk (ps : List (Int × Int)) (m : Nat) (nx : List Int) : Prop := nx.length = 10 ∧ (∀ j, j < m → nx.getD j 0 = tabR ps (j / 2) (j % 2)) ∧ ∀ j, m ≤ j → nx.getD j 0 = 0
def SbOk (ps : List (Int × Int)) (k m : Nat) (sb : List Bool) : Prop := sb.length = k ∧ ∀ t, t < k → (sb.getD t false = true ↔ ∃ j, j < m ∧ tabR ps (j / 2) (j % 2) = t)
theorem NxOk.init (ps : List (Int × Int)) : NxOk ps 0 (List.replicate 10 0) := by
  refine ⟨by simp, by omega, fun j _ => ?_⟩
  rw [List.getD, List.getElem?_replicate]; split <;> rfl
theorem SbOk.init (ps : List (Int × Int)) (k : Nat) : SbOk ps k 0 (List.replicate k false) := by
  refine ⟨by simp, fun t ht => ?_⟩
  rw [List.getD, List.getElem?_replicate, if_pos ht]
  simp
theorem getD_set {α : Type} {l : List α} {i j : Nat} {v d : α} (hi : i < l.length) : (l.set i v).getD j d = if i = j then v else l.getD j d := by
  rw [List.getD, List.getElem?_set, List.getD]
  by_cases h : i = j
  · subst h; simp [hi]
  · simp [h]
theorem NxOk.set {ps : List (Int × Int)} {i x : Nat} {nx : List Int} (h : NxOk ps (2 * i + x) nx) (hi : i < 5) (hx : x < 2) : NxOk ps (2 * i + (x + 1)) (nx.set (2 * i + x) (tabR ps i x)) := by
  obtain ⟨h1, h2, h3⟩ := h
  refine ⟨by simp [h1], fun j hj => ?_, fun j hj => ?_⟩
  · rw [getD_set (by omega)]
    split
    · rename_i e; subst e
      rw [show (2 * i + x) / 2 = i by omega, show (2 * i + x) % 2 = x by omega]
    · exact h2 j (by omega)
  · rw [getD_set (by omega), if_neg (by omega)]; exact h3 j (by omega)
theorem SbOk.set {ps : List (Int × Int)} {k i x : Nat} {sb : List Bool} (h : SbOk ps k (2 * i + x) sb) (hx : x < 2) (h0 : 0 ≤ tabR ps i x) (hk : tabR ps i x < k) : SbOk ps k (2 * i + (x + 1)) (sb.set (tabR ps i x).toNat true) := by
  obtain ⟨h1, h2⟩ := h
  refine ⟨by simp [h1], fun t ht => ?_⟩
  rw [getD_set (by omega)]
  have e1 : (2 * i + x) / 2 = i := by omega
  have e2 : (2 * i + x) % 2 = x := by omega
  split
  · rename_i e
    refine ⟨fun _ => ⟨2 * i + x, by omega, ?_⟩, fun _ => rfl⟩
    rw [e1, e2]; omega
  · rename_i e
    rw [h2 t ht]
    constructor
    · rintro ⟨j, hj, hh⟩; exact ⟨j, by omega, hh⟩
    · rintro ⟨j, hj, hh⟩
      rcases Nat.lt_or_ge j (2 * i + x) with hlt | hge
      · exact ⟨j, hlt, hh⟩
      · obtain rfl : j = 2 * i + x := by omega
        rw [e1, e2] at hh; omega
theorem SbOk.keep {ps : List (Int × Int)} {k i x : Nat} {sb : List Bool} (h : SbOk ps k (2 * i + x) sb) (hx : x < 2) (h0 : ¬ 0 ≤ tabR ps i x) : SbOk ps k (2 * i + (x + 1)) sb := by
  obtain ⟨h1, h2⟩ := h
  refine ⟨h1, fun t ht => ?_⟩
  rw [h2 t ht]
  have e1 : (2 * i + x) / 2 = i := by omega
  have e2 : (2 * i + x) % 2 = x := by omega
  constructor
  · rintro ⟨j, hj, hh⟩; exact ⟨j, by omega, hh⟩
  · rintro ⟨j, hj, hh⟩
    rcases Nat.lt_or_ge j (2 * i + x) with hlt | hge
    · exact ⟨j, hlt, hh⟩
    · obtain rfl : j = 2 * i + x := by omega
      rw [e1, e2] at hh; omega
theorem NxOk.tab {ps : List (Int × Int)} {m : Nat} {nx : List Int} (h : NxOk ps m nx) {i x : Nat} (hx : x < 2) (hm : 2 * i + x < m) : tabN nx i x = tabR ps i x := by
  unfold tabN
  rw [h.2.1 _ hm, show (2 * i + x) / 2 = i by omega, show (2 * i + x) % 2 = x by omega]
theorem netOk_of {ps : List (Int × Int)} {sb : List Bool} (hl : 1 ≤ ps.length ∧ ps.length ≤ 5) (hr : ∀ v, v < ps.length → RowOk ps v) (hs : SbOk ps ps.length (2 * ps.length) sb) (hf : ¬ false ∈ sb) : NetOk ps := by
  refine ⟨hl, hr, (into_iff hr).2 fun t ht => (hs.2 t ht).1 ?_⟩
  have hlt : t < sb.length := by rw [hs.1]; exact ht
  rw [List.getD, List.getElem?_eq_getElem hlt]
  cases he : sb[t] with
  | true => rfl
  | false => exact absurd (he ▸ List.getElem_mem hlt) hf
theorem netOk_not {ps : List (Int × Int)} {sb : List Bool} (hs : SbOk ps ps.length (2 * ps.length) sb) (hf : false ∈ sb) : ¬ NetOk ps := by
  rintro ⟨hl, hr, hi⟩
  obtain ⟨t, ht, he⟩ := List.mem_iff_getElem.1 hf
  have htk : t < ps.length := by rw [← hs.1]; exact ht
  have := (hs.2 t htk).2 ((into_iff hr).1 hi t htk)
  rw [List.getD, List.getElem?_eq_getElem ht, he] at this
  exact absurd this (by decide)
theorem stepF_congr {f g : Nat → Nat → Int} {set x : Nat} : ∀ {k}, (∀ i, i < k → f i x = g i x) → stepF f set x k = stepF g set x k
  | 0, _ => rfl
  | k + 1, h => by
    have ih := stepF_congr (set := set) (k := k) (fun i hi => h i (by omega))
    simp only [stepF, h k (by omega), ih]
structure Net (ps : List (Int × Int)) (nx : List Int) : Prop where
  ok : NetOk ps
  nx : NxOk ps (2 * ps.length) nx
theorem Net.tab {ps : List (Int × Int)} {nx : List Int} (h : Net ps nx) {i x : Nat} (hi : i < ps.length) (hx : x < 2) : tabN nx i x = tabR ps i x := h.nx.tab hx (by omega)
theorem Net.okf {ps : List (Int × Int)} {nx : List Int} (h : Net ps nx) : Okf ps.length (tabN nx) :=
  ⟨h.ok.1.2, fun i x hi hx => by rw [h.tab hi hx]; exact h.ok.okf.lo i x hi hx, fun i x hi hx => by rw [h.tab hi hx]; exact h.ok.okf.hi i x hi hx⟩
theorem Net.step {ps : List (Int × Int)} {nx : List Int} (h : Net ps nx) {set x : Nat} (hx : x < 2) : stepF (tabN nx) set x ps.length = stepF (tabR ps) set x ps.length := stepF_congr fun _ hi => h.tab hi hx
theorem Net.fromTo {ps : List (Int × Int)} {nx : List Int} (h : Net ps nx) {set : Nat} {s : ByteArray} (hs : Lets s) : ∀ {i}, i ≤ s.size → fromTo (tabN nx) ps.length set s i = fromTo (tabR ps) ps.length set s i
  | 0, _ => rfl
  | i + 1, hi => by
    have ih := h.fromTo (set := set) hs (i := i) (by omega)
    have := hs i (by omega)
    simp only [Kx.fromTo, ih]
    exact h.step (by omega)
theorem Net.reach {ps : List (Int × Int)} {nx : List Int} (h : Net ps nx) (v : Nat) : ∀ r, reachF (tabN nx) ps.length v r = reachF (tabR ps) ps.length v r
  | 0 => by simp only [reachF, h.step (show 0 < 2 by decide), h.step (show 1 < 2 by decide)]
  | r + 1 => by simp only [reachF, h.reach v r, h.step (show 0 < 2 by decide), h.step (show 1 < 2 by decide)]
theorem Net.hangsTo {ps : List (Int × Int)} {nx : List Int} (h : Net ps nx) : ∀ v, hangsTo (tabN nx) ps.length v = hangsTo (tabR ps) ps.length v
  | 0 => rfl
  | v + 1 => by simp only [Kx.hangsTo, h.hangsTo v, h.reach v]
theorem Net.hangs {ps : List (Int × Int)} {nx : List Int} (h : Net ps nx) : hangsF (tabN nx) ps.length = hangsF (tabR ps) ps.length := h.hangsTo _
theorem allLt {p : Nat → Prop} {v : Nat} (h : ∀ u, u < v → p u) (hv : p v) : ∀ u, u < v + 1 → p u := fun u hu => by
  rcases Nat.lt_or_ge u v with h' | h'
  · exact h u h'
  · have : u = v := by omega
    rw [this]; exact hv
theorem into_part {ps : List (Int × Int)} {v x : Nat} (hx : x ≤ 2) (hr : ∀ u, u < v → RowOk ps u) (hy : ∀ y, y < x → -1 ≤ tabR ps v y ∧ tabR ps v y < ps.length) : intoTo ps (2 * v + x) < 2 ^ ps.length :=
  intoTo_lt _ _ (fun j hj => by
    rcases Nat.lt_or_ge (j / 2) v with h | h
    · exact ((hr _ h).1 _ (by omega)).2
    · have e1 : j / 2 = v := by omega
      rw [e1]; exact (hy _ (by omega)).2)
theorem pair_at {ps : List (Int × Int)} {i x : Nat} (hx : x < 2) : (#[Value.int .i64 (ps.getD i (0, 0)).1, Value.int .i64 (ps.getD i (0, 0)).2] : Array Value)[(x : Int).toNat]? = some (.int .i64 (tabR ps i x)) := by
  have h01 : x = 0 ∨ x = 1 := by omega
  rcases h01 with rfl | rfl <;> rfl
end Go.Kx
/- Words of a length. -/
namespace Go.Kx
def wordsFrom (f : Nat → Nat → Int) (k : Nat) : Nat → ByteArray → Nat → List ByteArray
  | 0, s, set => if set = 0 then [] else [s]
  | r + 1, s, set => if set = 0 then [] else wordsFrom f k r (s ++ ⟨#[97]⟩) (stepF f set 0 k) ++ wordsFrom f k r (s ++ ⟨#[98]⟩) (stepF f set 1 k)
theorem words_zero (f : Nat → Nat → Int) (k r : Nat) (s : ByteArray) : wordsFrom f k r s 0 = [] := by cases r <;> simp [wordsFrom]
theorem words_last {f : Nat → Nat → Int} {k set : Nat} (s : ByteArray) (h : ¬ set = 0) : wordsFrom f k 0 s set = [s] := by simp [wordsFrom, h]
theorem words_more {f : Nat → Nat → Int} {k r set : Nat} (s : ByteArray) (h : ¬ set = 0) : wordsFrom f k (r + 1) s set = wordsFrom f k r (s ++ ⟨#[97]⟩) (stepF f set 0 k) ++ wordsFrom f k r (s ++ ⟨#[98]⟩) (stepF f set 1 k) := by simp [wordsFrom, h]
theorem words_len (f : Nat → Nat → Int) (k : Nat) : ∀ (r : Nat) (s : ByteArray) (set : Nat), (wordsFrom f k r s set).length ≤ 2 ^ r
  | 0, s, set => by unfold wordsFrom; split <;> simp
  | r + 1, s, set => by
    unfold wordsFrom
    split
    · simp
    · have h1 := words_len f k r (s ++ ⟨#[97]⟩) (stepF f set 0 k)
      have h2 := words_len f k r (s ++ ⟨#[98]⟩) (stepF f set 1 k)
      rw [List.length_append, Nat.pow_succ]; omega
def pb (b : Nat) : Value := .pointer (some ⟨b, 0, none⟩)
def allWords (f : Nat → Nat → Int) (k n : Nat) : List ByteArray := wordsFrom f k n ⟨#[]⟩ (2 ^ k - 1)
theorem Net.words {ps : List (Int × Int)} {nx : List Int} (h : Net ps nx) : ∀ (r : Nat) (s : ByteArray) (set : Nat), wordsFrom (tabN nx) ps.length r s set = wordsFrom (tabR ps) ps.length r s set
  | 0, _, _ => rfl
  | r + 1, s, set => by simp only [wordsFrom, h.step (show 0 < 2 by decide), h.step (show 1 < 2 by decide), h.words r]
end Go.Kx
/- What the functions of words answer. -/
namespace Go.Kx
theorem strs_inj : ∀ {a c : List ByteArray}, strs a = strs c → a = c
  | [], [], _ => rfl
  | [], _ :: _, h => by simp [strs] at h
  | _ :: _, [], h => by simp [strs] at h
  | x :: a, y :: c, h => by
    simp only [strs, List.map_cons, List.cons.injEq, Value.string.injEq] at h
    rw [h.1, strs_inj (a := a) (c := c) h.2]
theorem strs_item {a : List ByteArray} {ys rest : List Value} {v : Value} (h : strs a = ys ++ v :: rest) : ∃ s, v = .string s := by
  have : v ∈ strs a := by rw [h]; simp
  simp only [strs, List.mem_map] at this
  obtain ⟨s, _, e⟩ := this
  exact ⟨s, e.symm⟩
theorem byt_append_left {s t : ByteArray} {i : Nat} (h : i < s.size) : byt (s ++ t) i = byt s i := by
  unfold byt
  rw [ByteArray.data_append, Array.toList_append, List.getD, List.getD, List.getElem?_append_left (by simpa using h)]
theorem byt_append_right {s t : ByteArray} {i : Nat} : byt (s ++ t) (s.size + i) = byt t i := by
  unfold byt
  rw [ByteArray.data_append, Array.toList_append, List.getD, List.getD, List.getElem?_append_right (by show s.data.toList.length ≤ _; simp)]
  congr 3
  simp
theorem lets_snoc {s : ByteArray} {c : UInt8} (hs : Lets s) (hc : c = 97 ∨ c = 98) : Lets (s ++ ⟨#[c]⟩) := fun i hi => by
  rw [ByteArray.size_append] at hi
  rcases Nat.lt_or_ge i s.size with h | h
  · rw [byt_append_left h]; exact hs i h
  · obtain ⟨j, rfl⟩ : ∃ j, i = s.size + j := ⟨i - s.size, by omega⟩
    have h1 : (⟨#[c]⟩ : ByteArray).size = 1 := rfl
    obtain rfl : j = 0 := by omega
    rw [byt_append_right]
    rcases hc with rfl | rfl
    · exact .inl rfl
    · exact .inr rfl
theorem words_lets {f : Nat → Nat → Int} {k : Nat} : ∀ {r : Nat} {s : ByteArray} {set : Nat}, Lets s → ∀ u ∈ wordsFrom f k r s set, Lets u ∧ u.size = s.size + r
  | 0, s, set, hs, u, hu => by
    unfold wordsFrom at hu
    split at hu
    · cases hu
    · rw [List.mem_singleton] at hu; subst hu; exact ⟨hs, rfl⟩
  | r + 1, s, set, hs, u, hu => by
    unfold wordsFrom at hu
    split at hu
    · cases hu
    · rcases List.mem_append.1 hu with hu | hu
      · have := words_lets (lets_snoc hs (.inl rfl)) u hu
        rw [ByteArray.size_append] at this
        exact ⟨this.1, by rw [this.2]; show s.size + 1 + r = _; omega⟩
      · have := words_lets (lets_snoc hs (.inr rfl)) u hu
        rw [ByteArray.size_append] at this
        exact ⟨this.1, by rw [this.2]; show s.size + 1 + r = _; omega⟩
theorem lets_nil : Lets ⟨#[]⟩ := fun i h => absurd h (Nat.not_lt_zero i)
def endsF (f : Nat → Nat → Int) (k : Nat) (s : ByteArray) : Nat := fromTo f k (2 ^ k - 1) s s.size
def isForb (f : Nat → Nat → Int) (k : Nat) (u : ByteArray) : Prop := endsF f k u = 0 ∧ ¬ endsF f k (u.extract 1 u.size) = 0
instance (f : Nat → Nat → Int) (k : Nat) (u : ByteArray) : Decidable (isForb f k u) := by unfold isForb; infer_instance
def partF (f : Nat → Nat → Int) (k : Nat) (s : ByteArray) : Nat → List ByteArray
  | 0 => []
  | p + 1 => partF f k s p ++ (if isForb f k (s ++ Utf8.encode ((97 + p : Nat) : Int)) then [s ++ Utf8.encode ((97 + p : Nat) : Int)] else [])
def forbs (f : Nat → Nat → Int) (k : Nat) (ss : List ByteArray) : List ByteArray := ss.flatMap fun s => partF f k s 2
theorem forbs_snoc (f : Nat → Nat → Int) (k : Nat) (ss : List ByteArray) (s : ByteArray) : forbs f k (ss ++ [s]) = forbs f k ss ++ partF f k s 2 := by simp [forbs]
theorem partF_len (f : Nat → Nat → Int) (k : Nat) (s : ByteArray) : ∀ p, (partF f k s p).length ≤ p
  | 0 => by simp [partF]
  | p + 1 => by
    have := partF_len f k s p
    simp only [partF, List.length_append]
    split <;> simp <;> omega
theorem forbs_len (f : Nat → Nat → Int) (k : Nat) : ∀ ss : List ByteArray, (forbs f k ss).length ≤ 2 * ss.length
  | [] => by simp [forbs]
  | s :: ss => by
    have h1 := forbs_len f k ss
    have h2 := partF_len f k s 2
    simp only [forbs, List.flatMap_cons, List.length_append, List.length_cons] at h1 ⊢
    omega
theorem partF_yes {f : Nat → Nat → Int} {k p : Nat} {s : ByteArray} (h : isForb f k (s ++ Utf8.encode ((97 + p : Nat) : Int))) : partF f k s p ++ [s ++ Utf8.encode ((97 + p : Nat) : Int)] = partF f k s (p + 1) := by simp only [partF, if_pos h]
theorem partF_no {f : Nat → Nat → Int} {k p : Nat} {s : ByteArray} (h : ¬ isForb f k (s ++ Utf8.encode ((97 + p : Nat) : Int))) : partF f k s p = partF f k s (p + 1) := by simp only [partF, if_neg h, List.append_nil]
theorem lets_enc {p : Nat} {s : ByteArray} (h : p < 2) (hs : Lets s) : Lets (s ++ Utf8.encode ((97 + p : Nat) : Int)) ∧ (s ++ Utf8.encode ((97 + p : Nat) : Int)).size = s.size + 1 := by
  have h01 : p = 0 ∨ p = 1 := by omega
  rcases h01 with rfl | rfl
  · exact ⟨lets_snoc hs (.inl rfl), by rw [ByteArray.size_append]; rfl⟩
  · exact ⟨lets_snoc hs (.inr rfl), by rw [ByteArray.size_append]; rfl⟩
theorem byt_extract {s : ByteArray} {a i : Nat} (h : i < s.size - a) : byt (s.extract a s.size) i = byt s (a + i) := by
  unfold byt
  have e : (s.extract a s.size).data.toList = s.data.toList.drop a := by
    rw [ByteArray.data_extract, Array.toList_extract]
    show List.take (s.size - a) (List.drop a s.data.toList) = _
    rw [List.take_of_length_le]
    simp
  rw [e, List.getD, List.getD, List.getElem?_drop]
theorem lets_extract {s : ByteArray} {a : Nat} (hs : Lets s) : Lets (s.extract a s.size) := fun i hi => by
  rw [ByteArray.size_extract] at hi
  rw [byt_extract (by omega)]
  exact hs _ (by omega)
def forbV (ps : List (Int × Int)) (n : Int) : List ByteArray × Int := if NetOk ps then (if 1 ≤ n ∧ n ≤ 8 then (forbs (tabR ps) ps.length (allWords (tabR ps) ps.length (n - 1).toNat), 0) else ([], 1)) else ([], 70)
theorem Net.ends {ps : List (Int × Int)} {nx : List Int} (h : Net ps nx) {s : ByteArray} (hs : Lets s) : endsF (tabN nx) ps.length s = endsF (tabR ps) ps.length s := h.fromTo hs (Nat.le_refl _)
theorem Net.isForb {ps : List (Int × Int)} {nx : List Int} (h : Net ps nx) {s : ByteArray} (hs : Lets s) : Kx.isForb (tabN nx) ps.length s ↔ Kx.isForb (tabR ps) ps.length s := by
  unfold Kx.isForb; rw [h.ends hs, h.ends (lets_extract hs)]
theorem Net.partF {ps : List (Int × Int)} {nx : List Int} (h : Net ps nx) {s : ByteArray} (hs : Lets s) : ∀ {p}, p ≤ 2 → Kx.partF (tabN nx) ps.length s p = Kx.partF (tabR ps) ps.length s p
  | 0, _ => rfl
  | p + 1, hp => by
    have ih := h.partF hs (p := p) (by omega)
    have hi := h.isForb (lets_enc (p := p) (by omega) hs).1
    simp only [Kx.partF, ih, hi]
theorem Net.forbs {ps : List (Int × Int)} {nx : List Int} (h : Net ps nx) : ∀ {ss : List ByteArray}, (∀ s ∈ ss, Lets s) → Kx.forbs (tabN nx) ps.length ss = Kx.forbs (tabR ps) ps.length ss
  | [], _ => rfl
  | s :: ss, hs => by
    have ih := h.forbs (ss := ss) (fun s hm => hs s (by simp [hm]))
    simp only [Kx.forbs, List.flatMap_cons] at ih ⊢
    rw [ih, h.partF (hs s (by simp)) (Nat.le_refl 2)]
end Go.Kx
/- Round words. -/
namespace Go.Kx
def upto (n : Nat) : List Value := (List.range n).map fun (i : Nat) => Value.int .i64 (i : Int)
theorem upto_succ (n : Nat) : upto (n + 1) = upto n ++ [.int .i64 (n : Int)] := by simp [upto, List.range_succ]
theorem upto_split {N i : Nat} (h : i < N) : ∃ rest, upto N = upto i ++ .int .i64 (i : Int) :: rest := by
  obtain ⟨m, rfl⟩ : ∃ m, N = i + (m + 1) := ⟨N - i - 1, by omega⟩
  refine ⟨(List.range m).map fun (j : Nat) => Value.int .i64 ((i + 1 + j : Nat) : Int), ?_⟩
  simp only [upto, List.range_add, List.map_append, List.range_succ_eq_map, List.map_cons, List.map_map]
  congr 2
  apply List.map_congr_left
  intro a _
  simp only [Function.comp]
  congr 2; omega
theorem upto_item {N : Nat} {ys rest : List Value} {v : Value} (h : upto N = ys ++ v :: rest) : ys = upto ys.length ∧ v = .int .i64 (ys.length : Nat) ∧ ys.length < N := by
  have hlen := congrArg List.length h
  simp only [upto, List.length_map, List.length_range, List.length_append, List.length_cons] at hlen
  have h1 : ys = (upto N).take ys.length := by rw [h, List.take_left]
  refine ⟨?_, ?_, by omega⟩
  · conv => lhs; rw [h1]
    simp only [upto, ← List.map_take, List.take_range]
    congr 2; omega
  · have h2 : (upto N)[ys.length]? = some v := by rw [h]; simp
    simp only [upto, List.getElem?_map] at h2
    rw [List.getElem?_range (by omega)] at h2
    simpa using h2.symm
theorem upto_len (n : Nat) : (upto n).length = n := by simp [upto]
def walkTo (f : Nat → Nat → Int) (w : Nat) : Nat → Int → Int
  | 0, v => v
  | j + 1, v => if 0 ≤ walkTo f w j v then f (walkTo f w j v).toNat ((w >>> j) % 2) else walkTo f w j v
theorem walk_stay {f : Nat → Nat → Int} {w : Nat} {v : Int} : ∀ {i j : Nat}, walkTo f w i v < 0 → i ≤ j → walkTo f w j v = walkTo f w i v := by
  intro i j h hij
  induction j with
  | zero => obtain rfl : i = 0 := by omega
            rfl
  | succ j ih =>
    rcases Nat.lt_or_ge i (j + 1) with h1 | h1
    · have := ih (by omega)
      simp only [walkTo, this, if_neg (show ¬ 0 ≤ walkTo f w i v by omega)]
    · obtain rfl : i = j + 1 := by omega
      rfl
theorem walk_ok {k : Nat} {f : Nat → Nat → Int} (h : Okf k f) (w : Nat) {v : Int} (hv : -1 ≤ v ∧ v < k) : ∀ j, -1 ≤ walkTo f w j v ∧ walkTo f w j v < k
  | 0 => hv
  | j + 1 => by
    have ih := walk_ok h w hv j
    unfold walkTo
    split
    · have hx : (w >>> j) % 2 < 2 := Nat.mod_lt _ (by decide)
      exact ⟨h.lo _ _ (by omega) hx, h.hi _ _ (by omega) hx⟩
    · exact ih
def thrTo (f : Nat → Nat → Int) (w n v : Nat) : List Int := (List.range 5).map fun u => if u < v then walkTo f w n (u : Int) else 0
theorem thrTo_set {f : Nat → Nat → Int} {w n v : Nat} (h : v < 5) : (thrTo f w n v).set v (walkTo f w n v) = thrTo f w n (v + 1) := by
  apply List.ext_getElem
  · simp [thrTo]
  · intro i h1 h2
    simp only [thrTo, List.getElem_set, List.getElem_map, List.getElem_range]
    by_cases hv : v = i
    · subst hv; simp
    · rw [if_neg hv]
      by_cases hi : i < v
      · rw [if_pos hi, if_pos (by omega)]
      · rw [if_neg hi, if_neg (by omega)]
theorem thrTo_len (f : Nat → Nat → Int) (w n v : Nat) : (thrTo f w n v).length = 5 := by simp [thrTo]
theorem thrTo_get {f : Nat → Nat → Int} {w n v u : Nat} (h : u < v) (h5 : u < 5) : (thrTo f w n v).getD u 0 = walkTo f w n (u : Int) := by
  simp [thrTo, List.getD, h5, h]
def iterW (f : Nat → Nat → Int) (w n : Nat) : Nat → Int → Int
  | 0, v => v
  | j + 1, v => if 0 ≤ iterW f w n j v then walkTo f w n (iterW f w n j v) else iterW f w n j v
theorem iter_ok {k : Nat} {f : Nat → Nat → Int} (h : Okf k f) (w n : Nat) {v : Int} (hv : -1 ≤ v ∧ v < k) : ∀ j, -1 ≤ iterW f w n j v ∧ iterW f w n j v < k
  | 0 => hv
  | j + 1 => by
    have ih := iter_ok h w n hv j
    unfold iterW
    split
    · exact walk_ok h w ih n
    · exact ih
def roundTo (f : Nat → Nat → Int) (k w n : Nat) : Nat → Bool
  | 0 => false
  | s + 1 => roundTo f k w n s || decide (0 ≤ iterW f w n k (s : Int))
def roundB (f : Nat → Nat → Int) (k w n : Nat) : Bool := roundTo f k w n k
theorem round_yes {f : Nat → Nat → Int} {k w n s : Nat} (hs : s < k) (h : 0 ≤ iterW f w n k (s : Int)) : roundB f k w n = true := by
  have : ∀ m, s < m → roundTo f k w n m = true := by
    intro m hm
    induction m with
    | zero => omega
    | succ m ih =>
      simp only [roundTo, Bool.or_eq_true, decide_eq_true_iff]
      rcases Nat.lt_or_ge s m with h1 | h1
      · exact .inl (ih h1)
      · obtain rfl : s = m := by omega
        exact .inr h
  exact this k hs
theorem round_step {f : Nat → Nat → Int} {k w n s : Nat} (hs : roundTo f k w n s = false) (h : ¬ 0 ≤ iterW f w n k (s : Int)) : roundTo f k w n (s + 1) = false := by simp [roundTo, hs, h]
def roundsTo (f : Nat → Nat → Int) (k n : Nat) : Nat → Nat
  | 0 => 0
  | w + 1 => roundsTo f k n w + (if roundB f k w n = true then 1 else 0)
theorem rounds_le (f : Nat → Nat → Int) (k n : Nat) : ∀ w, roundsTo f k n w ≤ w
  | 0 => Nat.le_refl _
  | w + 1 => by
    have := rounds_le f k n w
    unfold roundsTo; split <;> omega
def roundsV (ps : List (Int × Int)) (n : Int) : Int × Int := if NetOk ps then (if 1 ≤ n ∧ n ≤ 10 then (roundsTo (tabR ps) ps.length n.toNat (2 ^ n.toNat), 0) else (0, 1)) else (0, 70)
theorem thr_at {f : Nat → Nat → Int} {w n k : Nat} {a : Int} (h : 0 ≤ a ∧ a < k) (hk : k ≤ 5) : (ints (thrTo f w n k))[0 + a.toNat * 1]? = some (.int .i64 (walkTo f w n a)) := by
  have hl : a.toNat < (thrTo f w n k).length := by rw [thrTo_len]; omega
  rw [Nat.zero_add, Nat.mul_one, ints_at hl, thrTo_get (by omega) (by omega), Int.toNat_of_nonneg h.1]
theorem Net.walk {ps : List (Int × Int)} {nx : List Int} (h : Net ps nx) (w : Nat) {v : Int} (hv : -1 ≤ v ∧ v < ps.length) : ∀ j, walkTo (tabN nx) w j v = walkTo (tabR ps) w j v
  | 0 => rfl
  | j + 1 => by
    have ih := h.walk w hv j
    have hok := walk_ok h.ok.okf w hv j
    simp only [walkTo, ih]
    split
    · exact h.tab (by omega) (Nat.mod_lt _ (by decide))
    · rfl
theorem Net.iter {ps : List (Int × Int)} {nx : List Int} (h : Net ps nx) (w n : Nat) {v : Int} (hv : -1 ≤ v ∧ v < ps.length) : ∀ j, iterW (tabN nx) w n j v = iterW (tabR ps) w n j v
  | 0 => rfl
  | j + 1 => by
    have ih := h.iter w n hv j
    simp only [iterW, ih, h.walk w (iter_ok h.ok.okf w n hv j) n]
theorem Net.roundTo {ps : List (Int × Int)} {nx : List Int} (h : Net ps nx) (w n : Nat) : ∀ {s}, s ≤ ps.length → Kx.roundTo (tabN nx) ps.length w n s = Kx.roundTo (tabR ps) ps.length w n s
  | 0, _ => rfl
  | s + 1, hs => by simp only [Kx.roundTo, h.roundTo w n (s := s) (by omega), h.iter w n (v := (s : Int)) (by omega)]
theorem Net.rounds {ps : List (Int × Int)} {nx : List Int} (h : Net ps nx) (n : Nat) : ∀ w, roundsTo (tabN nx) ps.length n w = roundsTo (tabR ps) ps.length n w
  | 0 => rfl
  | w + 1 => by
    unfold roundsTo
    rw [h.rounds n w]
    unfold roundB
    rw [h.roundTo w n (Nat.le_refl _)]
def popF (c : Nat) : Nat := c % 2 + c / 2 % 2 + c / 4 % 2 + c / 8 % 2 + c / 16 % 2
end Go.Kx
/- Lists compared item by item. -/
namespace Go.Kx
theorem eq_of_getD {α : Type} (d : α) {a c : List α} (hl : a.length = c.length) (h : ∀ j, j < a.length → a.getD j d = c.getD j d) : a = c := by
  apply List.ext_getElem hl
  intro i h1 h2
  have := h i h1
  rwa [List.getD, List.getD, List.getElem?_eq_getElem h1, List.getElem?_eq_getElem h2] at this
end Go.Kx
/- Signs. -/
namespace Go.Kx
def negTo (l : List Int) (to s : Int) : Nat → Int
  | 0 => s
  | j + 1 => if l.getD j 0 > to then -(negTo l to s j) else negTo l to s j
theorem negTo_pm {l : List Int} {to s : Int} (h : s = 1 ∨ s = -1) : ∀ j, negTo l to s j = 1 ∨ negTo l to s j = -1
  | 0 => h
  | j + 1 => by
    have ih := negTo_pm (l := l) (to := to) h j
    unfold negTo; split <;> omega
abbrev Sg := Nat × Int × List Int
def sgBad (ts : List Int) (set u v : Nat) : Prop := ts.getD v 0 < 0 ∨ (set >>> (ts.getD v 0).toNat) % 2 = 0 ∨ (u >>> (ts.getD v 0).toNat) % 2 = 1
instance (ts : List Int) (set u v : Nat) : Decidable (sgBad ts set u v) := by unfold sgBad; infer_instance
def sgStep (ts : List Int) (set v : Nat) : Option Sg → Option Sg
  | none => none
  | some x => if (set >>> v) % 2 = 0 then some x else if sgBad ts set x.1 v then none else some (x.1 ||| 2 ^ (ts.getD v 0).toNat, negTo x.2.2 (ts.getD v 0) x.2.1 x.2.2.length, x.2.2 ++ [ts.getD v 0])
def sgTo (ts : List Int) (set : Nat) : Nat → Option Sg
  | 0 => some (0, 1, [])
  | v + 1 => sgStep ts set v (sgTo ts set v)
def sgV (ts : List Int) (set : Nat) : Int := match sgTo ts set 5 with | none => 0 | some x => x.2.1
theorem sg_none {ts : List Int} {set v : Nat} (h : sgTo ts set v = none) : ∀ v', v ≤ v' → sgTo ts set v' = none := fun v' hv => by
  induction v' with
  | zero => obtain rfl : v = 0 := by omega
            exact h
  | succ v' ih =>
    rcases Nat.lt_or_ge v (v' + 1) with h1 | h1
    · rw [sgTo, ih (by omega)]; rfl
    · obtain rfl : v = v' + 1 := by omega
      exact h
theorem sg_bad {ts : List Int} {set v : Nat} {x : Sg} (hv : v < 5) (hx : sgTo ts set v = some x) (h1 : ¬ (set >>> v) % 2 = 0) (h2 : sgBad ts set x.1 v) : sgV ts set = 0 := by
  have : sgTo ts set (v + 1) = none := by rw [sgTo, hx, sgStep, if_neg h1, if_pos h2]
  unfold sgV; rw [sg_none this 5 (by omega)]
theorem sg_skip {ts : List Int} {set v : Nat} {x : Sg} (hx : sgTo ts set v = some x) (h1 : (set >>> v) % 2 = 0) : sgTo ts set (v + 1) = some x := by rw [sgTo, hx, sgStep, if_pos h1]
theorem sg_more {ts : List Int} {set v : Nat} {x : Sg} (hx : sgTo ts set v = some x) (h1 : ¬ (set >>> v) % 2 = 0) (h2 : ¬ sgBad ts set x.1 v) :
    sgTo ts set (v + 1) = some (x.1 ||| 2 ^ (ts.getD v 0).toNat, negTo x.2.2 (ts.getD v 0) x.2.1 x.2.2.length, x.2.2 ++ [ts.getD v 0]) := by rw [sgTo, hx, sgStep, if_neg h1, if_neg h2]
theorem ints_arr {zs : List Int} {v : Nat} (h : v < zs.length) : (ints zs).toArray[(v : Int).toNat]? = some (.int .i64 (zs.getD v 0)) := by
  have := ints_at h
  simpa using this
end Go.Kx
/- Least elements, equal nodes. -/
namespace Go.Kx
def minTo (zs : List Int) : Nat → Int
  | 0 => zs.getD 0 0
  | j + 1 => min (minTo zs j) (zs.getD (j + 1) 0)
end Go.Kx
/- Which nodes are equal: classes, made finer until they stand. -/
namespace Go.Kx
def kx (f : Nat → Nat → Int) (c : List Int) (v x : Nat) : Int := if 0 ≤ f v x then c.getD (f v x).toNat 0 else -1
def keyA (f : Nat → Nat → Int) (c : List Int) (v : Nat) : Arr 3 := ⟨[c.getD v 0, kx f c v 0, kx f c v 1], rfl⟩
def kvOf (f : Nat → Nat → Int) (c : List Int) : Nat → List (Arr 3 × Value)
  | 0 => []
  | v + 1 => if kvHas (kvOf f c v) (keyA f c v) = true then kvOf f c v else kvSet (kvOf f c v) (keyA f c v) (.int .i64 (v : Int))
def firstK (f : Nat → Nat → Int) (c : List Int) (κ : Arr 3) : Nat → Option Nat
  | 0 => none
  | m + 1 => match firstK f c κ m with
    | some u => some u
    | none => if keyA f c m = κ then some m else none
theorem kvFind_snoc {κ : Type} [DecidableEq κ] (a k : κ) (v : Value) : ∀ (kv : List (κ × Value)) (i : Nat), (kvFind (kv ++ [(a, v)]) k i).map (·.2) = match (kvFind kv k i).map (·.2) with | some u => some u | none => if k = a then some v else none
  | [], i => by simp only [List.nil_append, kvFind]; split <;> rfl
  | p :: kv, i => by
    simp only [List.cons_append, kvFind]
    split
    · rfl
    · exact kvFind_snoc a k v kv (i + 1)
theorem kvOf_find (f : Nat → Nat → Int) (c : List Int) (κ : Arr 3) : ∀ m, (kvFind (kvOf f c m) κ 0).map (·.2) = (firstK f c κ m).map (fun u => Value.int .i64 (u : Nat))
  | 0 => rfl
  | m + 1 => by
    have ih := kvOf_find f c κ m
    unfold kvOf firstK
    split
    · rename_i hh
      rw [ih]
      cases hf : firstK f c κ m with
      | some u => rfl
      | none =>
        simp only
        split
        · rename_i hk
          subst hk
          rw [hf] at ih
          unfold kvHas at hh
          cases hz : kvFind (kvOf f c m) (keyA f c m) 0 with
          | none => rw [hz] at hh; cases hh
          | some p => rw [hz] at ih; cases ih
        · rfl
    · rename_i hh
      have hn : kvFind (kvOf f c m) (keyA f c m) 0 = none := by
        unfold kvHas at hh
        cases hz : kvFind (kvOf f c m) (keyA f c m) 0 with
        | none => rfl
        | some p => rw [hz] at hh; exact absurd rfl hh
      rw [kvSet_none hn, kvFind_snoc, ih]
      cases hf : firstK f c κ m with
      | some u => rfl
      | none =>
        simp only [Option.map_none]
        by_cases hk : keyA f c m = κ
        · rw [if_pos hk.symm, if_pos hk]; rfl
        · rw [if_neg (fun h => hk h.symm), if_neg hk]; rfl
theorem firstK_spec {f : Nat → Nat → Int} {c : List Int} {κ : Arr 3} : ∀ {m u : Nat}, firstK f c κ m = some u → u < m ∧ keyA f c u = κ ∧ ∀ u', u' < u → ¬ keyA f c u' = κ
  | 0, _, h => by cases h
  | m + 1, u, h => by
    unfold firstK at h
    cases hf : firstK f c κ m with
    | some u0 =>
      rw [hf] at h
      simp only [Option.some.injEq] at h
      subst h
      have := firstK_spec hf
      exact ⟨by omega, this.2⟩
    | none =>
      rw [hf] at h
      simp only at h
      split at h
      · rename_i hk
        simp only [Option.some.injEq] at h
        subst h
        refine ⟨by omega, hk, fun u' hu' hk' => ?_⟩
        exact firstK_none hf u' hu' hk'
      · cases h
where
  firstK_none {f : Nat → Nat → Int} {c : List Int} {κ : Arr 3} : ∀ {m : Nat}, firstK f c κ m = none → ∀ u, u < m → ¬ keyA f c u = κ
  | 0, _, _, hu => by omega
  | m + 1, h, u, hu => by
    unfold firstK at h
    cases hf : firstK f c κ m with
    | some u0 => rw [hf] at h; cases h
    | none =>
      rw [hf] at h
      simp only at h
      split at h
      · cases h
      · rename_i hk
        rcases Nat.lt_or_ge u m with h1 | h1
        · exact firstK_none hf u h1
        · obtain rfl : u = m := by omega
          exact hk
def clsV (f : Nat → Nat → Int) (c : List Int) (v : Nat) : Nat := (firstK f c (keyA f c v) (v + 1)).getD 0
theorem cls_some (f : Nat → Nat → Int) (c : List Int) (v : Nat) : firstK f c (keyA f c v) (v + 1) = some (clsV f c v) := by
  unfold clsV
  cases hf : firstK f c (keyA f c v) (v + 1) with
  | some u => rfl
  | none => exact absurd rfl (firstK_spec.firstK_none hf v (by omega))
theorem cls_le (f : Nat → Nat → Int) (c : List Int) (v : Nat) : clsV f c v ≤ v := by have := (firstK_spec (cls_some f c v)).1; omega
theorem cls_key (f : Nat → Nat → Int) (c : List Int) (v : Nat) : keyA f c (clsV f c v) = keyA f c v := (firstK_spec (cls_some f c v)).2.1
theorem cls_min {f : Nat → Nat → Int} {c : List Int} {u v : Nat} (h : keyA f c u = keyA f c v) : clsV f c v ≤ u := by
  refine Nat.le_of_not_lt fun hlt => ?_
  exact (firstK_spec (cls_some f c v)).2.2 u hlt h
theorem cls_fix (f : Nat → Nat → Int) (c : List Int) (v : Nat) : clsV f c (clsV f c v) = clsV f c v := by
  have h1 := cls_le f c (clsV f c v)
  have h2 : clsV f c v ≤ clsV f c (clsV f c v) := cls_min (by rw [cls_key, cls_key])
  omega
theorem key_class {f : Nat → Nat → Int} {c : List Int} {u v : Nat} (h : keyA f c u = keyA f c v) : c.getD u 0 = c.getD v 0 := by
  have := congrArg (fun a : Arr 3 => a.1.getD 0 0) h
  exact this
theorem kvGet_cls (f : Nat → Nat → Int) (c : List Int) (v : Nat) (z : Value) : kvGet (kvOf f c (v + 1)) (keyA f c v) z = .int .i64 (clsV f c v : Nat) := by
  have := kvOf_find f c (keyA f c v) (v + 1)
  rw [cls_some] at this
  unfold kvGet
  cases hz : kvFind (kvOf f c (v + 1)) (keyA f c v) 0 with
  | none => rw [hz] at this; cases this
  | some p => rw [hz] at this; simpa using this
def newC (f : Nat → Nat → Int) (k : Nat) (c : List Int) : List Int := (List.range k).map fun v => (clsV f c v : Int)
theorem newC_get {f : Nat → Nat → Int} {k : Nat} {c : List Int} {v : Nat} (h : v < k) : (newC f k c).getD v 0 = clsV f c v := by simp [newC, List.getD, h]
def eqIter (f : Nat → Nat → Int) (k : Nat) : Nat → List Int
  | 0 => List.replicate k 0
  | j + 1 => newC f k (eqIter f k j)
def eqV (f : Nat → Nat → Int) (k : Nat) : List Int := eqIter f k k
structure Canon (k : Nat) (c : List Int) : Prop where
  len : c.length = k
  cls : ∀ v, v < k → 0 ≤ c.getD v 0 ∧ c.getD v 0 ≤ v ∧ c.getD (c.getD v 0).toNat 0 = c.getD v 0
def fixes (k : Nat) (c : List Int) : Nat := (List.range k).countP fun v => decide (c.getD v 0 = v)
theorem canon_zero (k : Nat) : Canon k (List.replicate k 0) := by
  have hz : ∀ v, (List.replicate k (0 : Int)).getD v 0 = 0 := fun v => by rw [List.getD, List.getElem?_replicate]; split <;> rfl
  refine ⟨by simp, fun v hv => ?_⟩
  rw [hz]; exact ⟨Int.le_refl _, by omega, hz _⟩
theorem canon_new (f : Nat → Nat → Int) (k : Nat) (c : List Int) : Canon k (newC f k c) := by
  refine ⟨by simp [newC], fun v hv => ?_⟩
  have h := cls_le f c v
  rw [newC_get hv, Int.toNat_natCast, newC_get (by omega), cls_fix]
  omega
theorem eqIter_canon (f : Nat → Nat → Int) (k : Nat) : ∀ j, Canon k (eqIter f k j)
  | 0 => canon_zero k
  | j + 1 => canon_new f k _
theorem fixes_le (k : Nat) (c : List Int) : fixes k c ≤ k := by
  have := List.countP_le_length (p := fun v => decide (c.getD v 0 = v)) (l := List.range k)
  simpa [fixes] using this
theorem countP_lt {p q : Nat → Bool} {l : List Nat} (h : ∀ x ∈ l, p x = true → q x = true) {y : Nat} (hy : y ∈ l) (hp : p y = false) (hq : q y = true) : l.countP p < l.countP q := by
  induction l with
  | nil => cases hy
  | cons a l ih =>
    have hle : l.countP p ≤ l.countP q := List.countP_mono_left (fun x hx => h x (by simp [hx]))
    rcases List.mem_cons.1 hy with rfl | hy
    · rw [List.countP_cons_of_neg (by simp [hp]), List.countP_cons_of_pos hq]; omega
    · have := ih (fun x hx => h x (by simp [hx])) hy
      rw [List.countP_cons, List.countP_cons]
      have ha := h a (by simp)
      cases hpa : p a <;> cases hqa : q a <;> simp_all <;> omega
theorem fixes_more {f : Nat → Nat → Int} {k : Nat} {c : List Int} (hc : Canon k c) (hne : ¬ newC f k c = c) : fixes k c < fixes k (newC f k c) := by
  have hex : ∃ v, v < k ∧ ¬ (clsV f c v : Int) = c.getD v 0 := by
    refine Decidable.byContradiction fun hno => hne ?_
    refine eq_of_getD 0 (by rw [hc.len]; simp [newC]) fun j hj => ?_
    have hjk : j < k := by simpa [newC] using hj
    rw [newC_get hjk]
    exact Decidable.byContradiction fun hx => hno ⟨j, hjk, hx⟩
  obtain ⟨v, hv, hd⟩ := hex
  have hle := cls_le f c v
  have hkey := key_class (cls_key f c v)
  have hcv := hc.cls v hv
  have hcu := hc.cls (clsV f c v) (by omega)
  refine countP_lt (y := clsV f c v) (fun x hx h => ?_) (List.mem_range.2 (by omega)) ?_ ?_
  · have hxk := List.mem_range.1 hx
    simp only [decide_eq_true_eq] at h ⊢
    rw [newC_get hxk]
    have h1 := cls_le f c x
    have h2 := key_class (cls_key f c x)
    have h3 := (hc.cls (clsV f c x) (by omega)).2.1
    omega
  · simp only [decide_eq_false_iff_not]
    omega
  · simp only [decide_eq_true_eq]
    rw [newC_get (by omega), cls_fix]
theorem eqIter_fixes {f : Nat → Nat → Int} {k : Nat} (hk : 1 ≤ k) : ∀ j, (∀ i, i < j → ¬ eqIter f k (i + 1) = eqIter f k i) → j + 1 ≤ fixes k (eqIter f k j)
  | 0, _ => by
    have : List.countP (fun v => decide ((List.replicate k (0 : Int)).getD v 0 = v)) [0] ≤ fixes k (List.replicate k 0) := by
      unfold fixes
      obtain ⟨m, rfl⟩ : ∃ m, k = m + 1 := ⟨k - 1, by omega⟩
      rw [List.range_succ_eq_map, List.countP_cons, List.countP_cons, List.countP_nil]
      omega
    have h1 : List.countP (fun v => decide ((List.replicate k (0 : Int)).getD v 0 = v)) [0] = 1 := by
      obtain ⟨m, rfl⟩ : ∃ m, k = m + 1 := ⟨k - 1, by omega⟩
      simp [List.replicate_succ]
    show 0 + 1 ≤ fixes k (List.replicate k 0)
    omega
  | j + 1, h => by
    have ih := eqIter_fixes hk j (fun i hi => h i (by omega))
    have := fixes_more (eqIter_canon f k j) (h j (by omega))
    show j + 1 + 1 ≤ fixes k (newC f k (eqIter f k j))
    omega
theorem eqIter_stay {f : Nat → Nat → Int} {k j : Nat} (h : eqIter f k (j + 1) = eqIter f k j) : ∀ m, j ≤ m → eqIter f k m = eqIter f k j := fun m hm => by
  induction m with
  | zero => obtain rfl : j = 0 := by omega
            rfl
  | succ m ih =>
    rcases Nat.lt_or_ge j (m + 1) with h1 | h1
    · rw [eqIter, ih (by omega)]; exact h
    · obtain rfl : j = m + 1 := by omega
      rfl
end Go.Kx
/- What the loops of equal hold. -/
namespace Go.Kx
def keyP (f : Nat → Nat → Int) (c : List Int) (v x : Nat) : List Int := [c.getD v 0, if 0 < x then kx f c v 0 else -1, if 1 < x then kx f c v 1 else -1]
theorem keyP_len (f : Nat → Nat → Int) (c : List Int) (v x : Nat) : (keyP f c v x).length = 3 := rfl
theorem keyP_set {f : Nat → Nat → Int} {c : List Int} {v x : Nat} (h : x < 2) : (keyP f c v x).set (x + 1) (kx f c v x) = keyP f c v (x + 1) := by
  have h01 : x = 0 ∨ x = 1 := by omega
  rcases h01 with rfl | rfl <;> rfl
theorem keyP_skip {f : Nat → Nat → Int} {c : List Int} {v x : Nat} (h : x < 2) (hk : ¬ 0 ≤ f v x) : keyP f c v x = keyP f c v (x + 1) := by
  have h01 : x = 0 ∨ x = 1 := by omega
  rcases h01 with rfl | rfl <;> simp [keyP, kx, hk]
theorem kx_pos {f : Nat → Nat → Int} {c : List Int} {v x : Nat} (h : 0 ≤ f v x) : kx f c v x = c.getD (f v x).toNat 0 := if_pos h
theorem ints_setX (a : List Int) (x : Nat) (z : Int) : (ints a).set (0 + ((x : Int) + 1).toNat * 1) (.int .i64 z) = ints (a.set (x + 1) z) := by
  rw [Nat.zero_add, Nat.mul_one, show ((x : Int) + 1).toNat = x + 1 by omega, ints_set]
def nxtTo (f : Nat → Nat → Int) (c : List Int) (k v : Nat) : List Int := (List.range k).map fun u => if u < v then (clsV f c u : Int) else 0
theorem nxtTo_len (f : Nat → Nat → Int) (c : List Int) (k v : Nat) : (nxtTo f c k v).length = k := by simp [nxtTo]
theorem nxtTo_zero (f : Nat → Nat → Int) (c : List Int) (k : Nat) : nxtTo f c k 0 = List.replicate k 0 := by
  apply List.ext_getElem
  · simp [nxtTo]
  · intro i h1 h2; simp [nxtTo]
theorem nxtTo_end (f : Nat → Nat → Int) (c : List Int) (k : Nat) : nxtTo f c k k = newC f k c := by
  unfold nxtTo newC
  apply List.map_congr_left
  intro u hu
  rw [if_pos (List.mem_range.1 hu)]
theorem nxtTo_set {f : Nat → Nat → Int} {c : List Int} {k v : Nat} (h : v < k) : (nxtTo f c k v).set v (clsV f c v) = nxtTo f c k (v + 1) := by
  apply List.ext_getElem
  · simp [nxtTo]
  · intro i h1 h2
    simp only [nxtTo, List.getElem_set, List.getElem_map, List.getElem_range]
    by_cases hv : v = i
    · subst hv; simp
    · rw [if_neg hv]
      by_cases hi : i < v
      · rw [if_pos hi, if_pos (by omega)]
      · rw [if_neg hi, if_neg (by omega)]
theorem kvOf_yes {f : Nat → Nat → Int} {c : List Int} {v : Nat} (h : kvHas (kvOf f c v) (keyA f c v) = true) : kvOf f c (v + 1) = kvOf f c v := by rw [kvOf, if_pos h]
theorem kvOf_no {f : Nat → Nat → Int} {c : List Int} {v : Nat} (h : ¬ kvHas (kvOf f c v) (keyA f c v) = true) : kvOf f c (v + 1) = kvSet (kvOf f c v) (keyA f c v) (.int .i64 (v : Int)) := by rw [kvOf, if_neg h]
theorem ints_setN (a : List Int) (i : Nat) (z : Int) : (ints a).set ((i : Int).toNat * 1) (.int .i64 z) = ints (a.set i z) := by rw [Nat.mul_one, Int.toNat_natCast, ints_set]
end Go.Kx
/- The form of a net. -/
namespace Go.Kx
def isFix (c : List Int) (v : Nat) : Prop := c.getD v 0 = (v : Int)
instance (c : List Int) (v : Nat) : Decidable (isFix c v) := by unfold isFix; infer_instance
def rk (c : List Int) : Nat → Nat
  | 0 => 0
  | v + 1 => if isFix c v then rk c v + 1 else rk c v
theorem rk_le (c : List Int) : ∀ v, rk c v ≤ v
  | 0 => Nat.le_refl _
  | v + 1 => by
    have := rk_le c v
    unfold rk; split <;> omega
theorem rk_mono {c : List Int} {u v : Nat} (h : u ≤ v) : rk c u ≤ rk c v := by
  induction v with
  | zero => obtain rfl : u = 0 := by omega
            exact Nat.le_refl _
  | succ v ih =>
    rcases Nat.lt_or_ge u (v + 1) with h1 | h1
    · have := ih (by omega)
      have h2 : rk c v ≤ rk c (v + 1) := by
        show rk c v ≤ (if isFix c v then rk c v + 1 else rk c v)
        split <;> omega
      omega
    · obtain rfl : u = v + 1 := by omega
      exact Nat.le_refl _
theorem rk_lt {c : List Int} {u v : Nat} (h : u < v) (hf : isFix c u) : rk c u < rk c v := by
  have h1 : rk c (u + 1) = rk c u + 1 := by rw [rk, if_pos hf]
  have := rk_mono (c := c) (show u + 1 ≤ v by omega)
  omega
def numKv (c : List Int) : Nat → List (Int × Value)
  | 0 => [(-1, .int .i64 (-1))]
  | v + 1 => if isFix c v then kvSet (numKv c v) (v : Int) (.int .i64 (rk c v : Nat)) else numKv c v
def numSpec (c : List Int) (m : Nat) (κ : Int) : Option Value := if κ = -1 then some (.int .i64 (-1)) else if 0 ≤ κ ∧ κ < m ∧ isFix c κ.toNat then some (.int .i64 (rk c κ.toNat : Nat)) else none
theorem num_find (c : List Int) (κ : Int) : ∀ m, (kvFind (numKv c m) κ 0).map (·.2) = numSpec c m κ
  | 0 => by
    simp only [numKv, kvFind, numSpec]
    by_cases h : κ = -1
    · rw [if_pos h, if_pos h]; rfl
    · rw [if_neg h, if_neg h, if_neg (by omega)]; rfl
  | m + 1 => by
    have ih := num_find c κ m
    unfold numKv
    by_cases hf : isFix c m
    · rw [if_pos hf]
      have hn : kvFind (numKv c m) (m : Int) 0 = none := by
        have h2 := num_find c (m : Int) m
        rw [numSpec, if_neg (by omega), if_neg (by omega)] at h2
        cases hz : kvFind (numKv c m) (m : Int) 0 with
        | none => rfl
        | some p => rw [hz] at h2; cases h2
      rw [kvSet_none hn, kvFind_snoc, ih]
      unfold numSpec
      by_cases h1 : κ = -1
      · rw [if_pos h1, if_pos h1]
      · rw [if_neg h1, if_neg h1]
        by_cases h2 : 0 ≤ κ ∧ κ < m ∧ isFix c κ.toNat
        · rw [if_pos h2]
          simp only
          rw [if_pos ⟨h2.1, by omega, h2.2.2⟩]
        · rw [if_neg h2]
          simp only
          by_cases h3 : κ = (m : Int)
          · subst h3
            rw [if_pos rfl, if_pos ⟨by omega, by omega, by rw [Int.toNat_natCast]; exact hf⟩, Int.toNat_natCast]
          · rw [if_neg h3, if_neg (fun h => h2 ⟨h.1, by omega, h.2.2⟩)]
    · rw [if_neg hf, ih]
      unfold numSpec
      by_cases h1 : κ = -1
      · rw [if_pos h1, if_pos h1]
      · rw [if_neg h1, if_neg h1]
        by_cases h2 : 0 ≤ κ ∧ κ < m ∧ isFix c κ.toNat
        · rw [if_pos h2, if_pos ⟨h2.1, by omega, h2.2.2⟩]
        · rw [if_neg h2, if_neg]
          rintro ⟨h3, h4, h5⟩
          refine h2 ⟨h3, ?_, h5⟩
          refine Decidable.byContradiction fun hlt => hf ?_
          have he : κ = (m : Int) := by omega
          rw [he, Int.toNat_natCast] at h5; exact h5
theorem num_get {c : List Int} {m : Nat} {κ : Int} {z u : Value} (h : numSpec c m κ = some u) : kvGet (numKv c m) κ z = u := by
  have := num_find c κ m
  rw [h] at this
  unfold kvGet
  cases hz : kvFind (numKv c m) κ 0 with
  | none => rw [hz] at this; cases this
  | some p => rw [hz] at this; simpa using this
theorem num_fix {c : List Int} {m v : Nat} (hv : v < m) (hf : isFix c v) (z : Value) : kvGet (numKv c m) (v : Int) z = .int .i64 (rk c v : Nat) :=
  num_get (by unfold numSpec; rw [if_neg (by omega), if_pos ⟨by omega, by omega, by rw [Int.toNat_natCast]; exact hf⟩, Int.toNat_natCast])
theorem num_neg (c : List Int) (m : Nat) (z : Value) : kvGet (numKv c m) (-1) z = .int .i64 (-1) := num_get (by unfold numSpec; rw [if_pos rfl])
def fval (f : Nat → Nat → Int) (c : List Int) (v x : Nat) : Int := if 0 ≤ f v x then (rk c (c.getD (f v x).toNat 0).toNat : Nat) else -1
def fmTo (f : Nat → Nat → Int) (c : List Int) : Nat → List Int
  | 0 => List.replicate 10 0
  | v + 1 => if isFix c v then ((fmTo f c v).set (2 * rk c v) (fval f c v 0)).set (2 * rk c v + 1) (fval f c v 1) else fmTo f c v
def fmX (f : Nat → Nat → Int) (c : List Int) (v : Nat) : Nat → List Int
  | 0 => fmTo f c v
  | x + 1 => (fmX f c v x).set (2 * rk c v + x) (fval f c v x)
theorem fmX_end {f : Nat → Nat → Int} {c : List Int} {v : Nat} (h : isFix c v) : fmX f c v 2 = fmTo f c (v + 1) := by rw [fmTo, if_pos h]; rfl
theorem fm_skip {f : Nat → Nat → Int} {c : List Int} {v : Nat} (h : ¬ isFix c v) : fmTo f c v = fmTo f c (v + 1) := by rw [fmTo, if_neg h]
theorem fmTo_len (f : Nat → Nat → Int) (c : List Int) : ∀ v, (fmTo f c v).length = 10
  | 0 => by simp [fmTo]
  | v + 1 => by unfold fmTo; split <;> simp [fmTo_len f c v]
theorem fmX_len (f : Nat → Nat → Int) (c : List Int) (v : Nat) : ∀ x, (fmX f c v x).length = 10
  | 0 => fmTo_len f c v
  | x + 1 => by simp [fmX, fmX_len f c v x]
theorem Canon.fix {k : Nat} {c : List Int} (h : Canon k c) {v : Nat} (hv : v < k) : isFix c (c.getD v 0).toNat := by
  have := h.cls v hv
  unfold isFix
  rw [this.2.2]; omega
theorem num_cls {k : Nat} {f : Nat → Nat → Int} {c : List Int} (h : Canon k c) {v x : Nat} (h0 : 0 ≤ f v x) (hk : f v x < k) (z : Value) : kvGet (numKv c k) (c.getD (f v x).toNat 0) z = .int .i64 (fval f c v x) := by
  have h1 := h.cls (f v x).toNat (by omega)
  have h2 := num_fix (m := k) (by omega) (h.fix (v := (f v x).toNat) (by omega)) z
  rw [Int.toNat_of_nonneg h1.1] at h2
  rw [h2, fval, if_pos h0]
end Go.Kx
/- The form is a table of its own; sums with signs. -/
namespace Go.Kx
theorem fval_ok {f : Nat → Nat → Int} {k : Nat} {c : List Int} (h : Canon k c) (ho : Okf k f) {v x : Nat} (hv : v < k) (hx : x < 2) : -1 ≤ fval f c v x ∧ fval f c v x < rk c k := by
  have hlo := ho.lo v x hv hx
  have hhi := ho.hi v x hv hx
  unfold fval
  split
  · have h1 := h.cls (f v x).toNat (by omega)
    have h2 := rk_lt (c := c) (u := (c.getD (f v x).toNat 0).toNat) (v := k) (by omega) (h.fix (by omega))
    omega
  · omega
theorem rk_pos {k : Nat} {c : List Int} (h : Canon k c) (hk : 1 ≤ k) : 1 ≤ rk c k := by
  have h0 := h.cls 0 (by omega)
  have hf : isFix c 0 := by unfold isFix; omega
  have := rk_lt (c := c) (show 0 < k by omega) hf
  omega
theorem fm_all {f : Nat → Nat → Int} {k : Nat} {c : List Int} (h : Canon k c) (ho : Okf k f) (hk : 1 ≤ k) : ∀ v, v ≤ k → ∀ e ∈ fmTo f c v, -1 ≤ e ∧ e < rk c k
  | 0, _, e, he => by
    have := rk_pos h hk
    simp only [fmTo, List.mem_replicate] at he
    omega
  | v + 1, hv, e, he => by
    have ih := fm_all h ho hk v (by omega)
    unfold fmTo at he
    split at he
    · rcases List.mem_or_eq_of_mem_set he with he | rfl
      · rcases List.mem_or_eq_of_mem_set he with he | rfl
        · exact ih e he
        · exact fval_ok h ho (by omega) (by decide)
      · exact fval_ok h ho (by omega) (by decide)
    · exact ih e he
theorem form_okf {f : Nat → Nat → Int} {k : Nat} {c : List Int} (h : Canon k c) (ho : Okf k f) (hk : 1 ≤ k) : Okf (rk c k) (tabN (fmTo f c k)) := by
  have hle := rk_le c k
  have h5 := ho.k5
  have hg : ∀ i x, i < rk c k → x < 2 → -1 ≤ tabN (fmTo f c k) i x ∧ tabN (fmTo f c k) i x < rk c k := fun i x hi hx => by
    have hl : 2 * i + x < (fmTo f c k).length := by rw [fmTo_len]; omega
    refine fm_all h ho hk k (Nat.le_refl _) _ ?_
    unfold tabN
    rw [List.getD, List.getElem?_eq_getElem hl]
    exact List.getElem_mem hl
  exact ⟨by omega, fun i x hi hx => (hg i x hi hx).1, fun i x hi hx => (hg i x hi hx).2⟩
theorem sg_pm {ts : List Int} {set : Nat} : ∀ v x, sgTo ts set v = some x → x.2.1 = 1 ∨ x.2.1 = -1
  | 0, x, h => by simp only [sgTo, Option.some.injEq] at h; subst h; exact .inl rfl
  | v + 1, x, h => by
    unfold sgTo at h
    cases hs : sgTo ts set v with
    | none => rw [hs] at h; cases h
    | some y =>
      have ih := sg_pm v y hs
      rw [hs] at h
      unfold sgStep at h
      simp only at h
      split at h
      · simp only [Option.some.injEq] at h; subst h; exact ih
      · split at h
        · cases h
        · simp only [Option.some.injEq] at h; subst h; exact negTo_pm ih _
theorem sgV_pm (ts : List Int) (set : Nat) : -1 ≤ sgV ts set ∧ sgV ts set ≤ 1 := by
  unfold sgV
  cases hs : sgTo ts set 5 with
  | none => simp
  | some y => have := sg_pm 5 y hs; simp only; omega
def sgnI (ts : List Int) : Nat → Int
  | 0 => 0
  | i + 1 => if popF (i + 1) % 2 = 1 then sgnI ts i + sgV ts (i + 1) else sgnI ts i - sgV ts (i + 1)
theorem sgnI_le (ts : List Int) : ∀ i : Nat, -(i : Int) ≤ sgnI ts i ∧ sgnI ts i ≤ i
  | 0 => by simp [sgnI]
  | i + 1 => by
    have ih := sgnI_le ts i
    have := sgV_pm ts (i + 1)
    unfold sgnI; split <;> omega
def signedTo (f : Nat → Nat → Int) (k n : Nat) : Nat → Int
  | 0 => 0
  | w + 1 => signedTo f k n w + sgnI (thrTo f w n k) (2 ^ k - 1)
theorem signed_le {f : Nat → Nat → Int} {k n : Nat} (hk : k ≤ 5) : ∀ w : Nat, -(31 * w : Int) ≤ signedTo f k n w ∧ signedTo f k n w ≤ 31 * w
  | 0 => by simp [signedTo]
  | w + 1 => by
    have ih := signed_le (f := f) (n := n) hk w
    have h1 := sgnI_le (thrTo f w n k) (2 ^ k - 1)
    have h32 := pow_le_32 hk
    have hp := Nat.two_pow_pos k
    unfold signedTo; omega
def formF (f : Nat → Nat → Int) (k : Nat) : Nat → Nat → Int := tabN (fmTo f (eqV f k) k)
def formK (f : Nat → Nat → Int) (k : Nat) : Nat := rk (eqV f k) k
def signedV (ps : List (Int × Int)) (f : Nat → Nat → Int) (n : Int) : Int × Int := if NetOk ps then (if 1 ≤ n ∧ n ≤ 10 then (signedTo (formF f ps.length) (formK f ps.length) n.toNat (2 ^ n.toNat), 0) else (0, 1)) else (0, 70)
theorem thr_ok {f : Nat → Nat → Int} {k : Nat} (h : Okf k f) (w n u : Nat) (hu : u < 5) : -1 ≤ (thrTo f w n k).getD u 0 ∧ (thrTo f w n k).getD u 0 < 5 := by
  have h5 := h.k5
  by_cases hk : u < k
  · rw [thrTo_get hk hu]
    have := walk_ok h w (v := (u : Int)) (by omega) n
    omega
  · have : (thrTo f w n k).getD u 0 = 0 := by simp [thrTo, List.getD, hu, hk]
    omega
theorem keyA_congr {f g : Nat → Nat → Int} {c : List Int} {v : Nat} (h : ∀ x, x < 2 → f v x = g v x) : keyA f c v = keyA g c v := by
  refine Subtype.ext ?_
  show [c.getD v 0, kx f c v 0, kx f c v 1] = [c.getD v 0, kx g c v 0, kx g c v 1]
  simp only [kx, h 0 (by decide), h 1 (by decide)]
theorem firstK_congr {f g : Nat → Nat → Int} {c : List Int} {κ : Arr 3} : ∀ {m}, (∀ u, u < m → keyA f c u = keyA g c u) → firstK f c κ m = firstK g c κ m
  | 0, _ => rfl
  | m + 1, h => by
    have ih := firstK_congr (κ := κ) (m := m) (fun u hu => h u (by omega))
    simp only [firstK, ih, h m (by omega)]
theorem newC_congr {f g : Nat → Nat → Int} {k : Nat} {c : List Int} (h : ∀ i x, i < k → x < 2 → f i x = g i x) : newC f k c = newC g k c := by
  unfold newC
  apply List.map_congr_left
  intro v hv
  have hv := List.mem_range.1 hv
  have hk : ∀ u, u < k → keyA f c u = keyA g c u := fun u hu => keyA_congr (fun x hx => h u x hu hx)
  unfold clsV
  rw [hk v hv, firstK_congr (fun u hu => hk u (by omega))]
theorem eqIter_congr {f g : Nat → Nat → Int} {k : Nat} (h : ∀ i x, i < k → x < 2 → f i x = g i x) : ∀ j, eqIter f k j = eqIter g k j
  | 0 => rfl
  | j + 1 => by rw [eqIter, eqIter, eqIter_congr h j, newC_congr h]
theorem fmTo_congr {f g : Nat → Nat → Int} {k : Nat} {c : List Int} (h : ∀ i x, i < k → x < 2 → f i x = g i x) : ∀ v, v ≤ k → fmTo f c v = fmTo g c v
  | 0, _ => rfl
  | v + 1, hv => by
    have ih := fmTo_congr (c := c) h v (by omega)
    unfold fmTo fval
    rw [ih, h v 0 (by omega) (by decide), h v 1 (by omega) (by decide)]
theorem Net.eqv {ps : List (Int × Int)} {nx : List Int} (h : Net ps nx) : eqV (tabN nx) ps.length = eqV (tabR ps) ps.length := eqIter_congr (fun _ _ hi hx => h.tab hi hx) _
theorem Net.formK {ps : List (Int × Int)} {nx : List Int} (h : Net ps nx) : Kx.formK (tabN nx) ps.length = Kx.formK (tabR ps) ps.length := by unfold Kx.formK; rw [h.eqv]
theorem Net.formF {ps : List (Int × Int)} {nx : List Int} (h : Net ps nx) : Kx.formF (tabN nx) ps.length = Kx.formF (tabR ps) ps.length := by
  unfold Kx.formF; rw [h.eqv, fmTo_congr (fun _ _ hi hx => h.tab hi hx) _ (Nat.le_refl _)]
def signedW (ps : List (Int × Int)) (n : Int) : Int × Int := signedV ps (tabR ps) n
end Go.Kx
/- Pairs of nodes in order. -/
namespace Go.Kx
def pv (p q : Nat) : Value := prV .i64 ((p : Int), (q : Int))
def rowI (p : Nat) : Nat → List Value
  | 0 => []
  | j + 1 => rowI p j ++ [pv p (p + 1 + j)]
def pairI (k : Nat) : Nat → List Value
  | 0 => []
  | p + 1 => pairI k p ++ rowI p (k - 1 - p)
theorem rowI_split {p j : Nat} : ∀ {m}, j < m → ∃ rest, rowI p m = rowI p j ++ pv p (p + 1 + j) :: rest
  | 0, h => by omega
  | m + 1, h => by
    rcases Nat.lt_or_ge j m with h1 | h1
    · obtain ⟨rest, hr⟩ := rowI_split (p := p) h1
      exact ⟨rest ++ [pv p (p + 1 + m)], by rw [rowI, hr]; simp⟩
    · obtain rfl : j = m := by omega
      exact ⟨[], rfl⟩
theorem pairI_split {k p : Nat} : ∀ {m}, p ≤ m → ∃ rest, pairI k m = pairI k p ++ rest
  | 0, h => by obtain rfl : p = 0 := by omega
               exact ⟨[], rfl⟩
  | m + 1, h => by
    rcases Nat.lt_or_ge p (m + 1) with h1 | h1
    · obtain ⟨rest, hr⟩ := pairI_split (k := k) (p := p) (m := m) (by omega)
      exact ⟨rest ++ rowI m (k - 1 - m), by rw [pairI, hr, List.append_assoc]⟩
    · obtain rfl : p = m + 1 := by omega
      exact ⟨[], by simp⟩
theorem pairs_split {k p j : Nat} (hp : p < k) (hj : j < k - 1 - p) : ∃ rest, pairI k k = (pairI k p ++ rowI p j) ++ pv p (p + 1 + j) :: rest := by
  obtain ⟨r1, h1⟩ := pairI_split (k := k) (p := p + 1) (m := k) (by omega)
  obtain ⟨r2, h2⟩ := rowI_split (p := p) hj
  exact ⟨r2 ++ r1, by rw [h1, pairI, h2]; simp⟩
def nextP (f : Nat → Nat → Int) (x : Int × Int) (c : Nat) : Int × Int :=
  if 0 ≤ x.1 ∧ (0 ≤ min (f x.1.toNat c) (f x.2.toNat c) ∧ ¬ f x.1.toNat c = f x.2.toNat c) then (f x.1.toNat c, f x.2.toNat c) else (-1, -1)
end Go.Kx
/- Searching breadth first: what is found, and with which word. -/
namespace Go.Kx
abbrev Ent := (Int × Int) × ByteArray
def letterS (c : Nat) : ByteArray := Utf8.encode ((97 + c : Nat) : Int)
def hasK (es : List Ent) (v : Int × Int) : Bool := es.any fun e => decide (v = e.1)
def bfs1 (f : Int × Int → Nat → Int × Int) (u : Ent) (c : Nat) (es : List Ent) : List Ent := if hasK es (f u.1 c) = true then es else es ++ [(f u.1 c, u.2 ++ letterS c)]
def bfsTo (f : Int × Int → Nat → Int × Int) (s : Int × Int) : Nat → List Ent
  | 0 => [(s, ⟨#[]⟩)]
  | i + 1 => match (bfsTo f s i)[i]? with
    | none => bfsTo f s i
    | some u => bfs1 f u 1 (bfs1 f u 0 (bfsTo f s i))
def entKv (es : List Ent) : List ((Int × Int) × Value) := es.map fun e => (e.1, .string e.2)
theorem hasK_kv (v : Int × Int) : ∀ (es : List Ent) (i : Nat), (kvFind (entKv es) v i).isSome = hasK es v
  | [], _ => rfl
  | e :: es, i => by
    simp only [entKv, List.map_cons, kvFind, hasK, List.any_cons]
    by_cases h : v = e.1
    · simp [h]
    · rw [if_neg h]
      have := hasK_kv v es (i + 1)
      simp only [entKv, hasK] at this
      rw [this]; simp [h]
theorem bfs1_len (f : Int × Int → Nat → Int × Int) (u : Ent) (c : Nat) (es : List Ent) : es.length ≤ (bfs1 f u c es).length := by
  unfold bfs1; split <;> simp
def Keys (es : List Ent) : List (Int × Int) := es.map (·.1)
theorem hasK_mem {es : List Ent} {v : Int × Int} : hasK es v = true ↔ v ∈ Keys es := by
  simp only [hasK, List.any_eq_true, decide_eq_true_eq, Keys, List.mem_map]
  constructor
  · rintro ⟨e, he, rfl⟩; exact ⟨e, he, rfl⟩
  · rintro ⟨e, he, rfl⟩; exact ⟨e, he, rfl⟩
theorem bfs1_nodup {f : Int × Int → Nat → Int × Int} {u : Ent} {c : Nat} {es : List Ent} (h : (Keys es).Nodup) : (Keys (bfs1 f u c es)).Nodup := by
  unfold bfs1
  split
  · exact h
  · rename_i hn
    have hv : f u.1 c ∉ Keys es := fun hm => hn (hasK_mem.2 hm)
    unfold Keys at hv ⊢
    rw [List.map_append, List.nodup_append]
    refine ⟨h, by simp, ?_⟩
    intro a ha b hb
    simp only [List.map_cons, List.map_nil, List.mem_singleton] at hb
    subst hb
    exact fun e => hv (e ▸ ha)
end Go.Kx
/- Searching breadth first: the answer. -/
namespace Go.Kx
def bfsGo (f : Int × Int → Nat → Int × Int) (g : Int × Int → Bool) (s : Int × Int) : Nat → Nat → ByteArray × Bool
  | _, 0 => (⟨#[]⟩, false)
  | i, n + 1 => match (bfsTo f s i)[i]? with
    | none => (⟨#[]⟩, false)
    | some u => if g u.1 = true then (u.2, true) else bfsGo f g s (i + 1) n
def bfsV (f : Int × Int → Nat → Int × Int) (g : Int × Int → Bool) (s : Int × Int) (N : Nat) : ByteArray × Bool := bfsGo f g s 0 N
def bfsP (f : Int × Int → Nat → Int × Int) (u : Ent) (es : List Ent) : Nat → List Ent
  | 0 => es
  | c + 1 => bfs1 f u c (bfsP f u es c)
theorem bfsTo_more {f : Int × Int → Nat → Int × Int} {s : Int × Int} {i : Nat} {u : Ent} (h : (bfsTo f s i)[i]? = some u) : bfsTo f s (i + 1) = bfsP f u (bfsTo f s i) 2 := by
  rw [bfsTo, h]; rfl
theorem bfsP_len (f : Int × Int → Nat → Int × Int) (u : Ent) (es : List Ent) : ∀ c, es.length ≤ (bfsP f u es c).length
  | 0 => Nat.le_refl _
  | c + 1 => Nat.le_trans (bfsP_len f u es c) (bfs1_len f u c _)
structure EsOk (D : Int × Int → Prop) (m : Nat) (es : List Ent) : Prop where
  nd : (Keys es).Nodup
  all : ∀ e ∈ es, D e.1 ∧ e.2.size ≤ m
theorem letterS_size {c : Nat} (h : c < 2) : (letterS c).size = 1 := by
  obtain rfl | rfl : c = 0 ∨ c = 1 := by omega
  · rfl
  · rfl
theorem EsOk.one {D : Int × Int → Prop} {m : Nat} {es : List Ent} {f : Int × Int → Nat → Int × Int} {u : Ent} {c : Nat} (h : EsOk D m es) (hD : D (f u.1 c)) (hu : u.2.size + 1 ≤ m) (hc : c < 2) : EsOk D m (bfs1 f u c es) := by
  refine ⟨bfs1_nodup h.nd, fun e he => ?_⟩
  unfold bfs1 at he
  split at he
  · exact h.all e he
  · rcases List.mem_append.1 he with he | he
    · exact h.all e he
    · rw [List.mem_singleton.1 he]
      refine ⟨hD, ?_⟩
      show (u.2 ++ letterS c).size ≤ m
      rw [ByteArray.size_append, letterS_size hc]; exact hu
theorem EsOk.mono {D : Int × Int → Prop} {m m' : Nat} {es : List Ent} (h : EsOk D m es) (hm : m ≤ m') : EsOk D m' es := ⟨h.nd, fun e he => ⟨(h.all e he).1, Nat.le_trans (h.all e he).2 hm⟩⟩
theorem EsOk.part {D : Int × Int → Prop} {m : Nat} {es : List Ent} {f : Int × Int → Nat → Int × Int} {u : Ent} (h : EsOk D m es) (hD : ∀ p c, D p → c < 2 → D (f p c)) (hu : u ∈ es) : ∀ c, c ≤ 2 → EsOk D (m + 1) (bfsP f u es c)
  | 0, _ => h.mono (by omega)
  | c + 1, hc => (EsOk.part h hD hu c (by omega)).one (hD _ _ (h.all u hu).1 (by omega)) (by have := (h.all u hu).2; omega) (by omega)
theorem bfs_ok {D : Int × Int → Prop} {f : Int × Int → Nat → Int × Int} {s : Int × Int} (hs : D s) (hD : ∀ p c, D p → c < 2 → D (f p c)) : ∀ i, EsOk D i (bfsTo f s i)
  | 0 => ⟨by simp [bfsTo, Keys], fun e he => by
      simp only [bfsTo, List.mem_singleton] at he
      subst he; exact ⟨hs, Nat.le_refl 0⟩⟩
  | i + 1 => by
    have ih := bfs_ok hs hD i
    cases h : (bfsTo f s i)[i]? with
    | none =>
      have e : bfsTo f s (i + 1) = bfsTo f s i := by rw [bfsTo, h]
      rw [e]; exact ih.mono (by omega)
    | some u => rw [bfsTo_more h]; exact ih.part hD (List.mem_of_getElem? h) 2 (by decide)
theorem nodup_length_le {α : Type} [DecidableEq α] : ∀ {l m : List α}, l.Nodup → (∀ x ∈ l, x ∈ m) → l.length ≤ m.length
  | [], _, _, _ => by simp
  | a :: l, m, h, hs => by
    obtain ⟨h1, h2⟩ := List.nodup_cons.1 h
    have hm := hs a (by simp)
    have hlen := List.length_erase_of_mem hm
    have hpos := List.length_pos_of_mem hm
    have := nodup_length_le (l := l) (m := m.erase a) h2 (fun x hx => by
      have hne : x ≠ a := fun e => h1 (e ▸ hx)
      exact (List.mem_erase_of_ne hne).2 (hs x (by simp [hx])))
    simp only [List.length_cons]; omega
theorem EsOk.len {D : Int × Int → Prop} {m N : Nat} {es : List Ent} {dom : List (Int × Int)} (h : EsOk D m es) (hd : ∀ p, D p → p ∈ dom) (hN : dom.length ≤ N) : es.length ≤ N := by
  have := nodup_length_le h.nd (m := dom) (fun x hx => by
    obtain ⟨e, he, rfl⟩ := List.mem_map.1 hx
    exact hd _ (h.all e he).1)
  simp only [Keys, List.length_map] at this; omega
theorem kvFind_ent {v : Int × Int} {w : ByteArray} : ∀ {es : List Ent} {i : Nat}, (Keys es).Nodup → (v, w) ∈ es → (kvFind (entKv es) v i).map (·.2) = some (.string w)
  | [], _, _, h => by cases h
  | e :: es, i, hn, h => by
    simp only [Keys, List.map_cons, List.nodup_cons] at hn
    simp only [entKv, List.map_cons, kvFind]
    rcases List.mem_cons.1 h with h | h
    · subst h; simp
    · have hne : ¬ v = e.1 := fun he => hn.1 (by rw [← he]; exact List.mem_map.2 ⟨_, h, rfl⟩)
      rw [if_neg hne]
      exact kvFind_ent (es := es) hn.2 h
theorem kvGet_ent {v : Int × Int} {w : ByteArray} {es : List Ent} (hn : (Keys es).Nodup) (h : (v, w) ∈ es) (z : Value) : kvGet (entKv es) v z = .string w := by
  have := kvFind_ent (i := 0) hn h
  unfold kvGet
  cases hz : kvFind (entKv es) v 0 with
  | none => rw [hz] at this; cases this
  | some p => rw [hz] at this; simpa using this
theorem kvHas_ent (es : List Ent) (v : Int × Int) : kvHas (entKv es) v = hasK es v := hasK_kv v es 0
theorem kvSet_ent {es : List Ent} {v : Int × Int} {w : ByteArray} (h : hasK es v = false) : kvSet (entKv es) v (.string w) = entKv (es ++ [(v, w)]) := by
  have h0 : kvFind (entKv es) v 0 = none := by
    have := hasK_kv v es 0
    rw [h] at this
    cases hz : kvFind (entKv es) v 0 with
    | none => rfl
    | some p => rw [hz] at this; cases this
  rw [kvSet_none h0]; simp [entKv]
theorem Keys_snoc (es : List Ent) (v : Int × Int) (w : ByteArray) : Keys (es ++ [(v, w)]) = Keys es ++ [v] := by simp [Keys]
theorem Keys_len (es : List Ent) : (Keys es).length = es.length := by simp [Keys]
theorem bfsP_new {f : Int × Int → Nat → Int × Int} {u : Ent} {es : List Ent} {c : Nat} (h : hasK (bfsP f u es c) (f u.1 c) = false) : bfsP f u es (c + 1) = bfsP f u es c ++ [(f u.1 c, u.2 ++ letterS c)] := by
  rw [bfsP, bfs1, if_neg (by rw [h]; decide)]
theorem bfsP_old {f : Int × Int → Nat → Int × Int} {u : Ent} {es : List Ent} {c : Nat} (h : hasK (bfsP f u es c) (f u.1 c) = true) : bfsP f u es (c + 1) = bfsP f u es c := by
  rw [bfsP, bfs1, if_pos h]
theorem mem_bfsP {f : Int × Int → Nat → Int × Int} {u e : Ent} {es : List Ent} (h : e ∈ es) : ∀ c, e ∈ bfsP f u es c
  | 0 => h
  | c + 1 => by
    have ih := mem_bfsP (f := f) (u := u) h c
    unfold bfsP bfs1; split
    · exact ih
    · simp [ih]
theorem bfsGo_end {f : Int × Int → Nat → Int × Int} {g : Int × Int → Bool} {s : Int × Int} {i : Nat} (n : Nat) (h : (bfsTo f s i).length ≤ i) : bfsGo f g s i n = (⟨#[]⟩, false) := by
  cases n with
  | zero => rfl
  | succ n => simp only [bfsGo, List.getElem?_eq_none h]
theorem bfsGo_found {f : Int × Int → Nat → Int × Int} {g : Int × Int → Bool} {s : Int × Int} {i n : Nat} {u : Ent} (hn : 0 < n) (h : (bfsTo f s i)[i]? = some u) (hg : g u.1 = true) : bfsGo f g s i n = (u.2, true) := by
  obtain ⟨n, rfl⟩ : ∃ m, n = m + 1 := ⟨n - 1, by omega⟩
  simp only [bfsGo, h, if_pos hg]
theorem bfsGo_next {f : Int × Int → Nat → Int × Int} {g : Int × Int → Bool} {s : Int × Int} {i N : Nat} {u : Ent} (hn : i < N) (h : (bfsTo f s i)[i]? = some u) (hg : g u.1 = false) : bfsGo f g s i (N - i) = bfsGo f g s (i + 1) (N - (i + 1)) := by
  obtain ⟨n, hn'⟩ : ∃ m, N - i = m + 1 := ⟨N - i - 1, by omega⟩
  rw [hn', show N - (i + 1) = n by omega]
  have hne : ¬ g u.1 = true := by rw [hg]; decide
  simp only [bfsGo, h, if_neg hne]
end Go.Kx
/- Doubts: what the search over pairs finds. -/
namespace Go.Kx
open Go
theorem En.holds.up {W W' : World} {e : En} (h : e.holds W) (hu : Upd [] W W') : e.holds W' := h.kept fun b hb => hu.block b (h.lt hb) (by simp)
theorem Mem.hold1 {w : World} {e : En} (h : e.holds w) : Mem w (feet [e]) [e] w :=
  ⟨Upd.refl _ _, fun x hx => by rw [List.mem_singleton.1 hx]; exact h, fun x hx b hb _ => mem_feet.2 ⟨x, hx, hb⟩, List.pairwise_singleton _ _⟩
theorem Mem.upd1 {w w' : World} {b : Nat} {T : TypeId} {xs : List Value} (h : (En.blk b T xs).holds w) (hm : Mem w (feet [En.blk b T xs]) [En.blk b T xs] w') : Upd [] w w' := by
  refine ⟨hm.upd.os, hm.upd.tape, hm.upd.output, hm.upd.size, fun k hk _ => ?_⟩
  by_cases hkb : k = b
  · subst hkb
    have h1 : w.heap[k]? = some (.cells xs.toArray T (0, 0)) := h
    have h2 : w'.heap[k]? = some (.cells xs.toArray T (0, 0)) := hm.at (i := 0) rfl
    rw [h1, h2]
  · refine hm.upd.block k hk fun hf => ?_
    obtain ⟨e, he, hek⟩ := mem_feet.1 hf
    rw [List.mem_singleton.1 he] at hek
    simp only [En.foot, Option.some.injEq] at hek
    omega
def DomP (k : Nat) (x : Int × Int) : Prop := x = (-1, -1) ∨ (0 ≤ x.1 ∧ x.1 < k ∧ 0 ≤ x.2 ∧ x.2 < k)
def domP (k : Nat) : List (Int × Int) := (-1, -1) :: (List.range k).flatMap fun (a : Nat) => (List.range k).map fun (b : Nat) => ((a : Int), (b : Int))
theorem domP_mem {k : Nat} {x : Int × Int} (h : DomP k x) : x ∈ domP k := by
  rcases h with rfl | ⟨h1, h2, h3, h4⟩
  · simp [domP]
  · unfold domP
    refine List.mem_cons_of_mem _ (List.mem_flatMap.2 ⟨x.1.toNat, List.mem_range.2 (by omega), List.mem_map.2 ⟨x.2.toNat, List.mem_range.2 (by omega), ?_⟩⟩)
    exact Prod.ext (by simp only; omega) (by simp only; omega)
theorem domP_len {k : Nat} (h : k ≤ 5) : (domP k).length ≤ 26 := by
  have : ∀ k, k ≤ 5 → (domP k).length ≤ 26 := by decide
  exact this k h
theorem nextP_dom {f : Nat → Nat → Int} {k : Nat} (h : Okf k f) {x : Int × Int} {c : Nat} (hx : DomP k x) (hc : c < 2) : DomP k (nextP f x c) := by
  unfold nextP
  split
  · rename_i hh
    rcases hx with rfl | ⟨h1, h2, h3, h4⟩
    · have := hh.1; simp only at this; omega
    · have e1 := h.hi x.1.toNat c (by omega) hc
      have e2 := h.hi x.2.toNat c (by omega) hc
      have e3 := hh.2.1
      exact .inr ⟨by simp only; omega, by simp only; omega, by simp only; omega, by simp only; omega⟩
  · exact .inl rfl
def behB (f : Nat → Nat → Int) (p q c : Nat) : Prop := 0 ≤ min (f p c) (f q c) ∧ ¬ f p c = f q c
instance (f : Nat → Nat → Int) (p q c : Nat) : Decidable (behB f p q c) := by unfold behB; infer_instance
def dtS (f : Nat → Nat → Int) (p q c : Nat) : ByteArray × Bool := bfsV (nextP f) (fun x => decide (x = ((p : Int), (q : Int)))) (f p c, f q c) 26
def dtTry (f : Nat → Nat → Int) (p q c : Nat) : Option ByteArray := if behB f p q c then (if (dtS f p q c).2 = true then some (letterS c ++ (dtS f p q c).1) else none) else none
def dtPair (f : Nat → Nat → Int) (p q : Nat) : Option ByteArray := match dtTry f p q 0 with | some w => some w | none => dtTry f p q 1
def rowN (p : Nat) : Nat → List (Nat × Nat)
  | 0 => []
  | j + 1 => rowN p j ++ [(p, p + 1 + j)]
def pairN (k : Nat) : Nat → List (Nat × Nat)
  | 0 => []
  | p + 1 => pairN k p ++ rowN p (k - 1 - p)
def pvs (l : List (Nat × Nat)) : List Value := l.map fun x => pv x.1 x.2
theorem pvs_append (a b : List (Nat × Nat)) : pvs (a ++ b) = pvs a ++ pvs b := by simp [pvs]
theorem rowI_eq (p : Nat) : ∀ j, rowI p j = pvs (rowN p j)
  | 0 => rfl
  | j + 1 => by rw [rowI, rowN, pvs_append, rowI_eq p j]; rfl
theorem pairI_eq (k : Nat) : ∀ p, pairI k p = pvs (pairN k p)
  | 0 => rfl
  | p + 1 => by rw [pairI, pairN, pvs_append, pairI_eq k p, rowI_eq]
theorem rowN_mem {p : Nat} {x : Nat × Nat} : ∀ {j}, x ∈ rowN p j ↔ x.1 = p ∧ p < x.2 ∧ x.2 < p + 1 + j
  | 0 => ⟨fun h => (by cases h), fun h => (by omega)⟩
  | j + 1 => by
    rw [rowN, List.mem_append, rowN_mem (j := j), List.mem_singleton]
    constructor
    · rintro (h | rfl)
      · omega
      · exact ⟨rfl, by show p < p + 1 + j; omega, by show p + 1 + j < p + 1 + (j + 1); omega⟩
    · intro h
      by_cases h2 : x.2 = p + 1 + j
      · exact .inr (Prod.ext h.1 h2)
      · exact .inl (by omega)
theorem pairN_mem {k : Nat} {x : Nat × Nat} : ∀ {p}, p ≤ k → (x ∈ pairN k p ↔ x.1 < p ∧ x.1 < x.2 ∧ x.2 < k)
  | 0, _ => by simp [pairN]
  | p + 1, hp => by
    rw [pairN, List.mem_append, pairN_mem (p := p) (by omega), rowN_mem]
    constructor
    · rintro (h | h) <;> omega
    · intro h; omega
def dtV (f : Nat → Nat → Int) (k : Nat) : Option (ByteArray × (Nat × Nat)) := (pairN k k).findSome? fun x => (dtPair f x.1 x.2).map fun w => (w, x)
def dtW (f : Nat → Nat → Int) (k : Nat) : ByteArray := match dtV f k with | some r => r.1 | none => ⟨#[]⟩
def dtP (f : Nat → Nat → Int) (k : Nat) : Int × Int := match dtV f k with | some r => ((r.2.1 : Int), (r.2.2 : Int)) | none => (0, 0)
def dtB (f : Nat → Nat → Int) (k : Nat) : Bool := (dtV f k).isSome
theorem dtV_found {f : Nat → Nat → Int} {k : Nat} {ls rest : List (Nat × Nat)} {x : Nat × Nat} {w : ByteArray} (hL : pairN k k = ls ++ x :: rest) (hno : ∀ y ∈ ls, dtPair f y.1 y.2 = none) (hx : dtPair f x.1 x.2 = some w) : dtV f k = some (w, x) := by
  unfold dtV
  rw [hL, List.findSome?_append, List.findSome?_eq_none_iff.2 (fun y hy => by rw [hno y hy]; rfl), List.findSome?_cons, hx]; rfl
theorem dtV_none {f : Nat → Nat → Int} {k : Nat} (hno : ∀ y ∈ pairN k k, dtPair f y.1 y.2 = none) : dtV f k = none := by
  unfold dtV
  exact List.findSome?_eq_none_iff.2 (fun y hy => by rw [hno y hy]; rfl)
theorem dtPair_0 {f : Nat → Nat → Int} {p q : Nat} {w : ByteArray} (h : dtTry f p q 0 = some w) : dtPair f p q = some w := by unfold dtPair; rw [h]
theorem dtPair_1 {f : Nat → Nat → Int} {p q : Nat} {w : ByteArray} (h0 : dtTry f p q 0 = none) (h : dtTry f p q 1 = some w) : dtPair f p q = some w := by unfold dtPair; rw [h0]; exact h
theorem dtPair_n {f : Nat → Nat → Int} {p q : Nat} (h : ∀ c, c < 2 → dtTry f p q c = none) : dtPair f p q = none := by unfold dtPair; rw [h 0 (by decide)]; exact h 1 (by decide)
theorem dtPair_c {f : Nat → Nat → Int} {p q c : Nat} {w : ByteArray} (hc : c < 2) (h : ∀ c', c' < c → dtTry f p q c' = none) (hw : dtTry f p q c = some w) : dtPair f p q = some w := by
  obtain rfl | rfl : c = 0 ∨ c = 1 := by omega
  · exact dtPair_0 hw
  · exact dtPair_1 (h 0 (by decide)) hw
theorem dtTry_no {f : Nat → Nat → Int} {p q c : Nat} (h : ¬ behB f p q c) : dtTry f p q c = none := if_neg h
theorem dtTry_yes {f : Nat → Nat → Int} {p q c : Nat} (h : behB f p q c) (hr : (dtS f p q c).2 = true) : dtTry f p q c = some (letterS c ++ (dtS f p q c).1) := by unfold dtTry; rw [if_pos h, if_pos hr]
theorem dtTry_not {f : Nat → Nat → Int} {p q c : Nat} (hr : (dtS f p q c).2 = false) : dtTry f p q c = none := by
  unfold dtTry
  split
  · rw [if_neg (by rw [hr]; decide)]
  · rfl
theorem allLt2 {P : Nat → Prop} {c : Nat} (h : ∀ c', c' < c → P c') (hc : P c) : ∀ c', c' < c + 1 → P c' := fun c' h' => by
  rcases Nat.lt_or_ge c' c with h1 | h1
  · exact h c' h1
  · obtain rfl : c' = c := by omega
    exact hc
theorem bfsGo_size {f : Int × Int → Nat → Int × Int} {g : Int × Int → Bool} {s : Int × Int} {D : Int × Int → Prop} (hs : D s) (hD : ∀ p (c : Nat), D p → c < 2 → D (f p c)) : ∀ n i, (bfsGo f g s i n).1.size ≤ i + n
  | 0, i => Nat.zero_le _
  | n + 1, i => by
    unfold bfsGo
    split
    · exact Nat.zero_le _
    · rename_i u hu
      have h1 := ((bfs_ok hs hD i).all u (List.mem_of_getElem? hu)).2
      split
      · simp only; omega
      · have := bfsGo_size (g := g) hs hD n (i + 1); omega
theorem pv_inj {p q p' q' : Nat} (h : pv p q = pv p' q') : p = p' ∧ q = q' := by
  unfold pv prV at h
  simp only [Value.agg.injEq, Array.mk.injEq, List.cons.injEq, Value.int.injEq, true_and, and_true] at h
  omega
theorem pvs_inj : ∀ {a b : List (Nat × Nat)}, pvs a = pvs b → a = b
  | [], [], _ => rfl
  | [], y :: b, h => by cases h
  | x :: a, [], h => by cases h
  | x :: a, y :: b, h => by
    simp only [pvs, List.map_cons, List.cons.injEq] at h
    have h1 := pv_inj h.1
    rw [pvs_inj (a := a) (b := b) h.2, Prod.ext h1.1 h1.2]
theorem pvs_item {L ls : List (Nat × Nat)} {v : Value} {rest : List Value} (h : pvs L = pvs ls ++ v :: rest) : ∃ x rest', L = ls ++ x :: rest' ∧ v = pv x.1 x.2 := by
  unfold pvs at h
  obtain ⟨l1, l2, rfl, h1, h2⟩ := List.map_eq_append_iff.1 h
  obtain ⟨x, l3, rfl, h3, h4⟩ := List.map_eq_cons_iff.1 h2
  exact ⟨x, l3, by rw [pvs_inj h1], h3.symm⟩
theorem DomP.lt {k : Nat} {x : Int × Int} (h : DomP k x) : 0 ≤ x.1 → x.1 < k ∧ 0 ≤ x.2 ∧ x.2 < k := by
  rcases h with rfl | h
  · intro h0; exact absurd h0 (by decide)
  · intro _; omega
theorem beh_dom {f : Nat → Nat → Int} {k p q c : Nat} (h : Okf k f) (hp : p < k) (hq : q < k) (hc : c < 2) (hb : behB f p q c) : DomP k (f p c, f q c) := by
  have e1 := h.hi p c hp hc
  have e2 := h.hi q c hq hc
  have e3 := hb.1
  exact .inr ⟨by simp only; omega, by simp only; omega, by simp only; omega, by simp only; omega⟩
theorem dtS_size {f : Nat → Nat → Int} {k p q c : Nat} (h : Okf k f) (hp : p < k) (hq : q < k) (hc : c < 2) (hb : behB f p q c) : (dtS f p q c).1.size ≤ 26 := by
  have := bfsGo_size (f := nextP f) (g := fun x => decide (x = ((p : Int), (q : Int)))) (s := (f p c, f q c)) (D := DomP k) (beh_dom h hp hq hc hb) (fun x c hx hc => nextP_dom h hx hc) 26 0
  exact this
def doubtV (ps : List (Int × Int)) : ByteArray × (Int × Int) × Bool × Int :=
  if NetOk ps then (if hangsF (tabR ps) ps.length = true then (dtW (formF (tabR ps) ps.length) (formK (tabR ps) ps.length), dtP (formF (tabR ps) ps.length) (formK (tabR ps) ps.length), dtB (formF (tabR ps) ps.length) (formK (tabR ps) ps.length), 0) else (⟨#[]⟩, (0, 0), false, 5)) else (⟨#[]⟩, (0, 0), false, 70)
end Go.Kx
/- Searching breadth first: what it finds is reached, and what is reached it finds. -/
namespace Go.Kx
open Go
def runL {α : Type} (f : α → Nat → α) (s : α) : List Nat → α
  | [] => s
  | c :: l => runL f (f s c) l
theorem runL_append {α : Type} (f : α → Nat → α) : ∀ (a b : List Nat) (s : α), runL f s (a ++ b) = runL f (runL f s a) b
  | [], _, _ => rfl
  | c :: a, b, s => runL_append f a b (f s c)
def wordOf : List Nat → ByteArray → ByteArray
  | [], w => w
  | c :: l, w => wordOf l (w ++ letterS c)
theorem wordOf_append : ∀ (a b : List Nat) (w : ByteArray), wordOf (a ++ b) w = wordOf b (wordOf a w)
  | [], _, _ => rfl
  | c :: a, b, w => wordOf_append a b (w ++ letterS c)
def Ltr (l : List Nat) : Prop := ∀ c ∈ l, c < 2
def Led (f : Int × Int → Nat → Int × Int) (s : Int × Int) (e : Ent) : Prop := ∃ l, Ltr l ∧ e.2 = wordOf l ⟨#[]⟩ ∧ e.1 = runL f s l
theorem Led.more {f : Int × Int → Nat → Int × Int} {s : Int × Int} {e : Ent} (h : Led f s e) {c : Nat} (hc : c < 2) : Led f s (f e.1 c, e.2 ++ letterS c) := by
  obtain ⟨l, h1, h2, h3⟩ := h
  refine ⟨l ++ [c], fun x hx => ?_, ?_, ?_⟩
  · rcases List.mem_append.1 hx with hx | hx
    · exact h1 x hx
    · rw [List.mem_singleton.1 hx]; exact hc
  · rw [wordOf_append, ← h2]; rfl
  · rw [runL_append, ← h3]; rfl
theorem led_part {f : Int × Int → Nat → Int × Int} {s : Int × Int} {u : Ent} {es : List Ent} (hes : ∀ e ∈ es, Led f s e) (hu : Led f s u) : ∀ c, c ≤ 2 → ∀ e ∈ bfsP f u es c, Led f s e
  | 0, _ => hes
  | c + 1, hc => by
    have ih := led_part hes hu c (by omega)
    intro e he
    unfold bfsP bfs1 at he
    split at he
    · exact ih e he
    · rcases List.mem_append.1 he with he | he
      · exact ih e he
      · rw [List.mem_singleton.1 he]; exact hu.more (by omega)
theorem led_bfs (f : Int × Int → Nat → Int × Int) (s : Int × Int) : ∀ i, ∀ e ∈ bfsTo f s i, Led f s e
  | 0 => fun e he => by
    simp only [bfsTo, List.mem_singleton] at he
    subst he; exact ⟨[], fun c h => (by cases h), rfl, rfl⟩
  | i + 1 => by
    have ih := led_bfs f s i
    cases h : (bfsTo f s i)[i]? with
    | none =>
      have e : bfsTo f s (i + 1) = bfsTo f s i := by rw [bfsTo, h]
      rw [e]; exact ih
    | some u => rw [bfsTo_more h]; exact led_part ih (ih u (List.mem_of_getElem? h)) 2 (by decide)
theorem bfsP_get {f : Int × Int → Nat → Int × Int} {u e : Ent} {es : List Ent} {j : Nat} (h : es[j]? = some e) : ∀ c, (bfsP f u es c)[j]? = some e
  | 0 => h
  | c + 1 => by
    have ih := bfsP_get (f := f) (u := u) h c
    unfold bfsP bfs1
    split
    · exact ih
    · rw [List.getElem?_append_left (List.getElem?_eq_some_iff.1 ih).1]; exact ih
theorem bfs_get {f : Int × Int → Nat → Int × Int} {s : Int × Int} {e : Ent} {i j : Nat} (h : (bfsTo f s i)[j]? = some e) : (bfsTo f s (i + 1))[j]? = some e := by
  cases hu : (bfsTo f s i)[i]? with
  | none => rw [bfsTo, hu]; exact h
  | some u => rw [bfsTo_more hu]; exact bfsP_get h 2
def Done (f : Int × Int → Nat → Int × Int) (es : List Ent) (i : Nat) : Prop := ∀ j e, j < i → es[j]? = some e → ∀ c, c < 2 → f e.1 c ∈ Keys es
theorem bfs1_key (f : Int × Int → Nat → Int × Int) (u : Ent) (c : Nat) (es : List Ent) : f u.1 c ∈ Keys (bfs1 f u c es) := by
  unfold bfs1
  split
  · rename_i h; exact hasK_mem.1 h
  · simp [Keys]
theorem keys_bfs1 {f : Int × Int → Nat → Int × Int} {u : Ent} {c : Nat} {es : List Ent} {x : Int × Int} (h : x ∈ Keys es) : x ∈ Keys (bfs1 f u c es) := by
  unfold bfs1; split
  · exact h
  · simp only [Keys, List.map_append, List.mem_append]; exact .inl h
theorem done_bfs (f : Int × Int → Nat → Int × Int) (s : Int × Int) : ∀ i, Done f (bfsTo f s i) i
  | 0 => fun j _ hj => absurd hj (Nat.not_lt_zero j)
  | i + 1 => by
    have ih := done_bfs f s i
    intro j e hj he c hc
    cases hu : (bfsTo f s i)[i]? with
    | none =>
      have e1 : bfsTo f s (i + 1) = bfsTo f s i := by rw [bfsTo, hu]
      rw [e1] at he ⊢
      have hlt := (List.getElem?_eq_some_iff.1 he).1
      have hge : (bfsTo f s i).length ≤ i := List.getElem?_eq_none_iff.1 hu
      exact ih j e (by omega) he c hc
    | some u =>
      rcases Nat.lt_or_ge j i with h1 | h1
      · have hlt : i < (bfsTo f s i).length := (List.getElem?_eq_some_iff.1 hu).1
        obtain ⟨e', he'⟩ : ∃ e', (bfsTo f s i)[j]? = some e' := ⟨_, List.getElem?_eq_getElem (by omega)⟩
        have := bfs_get he'
        rw [this] at he
        obtain rfl := Option.some.inj he
        have hk := ih j e' h1 he' c hc
        rw [bfsTo_more hu]
        exact keys_bfs1 (keys_bfs1 hk)
      · obtain rfl : j = i := by omega
        have := bfs_get hu
        rw [this] at he
        obtain rfl := Option.some.inj he
        rw [bfsTo_more hu]
        obtain rfl | rfl : c = 0 ∨ c = 1 := by omega
        · exact keys_bfs1 (bfs1_key f u 0 _)
        · exact bfs1_key f u 1 _
theorem bfs_start (f : Int × Int → Nat → Int × Int) (s : Int × Int) : ∀ i, s ∈ Keys (bfsTo f s i)
  | 0 => by simp [bfsTo, Keys]
  | i + 1 => by
    have ih := bfs_start f s i
    cases hu : (bfsTo f s i)[i]? with
    | none =>
      have e1 : bfsTo f s (i + 1) = bfsTo f s i := by rw [bfsTo, hu]
      rw [e1]; exact ih
    | some u => rw [bfsTo_more hu]; exact keys_bfs1 (keys_bfs1 ih)
theorem bfs_all {f : Int × Int → Nat → Int × Int} {s : Int × Int} {i : Nat} (h : (bfsTo f s i).length ≤ i) : ∀ (l : List Nat) (x : Int × Int), Ltr l → x ∈ Keys (bfsTo f s i) → runL f x l ∈ Keys (bfsTo f s i)
  | [], x, _, hx => hx
  | c :: l, x, hl, hx => by
    refine bfs_all h l (f x c) (fun y hy => hl y (List.mem_cons_of_mem _ hy)) ?_
    obtain ⟨e, he, rfl⟩ := List.mem_map.1 hx
    obtain ⟨j, hj, hje⟩ := List.mem_iff_getElem.1 he
    exact done_bfs f s i j e (by omega) (by rw [List.getElem?_eq_getElem hj, hje]) c (hl c (List.mem_cons_self ..))
theorem bfsGo_spec {f : Int × Int → Nat → Int × Int} {g : Int × Int → Bool} {s : Int × Int} {D : Int × Int → Prop} {dom : List (Int × Int)} {N : Nat} (hs : D s) (hD : ∀ p (c : Nat), D p → c < 2 → D (f p c)) (hdom : ∀ p, D p → p ∈ dom) (hN : dom.length ≤ N) :
    ∀ n i, i + n = N → (∀ j e, j < i → (bfsTo f s i)[j]? = some e → g e.1 = false) →
      ((bfsGo f g s i n).2 = true → ∃ l, Ltr l ∧ (bfsGo f g s i n).1 = wordOf l ⟨#[]⟩ ∧ g (runL f s l) = true) ∧ ((bfsGo f g s i n).2 = false → (bfsGo f g s i n).1 = ⟨#[]⟩ ∧ ∀ l, Ltr l → g (runL f s l) = false)
  | 0, i, hi, hg => by
    have hlen := (bfs_ok hs hD i).len hdom hN
    refine ⟨fun h => (by cases h), fun _ => ⟨rfl, fun l hl => ?_⟩⟩
    obtain ⟨e, he, hr⟩ := List.mem_map.1 (bfs_all (f := f) (s := s) (i := i) (by omega) l s hl (bfs_start f s i))
    obtain ⟨j, hj, hje⟩ := List.mem_iff_getElem.1 he
    rw [← hr]
    exact hg j e (by omega) (by rw [List.getElem?_eq_getElem hj, hje])
  | n + 1, i, hi, hg => by
    unfold bfsGo
    split
    · rename_i hu
      have hge : (bfsTo f s i).length ≤ i := List.getElem?_eq_none_iff.1 hu
      refine ⟨fun h => (by cases h), fun _ => ⟨rfl, fun l hl => ?_⟩⟩
      obtain ⟨e, he, hr⟩ := List.mem_map.1 (bfs_all hge l s hl (bfs_start f s i))
      obtain ⟨j, hj, hje⟩ := List.mem_iff_getElem.1 he
      rw [← hr]
      exact hg j e (by omega) (by rw [List.getElem?_eq_getElem hj, hje])
    · rename_i u hu
      split
      · rename_i hgu
        refine ⟨fun _ => ?_, fun h => (by cases h)⟩
        obtain ⟨l, h1, h2, h3⟩ := led_bfs f s i u (List.mem_of_getElem? hu)
        exact ⟨l, h1, h2, by rw [← h3]; exact hgu⟩
      · rename_i hgu
        refine bfsGo_spec hs hD hdom hN n (i + 1) (by omega) (fun j e hj he => ?_)
        have hlt : i < (bfsTo f s i).length := (List.getElem?_eq_some_iff.1 hu).1
        obtain ⟨e', he'⟩ : ∃ e', (bfsTo f s i)[j]? = some e' := ⟨_, List.getElem?_eq_getElem (by omega)⟩
        rw [bfs_get he'] at he
        obtain rfl := Option.some.inj he
        rcases Nat.lt_or_ge j i with h1 | h1
        · exact hg j e' h1 he'
        · obtain rfl : j = i := by omega
          rw [hu] at he'
          obtain rfl := Option.some.inj he'
          simpa using hgu
theorem bfsV_spec {f : Int × Int → Nat → Int × Int} {g : Int × Int → Bool} {s : Int × Int} {D : Int × Int → Prop} {dom : List (Int × Int)} {N : Nat} (hs : D s) (hD : ∀ p (c : Nat), D p → c < 2 → D (f p c)) (hdom : ∀ p, D p → p ∈ dom) (hN : dom.length ≤ N) :
    ((bfsV f g s N).2 = true → ∃ l, Ltr l ∧ (bfsV f g s N).1 = wordOf l ⟨#[]⟩ ∧ g (runL f s l) = true) ∧ ((bfsV f g s N).2 = false → (bfsV f g s N).1 = ⟨#[]⟩ ∧ ∀ l, Ltr l → g (runL f s l) = false) :=
  bfsGo_spec hs hD hdom hN N 0 (by omega) (fun j _ hj => absurd hj (Nat.not_lt_zero j))
def Loop (f : Nat → Nat → Int) (a b : Nat) : Prop := ∃ l, l ≠ [] ∧ Ltr l ∧ runL (nextP f) ((a : Int), (b : Int)) l = ((a : Int), (b : Int))
theorem nextP_none (f : Nat → Nat → Int) (c : Nat) : nextP f (-1, -1) c = (-1, -1) := if_neg (fun h => absurd h.1 (by decide))
theorem runL_none (f : Nat → Nat → Int) : ∀ l, runL (nextP f) (-1, -1) l = (-1, -1)
  | [] => rfl
  | c :: l => by rw [runL, nextP_none]; exact runL_none f l
theorem nextP_beh {f : Nat → Nat → Int} {a b c : Nat} (h : behB f a b c) : nextP f ((a : Int), (b : Int)) c = (f a c, f b c) := if_pos ⟨Int.natCast_nonneg a, h⟩
theorem nextP_nbeh {f : Nat → Nat → Int} {a b c : Nat} (h : ¬ behB f a b c) : nextP f ((a : Int), (b : Int)) c = (-1, -1) := if_neg (fun hh => h hh.2)
theorem dtTry_loop {f : Nat → Nat → Int} {k a b c : Nat} (ho : Okf k f) (ha : a < k) (hb : b < k) (hc : c < 2) : (∃ w, dtTry f a b c = some w) ↔ ∃ l, Ltr l ∧ runL (nextP f) ((a : Int), (b : Int)) (c :: l) = ((a : Int), (b : Int)) := by
  by_cases hbe : behB f a b c
  · have hsp := bfsV_spec (g := fun x => decide (x = ((a : Int), (b : Int)))) (beh_dom ho ha hb hc hbe) (fun x c hx hc => nextP_dom ho hx hc) (fun x h => domP_mem h) (domP_len ho.k5)
    rw [show (∃ l, Ltr l ∧ runL (nextP f) ((a : Int), (b : Int)) (c :: l) = ((a : Int), (b : Int))) = ∃ l, Ltr l ∧ runL (nextP f) (f a c, f b c) l = ((a : Int), (b : Int)) by simp only [runL, nextP_beh hbe]]
    constructor
    · rintro ⟨w, hw⟩
      have hr : (dtS f a b c).2 = true := by
        unfold dtTry at hw
        rw [if_pos hbe] at hw
        split at hw
        · assumption
        · cases hw
      obtain ⟨l, h1, _, h3⟩ := hsp.1 hr
      exact ⟨l, h1, by simpa using h3⟩
    · rintro ⟨l, h1, h2⟩
      cases hr : (dtS f a b c).2 with
      | true => exact ⟨_, dtTry_yes hbe hr⟩
      | false =>
        have := (hsp.2 hr).2 l h1
        rw [h2] at this; simp at this
  · constructor
    · rintro ⟨w, hw⟩; rw [dtTry_no hbe] at hw; cases hw
    · rintro ⟨l, h1, h2⟩
      rw [runL, nextP_nbeh hbe, runL_none] at h2
      have := congrArg Prod.fst h2
      simp only at this; omega
theorem dtPair_loop {f : Nat → Nat → Int} {k a b : Nat} (ho : Okf k f) (ha : a < k) (hb : b < k) : (∃ w, dtPair f a b = some w) ↔ Loop f a b := by
  constructor
  · rintro ⟨w, hw⟩
    unfold dtPair at hw
    cases h0 : dtTry f a b 0 with
    | some w0 =>
      obtain ⟨l, h1, h2⟩ := (dtTry_loop ho ha hb (c := 0) (by decide)).1 ⟨w0, h0⟩
      exact ⟨0 :: l, by simp, fun x hx => by rcases List.mem_cons.1 hx with rfl | hx; decide; exact h1 x hx, h2⟩
    | none =>
      rw [h0] at hw
      obtain ⟨l, h1, h2⟩ := (dtTry_loop ho ha hb (c := 1) (by decide)).1 ⟨w, hw⟩
      exact ⟨1 :: l, by simp, fun x hx => by rcases List.mem_cons.1 hx with rfl | hx; decide; exact h1 x hx, h2⟩
  · rintro ⟨l, hne, hl, hr⟩
    cases l with
    | nil => exact absurd rfl hne
    | cons c l =>
      have hc := hl c (List.mem_cons_self ..)
      obtain ⟨w, hw⟩ := (dtTry_loop ho ha hb hc).2 ⟨l, fun x hx => hl x (List.mem_cons_of_mem _ hx), hr⟩
      unfold dtPair
      cases h0 : dtTry f a b 0 with
      | some w0 => exact ⟨w0, rfl⟩
      | none =>
        obtain rfl | rfl : c = 0 ∨ c = 1 := by omega
        · rw [h0] at hw; cases hw
        · exact ⟨w, hw⟩
theorem dtB_loop {f : Nat → Nat → Int} {k : Nat} (ho : Okf k f) : dtB f k = true ↔ ∃ a b, a < b ∧ b < k ∧ Loop f a b := by
  unfold dtB dtV
  rw [List.findSome?_isSome_iff]
  constructor
  · rintro ⟨x, hx, h⟩
    have hm := (pairN_mem (Nat.le_refl k)).1 hx
    refine ⟨x.1, x.2, hm.2.1, hm.2.2, (dtPair_loop ho hm.1 hm.2.2).1 ?_⟩
    cases hp : dtPair f x.1 x.2 with
    | some w => exact ⟨w, rfl⟩
    | none => rw [hp] at h; cases h
  · rintro ⟨a, b, hab, hb, h⟩
    refine ⟨(a, b), (pairN_mem (Nat.le_refl k)).2 ⟨by simp only; omega, hab, hb⟩, ?_⟩
    obtain ⟨w, hw⟩ := (dtPair_loop ho (by omega : a < k) hb).2 h
    simp only [hw]; rfl
end Go.Kx
/- Memory: sets behind all words of a length. -/
namespace Go.Kx
open Go
def imgB (f : Nat → Nat → Int) (k : Nat) : Nat → Nat → Bool
  | 0, t => t == 2 ^ k - 1
  | m + 1, t => t != 0 && (List.range 32).any fun s => imgB f k m s && (stepF f s 0 k == t || stepF f s 1 k == t)
def doneB (f : Nat → Nat → Int) (k m : Nat) : Bool := (List.range 32).all fun s => !imgB f k m s || decide (popF s ≤ 1)
def memV (f : Nat → Nat → Int) (k : Nat) : Option Nat := (List.range 33).find? (doneB f k)
theorem stepF_bit {f : Nat → Nat → Int} {set x t : Nat} : ∀ n, (stepF f set x n).testBit t = true ↔ ∃ i, i < n ∧ set.testBit i = true ∧ f i x = t
  | 0 => by simp [stepF]
  | n + 1 => by
    have ih := stepF_bit (f := f) (set := set) (x := x) (t := t) n
    have hb : set.testBit n = true ↔ (set >>> n) % 2 = 1 := by
      rw [Nat.testBit_eq_decide_div_mod_eq, Nat.shiftRight_eq_div_pow, decide_eq_true_iff]
    unfold stepF
    split
    · rename_i h
      rw [Nat.testBit_or, Bool.or_eq_true, ih, Nat.testBit_two_pow, decide_eq_true_iff]
      constructor
      · rintro (⟨i, h1, h2⟩ | h1)
        · exact ⟨i, by omega, h2⟩
        · exact ⟨n, by omega, hb.2 h.1, by omega⟩
      · rintro ⟨i, h1, h2, h3⟩
        rcases Nat.lt_or_ge i n with h4 | h4
        · exact .inl ⟨i, h4, h2, h3⟩
        · obtain rfl : i = n := by omega
          right; omega
    · rename_i h
      rw [ih]
      constructor
      · rintro ⟨i, h1, h2⟩; exact ⟨i, by omega, h2⟩
      · rintro ⟨i, h1, h2, h3⟩
        rcases Nat.lt_or_ge i n with h4 | h4
        · exact ⟨i, h4, h2, h3⟩
        · obtain rfl : i = n := by omega
          exact absurd ⟨hb.1 h2, by omega⟩ h
theorem imgB_succ {f : Nat → Nat → Int} {k m t : Nat} : imgB f k (m + 1) t = true ↔ t ≠ 0 ∧ ∃ s x, s < 32 ∧ x < 2 ∧ imgB f k m s = true ∧ stepF f s x k = t := by
  simp only [imgB, Bool.and_eq_true, bne_iff_ne, List.any_eq_true, List.mem_range, Bool.or_eq_true, beq_iff_eq]
  constructor
  · rintro ⟨h1, s, h2, h3, h4 | h4⟩
    · exact ⟨h1, s, 0, h2, by decide, h3, h4⟩
    · exact ⟨h1, s, 1, h2, by decide, h3, h4⟩
  · rintro ⟨h1, s, x, h2, h3, h4, h5⟩
    refine ⟨h1, s, h2, h4, ?_⟩
    obtain rfl | rfl : x = 0 ∨ x = 1 := by omega
    · exact .inl h5
    · exact .inr h5
theorem imgB_lt {f : Nat → Nat → Int} {k : Nat} (ho : Okf k f) : ∀ {m t}, imgB f k m t = true → t < 2 ^ k
  | 0, t, h => by
    simp only [imgB, beq_iff_eq] at h
    have := Nat.two_pow_pos k; omega
  | m + 1, t, h => by
    obtain ⟨_, s, x, _, hx, _, rfl⟩ := imgB_succ.1 h
    exact stepF_lt ho s x hx k (Nat.le_refl _)
theorem pop_two : ∀ t, t < 32 → 1 < popF t → ∃ p, p < 5 ∧ ∃ q, q < 5 ∧ p < q ∧ t.testBit p = true ∧ t.testBit q = true := by decide +kernel
theorem bit_lt {t k p : Nat} (h : t < 2 ^ k) (hb : t.testBit p = true) : p < k := by
  refine Nat.lt_of_not_le fun hle => ?_
  rw [Nat.testBit_lt_two_pow (Nat.lt_of_lt_of_le h (Nat.pow_le_pow_right (by decide) hle))] at hb
  cases hb
theorem img_chain {f : Nat → Nat → Int} {k : Nat} (ho : Okf k f) : ∀ {m t}, imgB f k m t = true → ∀ {p q}, p ≠ q → t.testBit p = true → t.testBit q = true →
    ∃ a b l, a < k ∧ b < k ∧ a ≠ b ∧ l.length = m ∧ Ltr l ∧ runL (nextP f) ((a : Int), (b : Int)) l = ((p : Int), (q : Int))
  | 0, t, h, p, q, hne, hp, hq => by
    have hlt := imgB_lt ho h
    exact ⟨p, q, [], bit_lt hlt hp, bit_lt hlt hq, hne, rfl, fun c hc => (by cases hc), rfl⟩
  | m + 1, t, h, p, q, hne, hp, hq => by
    obtain ⟨_, s, x, hs, hx, hm, rfl⟩ := imgB_succ.1 h
    obtain ⟨p', h1, h2, h3⟩ := (stepF_bit k).1 hp
    obtain ⟨q', h4, h5, h6⟩ := (stepF_bit k).1 hq
    have hne' : p' ≠ q' := fun e => hne (by subst e; omega)
    obtain ⟨a, b, l, ha, hb, hab, hl, hlt, hr⟩ := img_chain ho hm hne' h2 h5
    refine ⟨a, b, l ++ [x], ha, hb, hab, by rw [List.length_append, hl]; rfl, fun c hc => ?_, ?_⟩
    · rcases List.mem_append.1 hc with hc | hc
      · exact hlt c hc
      · rw [List.mem_singleton.1 hc]; exact hx
    · rw [runL_append, hr]
      show nextP f ((p' : Int), (q' : Int)) x = _
      rw [nextP_beh ⟨by omega, by omega⟩, h3, h6]
def GoodP (k : Nat) (x : Int × Int) : Prop := x = (-1, -1) ∨ (0 ≤ x.1 ∧ x.1 < k ∧ 0 ≤ x.2 ∧ x.2 < k ∧ x.1 ≠ x.2)
theorem GoodP.next {f : Nat → Nat → Int} {k : Nat} (ho : Okf k f) {x : Int × Int} {c : Nat} (hx : GoodP k x) (hc : c < 2) : GoodP k (nextP f x c) := by
  unfold nextP
  split
  · rename_i hh
    rcases hx with rfl | ⟨h1, h2, h3, h4, _⟩
    · have := hh.1; simp only at this; omega
    · have e1 := ho.hi x.1.toNat c (by omega) hc
      have e2 := ho.hi x.2.toNat c (by omega) hc
      have e3 := hh.2.1
      exact .inr ⟨by simp only; omega, by simp only; omega, by simp only; omega, by simp only; omega, hh.2.2⟩
  · exact .inl rfl
theorem GoodP.run {f : Nat → Nat → Int} {k : Nat} (ho : Okf k f) : ∀ {l : List Nat} {x : Int × Int}, GoodP k x → Ltr l → GoodP k (runL (nextP f) x l)
  | [], _, hx, _ => hx
  | c :: l, x, hx, hl => GoodP.run (l := l) (x := nextP f x c) ho (hx.next ho (hl c (List.mem_cons_self ..))) (fun y hy => hl y (List.mem_cons_of_mem _ hy))
def sw (x : Int × Int) : Int × Int := (x.2, x.1)
theorem sw_next {f : Nat → Nat → Int} {k : Nat} {x : Int × Int} {c : Nat} (hx : GoodP k x) : nextP f (sw x) c = sw (nextP f x c) := by
  have e : (0 ≤ (sw x).1 ∧ (0 ≤ min (f (sw x).1.toNat c) (f (sw x).2.toNat c) ∧ ¬ f (sw x).1.toNat c = f (sw x).2.toNat c)) ↔ (0 ≤ x.1 ∧ (0 ≤ min (f x.1.toNat c) (f x.2.toNat c) ∧ ¬ f x.1.toNat c = f x.2.toNat c)) := by
    show (0 ≤ x.2 ∧ (0 ≤ min (f x.2.toNat c) (f x.1.toNat c) ∧ ¬ f x.2.toNat c = f x.1.toNat c)) ↔ _
    rcases hx with rfl | ⟨h1, h2, h3, h4, _⟩ <;> constructor <;> rintro ⟨g1, g2, g3⟩ <;> refine ⟨by omega, by omega, fun h => g3 h.symm⟩
  unfold nextP
  by_cases h : (0 ≤ x.1 ∧ (0 ≤ min (f x.1.toNat c) (f x.2.toNat c) ∧ ¬ f x.1.toNat c = f x.2.toNat c))
  · rw [if_pos h, if_pos (e.2 h)]; rfl
  · rw [if_neg h, if_neg (fun hh => h (e.1 hh))]; rfl
theorem sw_run {f : Nat → Nat → Int} {k : Nat} (ho : Okf k f) : ∀ {l : List Nat} {x : Int × Int}, GoodP k x → Ltr l → runL (nextP f) (sw x) l = sw (runL (nextP f) x l)
  | [], _, _, _ => rfl
  | c :: l, x, hx, hl => by
    rw [runL, sw_next hx, sw_run ho (hx.next ho (hl c (List.mem_cons_self ..))) (fun y hy => hl y (List.mem_cons_of_mem _ hy))]; rfl
theorem sw_sw (x : Int × Int) : sw (sw x) = x := rfl
theorem loop_of {f : Nat → Nat → Int} {k : Nat} (ho : Okf k f) {x : Int × Int} {v : List Nat} (hx : GoodP k x) (h0 : 0 ≤ x.1) (hv : v ≠ []) (hl : Ltr v) (hr : runL (nextP f) x v = x ∨ runL (nextP f) x v = sw x) : ∃ a b, a < b ∧ b < k ∧ Loop f a b := by
  have hloop : ∃ v, v ≠ [] ∧ Ltr v ∧ runL (nextP f) x v = x := by
    rcases hr with hr | hr
    · exact ⟨v, hv, hl, hr⟩
    · refine ⟨v ++ v, by simp [hv], fun c hc => by rcases List.mem_append.1 hc with h | h <;> exact hl c h, ?_⟩
      rw [runL_append, hr, sw_run ho hx hl, hr, sw_sw]
  obtain ⟨v, hv, hl, hr⟩ := hloop
  rcases hx with rfl | ⟨h1, h2, h3, h4, h5⟩
  · exact absurd h0 (by decide)
  · have hx : GoodP k x := .inr ⟨h1, h2, h3, h4, h5⟩
    rcases Int.lt_or_lt_of_ne h5 with hlt | hlt
    · refine ⟨x.1.toNat, x.2.toNat, by omega, by omega, v, hv, hl, ?_⟩
      rw [show (((x.1.toNat : Nat) : Int), ((x.2.toNat : Nat) : Int)) = x from Prod.ext (by simp only; omega) (by simp only; omega)]; exact hr
    · refine ⟨x.2.toNat, x.1.toNat, by omega, by omega, v, hv, hl, ?_⟩
      rw [show (((x.2.toNat : Nat) : Int), ((x.1.toNat : Nat) : Int)) = sw x from Prod.ext (by simp only [sw]; omega) (by simp only [sw]; omega), sw_run ho hx hl, hr]
def norm (x : Int × Int) : Nat × Nat := if x.1 < x.2 then (x.1.toNat, x.2.toNat) else (x.2.toNat, x.1.toNat)
theorem norm_mem {k : Nat} {x : Int × Int} (hx : GoodP k x) (h0 : 0 ≤ x.1) : norm x ∈ pairN k k := by
  rcases hx with rfl | ⟨h1, h2, h3, h4, h5⟩
  · exact absurd h0 (by decide)
  · rw [pairN_mem (Nat.le_refl k)]
    unfold norm
    split <;> simp only <;> omega
theorem norm_eq {k : Nat} {x y : Int × Int} (hx : GoodP k x) (hy : GoodP k y) (h0 : 0 ≤ x.1) (h0' : 0 ≤ y.1) (h : norm x = norm y) : y = x ∨ y = sw x := by
  rcases hx with rfl | ⟨h1, h2, h3, h4, h5⟩
  · exact absurd h0 (by decide)
  · rcases hy with rfl | ⟨g1, g2, g3, g4, g5⟩
    · exact absurd h0' (by decide)
    · unfold norm at h
      split at h <;> split at h <;> simp only [Prod.mk.injEq] at h
      · exact .inl (Prod.ext (by omega) (by omega))
      · exact .inr (Prod.ext (by simp only [sw]; omega) (by simp only [sw]; omega))
      · exact .inr (Prod.ext (by simp only [sw]; omega) (by simp only [sw]; omega))
      · exact .inl (Prod.ext (by omega) (by omega))
theorem run_nonneg {f : Nat → Nat → Int} {k : Nat} {l : List Nat} {x : Int × Int} (hx : GoodP k x) (h : 0 ≤ (runL (nextP f) x l).1) : 0 ≤ x.1 := by
  rcases hx with rfl | hx
  · rw [runL_none] at h; exact absurd h (by decide)
  · exact hx.1
theorem chain_len {f : Nat → Nat → Int} {k : Nat} (ho : Okf k f) (hno : ¬ ∃ a b, a < b ∧ b < k ∧ Loop f a b) {x : Int × Int} {l : List Nat} (hx : GoodP k x) (hl : Ltr l) (h0 : 0 ≤ (runL (nextP f) x l).1) : l.length + 1 ≤ (pairN k k).length := by
  have hlt : ∀ i, Ltr (l.take i) := fun i c hc => hl c (List.mem_of_mem_take hc)
  have hg : ∀ i, GoodP k (runL (nextP f) x (l.take i)) := fun i => hx.run ho (hlt i)
  have hn : ∀ i, 0 ≤ (runL (nextP f) x (l.take i)).1 := fun i => by
    refine run_nonneg (f := f) (l := l.drop i) (hg i) ?_
    rw [← runL_append, List.take_append_drop]; exact h0
  have hnd : ((List.range (l.length + 1)).map fun i => norm (runL (nextP f) x (l.take i))).Nodup := by
    refine List.pairwise_map.2 (List.Pairwise.imp_of_mem (fun {i j} hi hj hij => ?_) List.pairwise_lt_range)
    intro he
    have hj := List.mem_range.1 hj
    refine hno (loop_of ho (v := (l.drop i).take (j - i)) (hg i) (hn i) (fun hh => ?_) (fun c hc => hl c (List.mem_of_mem_drop (List.mem_of_mem_take hc))) ?_)
    · have := congrArg List.length hh
      simp only [List.length_take, List.length_drop, List.length_nil] at this; omega
    · rw [← runL_append, ← List.take_add, show i + (j - i) = j by omega]
      exact norm_eq (hg i) (hg j) (hn i) (hn j) he
  have := nodup_length_le hnd (m := pairN k k) (fun y hy => by
    obtain ⟨i, _, rfl⟩ := List.mem_map.1 hy
    exact norm_mem (hg i) (hn i))
  simpa using this
theorem pairN_len : ∀ k, k ≤ 5 → 2 * (pairN k k).length = k * (k - 1) := by decide
theorem doneB_no {f : Nat → Nat → Int} {k m : Nat} (h : doneB f k m = false) : ∃ t, t < 32 ∧ imgB f k m t = true ∧ 1 < popF t := by
  refine Decidable.byContradiction fun hno => ?_
  rw [Bool.eq_false_iff] at h
  refine h (List.all_eq_true.2 fun s hs => ?_)
  cases hi : imgB f k m s with
  | false => rfl
  | true =>
    have : popF s ≤ 1 := Nat.le_of_not_lt fun hp => hno ⟨s, List.mem_range.1 hs, hi, hp⟩
    simp [this]
theorem doneB_of {f : Nat → Nat → Int} {k m : Nat} (h : ∀ t, t < 32 → imgB f k m t = true → popF t ≤ 1) : doneB f k m = true :=
  List.all_eq_true.2 fun s hs => by
    cases hi : imgB f k m s with
    | false => rfl
    | true => simp [h s (List.mem_range.1 hs) hi]
theorem doneB_not {f : Nat → Nat → Int} {k m t : Nat} (ht : t < 32) (h1 : imgB f k m t = true) (h2 : 1 < popF t) : doneB f k m = false := by
  rw [Bool.eq_false_iff]; intro h
  have := List.all_eq_true.1 h t (List.mem_range.2 ht)
  rw [h1] at this
  simp at this; omega
theorem notdone_len {f : Nat → Nat → Int} {k m : Nat} (ho : Okf k f) (hno : ¬ ∃ a b, a < b ∧ b < k ∧ Loop f a b) (h : doneB f k m = false) : m + 1 ≤ (pairN k k).length := by
  obtain ⟨t, ht, hi, hp⟩ := doneB_no h
  obtain ⟨p, _, q, _, hpq, hbp, hbq⟩ := pop_two t ht hp
  obtain ⟨a, b, l, ha, hb, hab, rfl, hl, hr⟩ := img_chain ho hi (by omega : p ≠ q) hbp hbq
  exact chain_len ho hno (x := ((a : Int), (b : Int))) (.inr ⟨by simp only; omega, by simp only; omega, by simp only; omega, by simp only; omega, by simp only; omega⟩) hl (by rw [hr]; simp only; omega)
theorem memV_of {f : Nat → Nat → Int} {k m : Nat} (hm : m < 33) (h : doneB f k m = true) (hno : ∀ m', m' < m → doneB f k m' = false) : memV f k = some m := by
  unfold memV
  rw [List.find?_range_eq_some]
  exact ⟨h, List.mem_range.2 hm, fun j hj => by rw [hno j hj]; rfl⟩
def runS (f : Nat → Nat → Int) (k : Nat) (s : Nat) (l : List Nat) : Nat := runL (fun s c => stepF f s c k) s l
theorem stepF_zero (f : Nat → Nat → Int) (x : Nat) : ∀ n, stepF f 0 x n = 0
  | 0 => rfl
  | n + 1 => by rw [stepF_neg (by simp), stepF_zero f x n]
end Go.Kx
/- Sets of nodes as the keys of a map. -/
namespace Go.Kx
open Go
theorem pairN_le10 {k : Nat} (h : k ≤ 5) : (pairN k k).length ≤ 10 := by
  have : ∀ k, k ≤ 5 → (pairN k k).length ≤ 10 := by decide
  exact this k h
def keysI (kv : List (Int × Value)) : List Int := kv.map (·.1)
theorem mem_kvSet {t k : Int} {v : Value} : ∀ {kv : List (Int × Value)}, t ∈ keysI (kvSet kv k v) ↔ t = k ∨ t ∈ keysI kv
  | [] => by simp [kvSet, keysI]
  | p :: kv => by
    unfold kvSet
    split
    · rename_i h
      subst h
      simp only [keysI, List.map_cons, List.mem_cons]
      constructor
      · rintro (h | h)
        · exact .inl h
        · exact .inr (.inr h)
      · rintro (h | h | h)
        · exact .inl h
        · exact .inl h
        · exact .inr h
    · have ih := mem_kvSet (t := t) (k := k) (v := v) (kv := kv)
      simp only [keysI] at ih
      simp only [keysI, List.map_cons, List.mem_cons, ih]
      constructor
      · rintro (h | h | h)
        · exact .inr (.inl h)
        · exact .inl h
        · exact .inr (.inr h)
      · rintro (h | h | h)
        · exact .inr (.inl h)
        · exact .inl h
        · exact .inr (.inr h)
def SetsOk (f : Nat → Nat → Int) (k m : Nat) (kv : List (Int × Value)) : Prop := ∀ t : Int, t ∈ keysI kv ↔ ∃ s : Nat, t = s ∧ imgB f k m s = true
theorem sets_zero (f : Nat → Nat → Int) (k : Nat) (v : Value) : SetsOk f k 0 (kvSet [] ((2 ^ k - 1 : Nat) : Int) v) := fun t => by
  rw [mem_kvSet]
  simp only [imgB, beq_iff_eq]
  constructor
  · rintro (h | h)
    · exact ⟨_, h, rfl⟩
    · cases h
  · rintro ⟨s, h, rfl⟩; exact .inl h
def unseen (n : Nat) (seen : List Nat) : Nat := (List.range n).countP fun p => !seen.contains p
theorem unseen_lt {n p : Nat} {seen : List Nat} (hp : p < n) (hs : p ∉ seen) : unseen n (seen ++ [p]) < unseen n seen := by
  unfold unseen
  refine countP_lt (y := p) (fun x _ hx => ?_) (List.mem_range.2 hp) (by simp) (by simpa using hs)
  simp only [Bool.not_eq_true', List.contains_eq_mem, decide_eq_false_iff_not, List.mem_append, not_or] at hx ⊢
  exact hx.1
def From (f : Nat → Nat → Int) (k : Nat) (kv : List (Int × Value)) (seen : List Nat) (t : Int) : Prop := ∃ p, p ∈ seen ∧ ∃ s : Nat, (∃ v, kv[p]? = some ((s : Int), v)) ∧ ∃ x, x < 2 ∧ stepF f s x k ≠ 0 ∧ t = (stepF f s x k : Nat)
def Part (f : Nat → Nat → Int) (k s y : Nat) (t : Int) : Prop := ∃ x, x < y ∧ stepF f s x k ≠ 0 ∧ t = (stepF f s x k : Nat)
def NextOk (f : Nat → Nat → Int) (k : Nat) (kv : List (Int × Value)) (seen : List Nat) (s y : Nat) (kv2 : List (Int × Value)) : Prop := ∀ t, t ∈ keysI kv2 ↔ From f k kv seen t ∨ Part f k s y t
theorem next_start {f : Nat → Nat → Int} {k : Nat} {kv : List (Int × Value)} (s : Nat) : NextOk f k kv [] s 0 [] := fun t => by
  simp [keysI, From, Part]
theorem NextOk.zero {f : Nat → Nat → Int} {k : Nat} {kv kv2 : List (Int × Value)} {seen : List Nat} {s : Nat} (s' : Nat) (h : NextOk f k kv seen s 0 kv2) : NextOk f k kv seen s' 0 kv2 := fun t => by
  rw [h t]; simp [Part]
theorem NextOk.put {f : Nat → Nat → Int} {k : Nat} {kv kv2 : List (Int × Value)} {seen : List Nat} {s y : Nat} {v : Value} (h : NextOk f k kv seen s y kv2) (hne : stepF f s y k ≠ 0) : NextOk f k kv seen s (y + 1) (kvSet kv2 (stepF f s y k : Nat) v) := fun t => by
  rw [mem_kvSet, h t]
  constructor
  · rintro (rfl | h1 | ⟨x, hx, h2, h3⟩)
    · exact .inr ⟨y, by omega, hne, rfl⟩
    · exact .inl h1
    · exact .inr ⟨x, by omega, h2, h3⟩
  · rintro (h1 | ⟨x, hx, h2, h3⟩)
    · exact .inr (.inl h1)
    · rcases Nat.lt_or_ge x y with h4 | h4
      · exact .inr (.inr ⟨x, h4, h2, h3⟩)
      · obtain rfl : x = y := by omega
        exact .inl h3
theorem NextOk.skip {f : Nat → Nat → Int} {k : Nat} {kv kv2 : List (Int × Value)} {seen : List Nat} {s y : Nat} (h : NextOk f k kv seen s y kv2) (hne : stepF f s y k = 0) : NextOk f k kv seen s (y + 1) kv2 := fun t => by
  rw [h t]
  constructor
  · rintro (h1 | ⟨x, hx, h2, h3⟩)
    · exact .inl h1
    · exact .inr ⟨x, by omega, h2, h3⟩
  · rintro (h1 | ⟨x, hx, h2, h3⟩)
    · exact .inl h1
    · rcases Nat.lt_or_ge x y with h4 | h4
      · exact .inr ⟨x, h4, h2, h3⟩
      · obtain rfl : x = y := by omega
        exact absurd hne h2
theorem NextOk.end_ {f : Nat → Nat → Int} {k : Nat} {kv kv2 : List (Int × Value)} {seen : List Nat} {s p : Nat} {v : Value} (h : NextOk f k kv seen s 2 kv2) (hp : kv[p]? = some ((s : Int), v)) (s' : Nat) : NextOk f k kv (seen ++ [p]) s' 0 kv2 := fun t => by
  rw [h t]
  constructor
  · rintro (⟨q, hq, h1⟩ | ⟨x, hx, h2, h3⟩)
    · exact .inl ⟨q, List.mem_append_left _ hq, h1⟩
    · exact .inl ⟨p, by simp, s, ⟨v, hp⟩, x, hx, h2, h3⟩
  · rintro (⟨q, hq, s1, ⟨v1, h0⟩, x, hx, h2, h3⟩ | ⟨x, hx, _⟩)
    · rcases List.mem_append.1 hq with hq | hq
      · exact .inl ⟨q, hq, s1, ⟨v1, h0⟩, x, hx, h2, h3⟩
      · rw [List.mem_singleton.1 hq, hp] at h0
        have := (Prod.mk.inj (Option.some.inj h0)).1
        obtain rfl : s = s1 := by omega
        exact .inr ⟨x, hx, h2, h3⟩
    · omega
theorem NextOk.sets {f : Nat → Nat → Int} {k m : Nat} {kv kv2 : List (Int × Value)} {seen : List Nat} {s : Nat} (ho : Okf k f) (h : NextOk f k kv seen s 0 kv2) (hk : SetsOk f k m kv) (hall : ∀ p, p < kv.length → p ∈ seen) : SetsOk f k (m + 1) kv2 := fun t => by
  rw [h t]
  constructor
  · rintro (⟨p, hp, s1, ⟨v1, h0⟩, x, hx, h2, rfl⟩ | ⟨x, hx, _⟩)
    · obtain ⟨s2, h3, h4⟩ := (hk (s1 : Int)).1 (List.mem_map.2 ⟨_, List.mem_of_getElem? h0, rfl⟩)
      obtain rfl : s1 = s2 := by omega
      have := imgB_lt ho h4
      have := pow_le_32 ho.k5
      exact ⟨_, rfl, imgB_succ.2 ⟨h2, s1, x, by omega, hx, h4, rfl⟩⟩
    · omega
  · rintro ⟨s1, rfl, h1⟩
    obtain ⟨h2, s2, x, h3, hx, h4, rfl⟩ := imgB_succ.1 h1
    obtain ⟨⟨e1, e2⟩, he, heq⟩ := List.mem_map.1 ((hk (s2 : Int)).2 ⟨s2, rfl, h4⟩)
    obtain ⟨j, hj, hje⟩ := List.mem_iff_getElem.1 he
    simp only at heq
    subst heq
    exact .inl ⟨j, hall j hj, s2, ⟨e2, by rw [List.getElem?_eq_getElem hj, hje]⟩, x, hx, h2, rfl⟩
theorem sets_done {f : Nat → Nat → Int} {k m : Nat} {kv : List (Int × Value)} {seen : List Nat} (hk : SetsOk f k m kv) (hall : ∀ p, p < kv.length → p ∈ seen) (hs : ∀ p, p ∈ seen → ∀ q, kv[p]? = some q → popF q.1.toNat ≤ 1) : doneB f k m = true := doneB_of fun t _ hi => by
  obtain ⟨e, he, heq⟩ := List.mem_map.1 ((hk (t : Int)).2 ⟨t, rfl, hi⟩)
  obtain ⟨j, hj, hje⟩ := List.mem_iff_getElem.1 he
  have := hs j (hall j hj) e (by rw [List.getElem?_eq_getElem hj, hje])
  rwa [heq, Int.toNat_natCast] at this
def memoryV (ps : List (Int × Int)) : Int × Bool × Int :=
  if NetOk ps then (if hangsF (tabR ps) ps.length = true then (if dtB (formF (tabR ps) ps.length) (formK (tabR ps) ps.length) = true then (0, false, 0) else ((((memV (formF (tabR ps) ps.length) (formK (tabR ps) ps.length)).getD 0 : Nat) : Int), true, 0)) else (0, false, 5)) else (0, false, 70)
end Go.Kx
/- The reference: equal nodes, the form, doubts. -/
namespace Go.Kx
open Go
theorem tabR_at0 {ps : List (Int × Int)} {a : Int} (h : 0 ≤ a ∧ a < ps.length) : (prs ps)[a.toNat * 2 + (0 : Int).toNat * 1]? = some (.int .i64 (tabR ps a.toNat 0)) := prs_atI (x := 0) h (by decide)
theorem tabR_at1 {ps : List (Int × Int)} {a : Int} (h : 0 ≤ a ∧ a < ps.length) : (prs ps)[a.toNat * 2 + (1 : Int).toNat * 1]? = some (.int .i64 (tabR ps a.toNat 1)) := prs_atI (x := 1) h (by decide)
theorem tabR_aI {ps : List (Int × Int)} {a : Int} {x : Nat} (h : 0 ≤ a ∧ a < ps.length) (hx : x < 2) : (prs ps)[a.toNat * 2 + (x : Int).toNat * 1]? = some (.int .i64 (tabR ps a.toNat x)) := prs_atI h hx
theorem keyA_iff {f : Nat → Nat → Int} {c : List Int} {u v : Nat} : keyA f c u = keyA f c v ↔ c.getD u 0 = c.getD v 0 ∧ kx f c u 0 = kx f c v 0 ∧ kx f c u 1 = kx f c v 1 := by
  constructor
  · intro h
    have h := congrArg Subtype.val h
    simp only [keyA, List.cons.injEq, and_true] at h
    exact h
  · rintro ⟨h1, h2, h3⟩
    refine Subtype.ext ?_
    simp only [keyA, h1, h2, h3]
theorem goes_kx (f : Nat → Nat → Int) (c : List Int) (v x : Nat) : (if f v x < 0 then -1 else c.getD (f v x).toNat 0) = kx f c v x := by
  unfold kx
  by_cases h : 0 ≤ f v x
  · rw [if_neg (by omega), if_pos h]
  · rw [if_pos (by omega), if_neg h]
def LowOk (f : Nat → Nat → Int) (c : List Int) (v : Nat) (a : Int) (low : Nat) : Prop := keyA f c low = keyA f c v ∧ a < low ∧ low ≤ v ∧ ∀ u' : Nat, a < u' → u' < low → ¬ keyA f c u' = keyA f c v
theorem low_start (f : Nat → Nat → Int) (c : List Int) (v : Nat) : LowOk f c v ((v : Int) - 1) v := ⟨rfl, by omega, Nat.le_refl _, fun u' h1 h2 => by omega⟩
theorem low_yes {f : Nat → Nat → Int} {c : List Int} {v un low : Nat} (h : LowOk f c v (un : Int) low) (hk : keyA f c un = keyA f c v) : LowOk f c v ((un : Int) - 1) un := ⟨hk, by omega, by have := h.2.1; have := h.2.2.1; omega, fun u' h1 h2 => by omega⟩
theorem low_no {f : Nat → Nat → Int} {c : List Int} {v un low : Nat} (h : LowOk f c v (un : Int) low) (hk : ¬ keyA f c un = keyA f c v) : LowOk f c v ((un : Int) - 1) low := ⟨h.1, by have := h.2.1; omega, h.2.2.1, fun u' h1 h2 => by
  by_cases he : u' = un
  · rw [he]; exact hk
  · exact h.2.2.2 u' (by omega) h2⟩
theorem low_end {f : Nat → Nat → Int} {c : List Int} {v low : Nat} (h : LowOk f c v (-1) low) : low = clsV f c v := by
  have h1 : clsV f c v ≤ low := cls_min h.1
  rcases Nat.lt_or_ge (clsV f c v) low with h2 | h2
  · exact absurd (cls_key f c v) (h.2.2.2 _ (by omega) h2)
  · omega
theorem eqIter_len (f : Nat → Nat → Int) (k j : Nat) : (eqIter f k j).length = k := (eqIter_canon f k j).len
theorem cls_range {k : Nat} {c : List Int} (h : Canon k c) {v : Nat} (hv : v < k) : 0 ≤ c.getD v 0 ∧ c.getD v 0 < k := by have := h.cls v hv; omega
def numL (c : List Int) (k v : Nat) : List Int := (List.range k).map fun u => if u < v ∧ isFix c u then (rk c u : Int) else 0
theorem numL_len (c : List Int) (k v : Nat) : (numL c k v).length = k := by simp [numL]
theorem numL_zero (c : List Int) (k : Nat) : numL c k 0 = List.replicate k 0 := by
  apply List.ext_getElem
  · simp [numL]
  · intro i h1 h2; simp [numL]
theorem numL_set {c : List Int} {k v : Nat} (h : v < k) (hf : isFix c v) : (numL c k v).set v (rk c v : Int) = numL c k (v + 1) := by
  apply List.ext_getElem
  · simp [numL]
  · intro i h1 h2
    simp only [numL, List.getElem_set, List.getElem_map, List.getElem_range]
    by_cases hv : v = i
    · subst hv; simp [hf]
    · rw [if_neg hv]
      by_cases hi : i < v ∧ isFix c i
      · rw [if_pos hi, if_pos ⟨by omega, hi.2⟩]
      · rw [if_neg hi, if_neg (fun hh => hi ⟨by omega, hh.2⟩)]
theorem numL_skip {c : List Int} {k v : Nat} (hf : ¬ isFix c v) : numL c k v = numL c k (v + 1) := by
  unfold numL
  apply List.map_congr_left
  intro u _
  by_cases hi : u < v ∧ isFix c u
  · rw [if_pos hi, if_pos ⟨by omega, hi.2⟩]
  · rw [if_neg hi, if_neg]
    rintro ⟨h1, h2⟩
    by_cases he : u = v
    · subst he; exact hf h2
    · exact hi ⟨by omega, h2⟩
theorem numL_get {c : List Int} {k v u : Nat} (hu : u < v) (hk : u < k) (hf : isFix c u) : (numL c k v).getD u 0 = rk c u := by
  simp [numL, List.getD, hk, hu, hf]
def formL (f : Nat → Nat → Int) (c : List Int) : Nat → List (Int × Int)
  | 0 => []
  | v + 1 => if isFix c v then formL f c v ++ [(fval f c v 0, fval f c v 1)] else formL f c v
theorem formL_len (f : Nat → Nat → Int) (c : List Int) : ∀ v, (formL f c v).length = rk c v
  | 0 => rfl
  | v + 1 => by
    unfold formL rk
    split
    · rw [List.length_append, formL_len f c v]; rfl
    · exact formL_len f c v
def rowX (f : Nat → Nat → Int) (c : List Int) (v x : Nat) : Int × Int := (if 0 < x then fval f c v 0 else -1, if 1 < x then fval f c v 1 else -1)
theorem fval_cls {k : Nat} {f : Nat → Nat → Int} {c : List Int} (h : Canon k c) {v x : Nat} (h0 : 0 ≤ f v x) (hk : f v x < k) : (numL c k k).getD (c.getD (f v x).toNat 0).toNat 0 = fval f c v x := by
  have h1 := h.cls (f v x).toNat (by omega)
  rw [numL_get (by omega) (by omega) (h.fix (by omega)), fval, if_pos h0]
theorem getD_snoc {α : Type} (a : List α) (x d : α) (i : Nat) : (a ++ [x]).getD i d = if i < a.length then a.getD i d else if i = a.length then x else d := by
  simp only [List.getD]
  by_cases h : i < a.length
  · rw [List.getElem?_append_left h, if_pos h]
  · rw [List.getElem?_append_right (by omega), if_neg h]
    by_cases he : i = a.length
    · rw [if_pos he, he, Nat.sub_self]; rfl
    · rw [if_neg he, List.getElem?_eq_none (by simp; omega)]; rfl
theorem formL_tab (f : Nat → Nat → Int) (c : List Int) : ∀ (v : Nat), v ≤ 5 → ∀ (i x : Nat), i < rk c v → x < 2 → tabR (formL f c v) i x = tabN (fmTo f c v) i x
  | 0, _, i, x, hi, _ => absurd hi (Nat.not_lt_zero i)
  | v + 1, hv5, i, x, hi, hx => by
    have ih := formL_tab f c v (by omega)
    have hle := rk_le c v
    unfold rk at hi
    by_cases hf : isFix c v
    · rw [if_pos hf] at hi
      have hl := fmTo_len f c v
      have hl2 := formL_len f c v
      unfold tabR tabN formL fmTo
      rw [if_pos hf, if_pos hf, getD_snoc, getD_set (by rw [List.length_set]; omega), getD_set (by omega)]
      by_cases he : i = rk c v
      · rw [if_neg (by omega), if_pos (by omega)]
        obtain rfl | rfl : x = 0 ∨ x = 1 := by omega
        · rw [if_neg (by omega), if_pos (by omega)]; rfl
        · rw [if_pos (by omega)]; rfl
      · rw [if_pos (by omega), if_neg (by omega), if_neg (by omega)]
        exact ih i x (by omega) hx
    · rw [if_neg hf] at hi
      unfold formL fmTo
      rw [if_neg hf, if_neg hf]
      exact ih i x hi hx
def rDoubtB (ps : List (Int × Int)) (s : ByteArray) (a b : Int) : Bool :=
  if (0 ≤ a ∧ a < b ∧ b < ps.length ∧ 1 ≤ s.size) ∧ wordTo s s.size = true then decide (fromTo (tabR ps) ps.length (2 ^ a.toNat) s s.size = 2 ^ a.toNat) && decide (fromTo (tabR ps) ps.length (2 ^ b.toNat) s s.size = 2 ^ b.toNat) else false
theorem rDoubt_no {ps : List (Int × Int)} {s : ByteArray} {a b : Int} (h : ¬ ((0 ≤ a ∧ a < b ∧ b < ps.length ∧ 1 ≤ s.size) ∧ wordTo s s.size = true)) : rDoubtB ps s a b = false := if_neg h
end Go.Kx
/- The examples that every statement holds. -/
namespace Go.Kx
open Go
def oneL : List (Int × Int) := [(0, 1), (0, -1)]
def evenL : List (Int × Int) := [(0, 1), (-1, 0)]
theorem mem_one : memoryV oneL = (1, true, 0) := by decide +kernel
theorem mem_even : (memoryV evenL).2 = (false, 0) := by decide +kernel
theorem forb_one : forbV oneL 2 = ([⟨#[98, 98]⟩], 0) := by decide +kernel
theorem forb_even : forbV evenL 3 = ([⟨#[97, 98, 97]⟩], 0) := by decide +kernel
theorem rounds_even : roundsV evenL 4 = (6, 0) := by decide +kernel
theorem signed_even : signedW evenL 3 = (5, 0) := by decide +kernel
theorem doubt_even : (doubtV evenL).2.2 = (true, 0) := by decide +kernel
theorem rdoubt_even : rDoubtB (formL (tabR evenL) (eqV (tabR evenL) evenL.length) evenL.length) (doubtV evenL).1 (doubtV evenL).2.1.1 (doubtV evenL).2.1.2 = true := by decide +kernel
theorem form_even : formL (tabR evenL) (eqV (tabR evenL) evenL.length) evenL.length = evenL := by decide +kernel
end Go.Kx
/- Nets made of any numbers. -/
namespace Go.Kx
open Go
def rset (r : Int × Int) (x : Nat) (z : Int) : Int × Int := if x = 0 then (z, r.2) else (r.1, z)
def pcells (r : Int × Int) : List Value := [.int .i64 r.1, .int .i64 r.2]
theorem pcells_set {r : Int × Int} {x : Nat} {z : Int} (hx : x < 2) : (pcells r).set (0 + (x : Int).toNat * 1) (.int .i64 z) = pcells (rset r x z) := by
  obtain rfl | rfl : x = 0 ∨ x = 1 := by omega
  · rfl
  · rfl
theorem pcells_set0 {r : Int × Int} {z : Int} : (pcells r).set (0 + (0 : Int).toNat * 1) (.int .i64 z) = pcells (rset r 0 z) := rfl
theorem pcells_set1 {r : Int × Int} {z : Int} : (pcells r).set (0 + (1 : Int).toNat * 1) (.int .i64 z) = pcells (rset r 1 z) := rfl
def RwOk (k : Nat) (r : Int × Int) : Prop := (-1 ≤ r.1 ∧ r.1 < k) ∧ (-1 ≤ r.2 ∧ r.2 < k)
theorem RwOk.set {k : Nat} {r : Int × Int} {x : Nat} {z : Int} (h : RwOk k r) (hz : -1 ≤ z ∧ z < k) : RwOk k (rset r x z) := by
  unfold rset
  split
  · exact ⟨hz, h.2⟩
  · exact ⟨h.1, hz⟩
def RingR (k : Nat) (v : Nat) (r : Int × Int) : Prop := r.1 = ((v : Int) + 1) % k ∨ r.2 = ((v : Int) + 1) % k
theorem ring_set {k v : Nat} {r : Int × Int} {x : Nat} (hx : x < 2) : RingR k v (rset r x (((v : Int) + 1) % k)) := by
  obtain rfl | rfl : x = 0 ∨ x = 1 := by omega
  · exact .inl rfl
  · exact .inr rfl
theorem ring_set1 {k v : Nat} (r : Int × Int) : RingR k v (rset r 1 (((v : Int) + 1) % k)) := .inr rfl
def RowsOk (k : Nat) (j : Bool) (qs : List (Int × Int)) : Prop := ∀ i, i < qs.length → RwOk k (qs.getD i (0, 0)) ∧ (j = true → RingR k i (qs.getD i (0, 0)))
theorem RowsOk.snoc {k : Nat} {j : Bool} {qs : List (Int × Int)} {r : Int × Int} (h : RowsOk k j qs) (hr : RwOk k r) (hj : j = true → RingR k qs.length r) : RowsOk k j (qs ++ [r]) := fun i hi => by
  rw [getD_snoc]
  by_cases h1 : i < qs.length
  · rw [if_pos h1]; exact h i h1
  · rw [List.length_append, List.length_singleton] at hi
    obtain rfl : i = qs.length := by omega
    rw [if_neg h1, if_pos rfl]; exact ⟨hr, hj⟩
theorem mod_lt {k : Nat} (hk : 1 ≤ k) (z : Int) : 0 ≤ z % (k : Int) ∧ z % (k : Int) < k := ⟨Int.emod_nonneg _ (by omega), Int.emod_lt_of_pos _ (by omega)⟩
def put0 (k : Nat) (qs : List (Int × Int)) (i : Nat) : List (Int × Int) := qs.set i (((i : Int) + 1) % k, (qs.getD i (0, 0)).2)
theorem put0_len (k : Nat) (qs : List (Int × Int)) (i : Nat) : (put0 k qs i).length = qs.length := by simp [put0]
theorem RowsOk.put {k : Nat} {j : Bool} {qs : List (Int × Int)} {i : Nat} (h : RowsOk k j qs) (hk : 1 ≤ k) (hi : i < qs.length) : RowsOk k j (put0 k qs i) := fun i' hi' => by
  rw [put0_len] at hi'
  unfold put0
  rw [getD_set hi]
  by_cases he : i = i'
  · subst he
    rw [if_pos rfl]
    exact ⟨⟨by have := mod_lt hk ((i : Int) + 1); simp only; omega, (h i hi).1.2⟩, fun _ => .inl rfl⟩
  · rw [if_neg he]; exact h i' hi'
theorem put0_get {k : Nat} {qs : List (Int × Int)} {i : Nat} (hi : i < qs.length) (i' : Nat) : ((put0 k qs i).getD i' (0, 0)).1 = if i = i' then ((i : Int) + 1) % k else (qs.getD i' (0, 0)).1 := by
  unfold put0
  rw [getD_set hi]
  split <;> rfl
theorem prs_set : ∀ {ps : List (Int × Int)} {i : Nat} {z : Int}, i < ps.length → (prs ps).set (i * 2) (.int .i64 z) = prs (ps.set i (z, (ps.getD i (0, 0)).2))
  | [], _, _, h => by simp at h
  | p :: ps, 0, z, _ => by simp [prs]
  | p :: ps, i + 1, z, h => by
    have ih := prs_set (ps := ps) (i := i) (z := z) (by simpa using h)
    rw [show (i + 1) * 2 = i * 2 + 2 by omega]
    simp only [prs, List.flatMap_cons, List.cons_append, List.nil_append, List.set_cons_succ, List.getD_cons_succ] at ih ⊢
    rw [ih]
theorem prs_put0 {k : Nat} {ps : List (Int × Int)} {i : Nat} (h : i < ps.length) : (prs ps).set ((i : Int).toNat * 2 + (0 : Int).toNat * 1) (.int .i64 (((i : Int) + 1) % k)) = prs (put0 k ps i) := by
  have e : (i : Int).toNat * 2 + (0 : Int).toNat * 1 = i * 2 := by simp
  rw [e, prs_set h]; rfl
theorem ring_prev {k v : Nat} (hv : v < k) : ∃ u : Nat, u < k ∧ ((v : Int) + k - 1) % k = u ∧ (v : Int) = ((u : Int) + 1) % k := by
  by_cases h0 : v = 0
  · subst h0
    refine ⟨k - 1, by omega, ?_, ?_⟩
    · rw [show ((0 : Nat) : Int) + (k : Int) - 1 = ((k - 1 : Nat) : Int) by omega, Int.emod_eq_of_lt (by omega) (by omega)]
    · rw [show ((k - 1 : Nat) : Int) + 1 = (k : Int) by omega, Int.emod_self]; rfl
  · refine ⟨v - 1, by omega, ?_, ?_⟩
    · rw [show (v : Int) + (k : Int) - 1 = ((v - 1 : Nat) : Int) + (k : Int) by omega, Int.add_emod_right, Int.emod_eq_of_lt (by omega) (by omega)]
    · rw [show ((v - 1 : Nat) : Int) + 1 = (v : Int) by omega, Int.emod_eq_of_lt (by omega) (by omega)]
theorem netOk_ring {qs : List (Int × Int)} (h1 : 1 ≤ qs.length ∧ qs.length ≤ 5) {j : Bool} (hr : RowsOk qs.length j qs) (hring : ∀ v, v < qs.length → RingR qs.length v (qs.getD v (0, 0))) : NetOk qs := by
  have hrow : ∀ v, v < qs.length → RowOk qs v := fun v hv => by
    have h := (hr v hv).1
    have hg := hring v hv
    have hm := mod_lt h1.1 ((v : Int) + 1)
    refine ⟨fun x hx => ?_, ?_⟩
    · obtain rfl | rfl : x = 0 ∨ x = 1 := by omega
      · exact h.1
      · exact h.2
    · rw [tabR_0, tabR_1]
      rintro ⟨e1, e2⟩
      rcases hg with hg | hg <;> omega
  refine ⟨h1, hrow, (into_iff hrow).2 fun t ht => ?_⟩
  obtain ⟨u, hu, _, hut⟩ := ring_prev ht
  rcases hring u hu with hg | hg
  · exact ⟨2 * u, by omega, by rw [show 2 * u / 2 = u by omega, show 2 * u % 2 = 0 by omega, tabR_0, hg, hut]⟩
  · exact ⟨2 * u + 1, by omega, by rw [show (2 * u + 1) / 2 = u by omega, show (2 * u + 1) % 2 = 1 by omega, tabR_1, hg, hut]⟩
def Tamed (j : Bool) (qs : List (Int × Int)) : Prop := NetOk qs ∧ (j = true → ∀ v, v < qs.length → RingR qs.length v (qs.getD v (0, 0)))
end Go.Kx
/- Words made of any text. -/
namespace Go.Kx
open Go
theorem wordB_of_lets {s : ByteArray} (h : Lets s) (hs : s.size ≤ 100) : wordB s = true := by
  unfold wordB
  rw [(wordTo_iff s s.size).2 h, decide_eq_true hs]; rfl
end Go.Kx
/- The form, where it lies. -/
namespace Go.Kx
open Go
def formLV (ps : List (Int × Int)) : List (Int × Int) := formL (tabR ps) (eqV (tabR ps) ps.length) ps.length
theorem formL_congr {f g : Nat → Nat → Int} {k : Nat} {c : List Int} (h : ∀ i x, i < k → x < 2 → f i x = g i x) : ∀ v, v ≤ k → formL f c v = formL g c v
  | 0, _ => rfl
  | v + 1, hv => by
    have ih := formL_congr (c := c) h v (by omega)
    unfold formL fval
    rw [ih, h v 0 (by omega) (by decide), h v 1 (by omega) (by decide)]
theorem Net.formLV {ps : List (Int × Int)} {nx : List Int} (h : Net ps nx) : formL (tabN nx) (eqV (tabN nx) ps.length) ps.length = Kx.formLV ps := by
  unfold Kx.formLV
  rw [h.eqv, formL_congr (fun _ _ hi hx => h.tab hi hx) _ (Nat.le_refl _)]
theorem formLV_len (ps : List (Int × Int)) : (formLV ps).length = formK (tabR ps) ps.length := formL_len _ _ _
end Go.Kx
/- Words as numbers; round words, both ways of telling them. -/
namespace Go.Kx
open Go
theorem ne_zero_bit {m : Nat} (h : m ≠ 0) : ∃ t, m.testBit t = true := by
  refine Classical.byContradiction fun hno => h (Nat.eq_of_testBit_eq fun t => ?_)
  rw [Nat.zero_testBit]
  cases hb : m.testBit t with
  | false => rfl
  | true => exact absurd ⟨t, hb⟩ hno
end Go.Kx
/- Signed sums, both ways of telling them. -/
namespace Go.Kx
open Go
def rsBad (to : List Int) (set met v : Nat) : Prop := to.getD v 0 = 0 ∨ ¬ andNotI .i64 (to.getD v 0) (set : Int) = 0 ∨ ¬ ((to.getD v 0).toNat &&& met) = 0
instance (to : List Int) (set met v : Nat) : Decidable (rsBad to set met v) := by unfold rsBad; infer_instance
def rto (z : Int) : Int := if z < 0 then 0 else ((2 ^ z.toNat : Nat) : Int)
structure SgOk (ts to : List Int) (k set : Nat) : Prop where
  k5 : k ≤ 5
  len : to.length = k
  set : set < 32
  lo : ∀ v, v < k → -1 ≤ ts.getD v 0 ∧ ts.getD v 0 < 5
  to : ∀ v, v < k → to.getD v 0 = rto (ts.getD v 0)
end Go.Kx
/- Signed sums, step by step; the form's own table. -/
namespace Go.Kx
open Go
theorem Okf.congr {f g : Nat → Nat → Int} {k : Nat} (ho : Okf k f) (h : ∀ i x, i < k → x < 2 → f i x = g i x) : Okf k g := ⟨ho.k5, fun i x hi hx => by rw [← h i x hi hx]; exact ho.lo i x hi hx, fun i x hi hx => by rw [← h i x hi hx]; exact ho.hi i x hi hx⟩
theorem formLV_tab {ps : List (Int × Int)} (hk : ps.length ≤ 5) : ∀ i x, i < formK (tabR ps) ps.length → x < 2 → formF (tabR ps) ps.length i x = tabR (formLV ps) i x := fun i x hi hx => (formL_tab _ _ _ hk i x hi hx).symm
theorem formLV_okf {ps : List (Int × Int)} (hn : NetOk ps) : Okf (formLV ps).length (tabR (formLV ps)) := by
  rw [formLV_len]
  exact (form_okf (eqIter_canon (tabR ps) ps.length ps.length) hn.okf hn.1.1).congr (formLV_tab hn.okf.k5)
end Go.Kx
/- The form has the net's words. -/
namespace Go.Kx
open Go
theorem eqV_stands {f : Nat → Nat → Int} {k : Nat} (hk : 1 ≤ k) : newC f k (eqV f k) = eqV f k := by
  have hex : ∃ j, j < k ∧ eqIter f k (j + 1) = eqIter f k j := by
    refine Decidable.byContradiction fun hno => ?_
    have h1 := eqIter_fixes (f := f) hk k (fun i hi he => hno ⟨i, hi, he⟩)
    have h2 := fixes_le k (eqIter f k k)
    omega
  obtain ⟨j, hj, he⟩ := hex
  have h1 := eqIter_stay he k (by omega)
  have h2 := eqIter_stay he (k + 1) (by omega)
  show eqIter f k (k + 1) = eqIter f k k
  rw [h1, h2]
theorem eqV_kx {f : Nat → Nat → Int} {k u v x : Nat} (hk : 1 ≤ k) (hu : u < k) (hv : v < k) (hx : x < 2) (h : (eqV f k).getD u 0 = (eqV f k).getD v 0) : kx f (eqV f k) u x = kx f (eqV f k) v x := by
  have e := eqV_stands (f := f) hk
  have eu : (eqV f k).getD u 0 = clsV f (eqV f k) u := by
    have h1 := newC_get (f := f) (c := eqV f k) hu
    rwa [e] at h1
  have ev : (eqV f k).getD v 0 = clsV f (eqV f k) v := by
    have h1 := newC_get (f := f) (c := eqV f k) hv
    rwa [e] at h1
  have hc : clsV f (eqV f k) u = clsV f (eqV f k) v := by omega
  have hkey : keyA f (eqV f k) u = keyA f (eqV f k) v := by rw [← cls_key f (eqV f k) u, ← cls_key f (eqV f k) v, hc]
  have h3 := keyA_iff.1 hkey
  obtain rfl | rfl : x = 0 ∨ x = 1 := by omega
  · exact h3.2.1
  · exact h3.2.2
structure Hom (f : Nat → Nat → Int) (k : Nat) (g : Nat → Nat → Int) (K : Nat) (ρ : Nat → Nat) : Prop where
  lt : ∀ v, v < k → ρ v < K
  onto : ∀ t, t < K → ∃ v, v < k ∧ ρ v = t
  go : ∀ v x, v < k → x < 2 → g (ρ v) x = if 0 ≤ f v x then (ρ (f v x).toNat : Int) else -1
def rho (f : Nat → Nat → Int) (k v : Nat) : Nat := rk (eqV f k) ((eqV f k).getD v 0).toNat
theorem fm_at {f : Nat → Nat → Int} {c : List Int} {v x : Nat} (hx : x < 2) (hf : isFix c v) : ∀ {k}, v < k → k ≤ 5 → tabN (fmTo f c k) (rk c v) x = fval f c v x
  | 0, h, _ => absurd h (Nat.not_lt_zero v)
  | k + 1, h, h5 => by
    have hl := fmTo_len f c k
    have hle := rk_le c k
    unfold tabN fmTo
    rcases Nat.lt_or_ge v k with h1 | h1
    · have ih := fm_at (f := f) hx hf h1 (by omega)
      unfold tabN at ih
      split
      · have hlt := rk_lt (c := c) h1 hf
        rw [getD_set (by rw [List.length_set]; omega), getD_set (by omega), if_neg (by omega), if_neg (by omega)]; exact ih
      · exact ih
    · obtain rfl : v = k := by omega
      rw [if_pos hf, getD_set (by rw [List.length_set]; omega), getD_set (by omega)]
      obtain rfl | rfl : x = 0 ∨ x = 1 := by omega
      · rw [if_neg (by omega), if_pos (by omega)]
      · rw [if_pos (by omega)]
theorem rk_onto {c : List Int} : ∀ {k t}, t < rk c k → ∃ v, v < k ∧ isFix c v ∧ rk c v = t
  | 0, t, h => absurd h (Nat.not_lt_zero t)
  | k + 1, t, h => by
    unfold rk at h
    split at h
    · rename_i hf
      rcases Nat.lt_or_ge t (rk c k) with h1 | h1
      · obtain ⟨v, h2, h3⟩ := rk_onto h1
        exact ⟨v, by omega, h3⟩
      · exact ⟨k, by omega, hf, by omega⟩
    · obtain ⟨v, h2, h3⟩ := rk_onto h
      exact ⟨v, by omega, h3⟩
theorem form_hom {f : Nat → Nat → Int} {k : Nat} (ho : Okf k f) (hk : 1 ≤ k) : Hom f k (formF f k) (formK f k) (rho f k) := by
  have hc : Canon k (eqV f k) := eqIter_canon f k k
  have h5 := ho.k5
  refine ⟨fun v hv => ?_, fun t ht => ?_, fun v x hv hx => ?_⟩
  · have h1 := hc.cls v hv
    exact rk_lt (by omega) (hc.fix hv)
  · obtain ⟨v, hv, hf, hr⟩ := rk_onto ht
    refine ⟨v, hv, ?_⟩
    unfold rho
    have : (eqV f k).getD v 0 = (v : Int) := hf
    rw [this, Int.toNat_natCast]; exact hr
  · have h1 := hc.cls v hv
    obtain ⟨u, hu⟩ : ∃ u, ((eqV f k).getD v 0).toNat = u := ⟨_, rfl⟩
    have hf : isFix (eqV f k) u := by rw [← hu]; exact hc.fix hv
    have hek : (eqV f k).getD u 0 = (eqV f k).getD v 0 := by rw [← hu]; exact h1.2.2
    have hkx := eqV_kx (f := f) hk (show u < k by omega) hv hx hek
    have e1 : formF f k (rho f k v) x = fval f (eqV f k) u x := by
      unfold formF rho
      rw [hu]; exact fm_at hx hf (by omega) h5
    have hcl : ∀ w, w < k → 0 ≤ f w x → 0 ≤ (eqV f k).getD (f w x).toNat 0 := fun w hw h0 => by
      have := ho.hi w x hw hx
      exact (hc.cls (f w x).toNat (by omega)).1
    rw [e1]
    unfold fval
    unfold kx at hkx
    by_cases hu0 : 0 ≤ f u x
    · rw [if_pos hu0] at hkx ⊢
      have hcu := hcl u (by omega) hu0
      by_cases hv0 : 0 ≤ f v x
      · rw [if_pos hv0] at hkx ⊢
        rw [hkx]; rfl
      · rw [if_neg hv0] at hkx; omega
    · rw [if_neg hu0] at hkx ⊢
      by_cases hv0 : 0 ≤ f v x
      · rw [if_pos hv0] at hkx
        have hcv := hcl v hv hv0
        omega
      · rw [if_neg hv0]
theorem Hom.congr {f : Nat → Nat → Int} {k : Nat} {g g' : Nat → Nat → Int} {K : Nat} {ρ : Nat → Nat} (h : Hom f k g K ρ) (e : ∀ i x, i < K → x < 2 → g i x = g' i x) : Hom f k g' K ρ := ⟨h.lt, h.onto, fun v x hv hx => by rw [← e _ x (h.lt v hv) hx]; exact h.go v x hv hx⟩
def RelS (k : Nat) (ρ : Nat → Nat) (s t : Nat) : Prop := ∀ i, t.testBit i = true ↔ ∃ v, v < k ∧ s.testBit v = true ∧ ρ v = i
theorem RelS.step {f : Nat → Nat → Int} {k : Nat} {g : Nat → Nat → Int} {K : Nat} {ρ : Nat → Nat} (h : Hom f k g K ρ) (ho : Okf k f) {s t x : Nat} (hx : x < 2) (hr : RelS k ρ s t) : RelS k ρ (stepF f s x k) (stepF g t x K) := fun i => by
  rw [stepF_bit]
  constructor
  · rintro ⟨j, _, hj, hg⟩
    obtain ⟨v, hv, hs, rfl⟩ := (hr j).1 hj
    rw [h.go v x hv hx] at hg
    have hhi := ho.hi v x hv hx
    split at hg
    · rename_i h0
      exact ⟨(f v x).toNat, by omega, (stepF_bit k).2 ⟨v, hv, hs, by omega⟩, by omega⟩
    · omega
  · rintro ⟨u, hu, hs, hρ⟩
    obtain ⟨v, hv, hs', hf⟩ := (stepF_bit k).1 hs
    refine ⟨ρ v, h.lt v hv, (hr _).2 ⟨v, hv, hs', rfl⟩, ?_⟩
    rw [h.go v x hv hx, if_pos (by omega), hf, Int.toNat_natCast, hρ]
theorem RelS.zero {k : Nat} {ρ : Nat → Nat} {s t : Nat} (hr : RelS k ρ s t) (hs : s < 2 ^ k) : t = 0 ↔ s = 0 := by
  constructor
  · intro h0
    refine Classical.byContradiction fun hne => ?_
    obtain ⟨v, hv⟩ := ne_zero_bit hne
    have := (hr (ρ v)).2 ⟨v, bit_lt hs hv, hv, rfl⟩
    rw [h0, Nat.zero_testBit] at this; cases this
  · intro h0
    refine Classical.byContradiction fun hne => ?_
    obtain ⟨i, hi⟩ := ne_zero_bit hne
    obtain ⟨v, _, hv, _⟩ := (hr i).1 hi
    rw [h0, Nat.zero_testBit] at hv; cases hv
theorem RelS.from {f : Nat → Nat → Int} {k : Nat} {g : Nat → Nat → Int} {K : Nat} {ρ : Nat → Nat} (h : Hom f k g K ρ) (ho : Okf k f) {s t : Nat} (hr : RelS k ρ s t) {u : ByteArray} (hl : Lets u) : ∀ j, j ≤ u.size → RelS k ρ (fromTo f k s u j) (fromTo g K t u j)
  | 0, _ => hr
  | j + 1, hj => by
    have hlj := hl j (by omega)
    exact RelS.step h ho (by omega) (RelS.from h ho hr hl j (by omega))
theorem formLV_hom {ps : List (Int × Int)} (hn : NetOk ps) : Hom (tabR ps) ps.length (tabR (formLV ps)) (formLV ps).length (rho (tabR ps) ps.length) := by
  rw [formLV_len]
  exact (form_hom hn.okf hn.1.1).congr (formLV_tab hn.okf.k5)
theorem hom_net {ps qs : List (Int × Int)} {ρ : Nat → Nat} (h : Hom (tabR ps) ps.length (tabR qs) qs.length ρ) (hn : NetOk ps) (ho : Okf qs.length (tabR qs)) : NetOk qs := by
  have hrow : ∀ t, t < qs.length → RowOk qs t := fun t ht => by
    refine ⟨fun x hx => ⟨ho.lo t x ht hx, ho.hi t x ht hx⟩, ?_⟩
    rintro ⟨h0, h1⟩
    obtain ⟨v, hv, rfl⟩ := h.onto t ht
    rw [h.go v 0 hv (by decide)] at h0
    rw [h.go v 1 hv (by decide)] at h1
    have hr := hn.2.1 v hv
    have e0 := hr.1 0 (by decide)
    have e1 := hr.1 1 (by decide)
    refine hr.2 ⟨?_, ?_⟩
    · split at h0 <;> omega
    · split at h1 <;> omega
  obtain ⟨v0, hv0, _⟩ : ∃ v, v < ps.length ∧ ρ v = ρ v := ⟨0, hn.1.1, rfl⟩
  have hpos := h.lt v0 hv0
  refine ⟨⟨by omega, ho.k5⟩, hrow, (into_iff hrow).2 fun t ht => ?_⟩
  obtain ⟨v, hv, rfl⟩ := h.onto t ht
  obtain ⟨j, hj, he⟩ := (into_iff hn.2.1).1 hn.2.2 v hv
  have hu : j / 2 < ps.length := by omega
  have hx : j % 2 < 2 := by omega
  have hlt := h.lt (j / 2) hu
  refine ⟨2 * ρ (j / 2) + j % 2, by omega, ?_⟩
  rw [show (2 * ρ (j / 2) + j % 2) / 2 = ρ (j / 2) by omega, show (2 * ρ (j / 2) + j % 2) % 2 = j % 2 by omega, h.go _ _ hu hx, if_pos (by omega), he, Int.toNat_natCast]
theorem formLV_net {ps : List (Int × Int)} (hn : NetOk ps) : NetOk (formLV ps) := hom_net (formLV_hom hn) hn (formLV_okf hn)
end Go.Kx
/- The signed sum of a word is 1 if it is round and 0 otherwise: all maps of five nodes, tried. -/
namespace Go.Kx
open Go
def enc (z : Int) : Nat := if z < 0 then 7 else z.toNat
def tn (ts : List Int) (v : Nat) : Nat := enc (ts.getD v 0)
end Go.Kx
/- Words round and forbidden, told by Is; no long forbidden words. -/
namespace Go.Kx
open Go
def runB (f : Nat → Nat → Int) (k : Nat) (b : Nat → Nat) : Nat → Nat → Nat
  | s, 0 => s
  | s, j + 1 => stepF f (runB f k b s j) (b j) k
theorem runB_from {f : Nat → Nat → Int} {k set : Nat} {s : ByteArray} {b : Nat → Nat} : ∀ {j}, (∀ i, i < j → byt s i - 97 = b i) → fromTo f k set s j = runB f k b set j
  | 0, _ => rfl
  | j + 1, h => by rw [fromTo, runB, runB_from (j := j) (fun i hi => h i (by omega)), h j (by omega)]
end Go.Kx
/- Two nodes to which some word comes back, by a list of what is reached. -/
namespace Go.Kx
open Go
def nq (f : Nat → Nat → Int) (y : Int × Int) (c : Nat) : Int × Int := (f y.1.toNat c, f y.2.toNat c)
def okQ (y : Int × Int) : Prop := 0 ≤ y.1 ∧ 0 ≤ y.2
inductive RQ (f : Nat → Nat → Int) (s : Int × Int) : Int × Int → Prop
  | one {c : Nat} : c < 2 → okQ (nq f s c) → RQ f s (nq f s c)
  | more {y : Int × Int} {c : Nat} : RQ f s y → c < 2 → okQ (nq f y c) → RQ f s (nq f y c)
structure LS (f : Nat → Nat → Int) (k : Nat) (s : Int × Int) (i x : Nat) (l : List (Int × Int)) : Prop where
  head : l[0]? = some s
  dom : ∀ y ∈ l, 0 ≤ y.1 ∧ y.1 < k ∧ 0 ≤ y.2 ∧ y.2 < k
  rch : ∀ y ∈ l.drop 1, RQ f s y
  nd : (l.drop 1).Nodup
  no : s ∉ l.drop 1
  cl : ∀ (j : Nat) (y : Int × Int) (c : Nat), l[j]? = some y → c < 2 → (j < i ∨ j = i ∧ c < x) → okQ (nq f y c) → nq f y c ∈ l.drop 1
theorem LS.start {f : Nat → Nat → Int} {k : Nat} {s : Int × Int} (h : 0 ≤ s.1 ∧ s.1 < k ∧ 0 ≤ s.2 ∧ s.2 < k) : LS f k s 0 0 [s] :=
  ⟨rfl, fun y hy => by rw [List.mem_singleton.1 hy]; exact h, fun y hy => (by cases hy), List.nodup_nil, (by intro h; cases h), fun j y c _ _ h => by omega⟩
theorem LS.pos {f : Nat → Nat → Int} {k : Nat} {s : Int × Int} {i x : Nat} {l : List (Int × Int)} (h : LS f k s i x l) : 0 < l.length := (List.getElem?_eq_some_iff.1 h.head).1
theorem LS.len {f : Nat → Nat → Int} {k : Nat} {s : Int × Int} {i x : Nat} {l : List (Int × Int)} (h : LS f k s i x l) (hk : k ≤ 5) : l.length ≤ 27 := by
  have h1 := nodup_length_le h.nd (m := domP k) (fun y hy => domP_mem (.inr (h.dom y (List.mem_of_mem_drop hy))))
  have h2 := domP_len hk
  rw [List.length_drop] at h1
  omega
theorem LS.skip {f : Nat → Nat → Int} {k : Nat} {s : Int × Int} {i x : Nat} {l : List (Int × Int)} (h : LS f k s i x l) {y : Int × Int} (hy : l[i]? = some y) (hn : ¬ okQ (nq f y x) ∨ nq f y x ∈ l.drop 1) : LS f k s i (x + 1) l := by
  refine ⟨h.head, h.dom, h.rch, h.nd, h.no, fun j z c hz hc hj hok => ?_⟩
  by_cases he : j = i ∧ c = x
  · obtain ⟨rfl, rfl⟩ := he
    rw [hy] at hz
    obtain rfl := Option.some.inj hz
    exact hn.elim (fun g => absurd hok g) id
  · exact h.cl j z c hz hc (by omega) hok
theorem LS.found {f : Nat → Nat → Int} {k : Nat} {s : Int × Int} {i x : Nat} {l : List (Int × Int)} (h : LS f k s i x l) {y : Int × Int} (hy : l[i]? = some y) (hx : x < 2) (hok : okQ (nq f y x)) (hs : nq f y x = s) : RQ f s s := by
  rcases Nat.eq_zero_or_pos i with h0 | h0
  · subst h0
    rw [h.head] at hy
    obtain rfl := Option.some.inj hy
    have := RQ.one (s := s) hx hok
    rwa [hs] at this
  · have hm : y ∈ l.drop 1 := by
      refine List.mem_of_getElem? (i := i - 1) ?_
      rw [List.getElem?_drop, show 1 + (i - 1) = i by omega]; exact hy
    have := RQ.more (h.rch y hm) hx hok
    rwa [hs] at this
end Go.Kx
/- The doubt's word is a doubt; what Memory and Doubt tell beside the reference. -/
namespace Go.Kx
open Go
theorem letterS_byt : ∀ c, c < 2 → byt (letterS c) 0 = 97 + c ∧ (letterS c).size = 1 := by decide +kernel
theorem wordOf_snoc (l : List Nat) (c : Nat) : wordOf (l ++ [c]) ⟨#[]⟩ = wordOf l ⟨#[]⟩ ++ letterS c := by rw [wordOf_append]; rfl
theorem word_run {f : Nat → Nat → Int} {k : Nat} (s : Nat) : ∀ (n : Nat) (l : List Nat), l.length = n → Ltr l → Lets (wordOf l ⟨#[]⟩) ∧ (wordOf l ⟨#[]⟩).size = n ∧ fromTo f k s (wordOf l ⟨#[]⟩) n = runS f k s l := by
  intro n
  induction n with
  | zero =>
    intro l hl _
    obtain rfl := List.eq_nil_of_length_eq_zero hl
    exact ⟨lets_nil, rfl, rfl⟩
  | succ n ih =>
    intro l hl hlt
    rcases List.eq_nil_or_concat l with rfl | ⟨l', c, rfl⟩
    · cases hl
    · rw [List.concat_eq_append] at *
      have hc := hlt c (by simp)
      have hl' : l'.length = n := by rw [List.length_append, List.length_singleton] at hl; omega
      obtain ⟨h1, h2, h3⟩ := ih l' hl' (fun d hd => hlt d (by simp [hd]))
      obtain ⟨hb, hs⟩ := letterS_byt c hc
      rw [wordOf_snoc]
      have hsz : (wordOf l' ⟨#[]⟩ ++ letterS c).size = n + 1 := by rw [ByteArray.size_append, h2, hs]
      have hlo : ∀ i, i < n → byt (wordOf l' ⟨#[]⟩ ++ letterS c) i = byt (wordOf l' ⟨#[]⟩) i := fun i hi => byt_append_left (by omega)
      have hhi : byt (wordOf l' ⟨#[]⟩ ++ letterS c) n = 97 + c := by
        have := byt_append_right (s := wordOf l' ⟨#[]⟩) (t := letterS c) (i := 0)
        rw [h2, Nat.add_zero] at this
        rw [this, hb]
      refine ⟨fun i hi => ?_, hsz, ?_⟩
      · rw [hsz] at hi
        rcases Nat.lt_or_ge i n with h | h
        · rw [hlo i h]; exact h1 i (by omega)
        · obtain rfl : i = n := by omega
          rw [hhi]; omega
      · have e1 : fromTo f k s (wordOf l' ⟨#[]⟩ ++ letterS c) n = fromTo f k s (wordOf l' ⟨#[]⟩) n := by
          rw [runB_from (b := fun i => byt (wordOf l' ⟨#[]⟩) i - 97) (fun i hi => by rw [hlo i hi]), ← runB_from (fun i _ => rfl)]
        rw [fromTo, e1, h3, hhi, Nat.add_sub_cancel_left]
        unfold runS
        rw [runL_append]; rfl
end Go.Kx
/- The search of the reference: without the empty set, lengths for words. -/
namespace Go.Kx
open Go
theorem bfsTo_congr {F G : Int × Int → Nat → Int × Int} (h : ∀ x c, c < 2 → F x c = G x c) (s : Int × Int) : ∀ i, bfsTo F s i = bfsTo G s i
  | 0 => rfl
  | i + 1 => by
    have ih := bfsTo_congr h s i
    have h1 : ∀ u es, bfs1 F u 0 es = bfs1 G u 0 es := fun u es => by unfold bfs1; rw [h _ 0 (by decide)]
    have h2 : ∀ u es, bfs1 F u 1 es = bfs1 G u 1 es := fun u es => by unfold bfs1; rw [h _ 1 (by decide)]
    unfold bfsTo
    rw [ih]
    cases (bfsTo G s i)[i]? with
    | none => rfl
    | some u => simp only [h1, h2]
theorem bfsGo_congr {F G : Int × Int → Nat → Int × Int} (h : ∀ x c, c < 2 → F x c = G x c) (g : Int × Int → Bool) (s : Int × Int) : ∀ n i, bfsGo F g s i n = bfsGo G g s i n
  | 0, _ => rfl
  | n + 1, i => by
    have ih := bfsGo_congr h g s n
    unfold bfsGo
    rw [bfsTo_congr h s i]
    cases (bfsTo G s i)[i]? with
    | none => rfl
    | some u => simp only [ih]
theorem bfsV_congr {F G : Int × Int → Nat → Int × Int} (h : ∀ x c, c < 2 → F x c = G x c) (g : Int × Int → Bool) (s : Int × Int) (N : Nat) : bfsV F g s N = bfsV G g s N := bfsGo_congr h g s N 0
theorem bfsP_pre (F : Int × Int → Nat → Int × Int) (u : Ent) (es : List Ent) : ∀ c, ∃ ex, bfsP F u es c = es ++ ex
  | 0 => ⟨[], by simp [bfsP]⟩
  | c + 1 => by
    obtain ⟨ex, h⟩ := bfsP_pre F u es c
    unfold bfsP bfs1
    split
    · exact ⟨ex, h⟩
    · exact ⟨ex ++ [(F u.1 c, u.2 ++ letterS c)], by rw [h, List.append_assoc]⟩
def flt (nz : Int × Int → Bool) (es : List Ent) : List ((Int × Int) × Nat) := (es.filter fun e => nz e.1).map fun e => (e.1, e.2.size)
theorem flt_append (nz : Int × Int → Bool) (a b : List Ent) : flt nz (a ++ b) = flt nz a ++ flt nz b := by simp [flt]
theorem flt_yes {nz : Int × Int → Bool} {e : Ent} (h : nz e.1 = true) (es : List Ent) : flt nz (e :: es) = (e.1, e.2.size) :: flt nz es := by simp [flt, h]
theorem flt_no {nz : Int × Int → Bool} {e : Ent} (h : nz e.1 = false) (es : List Ent) : flt nz (e :: es) = flt nz es := by simp [flt, h]
theorem flt_mem {nz : Int × Int → Bool} {y : Int × Int} (hy : nz y = true) (es : List Ent) : y ∈ (flt nz es).map (·.1) ↔ y ∈ Keys es := by
  simp only [flt, Keys, List.map_map, List.mem_map, List.mem_filter, Function.comp_apply]
  constructor
  · rintro ⟨e, ⟨h1, _⟩, rfl⟩; exact ⟨e, h1, rfl⟩
  · rintro ⟨e, h1, rfl⟩; exact ⟨e, ⟨h1, hy⟩, rfl⟩
theorem flt_len (nz : Int × Int → Bool) (es : List Ent) : (flt nz es).length ≤ es.length := by
  unfold flt
  rw [List.length_map]
  exact List.length_filter_le _ _
structure Srch where
  F : Int × Int → Nat → Int × Int
  g : Int × Int → Bool
  nz : Int × Int → Bool
  s : Int × Int
  D : Int × Int → Prop
  dom : List (Int × Int)
  N : Nat
structure Srch.Ok (S : Srch) : Prop where
  hs : S.D S.s
  hD : ∀ p (c : Nat), S.D p → c < 2 → S.D (S.F p c)
  hdom : ∀ p, S.D p → p ∈ S.dom
  hN : S.dom.length ≤ S.N
  dead : ∀ p, S.nz p = false → S.g p = false ∧ ∀ c, c < 2 → S.F p c = p
def Srch.ans (S : Srch) : ByteArray × Bool := bfsV S.F S.g S.s S.N
def Srch.q (S : Srch) (p : Nat) : List Ent := bfsTo S.F S.s p
structure Sim (S : Srch) (p i : Nat) (es : List ((Int × Int) × Nat)) : Prop where
  le : p ≤ (S.q p).length
  es : es = flt S.nz (S.q p)
  i : i = (flt S.nz ((S.q p).take p)).length
  go : bfsGo S.F S.g S.s p (S.N - p) = S.ans
theorem Srch.Ok.len {S : Srch} (h : S.Ok) (p : Nat) : (S.q p).length ≤ S.N := (bfs_ok h.hs h.hD p).len h.hdom h.hN
theorem Sim.start (S : Srch) (hz : S.nz S.s = true) : Sim S 0 0 [(S.s, 0)] := ⟨Nat.zero_le _, by simp [Srch.q, bfsTo, flt, hz]; rfl, by simp [flt], rfl⟩
theorem Sim.pos {S : Srch} (h : S.Ok) {p i : Nat} {es : List ((Int × Int) × Nat)} (hs : Sim S p i es) (hi : i ≤ es.length) : i < es.length ∨ i = es.length := by omega
theorem split_at {es : List Ent} {p : Nat} {u : Ent} (h : es[p]? = some u) : es = es.take p ++ u :: es.drop (p + 1) := by
  obtain ⟨hlt, he⟩ := List.getElem?_eq_some_iff.1 h
  rw [← he, List.getElem_cons_drop, List.take_append_drop]
theorem take_more {es : List Ent} {p : Nat} {u : Ent} (h : es[p]? = some u) : es.take (p + 1) = es.take p ++ [u] := by
  rw [List.take_add_one, h]; rfl
theorem Sim.over {S : Srch} (h : S.Ok) {p i : Nat} {es : List ((Int × Int) × Nat)} (hs : Sim S p i es) {u : Ent} (hu : (S.q p)[p]? = some u) (hz : S.nz u.1 = false) : Sim S (p + 1) i es ∧ S.q (p + 1) = S.q p := by
  have hd := h.dead u.1 hz
  have hmem := List.mem_of_getElem? hu
  have hlt := (List.getElem?_eq_some_iff.1 hu).1
  have hlen := h.len p
  have hq : S.q (p + 1) = S.q p := by
    unfold Srch.q at hu hmem ⊢
    rw [bfsTo_more hu]
    have hk : ∀ c, c < 2 → hasK (bfsTo S.F S.s p) (S.F u.1 c) = true := fun c hc => by
      rw [hd.2 c hc, hasK_mem]
      exact List.mem_map.2 ⟨u, hmem, rfl⟩
    have e1 : bfsP S.F u (bfsTo S.F S.s p) 1 = bfsTo S.F S.s p := bfsP_old (c := 0) (hk 0 (by decide))
    have e2 : bfsP S.F u (bfsTo S.F S.s p) 2 = bfsP S.F u (bfsTo S.F S.s p) 1 := bfsP_old (c := 1) (by rw [e1]; exact hk 1 (by decide))
    rw [e2, e1]
  refine ⟨⟨by rw [hq]; omega, by rw [hq]; exact hs.es, ?_, ?_⟩, hq⟩
  · rw [hq, take_more hu, flt_append, flt_no hz, hs.i]
    simp [flt]
  · rw [← bfsGo_next (by omega) hu hd.1]; exact hs.go
theorem Sim.adv {S : Srch} (h : S.Ok) : ∀ n p i es, Sim S p i es → S.N - p = n → i < es.length → ∃ p u, Sim S p i es ∧ (S.q p)[p]? = some u ∧ S.nz u.1 = true ∧ es[i]? = some (u.1, u.2.size) := by
  intro n
  induction n with
  | zero =>
    intro p i es hs hn hi
    have hlen := h.len p
    have hle := hs.le
    have hp : p = (S.q p).length := by omega
    have e : (S.q p).take p = S.q p := List.take_of_length_le (by omega)
    have h1 := hs.i
    rw [e, ← hs.es] at h1; omega
  | succ n ih =>
    intro p i es hs hn hi
    have hle := hs.le
    cases hu : (S.q p)[p]? with
    | none =>
      have e : (S.q p).take p = S.q p := List.take_of_length_le (List.getElem?_eq_none_iff.1 hu)
      have h1 := hs.i
      rw [e, ← hs.es] at h1; omega
    | some u =>
      cases hz : S.nz u.1 with
      | false => exact ih (p + 1) i es (hs.over h hu hz).1 (by omega) hi
      | true =>
        refine ⟨p, u, hs, hu, hz, ?_⟩
        have e := split_at hu
        rw [hs.es, e, flt_append, flt_yes hz, hs.i]
        have : (flt S.nz ((S.q p).take p)).length = (flt S.nz ((S.q p).take p)).length := rfl
        rw [List.getElem?_append_right (by simp), Nat.sub_self]; rfl
theorem Sim.end_ {S : Srch} (h : S.Ok) : ∀ n p i es, Sim S p i es → S.N - p = n → i = es.length → S.ans = (⟨#[]⟩, false) := by
  intro n
  induction n with
  | zero =>
    intro p i es hs hn hi
    rw [← hs.go, hn]; rfl
  | succ n ih =>
    intro p i es hs hn hi
    cases hu : (S.q p)[p]? with
    | none =>
      rw [← hs.go]
      exact bfsGo_end _ (List.getElem?_eq_none_iff.1 hu)
    | some u =>
      cases hz : S.nz u.1 with
      | false => exact ih (p + 1) i es (hs.over h hu hz).1 (by omega) hi
      | true =>
        have e := split_at hu
        have h1 := hs.es
        rw [e, flt_append, flt_yes hz] at h1
        have h2 := congrArg List.length h1
        rw [List.length_append, List.length_cons] at h2
        have h3 := hs.i
        omega
theorem Sim.found {S : Srch} (h : S.Ok) {p i : Nat} {es : List ((Int × Int) × Nat)} (hs : Sim S p i es) {u : Ent} (hu : (S.q p)[p]? = some u) (hg : S.g u.1 = true) : S.ans = (u.2, true) := by
  have hlen := h.len p
  have hlt := (List.getElem?_eq_some_iff.1 hu).1
  rw [← hs.go]
  exact bfsGo_found (by omega) hu hg
theorem part_new {S : Srch} {p c : Nat} {u : Ent} (hc : c < 2) (hz : S.nz (S.F u.1 c) = true) (hn : S.F u.1 c ∉ (flt S.nz (bfsP S.F u (S.q p) c)).map (·.1)) : flt S.nz (bfsP S.F u (S.q p) (c + 1)) = flt S.nz (bfsP S.F u (S.q p) c) ++ [(S.F u.1 c, u.2.size + 1)] := by
  rw [flt_mem hz] at hn
  have hk : hasK (bfsP S.F u (S.q p) c) (S.F u.1 c) = false := by
    cases hh : hasK (bfsP S.F u (S.q p) c) (S.F u.1 c) with
    | false => rfl
    | true => exact absurd (hasK_mem.1 hh) hn
  rw [bfsP_new hk, flt_append, flt_yes hz]
  show _ ++ [(S.F u.1 c, (u.2 ++ letterS c).size)] = _
  rw [ByteArray.size_append, letterS_size hc]
theorem part_old {S : Srch} {p c : Nat} {u : Ent} (hn : S.F u.1 c ∈ (flt S.nz (bfsP S.F u (S.q p) c)).map (·.1)) : flt S.nz (bfsP S.F u (S.q p) (c + 1)) = flt S.nz (bfsP S.F u (S.q p) c) := by
  have hm : S.F u.1 c ∈ Keys (bfsP S.F u (S.q p) c) := by
    obtain ⟨e, he, h1⟩ := List.mem_map.1 hn
    unfold flt at he
    obtain ⟨e', he', h2⟩ := List.mem_map.1 he
    refine List.mem_map.2 ⟨e', (List.mem_filter.1 he').1, ?_⟩
    rw [← h1, ← h2]
  rw [bfsP_old (hasK_mem.2 hm)]
theorem Sim.next {S : Srch} (h : S.Ok) {p i : Nat} {es : List ((Int × Int) × Nat)} (hs : Sim S p i es) {u : Ent} (hu : (S.q p)[p]? = some u) (hz : S.nz u.1 = true) (hg : S.g u.1 = false) : Sim S (p + 1) (i + 1) (flt S.nz (bfsP S.F u (S.q p) 2)) := by
  have hlen := h.len p
  have hlt := (List.getElem?_eq_some_iff.1 hu).1
  have hq : S.q (p + 1) = bfsP S.F u (S.q p) 2 := bfsTo_more hu
  obtain ⟨ex, hex⟩ := bfsP_pre S.F u (S.q p) 2
  refine ⟨by rw [hq, hex, List.length_append]; omega, by rw [hq], ?_, ?_⟩
  · rw [hq, hex, List.take_append_of_le_length (by omega), take_more hu, flt_append, flt_yes hz, List.length_append, ← hs.i]; rfl
  · rw [← bfsGo_next (by omega) hu hg]; exact hs.go
theorem Sim.part_len {S : Srch} (h : S.Ok) {p : Nat} {u : Ent} (hu : (S.q p)[p]? = some u) {c : Nat} (hc : c ≤ 2) : (flt S.nz (bfsP S.F u (S.q p) c)).length ≤ S.N := by
  refine Nat.le_trans (flt_len _ _) ?_
  exact ((bfs_ok h.hs h.hD p).part h.hD (List.mem_of_getElem? hu) c hc).len h.hdom h.hN
theorem Sim.size {S : Srch} (h : S.Ok) {p : Nat} {u : Ent} (hu : (S.q p)[p]? = some u) : u.2.size ≤ p := ((bfs_ok h.hs h.hD p).all u (List.mem_of_getElem? hu)).2
theorem Sim.dom {S : Srch} (h : S.Ok) {p : Nat} {u : Ent} (hu : (S.q p)[p]? = some u) : S.D u.1 := ((bfs_ok h.hs h.hD p).all u (List.mem_of_getElem? hu)).1
def Srch.len (S : Srch) : Int := if S.ans.2 = true then (S.ans.1.size : Int) else -1
end Go.Kx
/- Lists of the reference's search for sets. -/
namespace Go.Kx
open Go
def Ls (es : List ((Int × Int) × Nat)) : List Int := es.map fun e => e.1.1
def Gs (es : List ((Int × Int) × Nat)) : List Int := es.map fun e => (e.2 : Int)
theorem Ls_len (es : List ((Int × Int) × Nat)) : (Ls es).length = es.length := by simp [Ls]
theorem Gs_len (es : List ((Int × Int) × Nat)) : (Gs es).length = es.length := by simp [Gs]
theorem Gs_get {es : List ((Int × Int) × Nat)} {i : Nat} {x : (Int × Int) × Nat} (h : es[i]? = some x) : (Gs es).getD i 0 = (x.2 : Int) := by simp [Gs, List.getD, h]
theorem Gs_snoc (es : List ((Int × Int) × Nat)) (x : (Int × Int) × Nat) : Gs (es ++ [x]) = Gs es ++ [(x.2 : Int)] := by simp [Gs]
end Go.Kx
/- Two sets side by side. -/
namespace Go.Kx
open Go
def nextA (f : Nat → Nat → Int) (k : Nat) (g : Nat → Nat → Int) (K : Nat) (x : Int × Int) (c : Nat) : Int × Int := (((stepF f x.1.toNat c k : Nat) : Int), ((stepF g x.2.toNat c K : Nat) : Int))
def gA (x : Int × Int) : Bool := decide (¬ decide (x.1 = 0) = decide (x.2 = 0))
def DomA (x : Int × Int) : Prop := ∃ s t : Nat, s < 32 ∧ t < 32 ∧ x = ((s : Int), (t : Int))
def domA : List (Int × Int) := (List.range 32).flatMap fun (s : Nat) => (List.range 32).map fun (t : Nat) => ((s : Int), (t : Int))
theorem domA_mem {x : Int × Int} (h : DomA x) : x ∈ domA := by
  obtain ⟨s, t, hs, ht, rfl⟩ := h
  exact List.mem_flatMap.2 ⟨s, List.mem_range.2 hs, List.mem_map.2 ⟨t, List.mem_range.2 ht, rfl⟩⟩
theorem domA_len : domA.length ≤ 1024 := by decide +kernel
theorem nextA_dom {f : Nat → Nat → Int} {k : Nat} {g : Nat → Nat → Int} {K : Nat} (ho : Okf k f) (hg : Okf K g) {x : Int × Int} {c : Nat} (hc : c < 2) : DomA (nextA f k g K x c) := by
  have h1 := stepF_lt ho x.1.toNat c hc k (Nat.le_refl _)
  have h2 := pow_le_32 ho.k5
  have h3 := stepF_lt hg x.2.toNat c hc K (Nat.le_refl _)
  have h4 := pow_le_32 hg.k5
  exact ⟨_, _, by omega, by omega, rfl⟩
def apS (f : Nat → Nat → Int) (k : Nat) (g : Nat → Nat → Int) (K s t : Nat) : Srch := ⟨nextA f k g K, gA, fun _ => true, ((s : Int), (t : Int)), DomA, domA, 1024⟩
theorem apS_ok {f : Nat → Nat → Int} {k : Nat} {g : Nat → Nat → Int} {K : Nat} (ho : Okf k f) (hg : Okf K g) {s t : Nat} (hs : s < 32) (ht : t < 32) : (apS f k g K s t).Ok :=
  ⟨⟨s, t, hs, ht, rfl⟩, fun _ _ _ hc => nextA_dom ho hg hc, fun _ h => domA_mem h, domA_len, fun _ hz => by cases hz⟩
theorem nextA_congr {f f' g g' : Nat → Nat → Int} {k K : Nat} (hf : ∀ i x, i < k → x < 2 → f i x = f' i x) (hg : ∀ i x, i < K → x < 2 → g i x = g' i x) (x : Int × Int) (c : Nat) (hc : c < 2) : nextA f k g K x c = nextA f' k g' K x c := by
  unfold nextA
  rw [stepF_congr (fun i hi => hf i c hi hc), stepF_congr (fun i hi => hg i c hi hc)]
def sameV (ps qs : List (Int × Int)) : ByteArray × Bool := (apS (tabR ps) ps.length (tabR qs) qs.length (2 ^ ps.length - 1) (2 ^ qs.length - 1)).ans
def apartV (ps : List (Int × Int)) (s t : Nat) : ByteArray × Bool := (apS (tabR ps) ps.length (tabR ps) ps.length (2 ^ s) (2 ^ t)).ans
end Go.Kx
/- Forms are least: equal nets have forms of one size, a form is its own form, and some word fixes its node. -/
namespace Go.Kx
open Go
theorem cls_of_key {f : Nat → Nat → Int} {c : List Int} {u v : Nat} (h : keyA f c u = keyA f c v) : clsV f c u = clsV f c v := by
  have h1 : clsV f c v ≤ clsV f c u := cls_min (by rw [cls_key, h])
  have h2 : clsV f c u ≤ clsV f c v := cls_min (by rw [cls_key, h])
  omega
theorem run_nextA {f g : Nat → Nat → Int} {k K : Nat} : ∀ (l : List Nat) (s t : Nat), runL (nextA f k g K) ((s : Int), (t : Int)) l = (((runS f k s l : Nat) : Int), ((runS g K t l : Nat) : Int))
  | [], _, _ => rfl
  | c :: l, s, t => by
    have e : runL (nextA f k g K) ((s : Int), (t : Int)) (c :: l) = runL (nextA f k g K) (((stepF f s c k : Nat) : Int), ((stepF g t c K : Nat) : Int)) l := rfl
    rw [e, run_nextA l]; rfl
def walkL (f : Nat → Nat → Int) (v : Int) : List Nat → Int
  | [] => v
  | c :: l => if 0 ≤ v then walkL f (f v.toNat c) l else v
theorem walkL_neg {f : Nat → Nat → Int} {v : Int} (h : v < 0) : ∀ l, walkL f v l = v
  | [] => rfl
  | c :: l => by rw [walkL, if_neg (by omega)]
end Go.Kx
/- Lists of the reference's search for pairs. -/
namespace Go.Kx
open Go
def Ps (es : List ((Int × Int) × Nat)) : List (Int × Int) := es.map (·.1)
theorem Ps_len (es : List ((Int × Int) × Nat)) : (Ps es).length = es.length := by simp [Ps]
theorem Ps_get {es : List ((Int × Int) × Nat)} {i : Nat} {x : (Int × Int) × Nat} (h : es[i]? = some x) : (Ps es).getD i (0, 0) = x.1 := by simp [Ps, List.getD, h]
theorem Ps_snoc (es : List ((Int × Int) × Nat)) (x : (Int × Int) × Nat) : Ps (es ++ [x]) = Ps es ++ [x.1] := by simp [Ps]
def KVp (l : List (Int × Int)) : List ((Int × Int) × Value) := l.map fun x => (x, Value.bool true)
theorem KVp_find (y : Int × Int) : ∀ (l : List (Int × Int)) (i : Nat), (kvFind (KVp l) y i).map (·.2) = if y ∈ l then some (.bool true) else none
  | [], i => by simp [KVp, kvFind]
  | x :: l, i => by
    have ih := KVp_find y l (i + 1)
    unfold KVp at ih
    unfold KVp
    rw [List.map_cons, kvFind]
    by_cases he : y = x
    · subst he
      rw [if_pos rfl, if_pos (by simp)]; rfl
    · rw [if_neg he, ih]
      have : y ∈ x :: l ↔ y ∈ l := by simp [he]
      simp only [this]
theorem KVp_get (l : List (Int × Int)) (y : Int × Int) : kvGet (KVp l) y (.bool false) = .bool (decide (y ∈ l)) := by
  have h := KVp_find y l 0
  unfold kvGet
  cases hz : kvFind (KVp l) y 0 with
  | none =>
    rw [hz] at h
    by_cases hm : y ∈ l
    · rw [if_pos hm] at h; cases h
    · rw [decide_eq_false hm]
  | some p =>
    rw [hz] at h
    by_cases hm : y ∈ l
    · rw [if_pos hm] at h
      rw [decide_eq_true hm]
      simpa using h
    · rw [if_neg hm] at h; cases h
theorem KVp_set {l : List (Int × Int)} {y : Int × Int} (h : y ∉ l) : kvSet (KVp l) y (.bool true) = KVp (l ++ [y]) := by
  have hn : kvFind (KVp l) y 0 = none := by
    have := KVp_find y l 0
    rw [if_neg h] at this
    cases hz : kvFind (KVp l) y 0 with
    | none => rfl
    | some p => rw [hz] at this; cases this
  rw [kvSet_none hn]
  simp [KVp]
end Go.Kx
/- Searching breadth first finds a shortest word; sets are told apart by short words. -/
namespace Go.Kx
open Go
structure Lev (F : Int × Int → Nat → Int × Int) (s : Int × Int) (p : Nat) : Prop where
  srt : (bfsTo F s p).Pairwise fun a b => a.2.size ≤ b.2.size
  top : ∀ u, (bfsTo F s p)[p]? = some u → ∀ e ∈ bfsTo F s p, e.2.size ≤ u.2.size + 1
  cl : ∀ (j : Nat) (e : Ent), j < p → (bfsTo F s p)[j]? = some e → ∀ c, c < 2 → ∃ e' ∈ bfsTo F s p, e'.1 = F e.1 c ∧ e'.2.size ≤ e.2.size + 1
theorem bfsP_ex (F : Int × Int → Nat → Int × Int) (u : Ent) (es : List Ent) : ∀ c, c ≤ 2 → ∃ ex, bfsP F u es c = es ++ ex ∧ ∀ e ∈ ex, e.2.size = u.2.size + 1
  | 0, _ => ⟨[], by simp [bfsP], fun e he => by cases he⟩
  | c + 1, hc => by
    obtain ⟨ex, h, hs⟩ := bfsP_ex F u es c (by omega)
    unfold bfsP bfs1
    split
    · exact ⟨ex, h, hs⟩
    · refine ⟨ex ++ [(F u.1 c, u.2 ++ letterS c)], by rw [h, List.append_assoc], fun e he => ?_⟩
      rcases List.mem_append.1 he with he | he
      · exact hs e he
      · rw [List.mem_singleton.1 he]
        show (u.2 ++ letterS c).size = _
        rw [ByteArray.size_append, letterS_size (by omega)]
theorem bfsP_has (F : Int × Int → Nat → Int × Int) (u : Ent) (es : List Ent) (c : Nat) : F u.1 c ∈ Keys (bfsP F u es (c + 1)) := by
  have e : bfsP F u es (c + 1) = bfs1 F u c (bfsP F u es c) := rfl
  rw [e]
  unfold bfs1
  split
  · rename_i h; exact hasK_mem.1 h
  · simp [Keys]
theorem Lev.all (F : Int × Int → Nat → Int × Int) (s : Int × Int) : ∀ p, Lev F s p
  | 0 => ⟨by simp [bfsTo], fun u hu e he => by
      simp only [bfsTo, List.mem_singleton] at he
      simp only [bfsTo] at hu
      have : (⟨#[]⟩ : ByteArray).size = 0 := rfl
      rw [he]; simp only; omega, fun j e hj => absurd hj (Nat.not_lt_zero j)⟩
  | p + 1 => by
    have ih := Lev.all F s p
    cases hu : (bfsTo F s p)[p]? with
    | none =>
      have e : bfsTo F s (p + 1) = bfsTo F s p := by rw [bfsTo, hu]
      have hlen := List.getElem?_eq_none_iff.1 hu
      refine ⟨by rw [e]; exact ih.srt, fun u' hu' => ?_, fun j e' hj he' c hc => ?_⟩
      · rw [e, List.getElem?_eq_none (by omega)] at hu'; cases hu'
      · rw [e] at he' ⊢
        have := (List.getElem?_eq_some_iff.1 he').1
        exact ih.cl j e' (by omega) he' c hc
    | some u =>
      have hplt := (List.getElem?_eq_some_iff.1 hu).1
      obtain ⟨ex, hex, hsz⟩ := bfsP_ex F u (bfsTo F s p) 2 (by decide)
      have hq : bfsTo F s (p + 1) = bfsTo F s p ++ ex := by rw [bfsTo_more hu, hex]
      have htop := ih.top u hu
      have hall : ∀ e ∈ bfsTo F s (p + 1), e.2.size ≤ u.2.size + 1 := fun e he => by
        rw [hq] at he
        rcases List.mem_append.1 he with he | he
        · exact htop e he
        · have := hsz e he; omega
      have hsrt : (bfsTo F s (p + 1)).Pairwise fun a b => a.2.size ≤ b.2.size := by
        rw [hq]
        refine List.pairwise_append.2 ⟨ih.srt, ?_, fun a ha b hb => ?_⟩
        · refine List.pairwise_iff_forall_sublist.2 fun {a b} hab => ?_
          have h1 := hsz a (hab.subset (by simp))
          have h2 := hsz b (hab.subset (by simp))
          omega
        · have := htop a ha
          have := hsz b hb
          omega
      refine ⟨hsrt, fun u' hu' e he => ?_, fun j e hj he c hc => ?_⟩
      · have h1 := hall e he
        have hup : (bfsTo F s (p + 1))[p]? = some u := by rw [hq, List.getElem?_append_left hplt]; exact hu
        obtain ⟨hl1, he1⟩ := List.getElem?_eq_some_iff.1 hup
        obtain ⟨hl2, he2⟩ := List.getElem?_eq_some_iff.1 hu'
        have := List.pairwise_iff_getElem.1 hsrt p (p + 1) hl1 hl2 (by omega)
        rw [he1, he2] at this
        omega
      · by_cases hjp : j = p
        · subst hjp
          rw [hq, List.getElem?_append_left hplt, hu] at he
          obtain rfl := Option.some.inj he
          have hk : F u.1 c ∈ Keys (bfsP F u (bfsTo F s j) 2) := by
            obtain rfl | rfl : c = 0 ∨ c = 1 := by omega
            · have h1 := bfsP_has F u (bfsTo F s j) 0
              obtain ⟨e', he', h2⟩ := List.mem_map.1 h1
              have h3 : e' ∈ bfsP F u (bfsTo F s j) 2 := by
                have e : bfsP F u (bfsTo F s j) 2 = bfs1 F u 1 (bfsP F u (bfsTo F s j) 1) := rfl
                rw [e]; unfold bfs1; split
                · exact he'
                · exact List.mem_append_left _ he'
              exact List.mem_map.2 ⟨e', h3, h2⟩
            · exact bfsP_has F u (bfsTo F s j) 1
          obtain ⟨e', he', h2⟩ := List.mem_map.1 hk
          rw [hex, ← hq] at he'
          exact ⟨e', he', h2, hall e' he'⟩
        · rw [hq, List.getElem?_append_left (by omega)] at he
          obtain ⟨e', he', h1, h2⟩ := ih.cl j e (by omega) he c hc
          exact ⟨e', by rw [hq]; exact List.mem_append_left _ he', h1, h2⟩
theorem bfs_first (F : Int × Int → Nat → Int × Int) (s : Int × Int) : ∀ p, (s, (⟨#[]⟩ : ByteArray)) ∈ bfsTo F s p
  | 0 => by simp [bfsTo]
  | p + 1 => by
    have ih := bfs_first F s p
    cases hu : (bfsTo F s p)[p]? with
    | none =>
      have e : bfsTo F s (p + 1) = bfsTo F s p := by rw [bfsTo, hu]
      rw [e]; exact ih
    | some u =>
      obtain ⟨ex, hex, _⟩ := bfsP_ex F u (bfsTo F s p) 2 (by decide)
      rw [bfsTo_more hu, hex]
      exact List.mem_append_left _ ih
theorem lev_reach {F : Int × Int → Nat → Int × Int} {s : Int × Int} (p : Nat) : ∀ (n : Nat) (l : List Nat), l.length = n → Ltr l → (∃ e ∈ bfsTo F s p, e.1 = runL F s l ∧ e.2.size ≤ n) ∨ ∃ (j : Nat) (e : Ent), p ≤ j ∧ (bfsTo F s p)[j]? = some e ∧ e.2.size ≤ n := by
  intro n
  induction n with
  | zero =>
    intro l hl _
    obtain rfl := List.eq_nil_of_length_eq_zero hl
    have h0 := bfs_first F s p
    exact .inl ⟨(s, ⟨#[]⟩), h0, rfl, Nat.le_refl 0⟩
  | succ n ih =>
    intro l hl hlt
    rcases List.eq_nil_or_concat l with rfl | ⟨l', c, rfl⟩
    · cases hl
    · rw [List.concat_eq_append] at *
      have hl' : l'.length = n := by rw [List.length_append, List.length_singleton] at hl; omega
      rcases ih l' hl' (fun d hd => hlt d (by simp [hd])) with ⟨e, he, h1, h2⟩ | ⟨j, e, hj, he, h2⟩
      · obtain ⟨j, hj, hje⟩ := List.mem_iff_getElem.1 he
        rcases Nat.lt_or_ge j p with h3 | h3
        · obtain ⟨e', he', h4, h5⟩ := (Lev.all F s p).cl j e h3 (by rw [List.getElem?_eq_getElem hj, hje]) c (hlt c (by simp))
          exact .inl ⟨e', he', by rw [h4, h1, runL_append]; rfl, by omega⟩
        · exact .inr ⟨j, e, h3, by rw [List.getElem?_eq_getElem hj, hje], by omega⟩
      · exact .inr ⟨j, e, hj, he, by omega⟩
theorem bfsGo_short {F : Int × Int → Nat → Int × Int} {g : Int × Int → Bool} {s : Int × Int} : ∀ n p, (∀ (j : Nat) (e : Ent), j < p → (bfsTo F s p)[j]? = some e → g e.1 = false) → (bfsGo F g s p n).2 = true → ∀ l, Ltr l → g (runL F s l) = true → (bfsGo F g s p n).1.size ≤ l.length
  | 0, p, _, h, _, _, _ => by cases h
  | n + 1, p, hno, h, l, hl, hg => by
    unfold bfsGo at h ⊢
    cases hu : (bfsTo F s p)[p]? with
    | none => rw [hu] at h; cases h
    | some u =>
      rw [hu] at h
      simp only at h ⊢
      by_cases hgu : g u.1 = true
      · rw [if_pos hgu] at h ⊢
        simp only
        obtain ⟨hl1, he1⟩ := List.getElem?_eq_some_iff.1 hu
        have hge : ∀ (j : Nat) (e : Ent), p ≤ j → (bfsTo F s p)[j]? = some e → u.2.size ≤ e.2.size := fun j e hj he => by
          obtain ⟨hl2, he2⟩ := List.getElem?_eq_some_iff.1 he
          rcases Nat.lt_or_ge p j with h1 | h1
          · have := List.pairwise_iff_getElem.1 (Lev.all F s p).srt p j hl1 hl2 h1
            rw [he1, he2] at this; exact this
          · obtain rfl : p = j := by omega
            rw [hu] at he
            obtain rfl := Option.some.inj he
            exact Nat.le_refl _
        rcases lev_reach (F := F) (s := s) p l.length l rfl hl with ⟨e, he, h1, h2⟩ | ⟨j, e, hj, he, h2⟩
        · obtain ⟨j, hj, hje⟩ := List.mem_iff_getElem.1 he
          have hj? : (bfsTo F s p)[j]? = some e := by rw [List.getElem?_eq_getElem hj, hje]
          rcases Nat.lt_or_ge j p with h3 | h3
          · have := hno j e h3 hj?
            rw [h1, hg] at this; cases this
          · have := hge j e h3 hj?; omega
        · have := hge j e hj he; omega
      · rw [if_neg hgu] at h ⊢
        have hplt := (List.getElem?_eq_some_iff.1 hu).1
        obtain ⟨ex, hex, _⟩ := bfsP_ex F u (bfsTo F s p) 2 (by decide)
        have hq : bfsTo F s (p + 1) = bfsTo F s p ++ ex := by rw [bfsTo_more hu, hex]
        refine bfsGo_short n (p + 1) (fun j e hj he => ?_) h l hl hg
        rw [hq, List.getElem?_append_left (by omega)] at he
        rcases Nat.lt_or_ge j p with h1 | h1
        · exact hno j e h1 he
        · obtain rfl : j = p := by omega
          rw [hu] at he
          obtain rfl := Option.some.inj he
          simpa using hgu
theorem apart_short {h : Nat → Nat → Int} {K : Nat} (hb : ∀ i x, i < K → x < 2 → h i x < K) : ∀ (j u v : Nat), u < K → v < K → ¬ (eqIter h K j).getD u 0 = (eqIter h K j).getD v 0 → ∃ l, Ltr l ∧ l.length ≤ j ∧ ¬ (0 ≤ walkL h (u : Int) l ↔ 0 ≤ walkL h (v : Int) l)
  | 0, u, v, _, _, hne => by
    have hz : ∀ v, (List.replicate K (0 : Int)).getD v 0 = 0 := fun v => by rw [List.getD, List.getElem?_replicate]; split <;> rfl
    exact absurd (by rw [eqIter, hz, hz]) hne
  | j + 1, u, v, hu, hv, hne => by
    have e : ∀ (w : Nat) x l, walkL h (w : Int) (x :: l) = walkL h (h w x) l := fun w x l => by rw [walkL, if_pos (by omega), Int.toNat_natCast]
    rw [eqIter, newC_get hu, newC_get hv] at hne
    have hk : ¬ keyA h (eqIter h K j) u = keyA h (eqIter h K j) v := fun hh => hne (by rw [cls_of_key hh])
    rw [keyA_iff] at hk
    by_cases hc : (eqIter h K j).getD u 0 = (eqIter h K j).getD v 0
    · have hx : ∃ x, x < 2 ∧ ¬ kx h (eqIter h K j) u x = kx h (eqIter h K j) v x := by
        by_cases h0 : kx h (eqIter h K j) u 0 = kx h (eqIter h K j) v 0
        · exact ⟨1, by decide, fun h1 => hk ⟨hc, h0, h1⟩⟩
        · exact ⟨0, by decide, h0⟩
      obtain ⟨x, hx2, hkx⟩ := hx
      have h1 := hb u x hu hx2
      have h2 := hb v x hv hx2
      have one : Ltr [x] := fun c hc => by rw [List.mem_singleton.1 hc]; exact hx2
      by_cases hu0 : 0 ≤ h u x
      · by_cases hv0 : 0 ≤ h v x
        · unfold kx at hkx
          rw [if_pos hu0, if_pos hv0] at hkx
          obtain ⟨l, g1, g2, g3⟩ := apart_short hb j _ _ (by omega) (by omega) hkx
          refine ⟨x :: l, fun c hc => (List.mem_cons.1 hc).elim (fun hh => hh ▸ hx2) (fun hh => g1 c hh), by rw [List.length_cons]; omega, ?_⟩
          rw [e, e]
          rwa [Int.toNat_of_nonneg hu0, Int.toNat_of_nonneg hv0] at g3
        · exact ⟨[x], one, by simp, by rw [e, e]; exact fun hh => hv0 (hh.1 hu0)⟩
      · by_cases hv0 : 0 ≤ h v x
        · exact ⟨[x], one, by simp, by rw [e, e]; exact fun hh => hu0 (hh.2 hv0)⟩
        · unfold kx at hkx
          rw [if_neg hu0, if_neg hv0] at hkx
          exact absurd rfl hkx
    · obtain ⟨l, g1, g2, g3⟩ := apart_short hb j u v hu hv hc
      exact ⟨l, g1, by omega, g3⟩
theorem alike_of {h : Nat → Nat → Int} {K : Nat} (hk : 1 ≤ K) (hb : ∀ i x, i < K → x < 2 → h i x < K) : ∀ (l : List Nat) (u v : Nat), Ltr l → u < K → v < K → (eqV h K).getD u 0 = (eqV h K).getD v 0 → (0 ≤ walkL h (u : Int) l ↔ 0 ≤ walkL h (v : Int) l)
  | [], u, v, _, _, _, _ => ⟨fun _ => by simp only [walkL]; omega, fun _ => by simp only [walkL]; omega⟩
  | x :: l, u, v, hl, hu, hv, he => by
    have e : ∀ (w : Nat), walkL h (w : Int) (x :: l) = walkL h (h w x) l := fun w => by rw [walkL, if_pos (by omega), Int.toNat_natCast]
    have hx := hl x List.mem_cons_self
    have h1 := hb u x hu hx
    have h2 := hb v x hv hx
    have hkx := eqV_kx hk hu hv hx he
    have hc := eqIter_canon h K K
    rw [e, e]
    unfold kx at hkx
    by_cases hu0 : 0 ≤ h u x
    · rw [if_pos hu0] at hkx
      by_cases hv0 : 0 ≤ h v x
      · rw [if_pos hv0] at hkx
        have ih := alike_of hk hb l (h u x).toNat (h v x).toNat (fun d hd => hl d (List.mem_cons_of_mem _ hd)) (by omega) (by omega) hkx
        rwa [Int.toNat_of_nonneg hu0, Int.toNat_of_nonneg hv0] at ih
      · rw [if_neg hv0] at hkx
        have := (hc.cls (h u x).toNat (by omega)).1
        unfold eqV at hkx; omega
    · rw [if_neg hu0] at hkx
      by_cases hv0 : 0 ≤ h v x
      · rw [if_pos hv0] at hkx
        have := (hc.cls (h v x).toNat (by omega)).1
        unfold eqV at hkx; omega
      · rw [walkL_neg (by omega), walkL_neg (by omega)]
        exact ⟨fun hh => absurd hh hu0, fun hh => absurd hh hv0⟩
def twoH (f : Nat → Nat → Int) (k : Nat) (g : Nat → Nat → Int) (K : Nat) (i x : Nat) : Int := if i < 32 then (if stepF f i x k = 0 then -1 else (stepF f i x k : Int)) else (if stepF g (i - 32) x K = 0 then -1 else (32 + stepF g (i - 32) x K : Int))
theorem runS_zero {f : Nat → Nat → Int} {k : Nat} : ∀ l, runS f k 0 l = 0
  | [] => rfl
  | c :: l => by
    have e : runS f k 0 (c :: l) = runS f k (stepF f 0 c k) l := rfl
    rw [e, stepF_zero, runS_zero l]
theorem walk_left {f g : Nat → Nat → Int} {k K : Nat} (ho : Okf k f) : ∀ (l : List Nat) (s : Nat), Ltr l → s < 32 → s ≠ 0 → (0 ≤ walkL (twoH f k g K) (s : Int) l ↔ runS f k s l ≠ 0)
  | [], s, _, _, h0 => ⟨fun _ => h0, fun _ => by simp only [walkL]; omega⟩
  | c :: l, s, hl, hs, _ => by
    have hc := hl c List.mem_cons_self
    have h1 := stepF_lt ho s c hc k (Nat.le_refl _)
    have h2 := pow_le_32 ho.k5
    have e : runS f k s (c :: l) = runS f k (stepF f s c k) l := rfl
    rw [walkL, if_pos (by omega), Int.toNat_natCast, e, twoH, if_pos hs]
    by_cases hz : stepF f s c k = 0
    · rw [if_pos hz, walkL_neg (by decide), hz, runS_zero]
      exact ⟨fun h => absurd h (by decide), fun h => absurd rfl h⟩
    · rw [if_neg hz]
      exact walk_left ho l _ (fun d hd => hl d (List.mem_cons_of_mem _ hd)) (by omega) hz
theorem walk_right {f g : Nat → Nat → Int} {k K : Nat} (ho : Okf K g) : ∀ (l : List Nat) (s : Nat), Ltr l → s < 32 → s ≠ 0 → (0 ≤ walkL (twoH f k g K) ((32 + s : Nat) : Int) l ↔ runS g K s l ≠ 0)
  | [], s, _, _, h0 => ⟨fun _ => h0, fun _ => by simp only [walkL]; omega⟩
  | c :: l, s, hl, hs, _ => by
    have hc := hl c List.mem_cons_self
    have h1 := stepF_lt ho s c hc K (Nat.le_refl _)
    have h2 := pow_le_32 ho.k5
    have e : runS g K s (c :: l) = runS g K (stepF g s c K) l := rfl
    rw [walkL, if_pos (by omega), Int.toNat_natCast, e, twoH, if_neg (by omega), show 32 + s - 32 = s by omega]
    by_cases hz : stepF g s c K = 0
    · rw [if_pos hz, walkL_neg (by decide), hz, runS_zero]
      exact ⟨fun h => absurd h (by decide), fun h => absurd rfl h⟩
    · rw [if_neg hz]
      have ih := walk_right (f := f) (k := k) ho l (stepF g s c K) (fun d hd => hl d (List.mem_cons_of_mem _ hd)) (by omega) hz
      rwa [show ((32 + stepF g s c K : Nat) : Int) = 32 + (stepF g s c K : Int) by omega] at ih
theorem twoH_lt {f g : Nat → Nat → Int} {k K : Nat} (ho : Okf k f) (hg : Okf K g) : ∀ i x, i < 64 → x < 2 → twoH f k g K i x < 64 := fun i x _ hx => by
  have h1 := stepF_lt ho i x hx k (Nat.le_refl _)
  have h2 := pow_le_32 ho.k5
  have h3 := stepF_lt hg (i - 32) x hx K (Nat.le_refl _)
  have h4 := pow_le_32 hg.k5
  unfold twoH
  split <;> split <;> omega
theorem gA_iff (a b : Nat) : gA ((a : Int), (b : Int)) = true ↔ ¬ (a ≠ 0 ↔ b ≠ 0) := by
  unfold gA
  rw [decide_eq_true_iff, decide_eq_decide]
  simp only
  constructor
  · intro h hh; exact h ⟨fun ha => by have : ¬ b ≠ 0 := fun hb => (hh.2 hb) (by omega); omega, fun hb => by have : ¬ a ≠ 0 := fun ha => (hh.1 ha) (by omega); omega⟩
  · intro h hh; exact h ⟨fun ha hb => ha (by have := hh.2 (by omega); omega), fun hb ha => hb (by have := hh.1 (by omega); omega)⟩
theorem two_short {f g : Nat → Nat → Int} {k K : Nat} (ho : Okf k f) (hg : Okf K g) {s t : Nat} (hs : s < 32) (ht : t < 32) (hs0 : s ≠ 0) (ht0 : t ≠ 0) {l : List Nat} (hl : Ltr l) (h : gA (runL (nextA f k g K) ((s : Int), (t : Int)) l) = true) : ∃ l', Ltr l' ∧ l'.length ≤ 64 ∧ gA (runL (nextA f k g K) ((s : Int), (t : Int)) l') = true := by
  rw [run_nextA, gA_iff, ← walk_left (g := g) (K := K) ho l s hl hs hs0, ← walk_right (f := f) (k := k) hg l t hl ht ht0] at h
  have hb := twoH_lt ho hg
  have hne : ¬ (eqIter (twoH f k g K) 64 64).getD s 0 = (eqIter (twoH f k g K) 64 64).getD (32 + t) 0 := fun he => h (alike_of (by decide) hb l s (32 + t) hl (by omega) (by omega) he)
  obtain ⟨l', h1, h2, h3⟩ := apart_short hb 64 s (32 + t) (by omega) (by omega) hne
  refine ⟨l', h1, h2, ?_⟩
  rw [run_nextA, gA_iff, ← walk_left (g := g) (K := K) ho l' s h1 hs hs0, ← walk_right (f := f) (k := k) hg l' t h1 ht ht0]
  exact h3
theorem apS_facts {f g : Nat → Nat → Int} {k K : Nat} (ho : Okf k f) (hg : Okf K g) {s t : Nat} (hs : s < 2 ^ k) (ht : t < 2 ^ K) (hs0 : s ≠ 0) (ht0 : t ≠ 0) :
    (apS f k g K s t).ans.2 = decide ((apS f k g K s t).len ≥ 0) ∧ ((apS f k g K s t).ans.2 = false → (apS f k g K s t).ans.1 = ⟨#[]⟩) ∧
    ((apS f k g K s t).ans.2 = true → ((apS f k g K s t).ans.1.size : Int) = (apS f k g K s t).len ∧ wordB (apS f k g K s t).ans.1 = true ∧ (apS f k g K s t).ans.1.size ≤ 64 ∧
      ¬ decide (fromTo f k s (apS f k g K s t).ans.1 (apS f k g K s t).ans.1.size = 0) = decide (fromTo g K t (apS f k g K s t).ans.1 (apS f k g K s t).ans.1.size = 0)) := by
  have h32 := pow_le_32 ho.k5
  have h32g := pow_le_32 hg.k5
  have hok := apS_ok ho hg (s := s) (t := t) (by omega) (by omega)
  have hsp := bfsV_spec (g := gA) hok.hs hok.hD hok.hdom hok.hN
  have hv : bfsV (apS f k g K s t).F gA (apS f k g K s t).s (apS f k g K s t).N = (apS f k g K s t).ans := rfl
  rw [hv] at hsp
  unfold Srch.len
  refine ⟨?_, fun h => (hsp.2 h).1, fun h => ?_⟩
  · cases h : (apS f k g K s t).ans.2 with
    | true => rw [if_pos rfl, decide_eq_true (by omega)]
    | false => rw [if_neg (by decide)]; rfl
  · rw [if_pos h]
    obtain ⟨l, h1, h2, h3⟩ := hsp.1 h
    obtain ⟨l', g1, g2, g3⟩ := two_short ho hg (by omega) (by omega) hs0 ht0 h1 h3
    have hshort := bfsGo_short (F := (apS f k g K s t).F) (g := gA) (s := (apS f k g K s t).s) 1024 0 (fun j e hj => absurd hj (Nat.not_lt_zero j)) h l' g1 g3
    have hsz : (apS f k g K s t).ans.1.size ≤ 64 := Nat.le_trans hshort g2
    obtain ⟨w1, w2, w3⟩ := word_run (f := f) (k := k) s l.length l rfl h1
    obtain ⟨_, _, w4⟩ := word_run (f := g) (k := K) t l.length l rfl h1
    have e : runL (apS f k g K s t).F (apS f k g K s t).s l = _ := run_nextA l s t
    rw [e, gA_iff] at h3
    rw [h2] at hsz ⊢
    rw [w2] at hsz ⊢
    refine ⟨rfl, wordB_of_lets w1 (by rw [w2]; omega), hsz, ?_⟩
    rw [w3, w4, decide_eq_decide]
    exact fun hh => h3 ⟨fun ha hb => ha (hh.2 hb), fun hb ha => hb (hh.1 ha)⟩
end Go.Kx
