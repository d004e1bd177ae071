import PyProof.Rows.All
import Wide.All
import OpenK.AllK
import Wide.FinOn
import HandS.ForMost
import HandS.TryOnly
import HandS.ExcOwn
import HandS.WordsExc
import HandS.ExcInit
import HandS.ExcIs
import HandS.ExcField
import HandS.IsInst
import HandS.TupAny
import HandS.SortRule
import HandS.Strs
import HandS.Conv
import HandS.Evl
import HandS.Walk
import KE.KExcIs
import KE.GoesEnum
import HandS.Codes
import PySem.Challenge.RW_ringbeats_k02_whole_places_on_rings
/-! RbMath: the plain law of rings, places and tournaments; core Lean alone. -/
set_option linter.all false
namespace Rb

/-! ### the walk's mirrors -/
/-- a place is 1 .. half a ring ahead -/
def isAhead (R a b : Int) : Bool := decide (1 ≤ (b - a) % R ∧ (b - a) % R ≤ R / 2)
def at0 (ps : List Int) (j : Nat) : Int := ps.getD j 0
/-- whom the i-th beats -/
def rowT (R : Int) (ps : List Int) (i : Nat) : List Nat := (List.range ps.length).filter fun j => isAhead R (at0 ps i) (at0 ps j)
def tour (R : Int) (ps : List Int) : List (List Nat) := (List.range ps.length).map (rowT R ps)
/-- valid rings and places -/
structure Ok (R : Int) (ps : List Int) : Prop where
  lo : 1 ≤ R
  hi : R ≤ 31
  odd : R % 2 = 1
  some : 1 ≤ ps.length
  few : ps.length ≤ 8
  on : ∀ p ∈ ps, 0 ≤ p ∧ p < R
  nd : ps.Nodup

theorem at0_mem {ps : List Int} {i : Nat} (h : i < ps.length) : at0 ps i ∈ ps := by
  unfold at0
  rw [List.getD_eq_getElem?_getD, List.getElem?_eq_getElem h]
  exact List.getElem_mem h
theorem at0_get {ps : List Int} {i : Nat} (h : i < ps.length) : ps[i]? = some (at0 ps i) := by
  unfold at0
  rw [List.getD_eq_getElem?_getD, List.getElem?_eq_getElem h]
  rfl
theorem at0_of {ps : List Int} {i : Nat} {x : Int} (h : ps[i]? = some x) : at0 ps i = x := by
  unfold at0
  rw [List.getD_eq_getElem?_getD, h]
  rfl
theorem at0_map {ps : List Int} {f : Int → Int} {i : Nat} (h : i < ps.length) : at0 (ps.map f) i = f (at0 ps i) := by
  unfold at0
  rw [List.getD_eq_getElem?_getD, List.getD_eq_getElem?_getD, List.getElem?_map, List.getElem?_eq_getElem h]
  rfl
theorem at0_inj {ps : List Int} (nd : ps.Nodup) {i j : Nat} (hi : i < ps.length) (hj : j < ps.length) (e : at0 ps i = at0 ps j) : i = j := by
  have a := at0_get hi
  have b := at0_get hj
  rw [← e] at b
  obtain ⟨h1, e1⟩ := List.getElem?_eq_some_iff.mp a
  obtain ⟨h2, e2⟩ := List.getElem?_eq_some_iff.mp b
  exact (List.getElem_inj nd).mp (e1.trans e2.symm)
theorem Ok.at {R : Int} {ps : List Int} (h : Ok R ps) {i : Nat} (hi : i < ps.length) : 0 ≤ at0 ps i ∧ at0 ps i < R := h.on _ (at0_mem hi)

/-- the steps from a to b -/
theorem steps {R a b : Int} (ha : 0 ≤ a) (ha' : a < R) (hb : 0 ≤ b) (hb' : b < R) : (b - a) % R = if a ≤ b then b - a else b - a + R := by
  by_cases h : a ≤ b
  · rw [if_pos h]
    exact Int.emod_eq_of_lt (by omega) (by omega)
  · rw [if_neg h]
    rw [← Int.add_emod_right (b - a) R]
    exact Int.emod_eq_of_lt (by omega) (by omega)
theorem wrap {R x : Int} (h0 : 0 ≤ x) (h1 : x < 2 * R) : x % R = if x < R then x else x - R := by
  by_cases h : x < R
  · rw [if_pos h]
    exact Int.emod_eq_of_lt h0 h
  · rw [if_neg h]
    rw [show x % R = (x - R + R) % R by rw [Int.sub_add_cancel], Int.add_emod_right]
    exact Int.emod_eq_of_lt (by omega) (by omega)

/-! ### the law's own rows -/
def aheadL (R one : Int) : List Int := (List.range ((R + 1) / 2 - 1).toNat).map fun (k : Nat) => (one + (1 + (k : Int))) % R
def rowB (R : Int) (ps : List Int) (one : Int) : List Nat := (List.range ps.length).filter fun j => (aheadL R one).any fun y => y == at0 ps j
theorem ahead_any {R a b : Int} (h1 : 1 ≤ R) (ho : R % 2 = 1) (ha : 0 ≤ a) (ha' : a < R) (hb : 0 ≤ b) (hb' : b < R) : ((aheadL R a).any fun y => y == b) = isAhead R a b := by
  have hR : R / 2 * 2 + 1 = R := by omega
  have key : (∃ k : Nat, k < ((R + 1) / 2 - 1).toNat ∧ (a + (1 + (k : Int))) % R = b) ↔ (1 ≤ (b - a) % R ∧ (b - a) % R ≤ R / 2) := by
    rw [steps ha ha' hb hb']
    constructor
    · rintro ⟨k, hk, e⟩
      rw [wrap (by omega) (by omega)] at e
      split at e <;> split <;> omega
    · intro h
      by_cases hab : a ≤ b
      · rw [if_pos hab] at h
        refine ⟨(b - a - 1).toNat, by omega, ?_⟩
        rw [wrap (by omega) (by omega), if_pos (by omega)]
        omega
      · rw [if_neg hab] at h
        refine ⟨(b - a + R - 1).toNat, by omega, ?_⟩
        rw [wrap (by omega) (by omega), if_neg (by omega)]
        omega
  unfold isAhead
  rw [Bool.eq_iff_iff, List.any_eq_true, decide_eq_true_iff, ← key]
  unfold aheadL
  constructor
  · rintro ⟨x, hx, e⟩
    obtain ⟨k, hk, rfl⟩ := List.mem_map.mp hx
    exact ⟨k, List.mem_range.mp hk, by simpa using e⟩
  · rintro ⟨k, hk, e⟩
    exact ⟨b, List.mem_map.mpr ⟨k, List.mem_range.mpr hk, e⟩, by simp⟩
theorem filter_ext {α : Type} {p q : α → Bool} : ∀ {l : List α}, (∀ x ∈ l, p x = q x) → l.filter p = l.filter q
  | [], _ => rfl
  | x :: r, h => by
    rw [List.filter_cons, List.filter_cons, h x (List.mem_cons_self ..), filter_ext fun y hy => h y (List.mem_cons_of_mem _ hy)]
theorem rowB_is {R : Int} {ps : List Int} (h : Ok R ps) {i : Nat} (hi : i < ps.length) : rowB R ps (at0 ps i) = rowT R ps i := by
  unfold rowB rowT
  refine filter_ext fun j hj => ?_
  have hj := List.mem_range.mp hj
  exact ahead_any h.lo h.odd (h.at hi).1 (h.at hi).2 (h.at hj).1 (h.at hj).2
theorem tour_of {R R' : Int} {ps ps' : List Int} (hl : ps'.length = ps.length) (h : ∀ i j, i < ps.length → j < ps.length → isAhead R' (at0 ps' i) (at0 ps' j) = isAhead R (at0 ps i) (at0 ps j)) : tour R' ps' = tour R ps := by
  unfold tour
  rw [hl]
  refine List.map_congr_left fun i hi => ?_
  unfold rowT
  rw [hl]
  exact filter_ext fun j hj => h i j (List.mem_range.mp hi) (List.mem_range.mp hj)

/-! ### of two players one beats the other -/
theorem ahead_flip {R a b : Int} (h1 : 1 ≤ R) (ho : R % 2 = 1) (ha : 0 ≤ a) (ha' : a < R) (hb : 0 ≤ b) (hb' : b < R) (ne : a ≠ b) : isAhead R b a = !isAhead R a b := by
  unfold isAhead
  rw [steps ha ha' hb hb', steps hb hb' ha ha']
  rw [Bool.eq_iff_iff]
  simp only [Bool.not_eq_true', decide_eq_true_eq, decide_eq_false_iff_not]
  by_cases h : a ≤ b
  · rw [if_pos h, if_neg (by omega)]
    omega
  · rw [if_neg h, if_pos (by omega)]
    omega
theorem mem_rowT {R : Int} {ps : List Int} {i j : Nat} : j ∈ rowT R ps i ↔ j < ps.length ∧ isAhead R (at0 ps i) (at0 ps j) = true := by
  unfold rowT
  rw [List.mem_filter, List.mem_range]

/-! ### turned, mirrored, widened, scaled -/
def turnP (R m : Int) (ps : List Int) : List Int := ps.map fun p => (p + m) % R
def mirP (R : Int) (ps : List Int) : List Int := ps.map fun p => (R - p) % R
def opp (R at_ : Int) : Int := (at_ + R / 2) % R
def b2i (b : Bool) : Int := if b then 1 else 0
def wideP (R at_ : Int) (ps : List Int) : List Int := ps.map fun p => p + b2i (decide (at_ < p)) + b2i (decide (opp R at_ < p))
def scaP (f : Int) (ps : List Int) : List Int := ps.map fun p => p * f

theorem nodup_map {f : Int → Int} {R : Int} : ∀ {ps : List Int}, (∀ p ∈ ps, 0 ≤ p ∧ p < R) → (∀ p q, 0 ≤ p → p < R → 0 ≤ q → q < R → f p = f q → p = q) → ps.Nodup → (ps.map f).Nodup
  | [], _, _, _ => List.nodup_nil
  | p :: r, ho, hf, nd => by
    rw [List.map_cons, List.nodup_cons]
    rw [List.nodup_cons] at nd
    refine ⟨fun hm => ?_, nodup_map (fun q hq => ho q (List.mem_cons_of_mem _ hq)) hf nd.2⟩
    obtain ⟨q, hq, e⟩ := List.mem_map.mp hm
    have a := ho p (List.mem_cons_self ..)
    have b := ho q (List.mem_cons_of_mem _ hq)
    have z := hf q p b.1 b.2 a.1 a.2 e
    exact nd.1 (z ▸ hq)
theorem Ok.map {R R' : Int} {ps : List Int} {f : Int → Int} (h : Ok R ps) (h1 : 1 ≤ R') (h2 : R' ≤ 31) (h3 : R' % 2 = 1) (hf : ∀ p, 0 ≤ p → p < R → 0 ≤ f p ∧ f p < R') (hi : ∀ p q, 0 ≤ p → p < R → 0 ≤ q → q < R → f p = f q → p = q) : Ok R' (ps.map f) where
  lo := h1
  hi := h2
  odd := h3
  some := by rw [List.length_map]; exact h.some
  few := by rw [List.length_map]; exact h.few
  on := fun p hp => by
    obtain ⟨q, hq, rfl⟩ := List.mem_map.mp hp
    exact hf q (h.on q hq).1 (h.on q hq).2
  nd := nodup_map h.on hi h.nd
theorem turn_ok {R m : Int} {ps : List Int} (h : Ok R ps) (h0 : 0 ≤ m) (h1 : m < R) : Ok R (turnP R m ps) := by
  have hp := h.lo
  refine h.map h.lo h.hi h.odd (fun p a b => ⟨Int.emod_nonneg _ (by omega), Int.emod_lt_of_pos _ (by omega)⟩) fun p q a b c d e => ?_
  rw [wrap (by omega) (by omega), wrap (by omega) (by omega)] at e
  split at e <;> split at e <;> omega
theorem mir_ok {R : Int} {ps : List Int} (h : Ok R ps) : Ok R (mirP R ps) := by
  have hp := h.lo
  refine h.map h.lo h.hi h.odd (fun p a b => ⟨Int.emod_nonneg _ (by omega), Int.emod_lt_of_pos _ (by omega)⟩) fun p q a b c d e => ?_
  rw [wrap (by omega) (by omega), wrap (by omega) (by omega)] at e
  split at e <;> split at e <;> omega
theorem b2i_01 (b : Bool) : 0 ≤ b2i b ∧ b2i b ≤ 1 := by cases b <;> decide
theorem opp_in {R a : Int} (h : 1 ≤ R) : 0 ≤ opp R a ∧ opp R a < R := ⟨Int.emod_nonneg _ (by omega), Int.emod_lt_of_pos _ (by omega)⟩
theorem b2i_lt (x p : Int) : b2i (decide (x < p)) = if x < p then 1 else 0 := by
  unfold b2i
  by_cases h : x < p
  · rw [if_pos h, decide_eq_true h, if_pos rfl]
  · rw [if_neg h, decide_eq_false h]
    rfl
theorem wide_ok {R a : Int} {ps : List Int} (h : Ok R ps) (h2 : R + 2 ≤ 31) : Ok (R + 2) (wideP R a ps) := by
  have hp := h.lo
  have ho := h.odd
  refine h.map (by omega) h2 (by omega) (fun p x y => ?_) fun p q x y c d e => ?_
  · have := b2i_01 (decide (a < p))
    have := b2i_01 (decide (opp R a < p))
    omega
  · rw [b2i_lt, b2i_lt, b2i_lt, b2i_lt] at e
    split at e <;> split at e <;> split at e <;> split at e <;> omega
theorem sca_ok {R f : Int} {ps : List Int} (h : Ok R ps) (hf : 1 ≤ f) (hf2 : f % 2 = 1) (h2 : R * f ≤ 31) : Ok (R * f) (scaP f ps) := by
  have hp := h.lo
  refine h.map (Int.le_trans hp (by have := Int.mul_le_mul_of_nonneg_left hf (show (0 : Int) ≤ R by omega); omega)) h2 ?_ (fun p x y => ⟨Int.mul_nonneg x (by omega), Int.mul_lt_mul_of_pos_right y (by omega)⟩) fun p q x y c d e => Int.eq_of_mul_eq_mul_right (by omega) e
  rw [Int.mul_emod, h.odd, hf2]
  decide

theorem turn_tour {R m : Int} {ps : List Int} (h : Ok R ps) (h0 : 0 ≤ m) (h1 : m < R) : tour R (turnP R m ps) = tour R ps := by
  refine tour_of (List.length_map ..) fun i j hi hj => ?_
  unfold turnP
  rw [at0_map hi, at0_map hj]
  have a := h.at hi
  have b := h.at hj
  unfold isAhead
  have e : ((at0 ps j + m) % R - (at0 ps i + m) % R) % R = (at0 ps j - at0 ps i) % R := by
    rw [← Int.sub_emod]
    congr 1
    omega
  rw [e]
theorem mir_ahead {R a b : Int} (ha : 0 ≤ a) (ha' : a < R) (hb : 0 ≤ b) (hb' : b < R) : ((R - b) % R - (R - a) % R) % R = (a - b) % R := by
  rw [← Int.sub_emod]
  congr 1
  omega
theorem wide_ahead {R c a b : Int} (h1 : 1 ≤ R) (ho : R % 2 = 1) (hc : 0 ≤ c) (hc' : c < R) (ha : 0 ≤ a) (ha' : a < R) (hb : 0 ≤ b) (hb' : b < R) :
    isAhead (R + 2) (a + b2i (decide (c < a)) + b2i (decide (opp R c < a))) (b + b2i (decide (c < b)) + b2i (decide (opp R c < b))) = isAhead R a b := by
  have x1 := b2i_01 (decide (c < a))
  have x2 := b2i_01 (decide (opp R c < a))
  have x3 := b2i_01 (decide (c < b))
  have x4 := b2i_01 (decide (opp R c < b))
  unfold isAhead
  rw [steps ha ha' hb hb', steps (by omega) (by omega) (by omega) (by omega)]
  rw [b2i_lt, b2i_lt, b2i_lt, b2i_lt]
  have eo : opp R c = if c + R / 2 < R then c + R / 2 else c + R / 2 - R := wrap (by omega) (by omega)
  rw [Bool.eq_iff_iff, decide_eq_true_iff, decide_eq_true_iff]
  generalize opp R c = o at eo
  split at eo <;> (by_cases q1 : c < a) <;> (by_cases q2 : o < a) <;> (by_cases q3 : c < b) <;> (by_cases q4 : o < b) <;> (by_cases q5 : a ≤ b) <;> simp only [q1, q2, q3, q4, q5, if_true, if_false] <;> split <;> omega
theorem wide_tour {R c : Int} {ps : List Int} (h : Ok R ps) (hc : 0 ≤ c) (hc' : c < R) : tour (R + 2) (wideP R c ps) = tour R ps := by
  refine tour_of (List.length_map ..) fun i j hi hj => ?_
  unfold wideP
  rw [at0_map hi, at0_map hj]
  exact wide_ahead h.lo h.odd hc hc' (h.at hi).1 (h.at hi).2 (h.at hj).1 (h.at hj).2
theorem sca_steps {R f x : Int} (hf : 0 < f) : (x * f) % (R * f) = x % R * f := by
  rw [Int.mul_comm x f, Int.mul_comm R f, Int.mul_emod_mul_of_pos x R hf, Int.mul_comm]
theorem sca_tour {R f : Int} {ps : List Int} (h : Ok R ps) (hf : 1 ≤ f) (hf2 : f % 2 = 1) : tour (R * f) (scaP f ps) = tour R ps := by
  refine tour_of (List.length_map ..) fun i j hi hj => ?_
  unfold scaP
  rw [at0_map hi, at0_map hj]
  have h0 := h.lo
  have ho := h.odd
  unfold isAhead
  rw [← Int.sub_mul, sca_steps (by omega)]
  have ha : 0 ≤ (at0 ps j - at0 ps i) % R := Int.emod_nonneg _ (by omega)
  have hb : (at0 ps j - at0 ps i) % R < R := Int.emod_lt_of_pos _ (by omega)
  generalize (at0 ps j - at0 ps i) % R = d at ha hb
  rw [Bool.eq_iff_iff, decide_eq_true_iff, decide_eq_true_iff]
  obtain ⟨m, hm⟩ : ∃ m, R = 2 * m + 1 := ⟨R / 2, by omega⟩
  obtain ⟨g, hg⟩ : ∃ g, f = 2 * g + 1 := ⟨f / 2, by omega⟩
  have e1 : R / 2 = m := by omega
  have e2 : R * f / 2 = m * f + g := by
    have : R * f = 2 * (m * f + g) + 1 := by rw [hm, Int.add_mul, Int.mul_assoc, Int.one_mul]; omega
    omega
  rw [e1, e2]
  constructor
  · rintro ⟨x, y⟩
    constructor
    · by_cases hd : d = 0
      · subst hd; omega
      · omega
    · by_cases hd : d ≤ m
      · exact hd
      · have := Int.mul_le_mul_of_nonneg_right (show m + 1 ≤ d by omega) (show (0 : Int) ≤ f by omega)
        rw [Int.add_mul, Int.one_mul] at this
        omega
  · rintro ⟨x, y⟩
    have a := Int.mul_le_mul_of_nonneg_right y (show (0 : Int) ≤ f by omega)
    have b := Int.mul_le_mul_of_nonneg_right x (show (0 : Int) ≤ f by omega)
    omega

/-! ### reversed -/
def revT (n : Nat) (t : List (List Nat)) : List (List Nat) := (List.range n).map fun i => (List.range n).filter fun j => (t.getD j []).contains i
theorem tour_get {R : Int} {ps : List Int} {i : Nat} (hi : i < ps.length) : (tour R ps).getD i [] = rowT R ps i := by
  unfold tour
  rw [List.getD_eq_getElem?_getD, List.getElem?_map, List.getElem?_range hi]
  rfl
theorem tour_len {R : Int} {ps : List Int} : (tour R ps).length = ps.length := by
  unfold tour
  rw [List.length_map, List.length_range]
theorem mir_tour {R : Int} {ps : List Int} (h : Ok R ps) : tour R (mirP R ps) = revT ps.length (tour R ps) := by
  unfold revT
  have e : (mirP R ps).length = ps.length := List.length_map ..
  show (List.range (mirP R ps).length).map (rowT R (mirP R ps)) = _
  rw [e]
  refine List.map_congr_left fun i hi => ?_
  have hi := List.mem_range.mp hi
  show (List.range (mirP R ps).length).filter _ = _
  rw [e]
  refine filter_ext fun j hj => ?_
  have hj := List.mem_range.mp hj
  rw [tour_get hj, Bool.eq_iff_iff, List.contains_iff_mem, mem_rowT]
  unfold mirP
  rw [at0_map hi, at0_map hj]
  have a := h.at hi
  have b := h.at hj
  constructor
  · intro q
    refine ⟨hi, ?_⟩
    unfold isAhead at q ⊢
    rw [mir_ahead a.1 a.2 b.1 b.2] at q
    exact q
  · rintro ⟨_, q⟩
    unfold isAhead at q ⊢
    rw [mir_ahead a.1 a.2 b.1 b.2]
    exact q
/-- the law's question at each k: of k and the next one exactly one beats the other -/
theorem one_beats {R : Int} {ps : List Int} (h : Ok R ps) {k : Nat} (hk : k < ps.length) (h2 : 1 < ps.length) :
    (((tour R ps).getD k []).contains ((k + 1) % ps.length) == ((tour R ps).getD ((k + 1) % ps.length) []).contains k) = false := by
  have hm : (k + 1) % ps.length < ps.length := Nat.mod_lt _ (by omega)
  have ne : k ≠ (k + 1) % ps.length := by
    by_cases q : k + 1 < ps.length
    · rw [Nat.mod_eq_of_lt q]; omega
    · have : k + 1 = ps.length := by omega
      rw [this, Nat.mod_self]; omega
  generalize (k + 1) % ps.length = m at hm ne
  rw [tour_get hk, tour_get hm]
  have c1 : (rowT R ps k).contains m = isAhead R (at0 ps k) (at0 ps m) := by
    rw [Bool.eq_iff_iff, List.contains_iff_mem, mem_rowT]
    exact ⟨fun q => q.2, fun q => ⟨hm, q⟩⟩
  have c2 : (rowT R ps m).contains k = isAhead R (at0 ps m) (at0 ps k) := by
    rw [Bool.eq_iff_iff, List.contains_iff_mem, mem_rowT]
    exact ⟨fun q => q.2, fun q => ⟨hk, q⟩⟩
  rw [c1, c2, ahead_flip h.lo h.odd (h.at hk).1 (h.at hk).2 (h.at hm).1 (h.at hm).2 fun e => ne (at0_inj h.nd hk hm e)]
  cases isAhead R (at0 ps k) (at0 ps m) <;> rfl

/-! ### the order around -/
def key (R : Int) (ps : List Int) (j : Nat) : Int := (at0 ps j - at0 ps 0) % R
/-- l is the order around -/
structure IsAr (R : Int) (ps : List Int) (l : List Nat) : Prop where
  perm : l.Perm (List.range ps.length)
  up : l.Pairwise fun i j => key R ps i < key R ps j
theorem pair_uniq {f : Nat → Int} : ∀ {l m : List Nat}, l.Perm m → l.Pairwise (fun i j => f i < f j) → m.Pairwise (fun i j => f i < f j) → l = m
  | [], m, p, _, _ => (List.nil_perm.mp p).symm
  | x :: l, [], p, _, _ => absurd p.length_eq (by simp)
  | x :: l, y :: m, p, hl, hm => by
    rw [List.pairwise_cons] at hl hm
    have e : x = y := by
      have hx : x ∈ y :: m := p.mem_iff.mp (List.mem_cons_self ..)
      have hy : y ∈ x :: l := p.mem_iff.mpr (List.mem_cons_self ..)
      rcases List.mem_cons.mp hx with e | hx
      · exact e
      · rcases List.mem_cons.mp hy with e | hy
        · exact e.symm
        · have := hl.1 y hy
          have := hm.1 x hx
          omega
    subst e
    rw [pair_uniq p.cons_inv hl.2 hm.2]
theorem IsAr.uniq {R : Int} {ps : List Int} {l m : List Nat} (a : IsAr R ps l) (b : IsAr R ps m) : l = m := pair_uniq (a.perm.trans b.perm.symm) a.up b.up
theorem IsAr.to {R R' : Int} {ps ps' : List Int} {l : List Nat} (a : IsAr R ps l) (hl : ps'.length = ps.length) (h : ∀ i j, i < ps.length → j < ps.length → key R ps i < key R ps j → key R' ps' i < key R' ps' j) : IsAr R' ps' l where
  perm := by rw [hl]; exact a.perm
  up := by
    have hm : ∀ i ∈ l, i < ps.length := fun i hi => List.mem_range.mp (a.perm.mem_iff.mp hi)
    exact a.up.imp_of_mem fun hi hj q => h _ _ (hm _ hi) (hm _ hj) q
def aroundL (R : Int) (ps : List Int) : List Nat := ((List.range R.toNat).filter fun (k : Nat) => ps.any fun y => y == (at0 ps 0 + (k : Int)) % R).map fun (k : Nat) => ps.idxOf ((at0 ps 0 + (k : Int)) % R)
theorem idx_at {ps : List Int} {x : Int} (h : x ∈ ps) : ps.idxOf x < ps.length ∧ at0 ps (ps.idxOf x) = x := by
  have hl := List.idxOf_lt_length_of_mem h
  refine ⟨hl, at0_of ?_⟩
  rw [List.getElem?_eq_getElem hl, List.getElem_idxOf]
theorem around_is {R : Int} {ps : List Int} (h : Ok R ps) : IsAr R ps (aroundL R ps) := by
  have h0 : 0 < ps.length := h.some
  have p0 := h.at h0
  have hR := h.lo
  have mem : ∀ k : Nat, k ∈ (List.range R.toNat).filter (fun (k : Nat) => ps.any fun y => y == (at0 ps 0 + (k : Int)) % R) → (k : Int) < R ∧ (at0 ps 0 + (k : Int)) % R ∈ ps := fun k hk => by
    obtain ⟨h1, h2⟩ := List.mem_filter.mp hk
    have h1 := List.mem_range.mp h1
    obtain ⟨y, hy, e⟩ := List.any_eq_true.mp h2
    have e : y = (at0 ps 0 + (k : Int)) % R := by simpa using e
    exact ⟨by omega, e ▸ hy⟩
  have kk : ∀ k : Nat, (k : Int) < R → (at0 ps 0 + (k : Int)) % R ∈ ps → key R ps (ps.idxOf ((at0 ps 0 + (k : Int)) % R)) = k := fun k hk hm => by
    unfold key
    rw [(idx_at hm).2, Int.emod_sub_emod, show at0 ps 0 + (k : Int) - at0 ps 0 = (k : Int) by omega]
    exact Int.emod_eq_of_lt (by omega) hk
  have up : (aroundL R ps).Pairwise fun i j => key R ps i < key R ps j := by
    unfold aroundL
    rw [List.pairwise_map]
    have q : ((List.range R.toNat).filter (fun (k : Nat) => ps.any fun y => y == (at0 ps 0 + (k : Int)) % R)).Pairwise (· < ·) := List.Pairwise.filter _ List.pairwise_lt_range
    refine q.imp_of_mem fun {a b} ha hb lt => ?_
    rw [kk a (mem a ha).1 (mem a ha).2, kk b (mem b hb).1 (mem b hb).2]
    omega
  refine ⟨?_, up⟩
  have nd : (aroundL R ps).Nodup := up.imp fun q e => by
    rw [e] at q
    omega
  refine (List.perm_ext_iff_of_nodup nd List.nodup_range).mpr fun j => ?_
  rw [List.mem_range]
  unfold aroundL
  constructor
  · intro hj
    obtain ⟨k, hk, rfl⟩ := List.mem_map.mp hj
    exact (idx_at (mem k hk).2).1
  · intro hj
    have pj := h.at hj
    have e : (at0 ps 0 + ((key R ps j).toNat : Int)) % R = at0 ps j := by
      unfold key
      rw [Int.toNat_of_nonneg (Int.emod_nonneg _ (by omega)), Int.add_emod, Int.emod_emod, ← Int.add_emod, show at0 ps 0 + (at0 ps j - at0 ps 0) = at0 ps j by omega]
      exact Int.emod_eq_of_lt pj.1 pj.2
    have kl : 0 ≤ key R ps j ∧ key R ps j < R := ⟨Int.emod_nonneg _ (by omega), Int.emod_lt_of_pos _ (by omega)⟩
    refine List.mem_map.mpr ⟨(key R ps j).toNat, List.mem_filter.mpr ⟨List.mem_range.mpr (by omega), List.any_eq_true.mpr ⟨at0 ps j, at0_mem hj, ?_⟩⟩, ?_⟩
    · rw [e]
      exact beq_self_eq_true _
    · rw [e]
      have q := idx_at (at0_mem hj)
      exact at0_inj h.nd q.1 hj q.2

theorem key_0 {R : Int} {ps : List Int} : key R ps 0 = 0 := by
  unfold key
  rw [Int.sub_self, Int.zero_emod]
theorem key_in {R : Int} {ps : List Int} (h : Ok R ps) (j : Nat) : 0 ≤ key R ps j ∧ key R ps j < R := by
  have := h.lo
  exact ⟨Int.emod_nonneg _ (by omega), Int.emod_lt_of_pos _ (by omega)⟩
theorem turn_key {R m : Int} {ps : List Int} {j : Nat} (h : Ok R ps) (hj : j < ps.length) : key R (turnP R m ps) j = key R ps j := by
  unfold key turnP
  have h0 : 0 < ps.length := h.some
  rw [at0_map hj, at0_map h0, ← Int.sub_emod]
  congr 1
  omega
theorem turn_ar {R m : Int} {ps : List Int} {l : List Nat} (h : Ok R ps) (a : IsAr R ps l) : IsAr R (turnP R m ps) l := by
  refine a.to (List.length_map ..) fun i j hi hj q => ?_
  rw [turn_key h hi, turn_key h hj]
  exact q
theorem sca_ar {R f : Int} {ps : List Int} {l : List Nat} (h : Ok R ps) (hf : 1 ≤ f) (a : IsAr R ps l) : IsAr (R * f) (scaP f ps) l := by
  have h0 : 0 < ps.length := h.some
  have e : ∀ j, j < ps.length → key (R * f) (scaP f ps) j = key R ps j * f := fun j hj => by
    unfold key scaP
    rw [at0_map hj, at0_map h0, ← Int.sub_mul, sca_steps (by omega)]
  refine a.to (List.length_map ..) fun i j hi hj q => ?_
  rw [e i hi, e j hj]
  exact Int.mul_lt_mul_of_pos_right q (by omega)
theorem wide_ar {R c : Int} {ps : List Int} {l : List Nat} (h : Ok R ps) (a : IsAr R ps l) : IsAr (R + 2) (wideP R c ps) l := by
  have h0 : 0 < ps.length := h.some
  refine a.to (List.length_map ..) fun i j hi hj q => ?_
  unfold key at q ⊢
  unfold wideP
  rw [at0_map hi, at0_map hj, at0_map h0]
  have pi := h.at hi
  have pj := h.at hj
  have p0 := h.at h0
  rw [steps p0.1 p0.2 pi.1 pi.2, steps p0.1 p0.2 pj.1 pj.2] at q
  have x1 := b2i_01 (decide (c < at0 ps i))
  have x2 := b2i_01 (decide (opp R c < at0 ps i))
  have x3 := b2i_01 (decide (c < at0 ps j))
  have x4 := b2i_01 (decide (opp R c < at0 ps j))
  have x5 := b2i_01 (decide (c < at0 ps 0))
  have x6 := b2i_01 (decide (opp R c < at0 ps 0))
  rw [steps (by omega) (by omega) (by omega) (by omega), steps (by omega) (by omega) (by omega) (by omega)]
  simp only [b2i_lt]
  generalize at0 ps i = a1 at *
  generalize at0 ps j = a2 at *
  generalize at0 ps 0 = a3 at *
  generalize opp R c = o at *
  clear x1 x2 x3 x4 x5 x6
  by_cases q1 : c < a1 <;> by_cases q2 : o < a1 <;> by_cases q3 : c < a2 <;> by_cases q4 : o < a2 <;> by_cases q5 : c < a3 <;> by_cases q6 : o < a3 <;> simp only [q1, q2, q3, q4, q5, q6, if_true, if_false] <;> (by_cases r1 : a3 ≤ a1) <;> (by_cases r2 : a3 ≤ a2) <;> simp only [r1, r2, if_true, if_false] at q <;> (repeat split) <;> omega
/-- mirrored: player 0, then the others the other way round -/
theorem mir_ar {R : Int} {ps : List Int} {l : List Nat} (h : Ok R ps) (a : IsAr R ps l) : IsAr R (mirP R ps) (l.take 1 ++ (l.drop 1).reverse) := by
  have h0 : 0 < ps.length := h.some
  have e : ∀ j, j < ps.length → key R (mirP R ps) j = if key R ps j = 0 then 0 else R - key R ps j := fun j hj => by
    unfold key mirP
    have pj := h.at hj
    have p0 := h.at h0
    rw [at0_map hj, at0_map h0, mir_ahead p0.1 p0.2 pj.1 pj.2, steps pj.1 pj.2 p0.1 p0.2, steps p0.1 p0.2 pj.1 pj.2]
    split <;> split <;> split <;> omega
  have hm : ∀ i ∈ l, i < ps.length := fun i hi => List.mem_range.mp (a.perm.mem_iff.mp hi)
  cases l with
  | nil =>
    have := a.perm.length_eq
    rw [List.length_range] at this
    simp at this
    omega
  | cons x r =>
    have hu := List.pairwise_cons.mp a.up
    have hx0 : key R ps x = 0 := by
      have : 0 ∈ x :: r := a.perm.mem_iff.mpr (List.mem_range.mpr h0)
      rcases List.mem_cons.mp this with q | q
      · rw [← q]; exact key_0
      · have := hu.1 0 q
        rw [key_0] at this
        have := key_in h x
        omega
    refine ⟨?_, ?_⟩
    · show ([x] ++ r.reverse).Perm (List.range (mirP R ps).length)
      rw [show (mirP R ps).length = ps.length from List.length_map ..]
      exact ((List.reverse_perm r).cons x).trans a.perm
    · show ([x] ++ r.reverse).Pairwise _
      rw [List.singleton_append, List.pairwise_cons]
      have pos : ∀ i ∈ r, 0 < key R ps i := fun i hi => by
        have := hu.1 i hi
        omega
      refine ⟨fun i hi => ?_, ?_⟩
      · have hi := List.mem_reverse.mp hi
        rw [e x (hm x (List.mem_cons_self ..)), e i (hm i (List.mem_cons_of_mem _ hi)), hx0, if_pos rfl]
        have := pos i hi
        have := key_in h i
        rw [if_neg (by omega)]
        omega
      · rw [List.pairwise_reverse]
        refine hu.2.imp_of_mem fun {i j} hi hj q => ?_
        rw [e i (hm i (List.mem_cons_of_mem _ hi)), e j (hm j (List.mem_cons_of_mem _ hj))]
        have := pos i hi
        have := pos j hj
        rw [if_neg (by omega), if_neg (by omega)]
        omega

/-! ### the law's row of places with the new ones -/
/-- where the place p comes to stand -/
def pos (c o : Int) (p : Nat) : Nat := p + (if c < (p : Int) then 1 else 0) + (if o < (p : Int) then 1 else 0)
def wRow (c o : Int) : Nat → List (Option Int)
  | 0 => []
  | n + 1 => wRow c o n ++ (if (n : Int) = c ∨ (n : Int) = o then [some (n : Int), none] else [some (n : Int)])
theorem wRow_len {c o : Int} (ne : c ≠ o) (hc : 0 ≤ c) (ho : 0 ≤ o) : ∀ n : Nat, (wRow c o n).length = pos c o n
  | 0 => by
    unfold pos
    rw [if_neg (by omega), if_neg (by omega)]
    rfl
  | n + 1 => by
    have ih := wRow_len ne hc ho n
    show (wRow c o n ++ _).length = _
    rw [List.length_append, ih]
    unfold pos
    by_cases q : (n : Int) = c ∨ (n : Int) = o
    · rw [if_pos q]
      show _ + 2 = _
      split <;> split <;> split <;> split <;> omega
    · rw [if_neg q]
      show _ + 1 = _
      split <;> split <;> split <;> split <;> omega
theorem wRow_at {c o : Int} (ne : c ≠ o) (hc : 0 ≤ c) (ho : 0 ≤ o) : ∀ (n p : Nat), p < n → (wRow c o n)[pos c o p]? = some (some (p : Int))
  | 0, p, h => absurd h (Nat.not_lt_zero p)
  | n + 1, p, h => by
    show (wRow c o n ++ _)[pos c o p]? = _
    by_cases q : p < n
    · have ih := wRow_at ne hc ho n p q
      rw [List.getElem?_append_left (List.getElem?_eq_some_iff.mp ih).1]
      exact ih
    · have e : p = n := by omega
      subst e
      have hl := wRow_len ne hc ho p
      rw [List.getElem?_append_right (by omega), hl, Nat.sub_self]
      split <;> rfl
theorem wRow_lt {c o : Int} : ∀ (n m : Nat) (x : Int), (wRow c o n)[m]? = some (some x) → 0 ≤ x ∧ x < n
  | 0, m, x, h => by simp [wRow] at h
  | n + 1, m, x, h => by
    have h : (wRow c o n ++ _)[m]? = some (some x) := h
    rcases List.mem_append.mp (List.mem_of_getElem? h) with q | q
    · obtain ⟨m', q'⟩ := List.getElem?_of_mem q
      have := wRow_lt n m' x q'
      omega
    · split at q
      · rcases List.mem_cons.mp q with q | q
        · have := Option.some.inj q
          omega
        · rcases List.mem_cons.mp q with q | q
          · cases q
          · cases q
      · rcases List.mem_cons.mp q with q | q
        · have := Option.some.inj q
          omega
        · cases q
theorem wRow_pre {c o : Int} : ∀ (n k : Nat), ∃ t, wRow c o (n + k) = wRow c o n ++ t
  | n, 0 => ⟨[], (List.append_nil _).symm⟩
  | n, k + 1 => by
    obtain ⟨t, e⟩ := wRow_pre (c := c) (o := o) n k
    exact ⟨t ++ _, by
      show wRow c o (n + k) ++ _ = _
      rw [e, List.append_assoc]⟩
theorem wRow_first {c o : Int} (ne : c ≠ o) (hc : 0 ≤ c) (ho : 0 ≤ o) {n p : Nat} (hp : p < n) {m : Nat} (hm : m < pos c o p) : (wRow c o n)[m]? ≠ some (some (p : Int)) := fun h => by
  obtain ⟨t, e⟩ := wRow_pre (c := c) (o := o) p (n - p)
  rw [show p + (n - p) = n by omega] at e
  have hl := wRow_len ne hc ho p
  rw [e, List.getElem?_append_left (by omega)] at h
  have := wRow_lt p m _ h
  omega
theorem opp_ne {R c : Int} (h1 : 3 ≤ R) (hc : 0 ≤ c) (hc' : c < R) : c ≠ opp R c := by
  unfold opp
  rw [wrap (by omega) (by omega)]
  split <;> omega
theorem pos_is (c o : Int) {p : Int} (h : 0 ≤ p) : ((pos c o p.toNat : Nat) : Int) = p + b2i (decide (c < p)) + b2i (decide (o < p)) := by
  unfold pos
  rw [b2i_lt, b2i_lt]
  rw [Int.toNat_of_nonneg h]
  split <;> split <;> omega
end Rb
set_option Elab.async false
set_option linter.all false
set_option maxRecDepth 100000
set_option maxHeartbeats 4000000
/-! RbExt: rules that this law wants and the layer does not bring: isinstance of a caught error that has a dict, tuple.index of flat things, t[:0:-1] of a tuple, enumerate of a tuple. -/
namespace Rbx
open PySem PySem.Spec PyProof.Rows L2

/-! ### isinstance(e, c), e the caught error, its own dict at d -/
def rIsD (K : PySem.W.Frag) (D a : Addr) (cls : Value) (d : Option Addr) : List V → Hp → VK → Prop := fun xs H Q =>
  cls = .ref D ∧ ∃ (dd : Addr) (fs : List (Str × V)) (c : V) (cv : Value) (b : Bool), d = some dd ∧ H dd = some (.xd fs) ∧ xs = [.ref a, c] ∧ (∀ u, RelV c u → u = cv) ∧ PySem.W.kitOne K (.ref D) cv = some b ∧ Q (.bl b) H
theorem call_isD {X : Cx} {a D : Addr} {cls : Value} {d : Option Addr} {oe : Obj} {pn : List (Addr × Obj)} (C : ExcC X.K D) (hz : Zc cls d oe) (hf : ∃ vs, oe.data = .fields vs) : CallR (X.suite a ((a, oe) :: pn)) (.builtin "isinstance") (rIsD X.K D a cls d) := by
  intro pins s σ H xs us Q I r h
  obtain ⟨ec, dd, fs, c, cv, b, ed, hx, exs, hcv, e, q⟩ := h
  subst ec ed exs
  obtain ⟨u1, u2, rfl, r1, r2⟩ := vals2 r
  obtain rfl : u1 = Value.ref a := r1
  obtain rfl := hcv _ r2
  obtain ⟨hget, _⟩ := I.pin (a, oe) (List.mem_append.mpr (.inl List.mem_cons_self))
  obtain ⟨vs, hv⟩ := hf
  have ho : ObjOk X.prog X.w H s.heap dd (.xd fs) := I.hok dd _ hx
  obtain ⟨mA, hns, _⟩ := ho
  obtain ⟨od, hod, _⟩ := lookIn_ns hns
  have J : PySem.W.InstAt s.heap a oe D (some od) := ⟨hget, hz.1, by unfold PySem.W.notCls; rw [hv] <;> rfl, by rw [hz.2]; exact hod⟩
  have hcl : (PySem.W.clsIn X.K D).isSome = true := by
    obtain ⟨cd, hc, _⟩ := PySem.W.any_some C.hd
    rw [hc] <;> rfl
  exact PySem.W.kia_one (PySem.W.kitx_exc hcl C.hg C.hk C.hs C.ha C.hn C.ht C.hm) I.kIn J e (fun z => nomatch z) fun tk => ⟨.bl b, H, I.tok _, rfl, q⟩

/-! ### t.index(x), flat things, the first place -/
def rTix (K : PySem.W.Frag) : V → List V → Hp → VK → Prop := fun x xs H Q => ∃ (a : Addr) (ys : List V) (y : V) (j : Nat) (z : V), x = V.ref a ∧ xs = [y] ∧ SqT K H a ys ∧ flatV y = true ∧ ys.all flatV = true ∧
  ys[j]? = some z ∧ eqV z y = true ∧ (∀ (m : Nat) (z' : V), m < j → ys[m]? = some z' → eqV z' y = false) ∧ Q (.int (j : Nat)) H
theorem mt_tix {X : Cx} : MtR X "tuple.index" (rTix X.K) := by
  intro pins s σ H x xs v us Q I rx rs h
  obtain ⟨a, ys, y, j, z, rfl, rfl, hq, fy, fys, hz, hzj, hno, q⟩ := h
  cases rx
  obtain ⟨u, rfl, ru⟩ := vals1 rs
  obtain ⟨its, r, ⟨⟨cls, dd, dt, sl⟩, ho, hc, n, hd⟩, hsz⟩ := I.tuple hq
  simp only at hc hd
  subst hc hd
  obtain ⟨w, hw, rw'⟩ := r.get hz
  obtain ⟨hjl, hje⟩ := List.getElem?_eq_some_iff.mp hw
  have hj : j < its.toArray.size := by simpa using hjl
  refine call_meets PySem.F.slot_tuple_index ⟨_, ho, rfl⟩ PySem.F.entry_tuple_index (PySem.F.args_tuple_index_2 _ _) (TI.tuple_indexAt a its.toArray n dd sl u (eqU y) j hj ?_ ?_)
    ⟨ho, fun t ht => mem_eqAt ru fy r fys t (by simpa using ht), ⟨.int (j : Nat), H, I.tok _, ⟨_, rfl⟩, q⟩⟩
  · rw [show its.toArray[j] = w by simpa using hje, eqU_of rw' (flat_at fys hz)]
    exact hzj
  · intro m hm hmj
    have hmy : m < ys.length := by
      have : m < its.length := by simpa using hm
      have := r.length
      omega
    have hy' : ys[m]? = some ys[m] := List.getElem?_eq_getElem hmy
    obtain ⟨t, ht, rt⟩ := r.get hy'
    rw [show its.toArray[m] = t by simpa using (List.getElem?_eq_some_iff.mp ht).2, eqU_of rt (flat_at fys hy')]
    exact hno m _ hmj hy'

/-! ### t[:0:-1] of a tuple: all but the first, backwards -/
theorem back_adj (n : Nat) : Builtin.Slice.sliceAdjust none (some 0) (-1) (n : Int) = ((n : Int) - 1, min 0 ((n : Int) - 1)) := rfl
theorem back_num (n : Nat) : Builtin.Slice.slicePlaces ((n : Int) - 1) (min 0 ((n : Int) - 1)) (-1) = n - 1 := by
  unfold Builtin.Slice.slicePlaces
  rw [if_neg (by decide), show (- -1 : Int) = 1 by decide, Int.ediv_one]
  split <;> omega
theorem back_pick (l : List Value) : (List.range (l.length - 1)).filterMap (fun (k : Nat) => l.toArray[((l.length : Int) - 1 + (k : Int) * (-1)).toNat]?) = (l.drop 1).reverse := by
  apply List.ext_getElem?
  intro i
  have key : ∀ m : Nat, m ≤ l.length - 1 → (List.range m).filterMap (fun (k : Nat) => l.toArray[((l.length : Int) - 1 + (k : Int) * (-1)).toNat]?) = ((l.drop 1).reverse).take m := by
    intro m
    induction m with
    | zero => intro _; rfl
    | succ m ih =>
      intro hm
      rw [List.range_succ, List.filterMap_append, ih (by omega), List.take_add_one]
      congr 1
      have e : ((l.length : Int) - 1 + (m : Int) * (-1)).toNat = l.length - 1 - m := by omega
      rw [List.getElem?_reverse (by rw [List.length_drop]; omega), List.length_drop, List.getElem?_drop]
      have e2 : 1 + (l.length - 1 - 1 - m) = l.length - 1 - m := by omega
      rw [e2]
      simp only [List.filterMap_cons, List.filterMap_nil, List.getElem?_toArray, e]
      cases l[l.length - 1 - m]? <;> rfl
  rw [key _ (Nat.le_refl _), List.take_of_length_le (by rw [List.length_reverse, List.length_drop]; exact Nat.le_refl _)]
section
variable {prog : Program} {w : World} {A : Around} {E : Value → Shared → Prop} {s : Shared}
theorem applied_back {sl : Addr} {vu vk : Value} {n : Nat} {Q : Int × Int × Nat → Shared → Prop} (hs : s.heap.IsSliceOf sl .none vu vk) (pu : IsPart vu (some 0)) (pk : IsPart vk (some (-1)))
    (h : Q ((n : Int) - 1, -1, n - 1) s) : wpAny (model prog w) A (Builtin.Slice.sliceApplied (.ref sl) (pure (n : Int))) Q E s := by
  obtain ⟨os, hos, hcs, hds⟩ := id hs
  unfold Builtin.Slice.sliceApplied Builtin.Slice.sliceFields
  refine wpAny_bind (wpAny_bind (wpAny_field hos hds (x := .none) rfl (wpAny_bind (wpAny_field hos hds (x := vu) rfl (wpAny_bind (wpAny_field hos hds (x := vk) rfl (wpAny_pure ?_)))))))
  refine wpAny_bind (HT.slicePart_ pk ?_)
  show wpAny _ _ (if ((-1 : Int) == 0) = true then _ else _) _ _ s
  rw [if_neg (by decide)]
  refine wpAny_bind (HT.slicePart_ .none (wpAny_bind (HT.slicePart_ pu (wpAny_bind (wpAny_pure ?_)))))
  show wpAny _ _ (match Builtin.Slice.sliceAdjust none (some 0) (-1) (n : Int) with | (lo, hi) => pure (lo, (-1 : Int), Builtin.Slice.slicePlaces lo hi (-1))) _ _ s
  rw [back_adj n]
  show wpAny _ _ (pure ((n : Int) - 1, (-1 : Int), Builtin.Slice.slicePlaces ((n : Int) - 1) (min 0 ((n : Int) - 1)) (-1))) _ _ s
  rw [back_num]
  exact wpAny_pure h
theorem item_back {t sl : Addr} {l : List Value} {vu vk : Value} {Q : Value → Shared → Prop} (ht : IsTup s.heap t l.toArray) (hs : s.heap.IsSliceOf sl .none vu vk) (pu : IsPart vu (some 0)) (pk : IsPart vk (some (-1)))
    (h : Q (.ref s.heap.objs.size) { s with heap := s.heap.push { cls := .type "tuple", data := .seq ((l.drop 1).reverse).toArray } })
    (hsz : l.length ≤ sizeLine) : wpAny (model prog w) A (getItem (.ref t) (.ref sl)) Q E s := by
  have hfit : sizeOk (.seq ((l.drop 1).reverse).toArray) := by
    show ((l.drop 1).reverse).toArray.size ≤ sizeLine
    rw [List.size_toArray, List.length_reverse, List.length_drop]
    omega
  obtain ⟨os, hos, hcs, hds⟩ := id hs
  have hTs : s.TypeIs (.ref sl) "slice" := ⟨os, hos, hcs⟩
  unfold getItem
  try with_reducible refine wpAny_holding ?_
  first | refine wpAny_bind (wpAny_pure ?_) | skip
  refine wpAny_bind (wpAny_sequenceKey ht.typeIs (by decide) ?_)
  refine wpAny_bind (wpAny_callSpecial?_slot (name := Str.ofString "__getitem__") ht.typeIs PyProof.Rows.slot_tuple_getitem
    (wpAny_call_entry PyProof.Rows.slot_tuple_getitem ht.typeIs entry_tuple_getitem ?_ (args_tuple_getitem _ _)))
  show wpAny _ _ (Builtin.Tuple.tupleItemsOf (.ref t) >>= _) _ _ s
  refine wpAny_bind (tupleItemsOf_ ht ?_)
  refine wpAny_bind (wpAny_typeOf hTs ?_)
  rw [if_pos (by decide)]
  rw [List.size_toArray]
  refine wpAny_bind (applied_back hs pu pk ?_)
  show wpAny _ _ (if (((l.length : Int) - 1) == 0 && (-1 : Int) == 1 && (l.length - 1) == l.length) = true then _ else _) _ _ s
  rw [if_neg (by rw [show ((-1 : Int) == 1) = false by decide, Bool.and_false, Bool.false_and]; exact Bool.false_ne_true), back_pick]
  first
    | exact wpAny_bind (m := Builtin.Tuple.tupleExact _) (wpAny_newObj_type (wpAny_pure ⟨_, rfl, wpAny_pure h⟩) hfit)
    | exact wpAny_bind (m := Builtin.Tuple.tupleExact _) (wpAny_newObj_type (wpAny_bind (wpAny_pure (wpAny_pure ⟨_, rfl, wpAny_pure h⟩))) hfit)
    | exact wpAny_bind (wpAny_bind (m := Builtin.Tuple.tupleExact _) (wpAny_newObj_type (wpAny_pure (wpAny_pure ⟨_, rfl, wpAny_pure h⟩)) hfit))
    | exact wpAny_bind (wpAny_bind (m := Builtin.Tuple.tupleExact _) (wpAny_newObj_type (wpAny_pure ⟨_, rfl, wpAny_pure h⟩) hfit))
end
def tBack (K : PySem.W.Frag) (te : TE) : TE := fun σ H Q => te σ H fun x H1 => ∃ a xs, x = .ref a ∧ SqT K H1 a xs ∧ ∀ p, H1 p = none → Q (.ref p) (upd H1 p (.tup (xs.drop 1).reverse))
theorem pe_back {X : Cx} {e : Expr} {te : TE} {k k2 : Nat} {p0 p1 p2 p3 pos : Pos} (he : PE X e te) : PE X (.Subscript e (.Slice none (some (.Constant (.int 0) k2 p0)) (some (.UnaryOp .USub (.Constant (.int 1) k p1) p2)) p3) pos) (tBack X.K te) := by
  refine ⟨fun pins s σ H Q I h => ?_⟩
  refine Subscript_ (thn (he.run pins s σ H _ I h) fun v s1 ⟨x, H1, I1, r1, q1⟩ => ?_)
  obtain ⟨a, xs, ex, hx, q⟩ := q1
  subst ex
  cases r1
  have hhi : PO X (some (.Constant (.int 0) k2 p0)) (tPart (tC (.int 0))) := po_some pe_int
  have hst : PO X (some (.UnaryOp .USub (.Constant (.int 1) k p1) p2)) (tPart (tUn (rU fun i => .int (-i)) (tC (.int 1)))) := po_some (pe_un un_neg pe_int)
  refine wpAny_Slice ?_
  rw [evalPart_none]
  refine wpAny_pure (thn (hhi.run pins s1 σ H1 (fun o H3 => o = some 0 ∧ H3 = H1) I1 ⟨0, rfl, rfl, rfl⟩) fun vu s3 ⟨u, H3, I3, pu, eu, e3⟩ => ?_)
  subst eu e3
  refine thn (hst.run pins s3 σ H3 (fun o H4 => o = some (-1) ∧ H4 = H3) I3 ⟨1, rfl, -1, rfl, rfl, rfl⟩) fun vs s4 ⟨o, H4, I4, ps, eo, e4⟩ => ?_
  subst eo e4
  have I5 : Inv X pins σ H4 { s4 with heap := s4.heap.push { cls := .type "slice", data := .fields #[.none, vu, vs] } } := I4.kept (t' := s4.toks) fun b ob q => Heap.get?_push_of_some _ q
  obtain ⟨its, r, ht, hz⟩ := I5.tuple hx
  show wpAny (model X.prog X.w) X.A (subscriptTail e (.Slice none (some (.Constant (.int 0) k2 p0)) (some (.UnaryOp .USub (.Constant (.int 1) k p1) p2)) p3) (.ref a) (.ref s4.heap.objs.size)) (EP X pins σ Q) X.xe { s4 with heap := s4.heap.push { cls := .type "slice", data := .fields #[.none, vu, vs] } }
  refine tail_any (ops := [.ref a, .ref s4.heap.objs.size]) ht.typeIs PyProof.Rows.slot_tuple_getitem.lookup ?_ (by with_unfolding_all rfl)
  refine item_back ht (Heap.IsSliceOf.new _ .none vu vs) pu ps ?_ (by rw [← r.length]; exact hz)
  refine ⟨.ref _, _, I5.laid (t' := s4.toks) (o := .tup (xs.drop 1).reverse) (fun b ob q => Heap.get?_push_of_some _ q) (Nat.le_refl _) ?_, rfl, q _ (I5.hok.fresh (Nat.le_refl _))⟩
  exact ⟨by rw [List.length_reverse, List.length_drop]; omega, _, (r.drop 1).reverse, IsTup.new _ _⟩
end Rbx
set_option Elab.async false
set_option linter.all false
set_option maxRecDepth 100000
set_option maxHeartbeats 4000000
/-! RbEnum: enumerate of a tuple, walked by a loop or a comprehension whose target is a pair. -/
namespace Rbx
open PySem PySem.Spec PyProof.Rows L2

/-- enumerate(v): its two new cells, for whatever begins with a new object -/
theorem meets_enum1 {v : Value} {o : Obj} {G : Heap → Prop} (B : Begins v o G) :
    Meets (Builtin.«enumerate.__new__» ⟨[.type "enumerate", v], []⟩) (fun _ R s => G s.heap ∧
      R (.ok (.ret (.ref (s.heap.push o).objs.size))) { s with heap := (s.heap.push o).push { cls := .type "enumerate", data := .fields #[.none, .bool false, .ref s.heap.objs.size, rawInt 0, .none, .none] } }) :=
  .of_wp fun prog w A R s h => by
    obtain ⟨hp, g, d, tk, os⟩ := s
    obtain ⟨hg, h⟩ := h
    have hsub := sub_enumerate
    have begun : ∀ {A' : Around} {E' : Value → Shared → Prop} {Q' : Value → Shared → Prop}, Q' (.ref hp.objs.size) ⟨hp.push o, g, d, tk, os⟩ → wpAny (model prog w) A' (pyIter v) Q' E' ⟨hp, g, d, tk, os⟩ := fun z => B.iter prog w _ _ ⟨hp, g, d, tk, os⟩ _ hg z
    wp_walk using begun
    refine wpAny_stack_any fun st => wpAny_pure ?_
    split
    · rename_i c _ _ _ _ _
      cases (c == Value.type "enumerate") <;> (wp_walk using begun; exact ⟨_, rfl, h⟩)
    · wp_walk using begun
      exact ⟨_, rfl, h⟩
theorem call_enumT {prog : Program} {w : World} {A : Around} {E : Value → Shared → Prop} {s : Shared} {t : Addr} {items : Array Value} {Q : Value → Shared → Prop} (ht : s.heap.IsTuple t items)
    (h : ∀ h', IsEnum h' (s.heap.objs.size + 1) s.heap.objs.size 0 .none → h'.IsTupleIter s.heap.objs.size t 0 → (∀ b o, s.heap.get? b = some o → h'.get? b = some o) → Q (.ref (s.heap.objs.size + 1)) { s with heap := h' }) :
    wpAny (model prog w) A (call (.type "enumerate") [.ref t]) Q E s := by
  have hz : (s.heap.push { cls := .type "tuple_iterator", data := .fields #[.ref t, .int 0 0] }).objs.size = s.heap.objs.size + 1 := Heap.size_push ..
  refine callType_new F.called_enumerate (by decide) (F.typeCall_enumerate_1 _) (F.newCall_enumerate_1 _) (fun obj => F.args_object_init_2 obj _) F.entry_enumerate_new (meets_enum1 (begins_tuple t items)) ⟨ht, ?_⟩
  show _ ∧ _
  rw [hz]
  have there : IsEnum ((s.heap.push { cls := .type "tuple_iterator", data := .fields #[.ref t, .int 0 0] }).push { cls := .type "enumerate", data := .fields #[.none, .bool false, .ref s.heap.objs.size, rawInt 0, .none, .none] })
      (s.heap.objs.size + 1) s.heap.objs.size 0 .none := by
    have q := Heap.get?_push_size (s.heap.push { cls := .type "tuple_iterator", data := .fields #[.ref t, .int 0 0] }) (o := { cls := .type "enumerate", data := .fields #[.none, .bool false, .ref s.heap.objs.size, rawInt 0, .none, .none] }) rfl
    rwa [hz] at q
  exact ⟨⟨_, there, rfl⟩, h _ there ⟨_, Heap.get?_push_of_some _ (Heap.get?_push_size _ rfl), rfl, rfl⟩ fun b o z => Heap.get?_push_of_some _ (Heap.get?_push_of_some _ z)⟩

/-- the pairs (i, the i-th item) of the tuple at a -/
def IteT (K : PySem.W.Frag) (a : Addr) : It :=
  ⟨fun i H => ∃ (xs : List V) (x : V), SqT K H a xs ∧ xs[i]? = some x, fun i H v H' => ∃ T x, v = .ref T ∧ H T = none ∧ H' = upd H T (.tup [.int (i : Nat), x]) ∧ ∀ xs, SqT K H a xs → xs[i]? = some x, fun i H => ∃ xs : List V, SqT K H a xs ∧ xs.length ≤ i⟩
theorem turn_enumT {P : Program} {w : World} {K : PySem.W.Frag} {elts : List Expr} {kk : Nat} {tpos : Pos} (a e it : Addr) :
    Turn P w K (.Tuple elts kk tpos) (IteT K a) [e, it] e (fun i h => (∃ old, IsEnum h e it ((i : Nat) : Int) old) ∧ h.IsTupleIter it a i ∧ e ≠ it) where
  mem := List.mem_cons_self
  obj := fun i h st b hb => by
    obtain ⟨⟨old, he⟩, ⟨o, ho, hc, hd⟩, _⟩ := st
    rcases List.mem_cons.mp hb with z | z
    · obtain rfl := z
      exact ⟨_, he, fun v q => nomatch q⟩
    · obtain rfl := List.mem_singleton.mp z
      exact ⟨o, ho, fun v q => by rw [hd] at q; cases q⟩
  keep := fun i h h' st k => by
    obtain ⟨⟨old, he⟩, hi, hne⟩ := st
    exact ⟨⟨old, k e List.mem_cons_self _ he⟩, hi.at fun o q => k it (List.mem_cons_of_mem _ List.mem_cons_self) o q, hne⟩
  item := by
    intro X hP hw hK hc i pins s σ H E I hf st hg
    subst hP hw hK
    obtain ⟨⟨old, he⟩, hit, hne⟩ := st
    obtain ⟨xs, x, hq, hx⟩ := hg
    obtain ⟨its, rv, p, hz⟩ := I.tuple hq
    obtain ⟨u, hu, ru⟩ := rv.get hx
    have tp : s.heap.IsTuple a its.toArray := p
    have hel : e < s.heap.objs.size := Heap.lt_size he
    have hil : it < s.heap.objs.size := by obtain ⟨_, q, _⟩ := hit; exact Heap.lt_size q
    have hae : e ≠ a := fun z => by
      obtain ⟨o, ho, hco, _⟩ := tp
      rw [← z] at ho
      obtain rfl := Option.some.inj (ho.symm.trans he)
      injection hco with q
      exact absurd q (by decide)
    have hai : a ≠ it := fun z => by
      obtain ⟨o, ho, hco, _⟩ := tp
      obtain ⟨o', ho', hco', _⟩ := hit
      rw [z] at ho
      obtain rfl := Option.some.inj (ho.symm.trans ho')
      rw [hco] at hco'
      injection hco' with q
      exact absurd q (by decide)
    have D := Draws.tuple (prog := X.prog) (w := X.w) (A := X.A.in1) (I.ok.hd hc) it a hai its.toArray
    have hlt : i < its.toArray.size := by simpa using (List.getElem?_eq_some_iff.mp hu).1
    refine wpAny_pyNext_enum_itemD D he ⟨hit, tp⟩ hlt hne (fun hm => ?_) fun y h' tk hy ho hst hT hsz hk => ?_
    · rcases List.mem_cons.mp hm with z | z
      · exact hne z
      · exact hae (List.mem_singleton.mp z)
    have ey : y = u := by
      have : its.toArray[i]? = some u := by simpa using hu
      exact Option.some.inj (hy.symm.trans this)
    subst ey
    refine ⟨_, rfl, wpAny_letOwnedTupleGo_enum (s := { s with heap := h', toks := tk + 1 }) ho fun h'' he' sb => ?_⟩
    have hT2 : h''.get? s.heap.objs.size = some { cls := .type "tuple", data := .seq #[.int i tk, y] } := (sb.2 _ (Nat.ne_of_gt hel)).trans hT
    have new : ObjOk X.prog X.w (upd H s.heap.objs.size (.tup [.int (i : Nat), x])) h'' s.heap.objs.size (.tup [.int (i : Nat), x]) :=
      ⟨by show 2 ≤ sizeLine; decide, [.int i tk, y], .cons ⟨_, rfl⟩ (.cons ru .nil), ⟨_, hT2, rfl, _, rfl⟩⟩
    have I1 : Inv X pins σ (upd H s.heap.objs.size (.tup [.int (i : Nat), x])) { s with heap := h'', toks := tk + 1 } :=
      I.turnedNew (ch := [e, it]) (fun b ob hb q => (sb.2 b fun z => hb (z ▸ List.mem_cons_self)).trans (hk b ob (fun z => hb (z ▸ List.mem_cons_self)) (fun z => hb (z ▸ List.mem_cons_of_mem _ List.mem_cons_self)) q)) hf (Nat.le_refl _) new
    refine ⟨.ref s.heap.objs.size, _, I1, rfl, ⟨_, x, rfl, I.hok.fresh (Nat.le_refl _), rfl, fun ys hy => by rw [I.tuple_inj hy hq]; exact hx⟩, ⟨⟨y, ?_⟩, hst.1.at fun o q => (sb.2 it (Ne.symm hne)).trans q, hne⟩, fun b hb => ?_⟩
    · rw [show ((i + 1 : Nat) : Int) = (i : Int) + 1 by omega]
      exact he'
    · have hb' : b < s.heap.objs.size := by
        rcases List.mem_cons.mp hb with z | z
        · rw [z]; exact hel
        · rw [List.mem_singleton.mp z]; exact hil
      rw [upd_ne (Nat.ne_of_lt hb')]
      exact (hf b hb).1
  done := by
    intro X hP hw hK hc i pins s σ H E I hf st hg
    subst hP hw hK
    obtain ⟨⟨old, he⟩, hit, hne⟩ := st
    obtain ⟨xs, hq, hx⟩ := hg
    obtain ⟨its, rv, p, hz⟩ := I.tuple hq
    have tp : s.heap.IsTuple a its.toArray := p
    have hai : a ≠ it := fun z => by
      obtain ⟨o, ho, hco, _⟩ := tp
      obtain ⟨o', ho', hco', _⟩ := hit
      rw [z] at ho
      obtain rfl := Option.some.inj (ho.symm.trans ho')
      rw [hco] at hco'
      injection hco' with q
      exact absurd q (by decide)
    obtain ⟨f0, f1, f2, f3, f4, f5⟩ := hf it (List.mem_cons_of_mem _ List.mem_cons_self)
    have hl := rv.length
    unfold pyNext
    have hT : s.TypeIs (.ref e) "enumerate" := ⟨_, he, rfl⟩
    refine wpAny_bind (wpAny_attempt (wpAny_callSpecial?_slot (name := Str.ofString "__next__") hT F.slot_enumerate_next (wpAny_call_entry F.slot_enumerate_next hT F.entry_enumerate_next ?_ (F.args_enumerate_next_1 _))))
    show wpAny _ _ (field (.ref e) 2 >>= _) _ _ _
    refine wpAny_bind (wpAny_field he rfl (x := .ref it) rfl ?_)
    refine wpAny_bind (wpAny_nextOf_tuple_end (I.ok.hd hc) hit tp (by simp; omega) fun h' x hx hs => ?_)
    obtain ⟨o, ho, hco⟩ := hs
    refine wpAny_bind (wpAny_isInstance (T := "StopIteration") (b := true) ⟨o, ho, hco⟩ isSubtype_stop ?_)
    exact wpAny_pure ⟨rfl, I.turned (t' := s.toks) (fun b o hb q => hx b o hb q) f0 f1 f3 f4 f5⟩
  self := fun A i s Q E st h => by
    obtain ⟨⟨_, he⟩, _⟩ := st
    exact wpAny_pyIter_enum he h
def iEnumT (K : PySem.W.Frag) (ta : TA) : TI := fun σ H R => ta σ H fun vs H1 => ∃ a xs, vs = [.ref a] ∧ SqT K H1 a xs ∧ R (IteT K a) H1
theorem pi_enumT {X : Cx} {e : Expr} {ta : TA} {p pos tpos : Pos} {elts : List Expr} {kk : Nat} (hg : Gl X "enumerate") (hm : X.mg "enumerate" = none) (ha : PA X [e] ta) (hs : starEach [e] X.env = [(false, eval e X.env)] := by rfl) :
    PI X (.Tuple elts kk tpos) (.Call (.Name "enumerate" p) [e] [] pos) (iEnumT X.K ta) := by
  refine ⟨fun pins s σ H R I h => ?_⟩
  refine Call_ (ld_blt I hg hm boot_enumerate (PyProof.Rows.callWith_type1 (thn (ha.run pos pins s σ H _ I h) fun us s1 ⟨vs, H1, I1, r1, q1⟩ => ?_) hs rfl))
  obtain ⟨a, xs, ex, hq, q⟩ := q1
  subst ex
  obtain ⟨u, rfl, ru⟩ := vals1 r1
  obtain rfl : u = Value.ref a := ru
  obtain ⟨its, rv, tp, hz⟩ := I1.tuple hq
  refine call_enumT (show s1.heap.IsTuple a its.toArray from tp) fun h' he hit hk => wpAny_pyIter_enum he ?_
  have I2 : Inv X pins σ H1 { s1 with heap := h' } := I1.kept (t' := s1.toks) hk
  refine ⟨s1.heap.objs.size + 1, [s1.heap.objs.size + 1, s1.heap.objs.size], _, _, H1, rfl, I2, turn_enumT a (s1.heap.objs.size + 1) s1.heap.objs.size, ⟨⟨.none, he⟩, hit, Nat.succ_ne_self _⟩, fun b hb => ?_, q⟩
  have hle : s1.heap.objs.size ≤ b := by
    rcases List.mem_cons.mp hb with z | z
    · rw [z]; exact Nat.le_add_right _ _
    · rw [List.mem_singleton.mp z]; exact Nat.le_refl _
  exact I1.fpOk hle (I1.hok.fresh hle)
/-- its walk: at each turn below n a new pair -/
theorem walk_enumT {K : PySem.W.Frag} {a : Addr} {xs : List V} : Walk (IteT K a) xs.length (fun H => SqT K H a xs) (YPair (fun i => some (.int (i : Nat))) (fun i => xs[i]?)) := by
  refine ⟨fun i _ hi q => ⟨xs, xs[i], q, List.getElem?_eq_getElem hi⟩, fun _ q => ⟨xs, q, Nat.le_refl _⟩, fun i H v H' _ q y => ?_⟩
  obtain ⟨T, x, h1, h2, h3, h4⟩ := y
  exact ⟨T, .int (i : Nat), x, h1, h2, h3, rfl, h4 xs q⟩
end Rbx
set_option Elab.async false
set_option linter.all false
set_option maxRecDepth 100000
set_option maxHeartbeats 4000000
/-! RbEw: what a reading evaluates to, told by data (Dp): over HandS.Evl's style. -/
namespace Rbx
open PySem PySem.Spec PyProof.Rows L2 Evl

/-! ### data that stays -/
mutual
def noL : PyData → Bool
  | .none => true
  | .bool _ => true
  | .int _ => true
  | .str _ => true
  | .tuple xs => noLs xs
  | .list _ => false
  | .dict _ => false
def noLs : List PyData → Bool
  | [] => true
  | x :: r => noL x && noLs r
end
/-- all but the lists is kept -/
def TEx (H H' : Hp) : Prop := ∀ b u, H b = some u → (∀ xs, u ≠ .lst xs) → H' b = some u
theorem TEx.of {H H' : Hp} (e : Ex H H') : TEx H H' := fun b u h _ => e b u h
theorem TEx.refl (H : Hp) : TEx H H := fun _ _ h _ => h
theorem TEx.trans {H H1 H2 : Hp} (a : TEx H H1) (b : TEx H1 H2) : TEx H H2 := fun x u h n => b x u (a x u h n) n
theorem TEx.put {H : Hp} {l : Addr} {xs : List V} {o : HO} (h : H l = some (.lst xs)) : TEx H (upd H l o) := fun b u e n => by
  by_cases q : b = l
  · subst q
    rw [h] at e
    exact absurd (Option.some.inj e).symm (n xs)
  · rw [upd_ne q]
    exact e
theorem tex_t {K : PySem.W.Frag} {H H' : Hp} {a : Addr} {xs : List V} (e : TEx H H') (h : SqT K H a xs) : SqT K H' a xs := by
  rcases h with (h | ⟨o, h⟩) | h
  · exact .inl (.inl (e _ _ h fun ys q => nomatch q))
  · exact .inl (.inr ⟨o, e _ _ h fun ys q => nomatch q⟩)
  · exact .inr h
mutual
theorem dp_tex {K : PySem.W.Frag} {H H' : Hp} (e : TEx H H') : ∀ (d : PyData) (v : V), noL d = true → Dp K H v d → Dp K H' v d
  | .none, _, _, h => by cases h; exact .non
  | .bool b, _, _, h => by cases h; exact .bl b
  | .int i, _, _, h => by cases h; exact .int i
  | .str x, _, _, h => by cases h; exact .str x
  | .tuple ds, _, n, h => by
    cases h with
    | tup hs ha => exact .tup (tex_t e hs) (dps_tex e ds _ n ha)
  | .list _, _, n, _ => by cases n
  | .dict _, _, n, _ => by cases n
theorem dps_tex {K : PySem.W.Frag} {H H' : Hp} (e : TEx H H') : ∀ (ds : List PyData) (vs : List V), noLs ds = true → DpAll K H vs ds → DpAll K H' vs ds
  | [], _, _, h => by cases h; exact .nil
  | d :: ds, _, n, h => by
    cases h with
    | cons h1 h2 =>
      have n := Bool.and_eq_true_iff.mp n
      exact .cons (dp_tex e d _ n.1 h1) (dps_tex e ds _ n.2 h2)
end
mutual
theorem dp_ex {K : PySem.W.Frag} {H H' : Hp} (e : Ex H H') : ∀ (d : PyData) (v : V), Dp K H v d → Dp K H' v d
  | .none, _, h => by cases h; exact .non
  | .bool b, _, h => by cases h; exact .bl b
  | .int i, _, h => by cases h; exact .int i
  | .str x, _, h => by cases h; exact .str x
  | .tuple ds, _, h => by
    cases h with
    | tup hs ha => exact .tup (ex_t e hs) (dps_ex e ds _ ha)
  | .list ds, _, h => by
    cases h with
    | lst hs ha => exact .lst (ex_l e hs) (dps_ex e ds _ ha)
  | .dict _, _, h => by cases h
theorem dps_ex {K : PySem.W.Frag} {H H' : Hp} (e : Ex H H') : ∀ (ds : List PyData) (vs : List V), DpAll K H vs ds → DpAll K H' vs ds
  | [], _, h => by cases h; exact .nil
  | d :: ds, _, h => by
    cases h with
    | cons h1 h2 => exact .cons (dp_ex e d _ h1) (dps_ex e ds _ h2)
end
section
variable {K : PySem.W.Frag} {H : Hp} {v : V} {vs ws : List V} {d : PyData} {ds es : List PyData}
theorem dps_len : ∀ {ds : List PyData} {vs : List V}, DpAll K H vs ds → vs.length = ds.length
  | [], _, h => by cases h; rfl
  | d :: ds, _, h => by
    cases h with
    | cons h1 h2 =>
      rw [List.length_cons, List.length_cons, dps_len h2]
theorem dps_app : ∀ {ds : List PyData} {vs : List V}, DpAll K H vs ds → DpAll K H ws es → DpAll K H (vs ++ ws) (ds ++ es)
  | [], _, h, h' => by cases h; exact h'
  | d :: ds, _, h, h' => by
    cases h with
    | cons h1 h2 => exact .cons h1 (dps_app h2 h')
theorem dps_get : ∀ {ds : List PyData} {vs : List V} {i : Nat} {v : V}, DpAll K H vs ds → vs[i]? = some v → ∃ d, ds[i]? = some d ∧ Dp K H v d
  | [], _, i, v, h, e => by cases h; simp at e
  | d :: ds, _, 0, v, h, e => by
    cases h with
    | cons h1 h2 =>
      obtain rfl := Option.some.inj e
      exact ⟨d, rfl, h1⟩
  | d :: ds, _, i + 1, v, h, e => by
    cases h with
    | cons h1 h2 => exact dps_get (i := i) h2 e
theorem dps_at : ∀ {ds : List PyData} {vs : List V} {i : Nat} {d : PyData}, DpAll K H vs ds → ds[i]? = some d → ∃ v, vs[i]? = some v ∧ Dp K H v d
  | [], _, i, v, h, e => by simp at e
  | d :: ds, _, 0, v, h, e => by
    cases h with
    | cons h1 h2 =>
      obtain rfl := Option.some.inj e
      exact ⟨_, rfl, h1⟩
  | d :: ds, _, i + 1, v, h, e => by
    cases h with
    | cons h1 h2 => exact dps_at (i := i) h2 e
/-- ints as data, as values -/
abbrev dI (ns : List Int) : List PyData := ns.map PyData.int
abbrev tI (ns : List Int) : PyData := .tuple (dI ns)
theorem dps_ints : ∀ {ns : List Int} {vs : List V}, DpAll K H vs (dI ns) → vs = ns.map V.int
  | [], _, h => by cases h; rfl
  | n :: ns, _, h => by
    cases h with
    | cons h1 h2 =>
      cases h1
      rw [dps_ints h2] <;> rfl
theorem dps_of_ints : ∀ ns : List Int, DpAll K H (ns.map V.int) (dI ns)
  | [] => .nil
  | n :: ns => .cons (.int n) (dps_of_ints ns)
theorem dps_bools : ∀ {bs : List Bool} {vs : List V}, DpAll K H vs (bs.map PyData.bool) → vs = bs.map V.bl
  | [], _, h => by cases h; rfl
  | b :: bs, _, h => by
    cases h with
    | cons h1 h2 =>
      cases h1
      rw [dps_bools h2] <;> rfl
theorem dp_int {i : Int} (h : Dp K H v (.int i)) : v = .int i := by cases h; rfl
theorem dp_bl {b : Bool} (h : Dp K H v (.bool b)) : v = .bl b := by cases h; rfl
theorem dp_tup (h : Dp K H v (.tuple ds)) : ∃ a xs, v = .ref a ∧ SqT K H a xs ∧ DpAll K H xs ds := by
  cases h with
  | tup hs ha => exact ⟨_, _, rfl, hs, ha⟩
theorem dp_lst (h : Dp K H v (.list ds)) : ∃ a xs, v = .ref a ∧ SqL K H a xs ∧ DpAll K H xs ds := by
  cases h with
  | lst hs ha => exact ⟨_, _, rfl, hs, ha⟩
theorem dp_tI {ns : List Int} (h : Dp K H v (tI ns)) : ∃ a, v = .ref a ∧ SqT K H a (ns.map V.int) := by
  obtain ⟨a, xs, e, hs, ha⟩ := dp_tup h
  obtain rfl := dps_ints ha
  exact ⟨a, e, hs⟩
theorem noLs_all : ∀ {ds : List PyData}, (∀ d ∈ ds, noL d = true) → noLs ds = true
  | [], _ => rfl
  | d :: ds, h => Bool.and_eq_true_iff.mpr ⟨h d List.mem_cons_self, noLs_all fun x hx => h x (List.mem_cons_of_mem _ hx)⟩
theorem noL_tI (ns : List Int) : noL (tI ns) = true := noLs_all fun d hd => by
  obtain ⟨i, _, rfl⟩ := List.mem_map.mp hd
  rfl
end

/-! ### evaluates to a value of which P holds; to data -/
def Ew (te : TE) (σ : L2.St) (H : Hp) (P : V → Hp → Prop) : Prop := ∀ H1, Ex H H1 → ∀ Q : VK, (∀ v H2, Ex H1 H2 → P v H2 → Q v H2) → te σ H1 Q
abbrev EvD (K : PySem.W.Frag) (te : TE) (σ : L2.St) (H : Hp) (d : PyData) : Prop := Ew te σ H fun v H2 => Dp K H2 v d
def EvAD (K : PySem.W.Frag) (ta : TA) (σ : L2.St) (H : Hp) (ds : List PyData) : Prop := ∀ H1, Ex H H1 → ∀ Q : List V → Hp → Prop, (∀ vs H2, Ex H1 H2 → DpAll K H2 vs ds → Q vs H2) → ta σ H1 Q
section
variable {K : PySem.W.Frag} {σ : L2.St} {H H' : Hp} {ta tb te tx : TE} {tA : TA} {t u : TT} {v : V} {d e : PyData} {ds : List PyData} {P : V → Hp → Prop}
theorem Ew.mono (x : Ex H H') (h : Ew te σ H P) : Ew te σ H' P := fun H1 a Q q => h H1 (x.trans a) Q q
theorem EvAD.mono (x : Ex H H') (h : EvAD K tA σ H ds) : EvAD K tA σ H' ds := fun H1 a Q q => h H1 (x.trans a) Q q
theorem Ew.of (h : Ev te σ H v) (p : ∀ H2, Ex H H2 → P v H2) : Ew te σ H P := fun H1 x Q q => h H1 x Q fun H2 x2 => q v H2 x2 (p H2 (x.trans x2))
theorem ed_is (h : EvD K te σ H d) (x : d = e) : EvD K te σ H e := x ▸ h
theorem ed_int {i : Int} (h : Ev te σ H (.int i)) : EvD K te σ H (.int i) := Ew.of h fun _ _ => .int i
theorem ed_bl {b : Bool} (h : Ev te σ H (.bl b)) : EvD K te σ H (.bool b) := Ew.of h fun _ _ => .bl b
theorem ev_int {i : Int} (h : EvD K te σ H (.int i)) : Ev te σ H (.int i) := fun H1 x Q q => h H1 x Q fun v H2 x2 p => by
  obtain rfl := dp_int p
  exact q H2 x2
theorem ev_bl {b : Bool} (h : EvD K te σ H (.bool b)) : Ev te σ H (.bl b) := fun H1 x Q q => h H1 x Q fun v H2 x2 p => by
  obtain rfl := dp_bl p
  exact q H2 x2
theorem ed_var {i : Nat} (h : σ[i]? = some (some v)) (p : Dp K H v d) : EvD K (tVar i) σ H d := Ew.of (ev_var h) fun H2 x => dp_ex x d v p
theorem ed_str {x : Str} : EvD K (tC (.str x)) σ H (.str x) := Ew.of ev_c fun _ _ => .str x
theorem ead_nil : EvAD K tNil σ H [] := fun H1 _ _ q => q [] H1 (Ex.refl H1) .nil
theorem ead_cons (h : EvD K te σ H d) (hr : EvAD K tA σ H ds) : EvAD K (tCons te tA) σ H (d :: ds) := fun H1 x _ q =>
  h H1 x _ fun v H2 x2 p => hr H2 (x.trans x2) _ fun vs H3 x3 ps => q (v :: vs) H3 (x2.trans x3) (.cons (dp_ex x3 d v p) ps)
theorem ed_tup (h : EvAD K tA σ H ds) (hl : ds.length ≤ 100000) : EvD K (tTup tA) σ H (.tuple ds) := fun H1 x _ q =>
  h H1 x _ fun vs H2 x2 ps => ⟨sz_of (by rw [dps_len ps]; exact hl), fun p hp => q _ _ (x2.trans (Ex.new hp)) (.tup (st_of upd_same) (dps_ex (Ex.new hp) ds vs ps))⟩
theorem ed_lst (h : EvAD K tA σ H ds) (hl : ds.length ≤ 100000) : EvD K (tLst tA) σ H (.list ds) := fun H1 x _ q =>
  h H1 x _ fun vs H2 x2 ps => ⟨sz_of (by rw [dps_len ps]; exact hl), fun p hp => q _ _ (x2.trans (Ex.new hp)) (.lst (sq_of upd_same) (dps_ex (Ex.new hp) ds vs ps))⟩
/-- tuple(list) -/
def rTupOf (K : PySem.W.Frag) : List V → Hp → VK → Prop := fun xs H Q => ∃ p ys, xs = [.ref p] ∧ ((SqL K H p ys ∧ ∀ l, H l = none → Q (.ref l) (upd H l (.tup ys))) ∨ (SqT K H p ys ∧ Q (.ref p) H))
theorem call_tupOf {X : Cx} : CallR X (.type "tuple") (rTupOf X.K) := call_tuple_of
theorem ed_tupOf (h : EvD K te σ H (.list ds)) : EvD K (tCB (rTupOf K) (tCons te tNil)) σ H (.tuple ds) := fun H1 x _ q =>
  h H1 x _ fun v H2 x2 p => by
    obtain ⟨a, xs, rfl, hs, ha⟩ := dp_lst p
    exact ⟨a, xs, rfl, .inl ⟨hs, fun l hl => q _ _ (x2.trans (Ex.new hl)) (.tup (st_of upd_same) (dps_ex (Ex.new hl) ds xs ha))⟩⟩
/-- list(list | tuple) -/
def rLstOf (K : PySem.W.Frag) : List V → Hp → VK → Prop := fun xs H Q => ∃ p ys, xs = [.ref p] ∧ (SqL K H p ys ∨ SqT K H p ys) ∧ ∀ l, H l = none → Q (.ref l) (upd H l (.lst ys))
theorem call_lstOf {X : Cx} : CallR X (.type "list") (rLstOf X.K) := call_list_of
/-- len -/
def rLn (K : PySem.W.Frag) : List V → Hp → VK → Prop := fun xs H Q => ∃ p ys, xs = [.ref p] ∧ (SqL K H p ys ∨ SqT K H p ys) ∧ Q (.int ys.length) H
theorem call_ln {X : Cx} : CallR X (.builtin "len") (rLn X.K) := call_len_seq
theorem ev_lnT (h : EvD K te σ H (.tuple ds)) : Ev (tCB (rLn K) (tCons te tNil)) σ H (.int (ds.length : Int)) := fun H1 x _ q =>
  h H1 x _ fun v H2 x2 p => by
    obtain ⟨a, xs, rfl, hs, ha⟩ := dp_tup p
    have := q H2 x2
    rw [← dps_len ha] at this
    exact ⟨a, xs, rfl, .inr hs, this⟩
theorem ev_lnL (h : EvD K te σ H (.list ds)) : Ev (tCB (rLn K) (tCons te tNil)) σ H (.int (ds.length : Int)) := fun H1 x _ q =>
  h H1 x _ fun v H2 x2 p => by
    obtain ⟨a, xs, rfl, hs, ha⟩ := dp_lst p
    have := q H2 x2
    rw [← dps_len ha] at this
    exact ⟨a, xs, rfl, .inl hs, this⟩
/-- int(n), int(flag); abs; min -/
def rInt1 : List V → Hp → VK → Prop := fun xs H Q => (∃ i, xs = [.int i] ∧ Q (.int i) H) ∨ ∃ k, xs = [.bl k] ∧ Q (.int (if k then 1 else 0)) H
theorem call_int_ {X : Cx} : CallR X (.type "int") rInt1 := call_int1
theorem ev_intI {i : Int} (h : Ev te σ H (.int i)) : Ev (tCB rInt1 (tCons te tNil)) σ H (.int i) := fun H1 x _ q => h H1 x _ fun H2 x2 => .inl ⟨i, rfl, q H2 x2⟩
theorem ev_intB {b : Bool} (h : Ev te σ H (.bl b)) : Ev (tCB rInt1 (tCons te tNil)) σ H (.int (Rb.b2i b)) := fun H1 x _ q => h H1 x _ fun H2 x2 => .inr ⟨b, rfl, q H2 x2⟩
/-- an item of a tuple -/
theorem ed_ixT {i : Int} (ha : EvD K ta σ H (.tuple ds)) (hb : Ev tb σ H (.int i)) (hi : atI ds i = some d) : EvD K (tOp (rIxT K) ta tb) σ H d := fun H1 x _ q =>
  ha H1 x _ fun v H2 x2 p => hb H2 (x.trans x2) _ fun H3 x3 => by
    obtain ⟨a, xs, rfl, hs, hA⟩ := dp_tup (dp_ex x3 _ _ p)
    unfold atI at hi
    obtain ⟨j, hj, hd⟩ := Option.bind_eq_some_iff.mp hi
    obtain ⟨w, hw, hp⟩ := dps_at hA hd
    refine ⟨a, xs, i, w, rfl, rfl, hs, ?_, q _ H3 (x2.trans x3) hp⟩
    unfold atI
    rw [dps_len hA, hj]
    exact hw
theorem atI_n {α : Type} {l : List α} {j : Nat} {i : Int} {z : α} (e : i = (j : Int)) (h : l[j]? = some z) : atI l i = some z := by
  rw [e]
  exact atI_nat h
/-- == and != of data -/
theorem ev_neD (ha : EvD K ta σ H d) (hb : EvD K tb σ H e) (sd : SeqAt.shaped d = true) (se : SeqAt.shaped e = true) : Ev (tOp (rNeD K) ta tb) σ H (.bl (!PyData.eqv d e)) := fun H1 x _ q =>
  ha H1 x _ fun v H2 x2 p => hb H2 (x.trans x2) _ fun w H3 x3 p3 => ⟨d, e, dp_ex x3 _ _ p, p3, sd, se, q H3 (x2.trans x3)⟩
theorem ev_eqD (ha : EvD K ta σ H d) (hb : EvD K tb σ H e) (sd : SeqAt.shaped d = true) (se : SeqAt.shaped e = true) : Ev (tOp (rEqD K) ta tb) σ H (.bl (PyData.eqv d e)) := fun H1 x _ q =>
  ha H1 x _ fun v H2 x2 p => hb H2 (x.trans x2) _ fun w H3 x3 p3 => ⟨d, e, dp_ex x3 _ _ p, p3, sd, se, q H3 (x2.trans x3)⟩
theorem ed_if {b : Bool} (h : EvT t σ H b) (h1 : b = true → EvD K ta σ H d) (h2 : b = false → EvD K tb σ H d) : EvD K (tIf t ta tb) σ H d := fun H1 x Q q => h H1 x _ fun H2 x2 => by
  cases b with
  | true =>
    show ta σ H2 Q
    exact h1 rfl H2 (x.trans x2) Q fun w H3 x3 => q w H3 (x2.trans x3)
  | false =>
    show tb σ H2 Q
    exact h2 rfl H2 (x.trans x2) Q fun w H3 x3 => q w H3 (x2.trans x3)
/-- all, any of a list of truth values -/
theorem ev_all {bs : List Bool} (h : EvD K te σ H (.list (bs.map PyData.bool))) : Ev (tCB (rAll K) (tCons te tNil)) σ H (.bl (bs.all id)) := fun H1 x _ q =>
  h H1 x _ fun v H2 x2 p => by
    obtain ⟨a, xs, rfl, hs, ha⟩ := dp_lst p
    obtain rfl := dps_bools ha
    exact ⟨a, bs, rfl, hs, q H2 x2⟩
theorem ev_any {bs : List Bool} (h : EvD K te σ H (.list (bs.map PyData.bool))) : Ev (tCB (rAny K) (tCons te tNil)) σ H (.bl (bs.any id)) := fun H1 x _ q =>
  h H1 x _ fun v H2 x2 p => by
    obtain ⟨a, xs, rfl, hs, ha⟩ := dp_lst p
    obtain rfl := dps_bools ha
    exact ⟨a, bs, rfl, hs, q H2 x2⟩
/-- an int in a tuple, a list of ints -/
theorem inV_ints (x : Int) : ∀ ns : List Int, inV (.int x) (ns.map V.int) = ns.any fun y => y == x
  | [] => rfl
  | n :: ns => by
    have ih := inV_ints x ns
    unfold inV at ih ⊢
    rw [List.map_cons, List.any_cons, List.any_cons, ih] <;> rfl
theorem flat_ints (ns : List Int) : (ns.map V.int).all flatV = true := List.all_eq_true.mpr fun v hv => by
  obtain ⟨i, _, rfl⟩ := List.mem_map.mp hv
  rfl
theorem ev_inT {x : Int} {ns : List Int} {neg : Bool} (ha : Ev ta σ H (.int x)) (hb : EvD K tb σ H (tI ns)) : Ev (tOp (rIn K neg) ta tb) σ H (.bl (if neg then !(ns.any fun y => y == x) else ns.any fun y => y == x)) := fun H1 e1 _ q =>
  ha H1 e1 _ fun H2 e2 => hb H2 (e1.trans e2) _ fun v H3 e3 p => by
    obtain ⟨a, rfl, hs⟩ := dp_tI p
    refine ⟨a, _, rfl, .inr hs, rfl, flat_ints ns, ?_⟩
    rw [inV_ints]
    exact q H3 (e2.trans e3)
theorem ev_inL {x : Int} {ns : List Int} {neg : Bool} (ha : Ev ta σ H (.int x)) (hb : EvD K tb σ H (.list (dI ns))) : Ev (tOp (rIn K neg) ta tb) σ H (.bl (if neg then !(ns.any fun y => y == x) else ns.any fun y => y == x)) := fun H1 e1 _ q =>
  ha H1 e1 _ fun H2 e2 => hb H2 (e1.trans e2) _ fun v H3 e3 p => by
    obtain ⟨a, xs, rfl, hs, hA⟩ := dp_lst p
    obtain rfl := dps_ints hA
    refine ⟨a, _, rfl, .inl hs, rfl, flat_ints ns, ?_⟩
    rw [inV_ints]
    exact q H3 (e2.trans e3)
/-- a < b < c of ints -/
theorem ev_chain {f g : Int → Int → Bool} {a b c : Int} {tc : TE} (ha : Ev ta σ H (.int a)) (hb : Ev tb σ H (.int b)) (hc : Ev tc σ H (.int c)) : Ev (tChain (rI0 fun i j => .bl (f i j)) (rI0 fun i j => .bl (g i j)) ta tb tc) σ H (.bl (f a b && g b c)) := fun H1 x Q q =>
  ha H1 x _ fun H2 x2 => hb H2 (x.trans x2) _ fun H3 x3 => ⟨a, b, rfl, rfl, _, rfl, by
    cases hf : f a b with
    | true =>
      show tc σ H3 _
      refine hc H3 ((x.trans x2).trans x3) _ fun H4 x4 => ⟨b, c, rfl, rfl, ?_⟩
      have := q H4 ((x2.trans x3).trans x4)
      rw [hf, Bool.true_and] at this
      exact this
    | false =>
      show Q (.bl false) H3
      have := q H3 (x2.trans x3)
      rw [hf, Bool.false_and] at this
      exact this⟩
/-- a def that hands back data, told by its graph -/
def spD (K : PySem.W.Frag) (g : List PyData → PyData → Prop) : Sp := fun vs H Q _ => ∃ ds d, DpAll K H vs ds ∧ g ds d ∧ ∀ v H2, Ex H H2 → Dp K H2 v d → Q v H2
theorem ed_call {g : List PyData → PyData → Prop} {E : XK} (h : EvAD K tA σ H ds) (hg : g ds d) : EvD K (tCall (spD K g) [] E tA) σ H d := fun H1 x _ q =>
  h H1 x _ fun vs H2 x2 ps => ⟨ds, d, by rw [List.append_nil]; exact ps, hg, fun v H3 x3 p => q v H3 (x2.trans x3) p⟩
end

/-! ### statements -/
section
variable {K : PySem.W.Frag} {σ : L2.St} {H H' : Hp} {ta tb te tx : TE} {t : TT} {tu tw tz : TS} {d e : PyData} {P : V → Hp → Prop} {D : Ends}
theorem w_ret (h : Ew te σ H P) (k : ∀ v H1, Ex H H1 → P v H1 → D.rt v H1) : tRet te D σ H := h H (Ex.refl H) _ k
theorem w_asg {i : Nat} (h : Ew te σ H P) (k : ∀ v H1, Ex H H1 → P v H1 → tz D (σ.set i (some v)) H1) : tSeq (tAsg te (gName i)) tz D σ H := h H (Ex.refl H) _ k
/-- an if that is not taken -/
theorem w_skip (h : EvT t σ H false) (k : ∀ H1, Ex H H1 → tz D σ H1) : tSeq (tIfS t tu tNext) tz D σ H := h H (Ex.refl H) _ fun H1 e => by
  show tz D σ H1
  exact k H1 e
end

/-! ### comprehensions -/
def givenD (n : Nat) (f : Nat → Bool) (d : Nat → PyData) : List PyData := ((List.range n).filter f).map d
theorem givenD_yes {n : Nat} {f : Nat → Bool} {d : Nat → PyData} (h : f n = true) : givenD (n + 1) f d = givenD n f d ++ [d n] := by
  unfold givenD
  rw [List.range_succ, List.filter_append, List.map_append, List.filter_cons, if_pos h] <;> rfl
theorem givenD_no {n : Nat} {f : Nat → Bool} {d : Nat → PyData} (h : f n = false) : givenD (n + 1) f d = givenD n f d := by
  unfold givenD
  rw [List.range_succ, List.filter_append, List.map_append, List.filter_cons, if_neg (by rw [h]; decide)]
  exact List.append_nil _
theorem givenD_len (n : Nat) (f : Nat → Bool) (d : Nat → PyData) : (givenD n f d).length ≤ n := by
  unfold givenD
  rw [List.length_map]
  have h := List.length_filter_le f (List.range n)
  rwa [List.length_range] at h
theorem givenD_noL {n : Nat} {f : Nat → Bool} {d : Nat → PyData} (h : ∀ i, i < n → noL (d i) = true) : noLs (givenD n f d) = true := noLs_all fun x hx => by
  obtain ⟨i, hi, rfl⟩ := List.mem_map.mp hx
  exact h i (List.mem_range.mp (List.mem_filter.mp hi).1)
theorem givenD_all (n : Nat) (d : Nat → PyData) : givenD n (fun _ => true) d = (List.range n).map d := by
  unfold givenD
  rw [List.filter_eq_self.mpr fun _ _ => rfl]
section
variable {K : PySem.W.Frag} {σ : L2.St} {H : Hp} {te tl : TE} {t : TT} {wi : TI} {g : TG} {vs : List Nat} {J : It} {n : Nat} {G : Hp → Prop} {Y : Nat → Hp → V → Hp → Prop}
theorem ed_lc (w : Walk J n G Y) (hG : ∀ H1 H2, Ex H1 H2 → G H1 → G H2) (hn : n ≤ 40000)
    (hwi : ∀ H1, Ex H H1 → ∀ R : It → Hp → Prop, (∀ H2, Ex H1 H2 → G H2 → R J H2) → wi σ H1 R) (f : Nat → Bool) (d : Nat → PyData) (hd : ∀ i, i < n → noL (d i) = true)
    (turn : ∀ i x H1 H2, i < n → Ex H H1 → G H1 → Y i H1 x H2 → Ex H1 H2 ∧ ∃ σ2, (∀ Q : L2.St → Hp → Prop, Q σ2 H2 → g x (wipe σ vs) H2 Q) ∧ wipe σ2 vs = wipe σ vs ∧ EvT t σ2 H2 (f i) ∧ (f i = true → EvD K te σ2 H2 (d i))) :
    EvD K (tLc wi g t te vs) σ H (.list (givenD n f d)) := fun H0 e Q q => hwi H0 e _ fun H1 e1 g1 Dl hD => by
  refine lc_it w (fun i H' => Ex H1 H' ∧ ∃ ys, H' Dl = some (.lst ys) ∧ DpAll K H' ys (givenD i f d)) ⟨Ex.new hD, [], upd_same, .nil⟩ (fun i H' _ p => hG _ _ p.1 g1) ?_ ?_
  · rintro i x H' H'' hi ⟨p1, ys, p2, p3⟩ y
    obtain ⟨x1, σ2, hg, hw, ht, he⟩ := turn i x H' H'' hi ((e.trans e1).trans p1) (hG _ _ p1 g1) y
    refine hg _ ⟨hw, ht H'' (Ex.refl _) _ fun H3 x3 => ?_⟩
    cases hf : f i with
    | true =>
      refine iteT (he hf H3 x3 _ fun z H4 x4 hz => ⟨ys, (x1.trans (x3.trans x4)) _ _ p2, ?_, Ex.mut (p1.trans (x1.trans (x3.trans x4))) hD, _, upd_same, ?_⟩)
      · have := givenD_len i f d
        rw [dps_len p3]
        exact sz_lt (by omega)
      · rw [givenD_yes hf]
        have tx : TEx H4 (upd H4 Dl (.lst (ys ++ [z]))) := TEx.put ((x1.trans (x3.trans x4)) _ _ p2)
        exact dps_app (dps_tex tx _ _ (givenD_noL fun j hj => hd j (by omega)) (dps_ex (x1.trans (x3.trans x4)) _ _ p3)) (.cons (dp_tex tx _ _ (hd i hi) hz) .nil)
    | false =>
      refine iteF ⟨p1.trans (x1.trans x3), ys, (x1.trans x3) _ _ p2, ?_⟩
      rw [givenD_no hf]
      exact dps_ex (x1.trans x3) _ _ p3
  · rintro H' ⟨p1, ys, p2, p3⟩
    exact q _ H' (e1.trans p1) (.lst (sq_of p2) p3)
/-- over a tuple, the target a name -/
theorem ed_lcT {j : Nat} {a : Addr} {xs : List V} (h : Ev tl σ H (.ref a)) (hx : SqT K H a xs) (hz : xs.length ≤ 40000) (f : Nat → Bool) (d : Nat → PyData) (hd : ∀ i, i < xs.length → noL (d i) = true) (hw : ∀ x, wipe ((wipe σ vs).set j (some x)) vs = wipe σ vs)
    (ht : ∀ i x H1, Ex H H1 → xs[i]? = some x → EvT t ((wipe σ vs).set j (some x)) H1 (f i)) (he : ∀ i x H1, Ex H H1 → xs[i]? = some x → f i = true → EvD K te ((wipe σ vs).set j (some x)) H1 (d i)) :
    EvD K (tLc (iTup K tl) (gName j) t te vs) σ H (.list (givenD xs.length f d)) :=
  ed_lc (G := fun H1 => SqT K H1 a xs) walk_tup (fun H1 H2 x q => ex_t x q) hz (fun H1 x R q => h H1 x _ fun H2 x2 => ⟨a, rfl, ⟨xs, ex_t (x.trans x2) hx⟩, q H2 x2 (ex_t (x.trans x2) hx)⟩) f d hd
    fun i x H1 H2 hi x1 _ y => by
      obtain ⟨rfl, hxi⟩ := y
      exact ⟨Ex.refl _, _, fun Q q => q, hw x, ht i x _ x1 hxi, he i x _ x1 hxi⟩
/-- over a list that stands already -/
theorem ed_lcL {j : Nat} {a : Addr} {xs : List V} (h : Ev tl σ H (.ref a)) (hx : SqL K H a xs) (hz : xs.length ≤ 40000) (f : Nat → Bool) (d : Nat → PyData) (hd : ∀ i, i < xs.length → noL (d i) = true) (hw : ∀ x, wipe ((wipe σ vs).set j (some x)) vs = wipe σ vs)
    (ht : ∀ i x H1, Ex H H1 → xs[i]? = some x → EvT t ((wipe σ vs).set j (some x)) H1 (f i)) (he : ∀ i x H1, Ex H H1 → xs[i]? = some x → f i = true → EvD K te ((wipe σ vs).set j (some x)) H1 (d i)) :
    EvD K (tLc (iList K tl) (gName j) t te vs) σ H (.list (givenD xs.length f d)) :=
  ed_lc (G := fun H1 => SqL K H1 a xs) walk_list (fun H1 H2 x q => ex_l x q) hz (fun H1 x R q => h H1 x _ fun H2 x2 => ⟨a, rfl, ⟨xs, ex_l (x.trans x2) hx⟩, q H2 x2 (ex_l (x.trans x2) hx)⟩) f d hd
    fun i x H1 H2 hi x1 _ y => by
      obtain ⟨rfl, hxi⟩ := y
      exact ⟨Ex.refl _, _, fun Q q => q, hw x, ht i x _ x1 hxi, he i x _ x1 hxi⟩
/-- over range(n) -/
theorem ed_lcR {j : Nat} {tA : TA} {m : Nat} (h : EvA tA σ H [.int (m : Int)]) (hz : m ≤ 40000) (f : Nat → Bool) (d : Nat → PyData) (hd : ∀ i, i < m → noL (d i) = true) (hw : ∀ x, wipe ((wipe σ vs).set j (some x)) vs = wipe σ vs)
    (ht : ∀ (i : Nat) H1, Ex H H1 → i < m → EvT t ((wipe σ vs).set j (some (.int (i : Int)))) H1 (f i)) (he : ∀ (i : Nat) H1, Ex H H1 → i < m → f i = true → EvD K te ((wipe σ vs).set j (some (.int (i : Int)))) H1 (d i)) :
    EvD K (tLc (iRng1 tA) (gName j) t te vs) σ H (.list (givenD m f d)) :=
  ed_lc (G := fun _ => True) (walk_range (lo := 0) (n := m)) (fun _ _ _ _ => trivial) hz (fun H1 x R q => h H1 x _ fun H2 x2 => ⟨(m : Int), rfl, by omega, by omega, by rw [Int.toNat_natCast]; exact q H2 x2 trivial⟩) f d hd
    fun i x H1 H2 hi x1 _ y => by
      obtain ⟨rfl, rfl⟩ := y
      have z : (0 : Int) + (i : Int) = (i : Int) := Int.zero_add _
      refine ⟨Ex.refl _, _, fun Q q => ?_, hw (.int (i : Int)), ht i _ x1 hi, he i _ x1 hi⟩
      show Q ((wipe σ vs).set j (some (.int ((0 : Int) + (i : Int))))) H2
      rw [z]
      exact q
/-- over range(lo, hi) -/
theorem ed_lcR2 {j : Nat} {tA : TA} {lo hi : Int} {m : Nat} (h : EvA tA σ H [.int lo, .int hi]) (hm : (hi - lo).toNat = m) (hb : -100000 ≤ lo ∧ lo ≤ 100000 ∧ -100000 ≤ hi ∧ hi ≤ 100000) (hz : m ≤ 40000) (f : Nat → Bool) (d : Nat → PyData) (hd : ∀ i, i < m → noL (d i) = true) (hw : ∀ x, wipe ((wipe σ vs).set j (some x)) vs = wipe σ vs)
    (ht : ∀ (i : Nat) H1, Ex H H1 → i < m → EvT t ((wipe σ vs).set j (some (.int (lo + (i : Int))))) H1 (f i)) (he : ∀ (i : Nat) H1, Ex H H1 → i < m → f i = true → EvD K te ((wipe σ vs).set j (some (.int (lo + (i : Int))))) H1 (d i)) :
    EvD K (tLc (iRng2 tA) (gName j) t te vs) σ H (.list (givenD m f d)) :=
  ed_lc (G := fun _ => True) (walk_range (lo := lo) (n := m)) (fun _ _ _ _ => trivial) hz (fun H1 x R q => h H1 x _ fun H2 x2 => ⟨lo, hi, rfl, by omega, by rw [hm]; exact q H2 x2 trivial⟩) f d hd
    fun i x H1 H2 hi x1 _ y => by
      obtain ⟨rfl, rfl⟩ := y
      exact ⟨Ex.refl _, _, fun Q q => q, hw _, ht i _ x1 hi, he i _ x1 hi⟩
end
end Rbx
set_option Elab.async false
set_option linter.all false
set_option maxRecDepth 100000
set_option maxHeartbeats 4000000
/-! RbText: the text by its places, what the top leaves of names, short readings for this program. -/
namespace Rbx
open PySem PySem.Spec PyProof.Rows L2 Evl
def topS (i : Nat) : Stmt := PySem.Challenge.pw_ringbeats_k02_whole_places_on_rings.main.body.getD i (.Pass ⟨0, 0, 0, 0⟩)
abbrev sWhole : Stmt := topS 7
abbrev sRing : Stmt := topS 8
abbrev sArePl : Stmt := topS 9
abbrev sAhead : Stmt := topS 10
abbrev sTourOf : Stmt := topS 11
abbrev sCheck : Stmt := topS 12
abbrev sBeaten : Stmt := topS 13
abbrev sTurned : Stmt := topS 14
abbrev sMirrored : Stmt := topS 15
abbrev sWidened : Stmt := topS 16
abbrev sScaled : Stmt := topS 17
abbrev sAround : Stmt := topS 18
abbrev sLStream : Stmt := topS 20
abbrev sLNext : Stmt := topS 21
abbrev sLIsInt : Stmt := topS 22
abbrev sLEqual : Stmt := topS 23
abbrev sLPlaces : Stmt := topS 24
abbrev sLByPl : Stmt := topS 25
abbrev sLRev : Stmt := topS 26
abbrev sLTold : Stmt := topS 27
abbrev sLWide : Stmt := topS 28
abbrev sLAround : Stmt := topS 29
abbrev sLaw : Stmt := topS 30
/-- built-in names are not hidden; two constants -/
structure Bn (mg : Str → Option Value) : Prop where
  isi : mg "isinstance" = none
  int : mg "int" = none
  bool : mg "bool" = none
  str : mg "str" = none
  tuple : mg "tuple" = none
  list : mg "list" = none
  len : mg "len" = none
  all : mg "all" = none
  any : mg "any" = none
  enum : mg "enumerate" = none
  range : mg "range" = none
  sorted : mg "sorted" = none
  abs : mg "abs" = none
  min : mg "min" = none
  ring : ∃ u, mg "MOST_RING" = some u ∧ RelV (.int 31) u
  players : ∃ u, mg "MOST_PLAYERS" = some u ∧ RelV (.int 8) u
/-- a def of the text that stands under its name -/
structure Df (K : PySem.W.Frag) (mg : Str → Option Value) (x : Str) (st : Stmt) (ps : List Str) : Prop where
  ex : ∃ (f : Addr) (fd : FuncData), Fun K x x st f fd ∧ mg x = some (.ref f) ∧ Binds K fd ps []
section
variable {P : Program} {w : World} {K : PySem.W.Frag} {mg : Str → Option Value} {base : Heap}
/-- THE RULE for a def that hands back data -/
theorem Df.cal {x : Str} {st : Stmt} {N ps : List Str} {k : Nat} {g : List PyData → PyData → Prop} (D : Df K mg x st ps) (S : FnScope N ps (defScope st)) (len : ∀ ds d, g ds d → ds.length = ps.length)
    (body : ∀ (f : Addr) (cdv : Value) (A : Around) (outer : List Env) (s : Shared) (H : Hp) (vs : List V) (Q : VK) (E : XK) (ds : List PyData) (d : PyData), Room k (A.deeper (envOfC x (defScope st) s.heap.objs.size f cdv)) →
      DpAll K H vs ds → g ds d → (∀ v H2, Ex H H2 → Dp K H2 v d → Q v H2) →
      ∃ t, PSs (cxOf CX0 P w K mg base N x (defScope st) f cdv A outer s H E).nox (defBody st) t ∧ t { nx := fun _ H' => Q .non H', rt := Q } (start N vs) H) : C8.Cal P w K mg base (k + 1) x (spD K g) [] := by
  obtain ⟨f, fd, F, hm, hb⟩ := D.ex
  refine ⟨f, fd, ps, [], F.ok S (fun vs H Q E h => ?_) (fun cdv A outer s H vs Q E hr h => ?_), hm, F.kp, hb, .nil⟩
  · obtain ⟨ds, d, ha, hg, _⟩ := h
    rw [dps_len ha]
    exact len ds d hg
  · obtain ⟨ds, d, ha, hg, q⟩ := h
    exact body f cdv A outer s H vs Q E ds d hr ha hg q
end
theorem dps1 {K : PySem.W.Frag} {H : Hp} {vs : List V} {a : PyData} (h : DpAll K H vs [a]) : ∃ v, vs = [v] ∧ Dp K H v a := by
  cases h with
  | cons p h => cases h; exact ⟨_, rfl, p⟩
theorem dps2 {K : PySem.W.Frag} {H : Hp} {vs : List V} {a b : PyData} (h : DpAll K H vs [a, b]) : ∃ v v2, vs = [v, v2] ∧ Dp K H v a ∧ Dp K H v2 b := by
  cases h with
  | cons p h =>
    obtain ⟨v2, rfl, q⟩ := dps1 h
    exact ⟨_, _, rfl, p, q⟩
theorem dps3 {K : PySem.W.Frag} {H : Hp} {vs : List V} {a b c : PyData} (h : DpAll K H vs [a, b, c]) : ∃ v v2 v3, vs = [v, v2, v3] ∧ Dp K H v a ∧ Dp K H v2 b ∧ Dp K H v3 c := by
  cases h with
  | cons p h =>
    obtain ⟨v2, v3, rfl, q⟩ := dps2 h
    exact ⟨_, _, _, rfl, p, q⟩
theorem dps4 {K : PySem.W.Frag} {H : Hp} {vs : List V} {a b c d : PyData} (h : DpAll K H vs [a, b, c, d]) : ∃ v v2 v3 v4, vs = [v, v2, v3, v4] ∧ Dp K H v a ∧ Dp K H v2 b ∧ Dp K H v3 c ∧ Dp K H v4 d := by
  cases h with
  | cons p h =>
    obtain ⟨v2, v3, v4, rfl, q⟩ := dps3 h
    exact ⟨_, _, _, _, rfl, p, q⟩
/-! ### rules with the written part told (within a comprehension's block) -/
section
variable {X : Cx} (K : PySem.W.Frag)
theorem kSlT (h : X.K = K := by rfl) : SlR X (rSlT K) := h ▸ sl_tup
theorem kIn (h : X.K = K := by rfl) : OpR X (compareOp .In) (rIn K false) := h ▸ op_in_seq
theorem kNotIn (h : X.K = K := by rfl) : OpR X (compareOp .NotIn) (rIn K true) := h ▸ op_notIn_seq
theorem kIxT (h : X.K = K := by rfl) : IxR X (rIxT K) := h ▸ ix_tup
theorem kIxL (h : X.K = K := by rfl) : IxR X (rIxL K) := h ▸ ix_list
theorem kTupOf (h : X.K = K := by rfl) : CallR X (.type "tuple") (rTupOf K) := h ▸ call_tupOf
theorem kLn (h : X.K = K := by rfl) : CallR X (.builtin "len") (rLn K) := h ▸ call_ln
theorem kpi_list {tg l : Expr} {tl : TE} (hl : PE X l tl) (h : X.K = K := by rfl) : PI X tg l (iList K tl) := h ▸ pi_list hl
theorem kpi_tup {tg l : Expr} {tl : TE} (hl : PE X l tl) (h : X.K = K := by rfl) : PI X tg l (iTup K tl) := h ▸ pi_tup hl
theorem kTix (h : X.K = K := by rfl) : MtR X "tuple.index" (rTix K) := h ▸ mt_tix
theorem kIndex (h : X.K = K := by rfl) : MtR X "list.index" (rIndex K) := h ▸ mt_index
end
/-! ### short readings -/
def tyD : PyData → String
  | .none => "NoneType"
  | .bool _ => "bool"
  | .int _ => "int"
  | .str _ => "str"
  | .list _ => "list"
  | .tuple _ => "tuple"
  | .dict _ => "dict"
section
variable {K : PySem.W.Frag} {σ : L2.St} {H : Hp} {ta tb tx : TE} {t : TT} {v : V} {d : PyData}
theorem tyX_of (h : Dp K H v d) : TyX K H v (.type (tyD d)) := by
  cases h with
  | non => exact .base .non
  | bl b => exact .base (.bl b)
  | int i => exact .base (.int i)
  | str x => exact .base (.str x)
  | lst hs _ =>
    rcases hs with (h | ⟨o, h⟩) | ⟨o, its, n, h1, h2, _⟩
    · exact .base (.lst h)
    · exact .base (.frz h)
    · exact .kList h1 h2
  | tup hs _ =>
    rcases hs with (h | ⟨o, h⟩) | ⟨o, its, n, h1, h2, _⟩
    · exact .base (.tup h)
    · exact .fTuple h
    · exact .kTuple h1 h2
theorem ev_isi {n : String} {b : Bool} (h : EvD K tx σ H d) (k : kitB (tyD d) n = some b) : Ev (tCB (rIsi K) (tCons tx (tCons (tC (.ty n)) tNil))) σ H (.bl b) := fun H1 x _ q =>
  h H1 x _ fun v H2 x2 p => ⟨v, .ty n, _, .type n, b, rfl, .ty n, tyX_of p, kit_ty k, q H2 x2⟩
/-- a, b = a pair -/
theorem g_pair {i j : Nat} {T : Addr} {x y : V} {Q : L2.St → Hp → Prop} (h : H T = some (.tup [x, y])) (q : Q ((σ.set i (some x)).set j (some y)) H) : gTup K 2 (gCons (gName i) (gCons (gName j) gNil)) (.ref T) σ H Q :=
  ⟨T, _, rfl, st_of h, rfl, x, [y], rfl, y, [], rfl, rfl, q⟩
theorem map_at {ps : List Int} {i : Nat} {x : V} (h : (ps.map V.int)[i]? = some x) : ∃ p, ps[i]? = some p ∧ x = .int p := by
  rw [List.getElem?_map] at h
  obtain ⟨p, hp, e⟩ := Option.map_eq_some_iff.mp h
  exact ⟨p, hp, e.symm⟩
/-- t[lo:hi], not the whole -/
theorem eu_slT {te : TE} {tl th : TO} {a : Addr} {xs : List V} {lo hi : Option Int} (h : Ev te σ H (.ref a)) (h1 : EvO tl σ H lo) (h2 : EvO th σ H hi) (hs : SqT K H a xs) (hn : ¬ (HT.sIx xs.length 0 lo = 0 ∧ HT.sIx xs.length xs.length hi = xs.length)) : EvU (tSl (rSlT K) te tl th) σ H (cutV xs lo hi) := fun H1 e _ q =>
  h H1 e _ fun H2 e2 => h1 H2 (e.trans e2) _ fun H3 e3 => h2 H3 ((e.trans e2).trans e3) _ fun H4 e4 =>
    ⟨a, xs, rfl, ex_t (((e.trans e2).trans e3).trans e4) hs, hn, fun p hp => q p _ (fresh_back ((e2.trans e3).trans e4) hp) (((e2.trans e3).trans e4).trans (Ex.new hp)) upd_same⟩
theorem cut_take (xs : List V) (i : Nat) : cutV xs none (some (i : Int)) = xs.take i := by
  unfold cutV
  rw [HT.sIx_none, HT.sIx_nat, List.drop_zero, Nat.sub_zero]
  by_cases h : i ≤ xs.length
  · rw [Nat.min_eq_left h]
  · rw [Nat.min_eq_right (by omega), List.take_length, List.take_of_length_le (by omega)]
theorem et_yes : EvT tYes σ H true := fun H1 _ _ q => q H1 (Ex.refl H1)
theorem ev_sub {i j : Int} (ha : Ev ta σ H (.int i)) (hb : Ev tb σ H (.int j)) : Ev (tOp (rI0 fun i j => .int (i - j)) ta tb) σ H (.int (i - j)) := ev_op ha hb rv_I0
theorem ev_add {i j : Int} (ha : Ev ta σ H (.int i)) (hb : Ev tb σ H (.int j)) : Ev (tOp (rI0 fun i j => .int (i + j)) ta tb) σ H (.int (i + j)) := ev_op ha hb rv_I0
theorem ev_mod {i j : Int} (ha : Ev ta σ H (.int i)) (hb : Ev tb σ H (.int j)) (h : 0 < j) : Ev (tOp (rI (fun _ j => 0 < j) fun i j => .int (i % j)) ta tb) σ H (.int (i % j)) := ev_op ha hb (rv_I h)
theorem ev_div {i j : Int} (ha : Ev ta σ H (.int i)) (hb : Ev tb σ H (.int j)) (h : 0 < j ∧ j < 1073741824) : Ev (tOp (rI CDiv fun i j => .int (i / j)) ta tb) σ H (.int (i / j)) := ev_op ha hb (rv_I h)
theorem ev_mul {i j : Int} (ha : Ev ta σ H (.int i)) (hb : Ev tb σ H (.int j)) (h : CMul i j) : Ev (tOp (rI CMul fun i j => .int (i * j)) ta tb) σ H (.int (i * j)) := ev_op ha hb (rv_I h)
theorem ev_lt {i j : Int} (ha : Ev ta σ H (.int i)) (hb : Ev tb σ H (.int j)) : Ev (tOp (rI0 fun i j => .bl (decide (i < j))) ta tb) σ H (.bl (decide (i < j))) := ev_op ha hb rv_I0
theorem ev_le {i j : Int} (ha : Ev ta σ H (.int i)) (hb : Ev tb σ H (.int j)) : Ev (tOp (rI0 fun i j => .bl (decide (i ≤ j))) ta tb) σ H (.bl (decide (i ≤ j))) := ev_op ha hb rv_I0
theorem ev_gt {i j : Int} (ha : Ev ta σ H (.int i)) (hb : Ev tb σ H (.int j)) : Ev (tOp (rI0 fun i j => .bl (decide (j < i))) ta tb) σ H (.bl (decide (j < i))) := ev_op ha hb rv_I0
theorem ev_eqS {x y : V} (ha : Ev ta σ H x) (hb : Ev tb σ H y) (s : scal x y = true) : Ev (tOp rEq ta tb) σ H (.bl (decide (x = y))) := ev_op ha hb (rv_eq s)
end
end Rbx
set_option Elab.async false
set_option linter.all false
set_option maxRecDepth 100000
set_option maxHeartbeats 4000000
/-! RbDefs1: is_whole, is_ring, is_ahead, are_places, check_places. -/
namespace Rbx
open PySem PySem.Spec PyProof.Rows L2 Evl C8
open Rb (Ok)
section
variable {P : Program} {w : World} {K : PySem.W.Frag} {mg : Str → Option Value} {base : Heap}
/-! ### the graphs -/
def gWhole (ds : List PyData) (d : PyData) : Prop := ∃ i lo hi : Int, lo ≤ i ∧ i ≤ hi ∧ ds = [.int i, .int lo, .int hi] ∧ d = .bool true
def gRing (ds : List PyData) (d : PyData) : Prop := ∃ R : Int, 1 ≤ R ∧ R ≤ 31 ∧ R % 2 = 1 ∧ ds = [.int R] ∧ d = .bool true
def gAhead (ds : List PyData) (d : PyData) : Prop := ∃ R a b : Int, 0 < R ∧ ds = [.int R, .int a, .int b] ∧ d = .bool (Rb.isAhead R a b)
def gArePl (ds : List PyData) (d : PyData) : Prop := ∃ (R : Int) (ps : List Int), Ok R ps ∧ ds = [.int R, tI ps] ∧ d = .bool true
def gCheck (ds : List PyData) (d : PyData) : Prop := ∃ (R : Int) (ps : List Int), Ok R ps ∧ ds = [.int R, tI ps] ∧ d = .none
/-! ### is_whole -/
theorem scWhole : FnScope ["value", "low", "high"] ["value", "low", "high"] (defScope sWhole) := ⟨rfl, rfl, rfl, by decide +kernel, rfl, by decide +kernel, by decide +kernel⟩
theorem cal_whole (D : Df K mg "is_whole" sWhole ["value", "low", "high"]) (B : Bn mg) : Cal P w K mg base 1 "is_whole" (spD K gWhole) [] := by
  refine D.cal scWhole (fun ds d h => by obtain ⟨i, lo, hi, _, _, rfl, _⟩ := h; rfl) fun f cdv A outer s H vs Q E ds d hr ha hg q => ?_
  obtain ⟨i, lo, hi, h1, h2, rfl, rfl⟩ := hg
  obtain ⟨_, _, _, rfl, p1, p2, p3⟩ := dps3 ha
  obtain rfl := dp_int p1
  obtain rfl := dp_int p2
  obtain rfl := dp_int p3
  refine ⟨_, pss_one (ps_ret (pe_and (pe_callB call_isi (by rfl) B.isi (by decide +kernel) (pa_cons (pv 0) (pa_cons (pe_bltn (v := .ty "int") (by rfl) B.int (by decide +kernel) rfl) pa_nil)))
    (pe_and (pe_not (pe_callB call_isi (by rfl) B.isi (by decide +kernel) (pa_cons (pv 0) (pa_cons (pe_bltn (v := .ty "bool") (by rfl) B.bool (by decide +kernel) rfl) pa_nil))))
      (pe_one (pe_chain op_le op_le (pv 1) (pv 0) (pv 2)))))), ?_⟩
  refine w_ret (ed_bl (ev_is (ev_andV (a := true) (ev_isi (ed_int (ev_var rfl)) (by show kitB "int" "int" = some true; decide +kernel)) fun _ => ev_andV (a := !false) (ev_notV (ev_isi (ed_int (ev_var rfl)) (by show kitB "int" "bool" = some false; decide +kernel))) fun _ => ev_chain (ev_var rfl) (ev_var rfl) (ev_var rfl)) ?_)) q
  rw [decide_eq_true h1, decide_eq_true h2]
  rfl
/-! ### is_ring -/
theorem scRing : FnScope ["value"] ["value"] (defScope sRing) := ⟨rfl, rfl, rfl, by decide +kernel, rfl, by decide +kernel, by decide +kernel⟩
theorem cal_ring (D : Df K mg "is_ring" sRing ["value"]) (B : Bn mg) (cW : Cal P w K mg base 1 "is_whole" (spD K gWhole) []) : Cal P w K mg base 2 "is_ring" (spD K gRing) [] := by
  refine D.cal scRing (fun ds d h => by obtain ⟨R, _, _, _, rfl, _⟩ := h; rfl) fun f cdv A outer s H vs Q E ds d hr ha hg q => ?_
  obtain ⟨R, h1, h2, h3, rfl, rfl⟩ := hg
  obtain ⟨_, rfl, p1⟩ := dps1 ha
  obtain rfl := dp_int p1
  refine ⟨_, pss_one (ps_ret (pe_and (pe_c cW hr (by decide) (by rfl) (pa_cons (pv 0) (pa_cons pe_int (pa_cons (pe_gc (v := .int 31) (by rfl) B.ring) pa_nil))))
    (pe_one (pe_cmpR op_eq (pe_op op_mod (pv 0) pe_int) pe_int (nomark _))))), ?_⟩
  refine w_ret (ed_bl (ev_is (ev_andV (a := true) (ev_bl (ed_call (ead_cons (ed_int (ev_var rfl)) (ead_cons (ed_int ev_c) (ead_cons (ed_int ev_c) ead_nil))) ⟨R, 1, 31, h1, h2, rfl, rfl⟩))
    fun _ => ev_eqS (ev_mod (ev_var rfl) ev_c (by decide)) ev_c rfl) ?_)) q
  rw [h3]
  rfl
/-! ### is_ahead -/
theorem scAhead : FnScope ["ring", "one", "other"] ["ring", "one", "other"] (defScope sAhead) := ⟨rfl, rfl, rfl, by decide +kernel, rfl, by decide +kernel, by decide +kernel⟩
theorem cal_ahead (D : Df K mg "is_ahead" sAhead ["ring", "one", "other"]) : Cal P w K mg base 1 "is_ahead" (spD K gAhead) [] := by
  refine D.cal scAhead (fun ds d h => by obtain ⟨R, a, b, _, rfl, _⟩ := h; rfl) fun f cdv A outer s H vs Q E ds d hr ha hg q => ?_
  obtain ⟨R, a, b, h1, rfl, rfl⟩ := hg
  obtain ⟨_, _, _, rfl, p1, p2, p3⟩ := dps3 ha
  obtain rfl := dp_int p1
  obtain rfl := dp_int p2
  obtain rfl := dp_int p3
  refine ⟨_, pss_one (ps_ret (pe_chain op_le op_le pe_int (pe_op op_mod (pe_op op_sub (pv 2) (pv 1)) (pv 0)) (pe_op op_fdiv (pv 0) pe_int))), ?_⟩
  refine w_ret (ed_bl (ev_is (ev_chain ev_c (ev_mod (ev_sub (ev_var rfl) (ev_var rfl)) (ev_var rfl) h1) (ev_div (ev_var rfl) ev_c (by decide))) ?_)) q
  unfold Rb.isAhead
  rw [Bool.decide_and]
/-! ### are_places -/
theorem scArePl : FnScope ["ring", "value", "place", "at"] ["ring", "value"] (defScope sArePl) := ⟨rfl, rfl, rfl, by decide +kernel, rfl, by decide +kernel, by decide +kernel⟩
theorem cal_arePl (D : Df K mg "are_places" sArePl ["ring", "value"]) (B : Bn mg) (cW : Cal P w K mg base 1 "is_whole" (spD K gWhole) []) : Cal P w K mg base 2 "are_places" (spD K gArePl) [] := by
  refine D.cal scArePl (fun ds d h => by obtain ⟨R, ps, _, rfl, _⟩ := h; rfl) fun f cdv A outer s H vs Q E ds d hr ha hg q => ?_
  obtain ⟨R, ps, ok, rfl, rfl⟩ := hg
  obtain ⟨_, _, rfl, p1, p2⟩ := dps2 ha
  obtain rfl := dp_int p1
  obtain ⟨a, rfl, hs⟩ := dp_tI p2
  refine ⟨_, pss_cons (ps_if (PW.pt (pw_or (pt_not (pt_val (pe_callB call_isi (by rfl) B.isi (by decide +kernel) (pa_cons (pv 1) (pa_cons (pe_bltn (v := .ty "tuple") (by rfl) B.tuple (by decide +kernel) rfl) pa_nil)))))
        (pw_or1 (pt_not (pt_chain op_le op_le pe_int (pe_callB call_ln (by rfl) B.len PySem.boot_len (pa_cons (pv 1) pa_nil)) (pe_gc (v := .int 8) (by rfl) B.players)))))) pss_never pss_nil)
    (pss_cons (ps_if (pt_not (pt_val (pe_callB (cr_all rfl) (by rfl) B.all (by decide +kernel) (pa_cons (pe_lc (own := [("place", 2)]) (g := gName 2) (tt := tYes) rfl scArePl.nd (pi_tup (pv 1)) (blkOk_by (N := ["ring", "value", "place", "at"]) (sc := defScope sArePl) (by decide +kernel))
        (fun _ _ _ _ _ => pg_name (i := 2) scArePl.nd rfl (.inl rfl)) (fun _ _ _ _ _ => pts_nil)
        (fun _ _ _ _ _ => pe_c cW hr (by decide) (by rfl) (pa_cons (pv 2) (pa_cons pe_int (pa_cons (pe_op op_sub (pv 0) pe_int) pa_nil))))) pa_nil)))) pss_never pss_nil)
    (pss_one (ps_ret (pe_callB (cr_all rfl) (by rfl) B.all (by decide +kernel) (pa_cons (pe_lc (own := [("at", 3), ("place", 2)]) (g := gTup K 2 (gCons (gName 3) (gCons (gName 2) gNil))) (tt := tYes) rfl scArePl.nd (pi_enumT (by rfl) B.enum (pa_cons (pv 1) pa_nil))
        (blkOk_by (N := ["ring", "value", "place", "at"]) (sc := defScope sArePl) (by decide +kernel))
        (fun _ _ _ _ _ => pg_tup rfl (pgs_cons (pg_name (i := 3) scArePl.nd rfl (.inl rfl)) (pgs_cons (pg_name (i := 2) scArePl.nd rfl (.inl rfl)) pgs_nil))) (fun _ _ _ _ _ => pts_nil)
        (fun _ _ _ _ _ => pe_cmpR (kNotIn K) (pv 2) (pe_slice (kSlT K) (pv 1) po_none (po_some (pv 3))) (by rfl))) pa_nil))))), ?_⟩
  have e1 : Ev (tVar 1) [some (.int R), some (.ref a), none, none] H (.ref a) := ev_var rfl
  have d1 : EvD K (tVar 1) [some (.int R), some (.ref a), none, none] H (tI ps) := ed_var rfl p2
  have len8 : (tI ps) = .tuple (dI ps) := rfl
  have hz : (ps.map V.int).length ≤ 40000 := by
    rw [List.length_map]
    have := ok.few
    omega
  -- if not isinstance(value, tuple) or not 1 <= len(value) <= 8
  refine w_skip (et_is (et_or (et_not (et_B (ev_isi (n := "tuple") (b := true) d1 (by show kitB "tuple" "tuple" = some true; decide +kernel)))) fun _ => et_not (et_test (ev_chain ev_c (ev_lnT d1) ev_c))) ?_) fun H1 x1 => ?_
  · rw [List.length_map, decide_eq_true (show (1 : Int) ≤ (ps.length : Int) by have := ok.some; omega), decide_eq_true (show (ps.length : Int) ≤ 8 by have := ok.few; omega)]
    rfl
  -- if not all([is_whole(..)])
  refine w_skip (et_is (et_not (et_B (ev_all (bs := List.replicate ps.length true) (ed_is (ed_lcT (a := a) (xs := ps.map V.int) (e1.mono x1) (ex_t x1 hs) hz (fun _ => true) (fun _ => .bool true) (fun _ _ => rfl) (fun _ => rfl) (fun i x H2 x2 hi => et_yes)
    (fun i x H2 x2 hi _ => ?_)) ?_)))) ?_) fun H2 x2 => ?_
  · obtain ⟨p, hp, rfl⟩ := map_at hi
    have hb := ok.on p (List.mem_of_getElem? hp)
    exact ed_call (ead_cons (ed_int (ev_var rfl)) (ead_cons (ed_int ev_c) (ead_cons (ed_int (ev_sub (ev_var rfl) ev_c)) ead_nil))) ⟨p, 0, R - 1, hb.1, by omega, rfl, rfl⟩
  · rw [givenD_all, List.length_map, List.map_replicate, List.map_const', List.length_range]
  · rw [List.all_replicate]
    cases ps.length <;> rfl
  -- return all([place not in value[:at] ..])
  refine w_ret (ed_bl (ev_is (ev_all (bs := List.replicate ps.length true) (ed_is (ed_lc (w := walk_enumT (K := K) (a := a) (xs := ps.map V.int)) (fun H3 H4 x q => ex_t x q) hz (fun H3 x3 R q => (ea_cons (e1.mono (x1.trans x2)) ea_nil) H3 x3 _ fun H4 x4 => ?_)
    (fun _ => true) (fun _ => .bool true) (fun _ _ => rfl) (fun i x H3 H4 hi x3 g3 y => ?_)) ?_)) ?_)) fun v H3 x3 p => q v H3 ((x1.trans x2).trans x3) p
  · have g := ex_t ((x1.trans x2).trans (x3.trans x4)) hs
    exact ⟨a, _, rfl, g, q H4 x4 g⟩
  · obtain ⟨T, _, y, rfl, nT, rfl, e, hy⟩ := y
    obtain rfl := Option.some.inj e
    obtain ⟨p, hp, rfl⟩ := map_at hy
    have x4 : Ex H3 (upd H3 T (.tup [.int (i : Nat), .int p])) := Ex.new nT
    have hS : SqT K (upd H3 T (.tup [.int (i : Nat), .int p])) a (ps.map V.int) := ex_t x4 g3
    refine ⟨x4, _, fun Q q => g_pair upd_same q, rfl, et_yes, fun _ => ed_bl (ev_is (ev_niU (ev_var rfl) (eu_slT (lo := none) (hi := some (i : Int)) (ev_var rfl) eo_none (eo_some (ev_var rfl)) hS ?_) rfl ?_) ?_)⟩
    · rw [HT.sIx_nat]
      rw [List.length_map] at hi ⊢
      omega
    · rw [cut_take, ← List.map_take]
      exact flat_ints _
    · rw [cut_take, ← List.map_take, inV_ints]
      have : ((ps.take i).any fun y => y == p) = false := by
        rw [List.any_eq_false]
        intro z hz' e
        have e : z = p := by simpa using e
        obtain ⟨j, hj⟩ := List.getElem?_of_mem hz'
        rw [e] at hj
        rw [List.getElem?_take] at hj
        split at hj
        · rename_i hji
          have := nd_ix ok.nd hj hp
          omega
        · cases hj
      rw [this] <;> rfl
  · rw [givenD_all, List.length_map, List.map_replicate, List.map_const', List.length_range]
  · rw [List.all_replicate]
    cases ps.length <;> rfl
/-! ### check_places -/
theorem scCheck : FnScope ["ring", "places"] ["ring", "places"] (defScope sCheck) := ⟨rfl, rfl, rfl, by decide +kernel, rfl, by decide +kernel, by decide +kernel⟩
theorem cal_check (D : Df K mg "check_places" sCheck ["ring", "places"]) (cR : Cal P w K mg base 2 "is_ring" (spD K gRing) []) (cP : Cal P w K mg base 2 "are_places" (spD K gArePl) []) : Cal P w K mg base 3 "check_places" (spD K gCheck) [] := by
  refine D.cal scCheck (fun ds d h => by obtain ⟨R, ps, _, rfl, _⟩ := h; rfl) fun f cdv A outer s H vs Q E ds d hr ha hg q => ?_
  obtain ⟨R, ps, ok, rfl, rfl⟩ := hg
  obtain ⟨_, _, rfl, p1, p2⟩ := dps2 ha
  obtain rfl := dp_int p1
  refine ⟨_, pss_cons (ps_if (pt_not (pt_val (pe_c cR hr (by decide) (by rfl) (pa_cons (pv 0) pa_nil)))) pss_never pss_nil)
    (pss_cons (ps_if (pt_not (pt_val (pe_c cP hr (by decide) (by rfl) (pa_cons (pv 0) (pa_cons (pv 1) pa_nil))))) pss_never pss_nil) pss_nil), ?_⟩
  refine w_skip (et_not (et_B (ev_bl (b := true) (ed_call (g := gRing) (ead_cons (ed_int (ev_var rfl)) ead_nil) ⟨R, ok.lo, ok.hi, ok.odd, rfl, rfl⟩)))) fun H1 x1 => ?_
  refine w_skip (et_not (et_B (ev_bl (b := true) (ed_call (g := gArePl) (ead_cons (ed_int (ev_var rfl)) (ead_cons (ed_var rfl (dp_ex x1 (tI ps) _ p2)) ead_nil)) ⟨R, ps, ok, rfl, rfl⟩)))) fun H2 x2 => ?_
  exact q .non H2 (x1.trans x2) .non
end
end Rbx
set_option Elab.async false
set_option linter.all false
set_option maxRecDepth 100000
set_option maxHeartbeats 4000000
/-! RbDefs2: tournament_of, beaten, turned, mirrored, around. -/
namespace Rbx
open PySem PySem.Spec PyProof.Rows L2 Evl C8
open Rb (Ok)
/-! ### tournaments as data -/
abbrev nI (r : List Nat) : List Int := r.map fun (j : Nat) => (j : Int)
abbrev tT (t : List (List Nat)) : PyData := .tuple (t.map fun r => tI (nI r))
theorem noL_tT (t : List (List Nat)) : noL (tT t) = true := noLs_all fun d hd => by
  obtain ⟨r, _, rfl⟩ := List.mem_map.mp hd
  exact noL_tI _
/-- what stands in a comprehension: its scope -/
def lcSc : Expr → Scope
  | .ListComp _ _ sc _ => sc
  | _ => { kind := .function, names := [], isGenerator := false, isCoroutine := false }
def asgE : Stmt → Expr
  | .Assign _ e _ => e
  | .Return (some e) _ => e
  | _ => .Constant .none 0 ⟨0, 0, 0, 0⟩
def arg0 : Expr → Expr
  | .Call _ (a :: _) _ _ => a
  | e => e
def nthS (l : List Stmt) (i : Nat) : Stmt := l.getD i (.Pass ⟨0, 0, 0, 0⟩)
section
variable {P : Program} {w : World} {K : PySem.W.Frag} {mg : Str → Option Value} {base : Heap}
def gTour (ds : List PyData) (d : PyData) : Prop := ∃ (R : Int) (ps : List Int), Ok R ps ∧ ds = [.int R, tI ps] ∧ d = tT (Rb.tour R ps)
abbrev nTour : List Str := ["ring", "places", "players", "rows", "one", "other", "row"]
theorem scTourOf : FnScope nTour ["ring", "places"] (defScope sTourOf) := ⟨rfl, rfl, rfl, by decide +kernel, rfl, by decide +kernel, by decide +kernel⟩
theorem rg_at {n i : Nat} {x : V} (h : (rgV 0 (n : Int))[i]? = some x) : i < n ∧ x = .int (i : Int) := by
  unfold rgV at h
  rw [List.getElem?_map] at h
  obtain ⟨j, hj, e⟩ := Option.map_eq_some_iff.mp h
  obtain ⟨h1, h2⟩ := List.getElem?_eq_some_iff.mp hj
  rw [List.length_range] at h1
  rw [List.getElem_range] at h2
  subst h2
  refine ⟨by omega, ?_⟩
  rw [← e, Int.zero_add]
theorem rg_len (n : Nat) : (rgV 0 (n : Int)).length = n := by
  rw [rgV_length]
  omega
theorem at0_atI {ps : List Int} {i : Nat} (h : i < ps.length) : atI (dI ps) (i : Int) = some (.int (Rb.at0 ps i)) := atI_n rfl (by rw [List.getElem?_map, Rb.at0_get h]; rfl)
/-- a row of the tournament, as values -/
abbrev rowV (r : List Nat) : List V := r.map fun (j : Nat) => V.int (j : Int)
theorem dps_rowV {H : Hp} (r : List Nat) : DpAll K H (rowV r) (dI (nI r)) := by
  have := dps_of_ints (K := K) (H := H) (nI r)
  rwa [List.map_map] at this
theorem yes_lc {σ : L2.St} {H : Hp} {F G : Hp → Prop} (h : F H) : tYes σ H (fun b H3 => if b = true then F H3 else G H3) := by
  show (if true = true then F H else G H)
  rw [if_pos rfl]
  exact h
set_option maxHeartbeats 8000000 in
theorem cal_tourOf (D : Df K mg "tournament_of" sTourOf ["ring", "places"]) (B : Bn mg) (cA : Cal P w K mg base 1 "is_ahead" (spD K gAhead) []) : Cal P w K mg base 2 "tournament_of" (spD K gTour) [] := by
  refine D.cal scTourOf (fun ds d h => by obtain ⟨R, ps, _, rfl, _⟩ := h; rfl) fun f cdv A outer s H vs Q E ds d hr ha hg q => ?_
  obtain ⟨R, ps, ok, rfl, rfl⟩ := hg
  obtain ⟨_, _, rfl, p1, p2⟩ := dps2 ha
  obtain rfl := dp_int p1
  obtain ⟨a, rfl, hs⟩ := dp_tI p2
  refine ⟨_, pss_cons (ps_set (i := 2) scTourOf.nd rfl (.inr rfl) (pe_listRg rfl (by rfl) B.list (prg_1 (by rfl) B.range (pe_callB call_ln (by rfl) B.len PySem.boot_len (pa_cons (pv 1) pa_nil)))))
    (pss_cons (ps_setLc (i := 3) (own := [("one", 4)]) (g := gName 4) (tt := tYes) rfl scTourOf.nd rfl rfl (sw_true rfl rfl rfl (by decide +kernel)) (pi_list (pv 2)) (blkOk_by (N := nTour) (sc := defScope sTourOf) (by decide +kernel))
        (fun _ _ _ _ _ => pg_name (i := 4) scTourOf.nd rfl (.inr rfl)) (fun _ _ _ _ _ => pts_nil)
        (fun _ _ _ _ _ => pe_lc (own := [("other", 5)]) (g := gName 5) rfl scTourOf.nd (kpi_list K (pv 2)) (blkOk_by (N := nTour) (sc := relS (lcSc (asgE (nthS (defBody sTourOf) 1))) (defScope sTourOf)) (by decide +kernel))
          (fun _ _ _ _ _ => pg_name (i := 5) scTourOf.nd rfl (.inl rfl))
          (fun _ _ _ _ _ => pts_one (pt_val (pe_c cA hr (by decide) (by rfl) (pa_cons (pv 0) (pa_cons (pe_ix (kIxT K) (pv 1) (pv 4) (fun _ _ => rfl)) (pa_cons (pe_ix (kIxT K) (pv 1) (pv 5) (fun _ _ => rfl)) pa_nil))))))
          (fun _ _ _ _ _ => pv 5)))
    (pss_one (ps_ret (pe_callTy call_tupOf (by rfl) B.tuple (by decide +kernel) (pa_cons (pe_lc (own := [("row", 6)]) (g := gName 6) (tt := tYes) rfl scTourOf.nd (pi_list (pv 3)) (blkOk_by (N := nTour) (sc := defScope sTourOf) (by decide +kernel))
        (fun _ _ _ _ _ => pg_name (i := 6) scTourOf.nd rfl (.inl rfl)) (fun _ _ _ _ _ => pts_nil)
        (fun _ _ _ _ _ => pe_callTy (kTupOf K) (by rfl) B.tuple (by decide +kernel) (pa_cons (pv 6) pa_nil))) pa_nil))))), ?_⟩
  have few := ok.few
  -- players = list(range(len(places)))
  refine (ev_lnT (K := K) (ed_var rfl p2)) H (Ex.refl H) _ fun H1 x1 => ?_
  rw [List.length_map]
  refine ⟨(ps.length : Int), rfl, RgOk.of_le (by decide) (by omega) (by decide) (by omega), fun pl hpl => ?_⟩
  have x2 : Ex H (upd H1 pl (.lst (rgV 0 (ps.length : Int)))) := x1.trans (Ex.new hpl)
  have hP : SqL K (upd H1 pl (.lst (rgV 0 (ps.length : Int)))) pl (rgV 0 (ps.length : Int)) := sq_of upd_same
  generalize upd H1 pl (.lst (rgV 0 (ps.length : Int))) = H2 at x2 hP
  -- rows = [[..] ..]
  refine ⟨.ref pl, rfl, pl, rfl, ⟨_, hP⟩, fun Dl hD => ?_⟩
  refine lc_it (walk_list (K := K) (a := pl) (xs := rgV 0 (ps.length : Int))) (fun i H' => Ex H2 H' ∧ ∃ rs : List Addr, H' Dl = some (.lst (rs.map V.ref)) ∧ rs.length = i ∧ ∀ (j : Nat) (p : Addr), rs[j]? = some p → p ≠ Dl ∧ H' p = some (.lst (rowV (Rb.rowT R ps j))))
    ⟨Ex.new hD, [], upd_same, rfl, fun j p z => by simp at z⟩ (fun i H' _ p => ex_l p.1 hP) ?_ ?_
  · rintro i x H' H'' hi ⟨x3, rs, e1, e2, e3⟩ ⟨e0, hx⟩
    rw [e0]
    clear e0 H''
    obtain ⟨hin, rfl⟩ := rg_at hx
    refine ⟨rfl, ?_⟩
    refine yes_lc ?_
    have row := el_lcL (K := K) (H := H') (σ := [some (.int R), some (.ref a), some (.ref pl), none, some (.int (i : Int)), none, none]) (tl := tVar 2) (j := 5) (vs := [5]) (xs := rgV 0 (ps.length : Int)) (a := pl)
      (t := tB (tCall (spD K gAhead) [] C8.E0 (tCons (tVar 0) (tCons (tOp (rIxT K) (tVar 1) (tVar 4)) (tCons (tOp (rIxT K) (tVar 1) (tVar 5)) tNil))))) (te := tVar 5)
      (fun j => Rb.isAhead R (Rb.at0 ps i) (Rb.at0 ps j)) (fun j => V.int (j : Int)) (ev_var rfl) (ex_l x3 hP) (by rw [rg_len]; omega) (fun _ => rfl)
      (fun j x H3 x4 hj => by
        obtain ⟨hjn, rfl⟩ := rg_at hj
        have d1 : EvD K (tVar 1) [some (.int R), some (.ref a), some (.ref pl), none, some (.int (i : Int)), some (.int (j : Int)), none] H3 (tI ps) := ed_var rfl (dp_ex (x2.trans (x3.trans x4)) (tI ps) _ p2)
        exact et_B (ev_bl (ed_call (g := gAhead) (ead_cons (ed_int (ev_var rfl)) (ead_cons (ed_ixT d1 (ev_var rfl) (at0_atI hin)) (ead_cons (ed_ixT d1 (ev_var rfl) (at0_atI hjn)) ead_nil))) ⟨R, _, _, by have := ok.lo; omega, rfl, rfl⟩)))
      (fun j x H3 x4 hj _ => by
        obtain ⟨hjn, rfl⟩ := rg_at hj
        exact ev_var rfl)
    refine row H' (Ex.refl H') _ fun p H3 np x4 hp => ?_
    have er : given (rgV 0 (ps.length : Int)).length (fun j => Rb.isAhead R (Rb.at0 ps i) (Rb.at0 ps j)) (fun j => V.int (j : Int)) = rowV (Rb.rowT R ps i) := by
      rw [rg_len]
      rfl
    rw [er] at hp
    have npD : p ≠ Dl := fun z => by
      rw [z, e1] at np
      cases np
    refine ⟨_, x4 _ _ e1, sz_lt (by rw [List.length_map, e2]; omega), Ex.mut (x3.trans x4) hD, rs ++ [p], ?_, by rw [List.length_append, e2]; rfl, fun j r hj => ?_⟩
    · rw [upd_same, List.map_append]
      rfl
    · by_cases hlt : j < rs.length
      · rw [List.getElem?_append_left hlt] at hj
        obtain ⟨n1, n2⟩ := e3 j r hj
        exact ⟨n1, by rw [upd_ne n1]; exact x4 _ _ n2⟩
      · rw [List.getElem?_append_right (by omega)] at hj
        have ej : j = i := by
          have := (List.getElem?_eq_some_iff.mp hj).1
          simp at this
          omega
        subst ej
        rw [e2, Nat.sub_self] at hj
        obtain rfl := Option.some.inj hj
        exact ⟨npD, by rw [upd_ne npD]; exact hp⟩
  · rintro H3 ⟨x3, rs, e1, e2, e3⟩
    rw [rg_len] at e2
    have hL : SqL K H3 Dl (rs.map V.ref) := sq_of e1
    have e4 : ∀ (i : Nat) (x : V), (rs.map V.ref)[i]? = some x → ∃ p, x = .ref p ∧ SqL K H3 p (rowV (Rb.rowT R ps i)) := fun i x hx => by
      rw [List.getElem?_map] at hx
      obtain ⟨p, hp, e⟩ := Option.map_eq_some_iff.mp hx
      exact ⟨p, e.symm, sq_of (e3 i p hp).2⟩
    -- return tuple([tuple(row) for row in rows])
    refine w_ret (ed_is (ed_tupOf (ed_lcL (K := K) (a := Dl) (xs := rs.map V.ref) (ev_var rfl) hL (by rw [List.length_map]; omega) (fun _ => true) (fun i => tI (nI (Rb.rowT R ps i))) (fun i _ => noL_tI _) (fun _ => rfl) (fun _ _ _ _ _ => et_yes)
      (fun i x H4 x4 hx _ => ?_))) ?_) fun v H4 x4 p => q v H4 (x2.trans (x3.trans x4)) p
    · obtain ⟨p, rfl, hp⟩ := e4 i x hx
      refine ed_tupOf (ed_var rfl (.lst (ex_l x4 hp) (dps_rowV _)))
    · rw [givenD_all, List.length_map, e2]
      unfold tT Rb.tour
      rw [List.map_map]
      rfl
end
end Rbx
set_option Elab.async false
set_option linter.all false
set_option maxRecDepth 100000
set_option maxHeartbeats 4000000
/-! RbDefs3: beaten, turned, mirrored, around. -/
namespace Rbx
open PySem PySem.Spec PyProof.Rows L2 Evl C8
open Rb (Ok)
section
variable {K : PySem.W.Frag} {σ : L2.St} {H : Hp} {te : TE} {tz : TS} {D : Ends} {P : V → Hp → Prop}
theorem w_drop (h : Ew te σ H P) (k : ∀ H1, Ex H H1 → tz D σ H1) : tSeq (tDrop te) tz D σ H := h H (Ex.refl H) _ fun _ H1 e _ => k H1 e
/-- gives a new list of n tuples -/
def EwRs (te : TE) (σ : L2.St) (H : Hp) (n : Nat) (rows : Nat → List V) : Prop :=
  ∀ H0, Ex H H0 → ∀ Q : VK, (∀ p H2 (rs : List Addr), Ex H0 H2 → H2 p = some (.lst (rs.map V.ref)) → rs.length = n → (∀ (i : Nat) (r : Addr), rs[i]? = some r → H2 r = some (.tup (rows i))) → Q (.ref p) H2) → te σ H0 Q
/-- a comprehension each of whose items is a new tuple -/
theorem lc_new {t : TT} {wi : TI} {g : TG} {vs : List Nat} {J : It} {n : Nat} {G : Hp → Prop} {Y : Nat → Hp → V → Hp → Prop} (w : Walk J n G Y) (hG : ∀ H1 H2, Ex H1 H2 → G H1 → G H2) (hn : n ≤ 40000)
    (hwi : ∀ H1, Ex H H1 → ∀ R : It → Hp → Prop, (∀ H2, Ex H1 H2 → G H2 → R J H2) → wi σ H1 R) (rows : Nat → List V)
    (turn : ∀ i x H1 H2, i < n → Ex H H1 → G H1 → Y i H1 x H2 → Ex H1 H2 ∧ ∃ σ2, (∀ Q : L2.St → Hp → Prop, Q σ2 H2 → g x (wipe σ vs) H2 Q) ∧ wipe σ2 vs = wipe σ vs ∧ EvT t σ2 H2 true ∧ EvU te σ2 H2 (rows i)) :
    EwRs (tLc wi g t te vs) σ H n rows := fun H0 e Q q => hwi H0 e _ fun H1 e1 g1 Dl hD => by
  refine lc_it w (fun i H' => Ex H1 H' ∧ ∃ rs : List Addr, H' Dl = some (.lst (rs.map V.ref)) ∧ rs.length = i ∧ ∀ (j : Nat) (r : Addr), rs[j]? = some r → H' r = some (.tup (rows j))) ⟨Ex.new hD, [], upd_same, rfl, fun j r z => by simp at z⟩ (fun i H' _ p => hG _ _ p.1 g1) ?_ ?_
  · rintro i x H' H'' hi ⟨p1, rs, p2, p3, p4⟩ y
    obtain ⟨x1, σ2, hg, hw, ht, he⟩ := turn i x H' H'' hi ((e.trans e1).trans p1) (hG _ _ p1 g1) y
    refine hg _ ⟨hw, ht H'' (Ex.refl _) _ fun H3 x3 => iteT (he H3 x3 _ fun p H4 np x4 hp => ?_)⟩
    have xx := x1.trans (x3.trans x4)
    have nD : ∀ (b : Addr) (us : List V), H4 b = some (.tup us) → b ≠ Dl := fun b us z e => by
      rw [e, xx _ _ p2] at z
      cases z
    refine ⟨_, xx _ _ p2, sz_lt (by rw [List.length_map, p3]; omega), Ex.mut (p1.trans xx) hD, rs ++ [p], ?_, by rw [List.length_append, p3]; rfl, fun j r hj => ?_⟩
    · rw [upd_same, List.map_append]
      rfl
    · by_cases hlt : j < rs.length
      · rw [List.getElem?_append_left hlt] at hj
        have z := xx _ _ (p4 j r hj)
        rw [upd_ne (nD _ _ z)]
        exact z
      · rw [List.getElem?_append_right (by omega)] at hj
        have ej : j = i := by
          have := (List.getElem?_eq_some_iff.mp hj).1
          simp at this
          omega
        subst ej
        rw [p3, Nat.sub_self] at hj
        obtain rfl := Option.some.inj hj
        rw [upd_ne (nD _ _ hp)]
        exact hp
  · rintro H' ⟨p1, rs, p2, p3, p4⟩
    exact q _ H' rs (e1.trans p1) p2 p3 p4
end
section
variable {P : Program} {w : World} {K : PySem.W.Frag} {mg : Str → Option Value} {base : Heap}
def gBeaten (ds : List PyData) (d : PyData) : Prop := ∃ (R : Int) (ps : List Int), Ok R ps ∧ ds = [.int R, tI ps] ∧ d = tT (Rb.tour R ps)
def gTurned (ds : List PyData) (d : PyData) : Prop := ∃ (R : Int) (ps : List Int) (m : Int), Ok R ps ∧ 0 ≤ m ∧ m < R ∧ ds = [.int R, tI ps, .int m] ∧ d = tI (Rb.turnP R m ps)
def gMir (ds : List PyData) (d : PyData) : Prop := ∃ (R : Int) (ps : List Int), Ok R ps ∧ ds = [.int R, tI ps] ∧ d = tI (Rb.mirP R ps)
def gAround (ds : List PyData) (d : PyData) : Prop := ∃ (R : Int) (ps : List Int) (l : List Nat), Ok R ps ∧ Rb.IsAr R ps l ∧ ds = [.int R, tI ps] ∧ d = tI (nI l)
/-! ### beaten -/
theorem scBeaten : FnScope ["ring", "places"] ["ring", "places"] (defScope sBeaten) := ⟨rfl, rfl, rfl, by decide +kernel, rfl, by decide +kernel, by decide +kernel⟩
theorem cal_beaten (D : Df K mg "beaten" sBeaten ["ring", "places"]) (cC : Cal P w K mg base 3 "check_places" (spD K gCheck) []) (cT : Cal P w K mg base 2 "tournament_of" (spD K gTour) []) : Cal P w K mg base 4 "beaten" (spD K gBeaten) [] := by
  refine D.cal scBeaten (fun ds d h => by obtain ⟨R, ps, _, rfl, _⟩ := h; rfl) fun f cdv A outer s H vs Q E ds d hr ha hg q => ?_
  obtain ⟨R, ps, ok, rfl, rfl⟩ := hg
  obtain ⟨_, _, rfl, p1, p2⟩ := dps2 ha
  obtain rfl := dp_int p1
  refine ⟨_, pss_cons (ps_expr (pe_c cC hr (by decide) (by rfl) (pa_cons (pv 0) (pa_cons (pv 1) pa_nil)))) (pss_one (ps_ret (pe_c cT hr (by decide) (by rfl) (pa_cons (pv 0) (pa_cons (pv 1) pa_nil))))), ?_⟩
  refine w_drop (ed_call (g := gCheck) (d := .none) (ead_cons (ed_int (ev_var rfl)) (ead_cons (ed_var rfl p2) ead_nil)) ⟨R, ps, ok, rfl, rfl⟩) fun H1 x1 => ?_
  exact w_ret (ed_call (g := gTour) (ead_cons (ed_int (ev_var rfl)) (ead_cons (ed_var rfl (dp_ex x1 (tI ps) _ p2)) ead_nil)) ⟨R, ps, ok, rfl, rfl⟩) fun v H2 x2 p => q v H2 (x1.trans x2) p
/-! ### turned -/
theorem int_list (ps : List Int) (F : Int → Int) : givenD (ps.map V.int).length (fun _ => true) (fun i => .int (F (Rb.at0 ps i))) = dI (ps.map F) := by
  rw [givenD_all, List.length_map]
  apply List.ext_getElem?
  intro i
  by_cases h : i < ps.length
  · rw [List.getElem?_map, List.getElem?_range h, List.getElem?_map, List.getElem?_map, Rb.at0_get h]
    rfl
  · rw [List.getElem?_eq_none (by rw [List.length_map, List.length_range]; omega), List.getElem?_eq_none (by rw [List.length_map, List.length_map]; omega)]
theorem scTurned : FnScope ["ring", "places", "many", "place"] ["ring", "places", "many"] (defScope sTurned) := ⟨rfl, rfl, rfl, by decide +kernel, rfl, by decide +kernel, by decide +kernel⟩
theorem cal_turned (D : Df K mg "turned" sTurned ["ring", "places", "many"]) (B : Bn mg) (cW : Cal P w K mg base 1 "is_whole" (spD K gWhole) []) (cC : Cal P w K mg base 3 "check_places" (spD K gCheck) []) : Cal P w K mg base 4 "turned" (spD K gTurned) [] := by
  refine D.cal scTurned (fun ds d h => by obtain ⟨R, ps, m, _, _, _, rfl, _⟩ := h; rfl) fun f cdv A outer s H vs Q E ds d hr ha hg q => ?_
  obtain ⟨R, ps, m, ok, h0, h1, rfl, rfl⟩ := hg
  obtain ⟨_, _, _, rfl, p1, p2, p3⟩ := dps3 ha
  obtain rfl := dp_int p1
  obtain rfl := dp_int p3
  obtain ⟨a, rfl, hs⟩ := dp_tI p2
  have few := ok.few
  have lo := ok.lo
  refine ⟨_, pss_cons (ps_expr (pe_c cC hr (by decide) (by rfl) (pa_cons (pv 0) (pa_cons (pv 1) pa_nil))))
    (pss_cons (ps_if (pt_not (pt_val (pe_c cW hr (by decide) (by rfl) (pa_cons (pv 2) (pa_cons pe_int (pa_cons (pe_op op_sub (pv 0) pe_int) pa_nil)))))) pss_never pss_nil)
    (pss_one (ps_ret (pe_callTy call_tupOf (by rfl) B.tuple (by decide +kernel) (pa_cons (pe_lc (own := [("place", 3)]) (g := gName 3) (tt := tYes) rfl scTurned.nd (pi_tup (pv 1)) (blkOk_by (N := ["ring", "places", "many", "place"]) (sc := defScope sTurned) (by decide +kernel))
        (fun _ _ _ _ _ => pg_name (i := 3) scTurned.nd rfl (.inl rfl)) (fun _ _ _ _ _ => pts_nil) (fun _ _ _ _ _ => pe_op op_mod (pe_op op_add (pv 3) (pv 2)) (pv 0))) pa_nil))))), ?_⟩
  refine w_drop (ed_call (g := gCheck) (d := .none) (ead_cons (ed_int (ev_var rfl)) (ead_cons (ed_var rfl p2) ead_nil)) ⟨R, ps, ok, rfl, rfl⟩) fun H1 x1 => ?_
  refine w_skip (et_not (et_B (ev_bl (b := true) (ed_call (g := gWhole) (ead_cons (ed_int (ev_var rfl)) (ead_cons (ed_int ev_c) (ead_cons (ed_int (ev_sub (ev_var rfl) ev_c)) ead_nil))) ⟨m, 0, R - 1, h0, by omega, rfl, rfl⟩)))) fun H2 x2 => ?_
  refine w_ret (ed_is (ed_tupOf (ed_lcT (a := a) (xs := ps.map V.int) (ev_var rfl) (ex_t (x1.trans x2) hs) (by rw [List.length_map]; omega) (fun _ => true) (fun i => .int ((Rb.at0 ps i + m) % R)) (fun _ _ => rfl) (fun _ => rfl) (fun _ _ _ _ _ => et_yes) (fun i x H3 x3 hi _ => ?_))) ?_) fun v H3 x3 p => q v H3 ((x1.trans x2).trans x3) p
  · obtain ⟨p, hp, rfl⟩ := map_at hi
    rw [Rb.at0_of hp]
    exact ed_int (ev_mod (ev_add (ev_var rfl) (ev_var rfl)) (ev_var rfl) (by omega))
  · exact congrArg PyData.tuple (int_list ps fun p => (p + m) % R)
/-! ### mirrored -/
theorem scMir : FnScope ["ring", "places", "place"] ["ring", "places"] (defScope sMirrored) := ⟨rfl, rfl, rfl, by decide +kernel, rfl, by decide +kernel, by decide +kernel⟩
theorem cal_mir (D : Df K mg "mirrored" sMirrored ["ring", "places"]) (B : Bn mg) (cC : Cal P w K mg base 3 "check_places" (spD K gCheck) []) : Cal P w K mg base 4 "mirrored" (spD K gMir) [] := by
  refine D.cal scMir (fun ds d h => by obtain ⟨R, ps, _, rfl, _⟩ := h; rfl) fun f cdv A outer s H vs Q E ds d hr ha hg q => ?_
  obtain ⟨R, ps, ok, rfl, rfl⟩ := hg
  obtain ⟨_, _, rfl, p1, p2⟩ := dps2 ha
  obtain rfl := dp_int p1
  obtain ⟨a, rfl, hs⟩ := dp_tI p2
  have few := ok.few
  have lo := ok.lo
  refine ⟨_, pss_cons (ps_expr (pe_c cC hr (by decide) (by rfl) (pa_cons (pv 0) (pa_cons (pv 1) pa_nil))))
    (pss_one (ps_ret (pe_callTy call_tupOf (by rfl) B.tuple (by decide +kernel) (pa_cons (pe_lc (own := [("place", 2)]) (g := gName 2) (tt := tYes) rfl scMir.nd (pi_tup (pv 1)) (blkOk_by (N := ["ring", "places", "place"]) (sc := defScope sMirrored) (by decide +kernel))
        (fun _ _ _ _ _ => pg_name (i := 2) scMir.nd rfl (.inl rfl)) (fun _ _ _ _ _ => pts_nil) (fun _ _ _ _ _ => pe_op op_mod (pe_op op_sub (pv 0) (pv 2)) (pv 0))) pa_nil)))), ?_⟩
  refine w_drop (ed_call (g := gCheck) (d := .none) (ead_cons (ed_int (ev_var rfl)) (ead_cons (ed_var rfl p2) ead_nil)) ⟨R, ps, ok, rfl, rfl⟩) fun H1 x1 => ?_
  refine w_ret (ed_is (ed_tupOf (ed_lcT (a := a) (xs := ps.map V.int) (ev_var rfl) (ex_t x1 hs) (by rw [List.length_map]; omega) (fun _ => true) (fun i => .int ((R - Rb.at0 ps i) % R)) (fun _ _ => rfl) (fun _ => rfl) (fun _ _ _ _ _ => et_yes) (fun i x H3 x3 hi _ => ?_))) ?_) fun v H3 x3 p => q v H3 (x1.trans x3) p
  · obtain ⟨p, hp, rfl⟩ := map_at hi
    rw [Rb.at0_of hp]
    exact ed_int (ev_mod (ev_sub (ev_var rfl) (ev_var rfl)) (ev_var rfl) (by omega))
  · exact congrArg PyData.tuple (int_list ps fun p => (R - p) % R)
end
end Rbx
set_option Elab.async false
set_option linter.all false
set_option maxRecDepth 100000
set_option maxHeartbeats 4000000
/-! RbDefs4: around. -/
namespace Rbx
open PySem PySem.Spec PyProof.Rows L2 Evl C8
open Rb (Ok)
/-- the two ints of the pair that stands there -/
def kOf (H : Hp) : V → Int × Int
  | .ref t => match H t with
    | some (.tup [.int a, .int b]) => (a, b)
    | _ => (0, 0)
  | _ => (0, 0)
theorem kOf_at {H : Hp} {t : Addr} {a b : Int} (h : H t = some (.tup [.int a, .int b])) : kOf H (.ref t) = (a, b) := by
  unfold kOf
  simp only [h]
section
variable {P : Program} {w : World} {K : PySem.W.Frag} {mg : Str → Option Value} {base : Heap}
/-- what sorting leaves is the order around -/
theorem sorted_is {R : Int} {ps : List Int} (ok : Ok R ps) {H : Hp} {rs : List Addr} (hl : rs.length = ps.length) (hr : ∀ (i : Nat) (r : Addr), rs[i]? = some r → H r = some (.tup [.int (Rb.key R ps i), .int (i : Int)]))
    {ys : List V} (srt : SrtO.Srtd (ltP (kOf H)) ys) (stb : ys.Perm (rs.map V.ref)) : Rb.IsAr R ps (ys.map fun y => (kOf H y).2.toNat) := by
  have e0 : (rs.map V.ref).map (fun y => (kOf H y).2.toNat) = List.range ps.length := by
    rw [← hl, List.map_map]
    apply List.ext_getElem?
    intro i
    by_cases h : i < rs.length
    · rw [List.getElem?_map, List.getElem?_range h, List.getElem?_eq_getElem h]
      show some (kOf H (.ref rs[i])).2.toNat = some i
      rw [kOf_at (hr i rs[i] (List.getElem?_eq_getElem h))]
      rfl
    · rw [List.getElem?_eq_none (by rw [List.length_map]; omega), List.getElem?_eq_none (by rw [List.length_range]; omega)]
  have pm : (ys.map fun y => (kOf H y).2.toNat).Perm (List.range ps.length) := by
    rw [← e0]
    exact stb.map _
  have nd : (ys.map fun y => (kOf H y).2.toNat).Nodup := pm.nodup_iff.mpr List.nodup_range
  have val : ∀ y ∈ ys, ∃ i, i < ps.length ∧ kOf H y = (Rb.key R ps i, (i : Int)) := fun y hy => by
    have hy := stb.mem_iff.mp hy
    obtain ⟨r, hr', rfl⟩ := List.mem_map.mp hy
    obtain ⟨i, hi⟩ := List.getElem?_of_mem hr'
    exact ⟨i, by rw [← hl]; exact (List.getElem?_eq_some_iff.mp hi).1, kOf_at (hr i r hi)⟩
  refine ⟨pm, ?_⟩
  rw [List.pairwise_map]
  have nd2 : ys.Pairwise fun x y => (kOf H x).2.toNat ≠ (kOf H y).2.toNat := List.pairwise_map.mp nd
  refine (srt.and nd2).imp_of_mem fun {x y} hx hy q => ?_
  obtain ⟨i, hi, ex⟩ := val x hx
  obtain ⟨j, hj, ey⟩ := val y hy
  obtain ⟨q1, q2⟩ := q
  have q1 := SrtO.lexB_no.mp q1
  rw [ex, ey] at q1 q2 ⊢
  simp only [Int.toNat_natCast] at q1 q2 ⊢
  have ne : Rb.key R ps i ≠ Rb.key R ps j := fun e => by
    apply q2
    have h0 : 0 < ps.length := ok.some
    have a := ok.at hi
    have b := ok.at hj
    have c := ok.at h0
    unfold Rb.key at e
    rw [Rb.steps c.1 c.2 a.1 a.2, Rb.steps c.1 c.2 b.1 b.2] at e
    refine Rb.at0_inj ok.nd hi hj ?_
    split at e <;> split at e <;> omega
  omega
/-- sorted(..) of such pairs -/
theorem ew_sorted {R : Int} {ps : List Int} {l : List Nat} (ok : Ok R ps) (hl : Rb.IsAr R ps l) {te : TE} {σ : L2.St} {H : Hp} (h : EwRs te σ H ps.length fun i => [.int (Rb.key R ps i), .int (i : Int)]) :
    Ew (tCB (rSortedPO K) (tCons te tNil)) σ H fun v H3 => ∃ (pp : Addr) (ys : List V) (c : V → Nat), v = .ref pp ∧ H3 pp = some (.lst ys) ∧ l = ys.map c ∧ ∀ y ∈ ys, ∃ (r : Addr) (k0 : Int), y = .ref r ∧ H3 r = some (.tup [.int k0, .int (c y : Int)]) := fun H0 x0 Q q =>
  h H0 x0 _ fun p H2 rs x2 e2 e3 e4 => by
    refine ⟨p, rs.map V.ref, kOf H2, rfl, sq_of e2, fun x hx => ?_, fun ys pp srt stb np => ?_⟩
    · obtain ⟨r, hr', rfl⟩ := List.mem_map.mp hx
      obtain ⟨i, hi⟩ := List.getElem?_of_mem hr'
      exact ⟨r, rfl, by rw [kOf_at (e4 i r hi)]; exact e4 i r hi⟩
    · refine q _ _ (x2.trans (Ex.new np)) ⟨pp, ys, fun y => (kOf H2 y).2.toNat, rfl, upd_same, hl.uniq (sorted_is ok e3 e4 srt stb.perm), fun y hy => ?_⟩
      obtain ⟨r, hr', rfl⟩ := List.mem_map.mp (stb.perm.mem_iff.mp hy)
      obtain ⟨i, hi⟩ := List.getElem?_of_mem hr'
      refine ⟨r, Rb.key R ps i, rfl, ?_⟩
      show upd H2 pp (.lst ys) r = some (HO.tup [.int (Rb.key R ps i), .int (((kOf H2 (.ref r)).2.toNat : Nat) : Int)])
      rw [kOf_at (e4 i r hi), Int.toNat_natCast]
      exact Ex.new np _ _ (e4 i r hi)
abbrev nAround : List Str := ["ring", "places", "rows", "place", "player", "ahead"]
theorem scAround : FnScope nAround ["ring", "places"] (defScope sAround) := ⟨rfl, rfl, rfl, by decide +kernel, rfl, by decide +kernel, by decide +kernel⟩
theorem cal_around (D : Df K mg "around" sAround ["ring", "places"]) (B : Bn mg) (cC : Cal P w K mg base 3 "check_places" (spD K gCheck) []) : Cal P w K mg base 4 "around" (spD K gAround) [] := by
  refine D.cal scAround (fun ds d h => by obtain ⟨R, ps, _, _, _, rfl, _⟩ := h; rfl) fun f cdv A outer s H vs Q E ds d hr ha hg q => ?_
  obtain ⟨R, ps, l, ok, hl, rfl, rfl⟩ := hg
  obtain ⟨_, _, rfl, p1, p2⟩ := dps2 ha
  obtain rfl := dp_int p1
  obtain ⟨a, rfl, hs⟩ := dp_tI p2
  have few := ok.few
  have lo := ok.lo
  refine ⟨_, pss_cons (ps_expr (pe_c cC hr (by decide) (by rfl) (pa_cons (pv 0) (pa_cons (pv 1) pa_nil))))
    (pss_cons (ps_set (i := 2) scAround.nd rfl (.inl rfl) (pe_callB cr_sortedPO (by rfl) B.sorted (by decide +kernel) (pa_cons (pe_lc (own := [("player", 4), ("place", 3)]) (g := gTup K 2 (gCons (gName 4) (gCons (gName 3) gNil))) (tt := tYes) rfl scAround.nd
        (pi_enumT (by rfl) B.enum (pa_cons (pv 1) pa_nil)) (blkOk_by (N := nAround) (sc := defScope sAround) (by decide +kernel))
        (fun _ _ _ _ _ => pg_tup rfl (pgs_cons (pg_name (i := 4) scAround.nd rfl (.inl rfl)) (pgs_cons (pg_name (i := 3) scAround.nd rfl (.inl rfl)) pgs_nil))) (fun _ _ _ _ _ => pts_nil)
        (fun _ _ _ _ _ => pe_tup (pa_cons (pe_op op_mod (pe_op op_sub (pv 3) (pe_ix (kIxT K) (pv 1) pe_int (fun _ _ => rfl))) (pv 0)) (pa_cons (pv 4) pa_nil)))) pa_nil)))
    (pss_one (ps_ret (pe_callTy call_tupOf (by rfl) B.tuple (by decide +kernel) (pa_cons (pe_lc (own := [("ahead", 5), ("player", 4)]) (g := gTup K 2 (gCons (gName 5) (gCons (gName 4) gNil))) (tt := tYes) rfl scAround.nd (pi_list (pv 2))
        (blkOk_by (N := nAround) (sc := defScope sAround) (by decide +kernel))
        (fun _ _ _ _ _ => pg_tup rfl (pgs_cons (pg_name (i := 5) scAround.nd rfl (.inl rfl)) (pgs_cons (pg_name (i := 4) scAround.nd rfl (.inl rfl)) pgs_nil))) (fun _ _ _ _ _ => pts_nil)
        (fun _ _ _ _ _ => pv 4)) pa_nil))))), ?_⟩
  refine w_drop (ed_call (g := gCheck) (d := .none) (ead_cons (ed_int (ev_var rfl)) (ead_cons (ed_var rfl p2) ead_nil)) ⟨R, ps, ok, rfl, rfl⟩) fun H1 x1 => ?_
  have e1 : Ev (tVar 1) [some (.int R), some (.ref a), none, none, none, none] H1 (.ref a) := ev_var rfl
  -- rows = sorted([..])
  have wk := walk_enumT (K := K) (a := a) (xs := ps.map V.int)
  rw [List.length_map] at wk
  refine w_asg (ew_sorted ok hl (R := R) (ps := ps) (lc_new (w := wk) (fun H3 H4 x q => ex_t x q) (by omega) (fun H3 x3 R' q => (ea_cons e1 ea_nil) H3 x3 _ fun H4 x4 => ?_)
    (fun i => [.int (Rb.key R ps i), .int (i : Int)]) (fun i x H3 H4 hi x3 g3 y => ?_))) fun v H3 x3 p => ?_
  · have g := ex_t (x1.trans (x3.trans x4)) hs
    exact ⟨a, _, rfl, g, q H4 x4 g⟩
  · obtain ⟨T, _, y, rfl, nT, rfl, e, hy⟩ := y
    obtain rfl := Option.some.inj e
    obtain ⟨p, hp, rfl⟩ := map_at hy
    have x4 : Ex H3 (upd H3 T (.tup [.int (i : Nat), .int p])) := Ex.new nT
    refine ⟨x4, _, fun Q q => g_pair upd_same q, rfl, et_yes, eu_tup (ea_cons (ev_is (ev_mod (ev_sub (ev_var rfl) (ev_int (ed_ixT (ed_var rfl (dp_ex (x1.trans (x3.trans x4)) (tI ps) _ p2)) ev_c (at0_atI ok.some)))) (ev_var rfl) (by omega)) ?_) (ea_cons (ev_var rfl) ea_nil)) (by show 2 ≤ 100000; decide)⟩
    unfold Rb.key
    rw [Rb.at0_of hp]
  · obtain ⟨pp, ys, c, rfl, hp, rfl, yv⟩ := p
    have ylen : ys.length = ps.length := by
      have := hl.perm.length_eq
      rwa [List.length_map, List.length_range] at this
    have hY : SqL K H3 pp ys := sq_of hp
    -- return tuple([player for ahead, player in rows])
    refine w_ret (ed_is (ed_tupOf (ed_lc (w := walk_list (K := K) (a := pp) (xs := ys)) (fun H4 H5 x q => ex_l x q) (by omega) (fun H4 x4 R' q => ?_) (fun _ => true) (fun i => .int ((c (ys.getD i .non) : Nat) : Int)) (fun _ _ => rfl) (fun i x H4 H5 hi x4 g4 y => ?_))) ?_) fun v H4 x4 p => q v H4 (x1.trans (x3.trans x4)) p
    · exact ⟨.ref pp, rfl, pp, rfl, ⟨ys, ex_l x4 hY⟩, q H4 (Ex.refl H4) (ex_l x4 hY)⟩
    · obtain ⟨rfl, hx⟩ := y
      obtain ⟨r, k0, rfl, hr'⟩ := yv x (List.mem_of_getElem? hx)
      refine ⟨Ex.refl _, _, fun Q q => g_pair (x4 _ _ hr') q, rfl, et_yes, fun _ => ?_⟩
      have : ys.getD i .non = .ref r := by rw [List.getD_eq_getElem?_getD, hx]; rfl
      rw [this]
      exact ed_int (ev_var rfl)
    · rw [givenD_all]
      congr 1
      unfold nI dI
      rw [List.map_map, List.map_map]
      apply List.ext_getElem?
      intro i
      by_cases h : i < ys.length
      · rw [List.getElem?_map, List.getElem?_range h, List.getElem?_map, List.getElem?_eq_getElem h]
        show some (PyData.int ((c (ys.getD i .non) : Nat) : Int)) = some (PyData.int ((c ys[i] : Nat) : Int))
        rw [List.getD_eq_getElem?_getD, List.getElem?_eq_getElem h]
        rfl
      · rw [List.getElem?_eq_none (by rw [List.length_map, List.length_range]; omega), List.getElem?_eq_none (by rw [List.length_map]; omega)]
end
end Rbx
set_option Elab.async false
set_option linter.all false
set_option maxRecDepth 100000
set_option maxHeartbeats 4000000
/-! RbDefs5: the error TooLarge, widened, scaled, and the law's own def that catches it. -/
namespace Rbx
open PySem PySem.Spec PyProof.Rows L2 Evl C8
open Rb (Ok)
abbrev sInit : Stmt := inClass (topS 3) 0
/-- what the written part says of TooLarge, at C, of its base, at CR, and of its __init__, at fI -/
structure Ec (K : PySem.W.Frag) (mg : Str → Option Value) (C CR fI : Addr) (fdI : FuncData) : Prop where
  gC : mg "TooLarge" = some (.ref C)
  gR : mg "RingError" = some (.ref CR)
  ox : OexC K C
  xf : XfC K C
  ec : ExcC K C
  no : PySem.W.findIn K (.ref C) "what" = some none
  iC : PySem.W.findIn K (.ref C) "__init__" = some (some (.ref fI))
  tI : PySem.W.typeIn K (.ref fI) = some (.type "function")
  F : L2.Fun K "__init__" "TooLarge.__init__" sInit fI fdI
  b : Binds K fdI ["self", "what"] []
  te : PySem.W.exmOne K (.ref C) (.ref C) = some true
  ki : PySem.W.kitOne K (.ref C) (.ref CR) = some true
/-- a def that may raise, under its name -/
structure Rz (P : Program) (w : World) (K : PySem.W.Frag) (mg : Str → Option Value) (base : Heap) (k : Nat) (x : Str) (sp : Sp) : Prop where
  ex : ∃ (f : Addr) (fd : FuncData) (ps : List Str), FnOk P w K mg base (L2.CX P w) k f fd ps sp ∧ mg x = some (.ref f) ∧ PySem.W.keepIn K (.ref f) = true ∧ Binds K fd ps []
section
variable {X : Cx} {k j : Nat} {x : Str} {sp : Sp} {p pos : Pos} {e : Expr} {es : List Expr} {t : TA}
theorem pe_rz {W : WX} (c : Rz X.prog X.w X.K X.mg X.base k x sp) (hr : Room j X.A) (hk : k ≤ j) (tk : Takes X W) (hg : Gl X x) (ha : PA X (e :: es) t)
    (hdb : (x == ("__debug__" : Str)) = false := by decide) (he : starEach (e :: es) X.env = (false, eval e X.env) :: starEach es X.env := by rfl) (hpl : (backTo pos (starEach es X.env)).any (·.1) = false := by rfl) :
    PE X (.Call (.Name x p) (e :: es) [] pos) (tCallS sp (WE W) t) := by
  obtain ⟨f, fd, ps, F, hm, kp, b⟩ := c.ex
  exact pe_callS F (hr.mono hk) hg hm kp b (fun σ => passAt tk σ) ha hdb he hpl
end
section
variable {P : Program} {w : World} {K : PySem.W.Frag} {mg : Str → Option Value} {base : Heap} {C CR fI : Addr} {fdI : FuncData}
/-! ### TooLarge.__init__ -/
def spInit (C : Addr) : Sp := fun vs H Q _ => ∃ (a : Addr) (v : V), vs = [.ref a, v] ∧ H a = some (exo a C none) ∧ ∀ d : Addr, H d = none → d ≠ a → Q .non (upd (upd H d (exd d [(("what" : Str), v)])) a (exo a C (some d)))
theorem scInit : FnScope ["self", "what"] ["self", "what"] (defScope sInit) := ⟨rfl, rfl, rfl, by decide +kernel, rfl, by decide +kernel, by decide +kernel⟩
theorem ok_init (X : Ec K mg C CR fI fdI) : FnOk P w K mg base L2.CX0 1 fI fdI ["self", "what"] (spInit C) := by
  refine X.F.ok scInit (fun vs H Q E h => ?_) (fun cdv A outer s H vs Q E hr h => ?_)
  · obtain ⟨a, v, rfl, _⟩ := h
    rfl
  · obtain ⟨a, v, rfl, ea, q⟩ := h
    exact ⟨_, pss_one (ps_ost (pv 0) (pv 1)), v, rfl, .ref a, rfl, a, C, rfl, X.ox, X.no, .inl ⟨ea, fun dx n ne => q dx n ne⟩⟩
/-- raise TooLarge("ring"): its own dict d, new, holds the text; all else stands -/
theorem raise_ring (X : Ec K mg C CR fI fdI) {σ : L2.St} {H : Hp} {Q : XK} (q : ∀ (d : Addr) (H2 : Hp), Ex H H2 → H2 d = some (.xd [(("what" : Str), .str "ring")]) → Q (.ref C) (some d) H2) : tMkO C (spInit C) [] (tCons (tC (.str "ring")) tNil) σ H Q := by
  refine ⟨by show 1 ≤ 1000; decide, fun a na => ⟨a, .str "ring", rfl, upd_same, fun d nd ne => ⟨rfl, d, [(("what" : Str), .str "ring")], upd_same, ?_, ?_, ?_⟩⟩⟩
  · rw [upd_ne ne, upd_same]
  · rwa [upd_ne ne] at nd
  · have nd' : H d = none := by rwa [upd_ne ne] at nd
    refine q d _ (fun b o e => ?_) upd_same
    have h1 : b ≠ a := ne_of_none e na
    have h2 : b ≠ d := ne_of_none e nd'
    rw [upd_ne h2, del_ne h1, upd_ne h1, upd_ne h2, upd_ne h1]
    exact e
/-! ### widened -/
def spWide (K : PySem.W.Frag) (C : Addr) : Sp := fun vs H Q E => ∃ (R : Int) (ps : List Int) (m : Int), DpAll K H vs [.int R, tI ps, .int m] ∧ Ok R ps ∧ 0 ≤ m ∧ m < R ∧
  (R + 2 ≤ 31 → ∀ v H2, Ex H H2 → Dp K H2 v (.tuple [.int (R + 2), tI (Rb.wideP R m ps)]) → Q v H2) ∧ (31 < R + 2 → ∀ (d : Addr) (H2 : Hp), Ex H H2 → H2 d = some (.xd [(("what" : Str), .str "ring")]) → E (.ref C) (some d) H2)
abbrev nWide : List Str := ["ring", "places", "at", "opposite", "place"]
theorem scWide : FnScope nWide ["ring", "places", "at"] (defScope sWidened) := ⟨rfl, rfl, rfl, by decide +kernel, rfl, by decide +kernel, by decide +kernel⟩
theorem rz_wide (D : Df K mg "widened" sWidened ["ring", "places", "at"]) (B : Bn mg) (X : Ec K mg C CR fI fdI) (cW : Cal P w K mg base 1 "is_whole" (spD K gWhole) []) (cC : Cal P w K mg base 3 "check_places" (spD K gCheck) []) : Rz P w K mg base 4 "widened" (spWide K C) := by
  obtain ⟨f, fd, F, hm, hb⟩ := D.ex
  refine ⟨f, fd, _, F.okX scWide (fun vs H Q E h => ?_) (fun cdv A outer s H vs Q E hr h => ?_), hm, F.kp, hb⟩
  · obtain ⟨R, ps, m, ha, _⟩ := h
    exact dps_len ha
  obtain ⟨R, ps, m, ha, ok, h0, h1, q, qE⟩ := h
  obtain ⟨_, _, _, rfl, p1, p2, p3⟩ := dps3 ha
  obtain rfl := dp_int p1
  obtain rfl := dp_int p3
  obtain ⟨a, rfl, hs⟩ := dp_tI p2
  have few := ok.few
  have lo := ok.lo
  refine ⟨_, pss_cons (ps_expr (pe_c cC hr (by decide) (by rfl) (pa_cons (pv 0) (pa_cons (pv 1) pa_nil))))
    (pss_cons (ps_if (pt_not (pt_val (pe_c cW hr (by decide) (by rfl) (pa_cons (pv 2) (pa_cons pe_int (pa_cons (pe_op op_sub (pv 0) pe_int) pa_nil)))))) pss_never pss_nil)
    (pss_cons (ps_if (pt_cmpR op_gt (pe_op op_add (pv 0) pe_int) (pe_gc (v := .int 31) (by rfl) B.ring) (nomark _)) (pss_one (ps_raise rfl (takes_of rfl rfl rfl rfl) (pmk_oex X.ox X.iC X.tI (ok_init X) (hr.mono (by decide)) X.b .nil L2.pass0 (by rfl) X.gC (pa_cons pe_str pa_nil)))) pss_nil)
    (pss_cons (ps_set (i := 3) scWide.nd rfl (.inr rfl) (pe_op op_mod (pe_op op_add (pv 2) (pe_op op_fdiv (pv 0) pe_int)) (pv 0)))
    (pss_one (ps_ret (pe_tup (pa_cons (pe_op op_add (pv 0) pe_int) (pa_cons (pe_callTy call_tupOf (by rfl) B.tuple (by decide +kernel) (pa_cons (pe_lc (own := [("place", 4)]) (g := gName 4) (tt := tYes) rfl scWide.nd (pi_tup (pv 1)) (blkOk_by (N := nWide) (sc := defScope sWidened) (by decide +kernel))
        (fun _ _ _ _ _ => pg_name (i := 4) scWide.nd rfl (.inl rfl)) (fun _ _ _ _ _ => pts_nil)
        (fun _ _ _ _ _ => pe_op op_add (pe_op op_add (pv 4) (pe_callTy call_int_ (by rfl) B.int (by decide +kernel) (pa_cons (pe_cmpR op_gt (pv 4) (pv 2) (nomark _)) pa_nil))) (pe_callTy call_int_ (by rfl) B.int (by decide +kernel) (pa_cons (pe_cmpR op_gt (pv 4) (pv 3) (nomark _)) pa_nil)))) pa_nil)) pa_nil)))))))), ?_⟩
  refine w_drop (ed_call (g := gCheck) (d := .none) (ead_cons (ed_int (ev_var rfl)) (ead_cons (ed_var rfl p2) ead_nil)) ⟨R, ps, ok, rfl, rfl⟩) fun H1 x1 => ?_
  refine w_skip (et_not (et_B (ev_bl (b := true) (ed_call (g := gWhole) (ead_cons (ed_int (ev_var rfl)) (ead_cons (ed_int ev_c) (ead_cons (ed_int (ev_sub (ev_var rfl) ev_c)) ead_nil))) ⟨m, 0, R - 1, h0, by omega, rfl, rfl⟩)))) fun H2 x2 => ?_
  refine (et_test (ev_gt (ev_add (ev_var rfl) ev_c) ev_c)) H2 (Ex.refl H2) _ fun H3 x3 => ?_
  by_cases hb : R + 2 ≤ 31
  · rw [decide_eq_false (show ¬ (31 : Int) < R + 2 by omega), if_neg Bool.false_ne_true]
    refine w_asg (ed_int (K := K) (ev_mod (ev_add (ev_var rfl) (ev_div (ev_var rfl) ev_c (by decide))) (ev_var rfl) (by omega))) fun v H4 x4 p => ?_
    obtain rfl := dp_int p
    refine w_ret (ed_tup (ead_cons (ed_int (ev_add (ev_var rfl) ev_c)) (ead_cons (ed_is (ed_tupOf (ed_lcT (a := a) (xs := ps.map V.int) (ev_var rfl) (ex_t ((x1.trans x2).trans (x3.trans x4)) hs) (by rw [List.length_map]; omega) (fun _ => true)
      (fun i => .int (Rb.at0 ps i + Rb.b2i (decide (m < Rb.at0 ps i)) + Rb.b2i (decide (Rb.opp R m < Rb.at0 ps i)))) (fun _ _ => rfl) (fun _ => rfl) (fun _ _ _ _ _ => et_yes) (fun i x H5 x5 hi _ => ?_))) ?_) ead_nil)) (by show 2 ≤ 100000; decide)) fun v H5 x5 p => q hb v H5 (((x1.trans x2).trans (x3.trans x4)).trans x5) p
    · obtain ⟨p, hp, rfl⟩ := map_at hi
      rw [Rb.at0_of hp]
      exact ed_int (ev_add (ev_add (ev_var rfl) (ev_intB (ev_gt (ev_var rfl) (ev_var rfl)))) (ev_intB (ev_gt (ev_var rfl) (ev_var rfl))))
    · exact congrArg PyData.tuple (int_list ps fun p => p + Rb.b2i (decide (m < p)) + Rb.b2i (decide (Rb.opp R m < p)))
  · rw [decide_eq_true (show (31 : Int) < R + 2 by omega), if_pos rfl]
    exact raise_ring X fun d H4 x4 hd => qE (by omega) d H4 ((x1.trans x2).trans (x3.trans x4)) hd
/-! ### scaled -/
def spScale (K : PySem.W.Frag) (C : Addr) : Sp := fun vs H Q E => ∃ (R : Int) (ps : List Int) (m : Int), DpAll K H vs [.int R, tI ps, .int m] ∧ Ok R ps ∧ 1 ≤ m ∧ m ≤ 31 ∧ m % 2 = 1 ∧
  (R * m ≤ 31 → ∀ v H2, Ex H H2 → Dp K H2 v (.tuple [.int (R * m), tI (Rb.scaP m ps)]) → Q v H2) ∧ (31 < R * m → ∀ (d : Addr) (H2 : Hp), Ex H H2 → H2 d = some (.xd [(("what" : Str), .str "ring")]) → E (.ref C) (some d) H2)
abbrev nScale : List Str := ["ring", "places", "factor", "place"]
theorem scScale : FnScope nScale ["ring", "places", "factor"] (defScope sScaled) := ⟨rfl, rfl, rfl, by decide +kernel, rfl, by decide +kernel, by decide +kernel⟩
theorem rz_scale (D : Df K mg "scaled" sScaled ["ring", "places", "factor"]) (B : Bn mg) (X : Ec K mg C CR fI fdI) (cW : Cal P w K mg base 1 "is_whole" (spD K gWhole) []) (cC : Cal P w K mg base 3 "check_places" (spD K gCheck) []) : Rz P w K mg base 4 "scaled" (spScale K C) := by
  obtain ⟨f, fd, F, hm, hb⟩ := D.ex
  refine ⟨f, fd, _, F.okX scScale (fun vs H Q E h => ?_) (fun cdv A outer s H vs Q E hr h => ?_), hm, F.kp, hb⟩
  · obtain ⟨R, ps, m, ha, _⟩ := h
    exact dps_len ha
  obtain ⟨R, ps, m, ha, ok, h0, h1, h2, q, qE⟩ := h
  obtain ⟨_, _, _, rfl, p1, p2, p3⟩ := dps3 ha
  obtain rfl := dp_int p1
  obtain rfl := dp_int p3
  obtain ⟨a, rfl, hs⟩ := dp_tI p2
  have few := ok.few
  have lo := ok.lo
  have hi := ok.hi
  refine ⟨_, pss_cons (ps_expr (pe_c cC hr (by decide) (by rfl) (pa_cons (pv 0) (pa_cons (pv 1) pa_nil))))
    (pss_cons (ps_if (PW.pt (pw_or (pt_not (pt_val (pe_c cW hr (by decide) (by rfl) (pa_cons (pv 2) (pa_cons pe_int (pa_cons (pe_gc (v := .int 31) (by rfl) B.ring) pa_nil)))))) (pw_or1 (pt_cmpR op_eq (pe_op op_mod (pv 2) pe_int) pe_int (nomark _))))) pss_never pss_nil)
    (pss_cons (ps_if (pt_cmpR op_gt (pe_op op_mul (pv 0) (pv 2)) (pe_gc (v := .int 31) (by rfl) B.ring) (nomark _)) (pss_one (ps_raise rfl (takes_of rfl rfl rfl rfl) (pmk_oex X.ox X.iC X.tI (ok_init X) (hr.mono (by decide)) X.b .nil L2.pass0 (by rfl) X.gC (pa_cons pe_str pa_nil)))) pss_nil)
    (pss_one (ps_ret (pe_tup (pa_cons (pe_op op_mul (pv 0) (pv 2)) (pa_cons (pe_callTy call_tupOf (by rfl) B.tuple (by decide +kernel) (pa_cons (pe_lc (own := [("place", 3)]) (g := gName 3) (tt := tYes) rfl scScale.nd (pi_tup (pv 1)) (blkOk_by (N := nScale) (sc := defScope sScaled) (by decide +kernel))
        (fun _ _ _ _ _ => pg_name (i := 3) scScale.nd rfl (.inl rfl)) (fun _ _ _ _ _ => pts_nil)
        (fun _ _ _ _ _ => pe_op op_mul (pv 3) (pv 2))) pa_nil)) pa_nil))))))), ?_⟩
  have cm : ∀ x : Int, 0 ≤ x → x ≤ 31 → CMul x m := fun x _ _ => .inl ⟨by omega, by omega⟩
  refine w_drop (ed_call (g := gCheck) (d := .none) (ead_cons (ed_int (ev_var rfl)) (ead_cons (ed_var rfl p2) ead_nil)) ⟨R, ps, ok, rfl, rfl⟩) fun H1 x1 => ?_
  refine w_skip (et_is (et_or (et_not (et_B (ev_bl (b := true) (ed_call (g := gWhole) (ead_cons (ed_int (ev_var rfl)) (ead_cons (ed_int ev_c) (ead_cons (ed_int ev_c) ead_nil))) ⟨m, 1, 31, h0, h1, rfl, rfl⟩)))) fun _ => et_test (ev_eqS (ev_mod (ev_var rfl) ev_c (by decide)) ev_c rfl)) ?_) fun H2 x2 => ?_
  · rw [h2]
    rfl
  refine (et_test (ev_gt (ev_mul (ev_var rfl) (ev_var rfl) (cm R (by omega) hi)) ev_c)) H2 (Ex.refl H2) _ fun H3 x3 => ?_
  by_cases hb : R * m ≤ 31
  · rw [decide_eq_false (show ¬ (31 : Int) < R * m by omega), if_neg Bool.false_ne_true]
    refine w_ret (ed_tup (ead_cons (ed_int (K := K) (ev_mul (ev_var rfl) (ev_var rfl) (cm R (by omega) hi))) (ead_cons (ed_is (ed_tupOf (ed_lcT (a := a) (xs := ps.map V.int) (ev_var rfl) (ex_t ((x1.trans x2).trans x3) hs) (by rw [List.length_map]; omega) (fun _ => true)
      (fun i => .int (Rb.at0 ps i * m)) (fun _ _ => rfl) (fun _ => rfl) (fun _ _ _ _ _ => et_yes) (fun i x H5 x5 hi _ => ?_))) ?_) ead_nil)) (by show 2 ≤ 100000; decide)) fun v H5 x5 p => q hb v H5 (((x1.trans x2).trans x3).trans x5) p
    · obtain ⟨p, hp, rfl⟩ := map_at hi
      rw [Rb.at0_of hp]
      have := ok.on p (List.mem_of_getElem? hp)
      exact ed_int (ev_mul (ev_var rfl) (ev_var rfl) (cm p this.1 (by omega)))
    · exact congrArg PyData.tuple (int_list ps fun p => p * m)
  · rw [decide_eq_true (show (31 : Int) < R * m by omega), if_pos rfl]
    exact raise_ring X fun d H4 x4 hd => qE (by omega) d H4 ((x1.trans x2).trans (x3.trans x4)) hd
/-! ### _law_told -/
abbrev dRing : PyData := .list [.str "ring", .bool true]
def gTold (ds : List PyData) (d : PyData) : Prop := ∃ (R : Int) (ps : List Int) (m : Int), Ok R ps ∧
  ((0 ≤ m ∧ m < R ∧ ds = [.bool true, .int R, tI ps, .int m] ∧ d = if R + 2 ≤ 31 then .tuple [.int (R + 2), tI (Rb.wideP R m ps)] else dRing) ∨
   (1 ≤ m ∧ m ≤ 31 ∧ m % 2 = 1 ∧ ds = [.bool false, .int R, tI ps, .int m] ∧ d = if R * m ≤ 31 then .tuple [.int (R * m), tI (Rb.scaP m ps)] else dRing))
abbrev nTold : List Str := ["_law_which", "_law_ring", "_law_places_here", "_law_number", "problem"]
theorem scTold : FnScope nTold ["_law_which", "_law_ring", "_law_places_here", "_law_number"] (defScope sLTold) := ⟨rfl, rfl, rfl, by decide +kernel, rfl, by decide +kernel, by decide +kernel⟩
/-- [problem.what, isinstance(problem, RingError)] -/
def t_suite (K : PySem.W.Frag) (C CR : Addr) : Addr → Value → Option Addr → TS := fun a cls d =>
  tRet (tLst (tCons (tXf a cls d C "what" (tVar 4)) (tCons (tCB (rIsD K C a cls d) (tCons (tVar 4) (tCons (tC (.ref CR)) tNil))) tNil)))
theorem suite_ok (X : Ec K mg C CR fI fdI) {D : Ends} {v1 v2 v3 v4 : V} {H : Hp} {dd : Addr} (hd : H dd = some (.xd [(("what" : Str), .str "ring")])) (q : ∀ v H2, Ex H H2 → Dp K H2 v dRing → D.rt v H2) :
    wAs K (.ref C) 4 (t_suite K C CR) (fun _ _ _ _ => False) D (.ref C) (some dd) [some v1, some v2, some v3, some v4, none] H := by
  refine ⟨true, X.te, fun _ a na => ?_, fun z => Bool.noConfusion z⟩
  refine ⟨.ref a, rfl, rfl, rfl, dd, _, .str "ring", rfl, hd, by simp [List.lookup], .ref a, rfl, rfl, dd, _, .ref CR, .ref CR, true, rfl, hd, rfl, fun u r => r, X.ki, by show 2 ≤ sizeLine; decide, fun p np => ?_⟩
  exact q _ _ (Ex.new np) (.lst (sq_of upd_same) (.cons (.str _) (.cons (.bl true) .nil)))
theorem cal_told (D : Df K mg "_law_told" sLTold ["_law_which", "_law_ring", "_law_places_here", "_law_number"]) (X : Ec K mg C CR fI fdI) (B : Bn mg) (rW : Rz P w K mg base 4 "widened" (spWide K C)) (rS : Rz P w K mg base 4 "scaled" (spScale K C)) : Cal P w K mg base 5 "_law_told" (spD K gTold) [] := by
  refine D.cal scTold (fun ds d h => by obtain ⟨R, ps, m, _, ⟨_, _, rfl, _⟩ | ⟨_, _, _, rfl, _⟩⟩ := h <;> rfl) fun f cdv A outer s H vs Q E ds d hr ha hg q => ?_
  refine ⟨fun D σ H => tRet (tIf (tB (tVar 0)) (tCallS (spWide K C) (WE (wAs K (.ref C) 4 (t_suite K C CR) (fun _ _ _ _ => False) D)) (tCons (tVar 1) (tCons (tVar 2) (tCons (tVar 3) tNil))))
      (tCallS (spScale K C) (WE (wAs K (.ref C) 4 (t_suite K C CR) (fun _ _ _ _ => False) D)) (tCons (tVar 1) (tCons (tVar 2) (tCons (tVar 3) tNil))))) D σ H,
    pss_one (ps_try_as (i := 4) (tb := fun W => tRet (tIf (tB (tVar 0)) (tCallS (spWide K C) (WE W) (tCons (tVar 1) (tCons (tVar 2) (tCons (tVar 3) tNil)))) (tCallS (spScale K C) (WE W) (tCons (tVar 1) (tCons (tVar 2) (tCons (tVar 3) tNil))))))
      (ts := t_suite K C CR) (Wout := fun _ _ _ _ => False) rfl rfl scTold.nd rfl rfl ⟨by rfl, by decide, .inl X.gC⟩ takes0
      (fun W pn xe tk _ => pss_one (ps_ret (pe_ifExp (pt_val (pv 0)) (pe_rz rW hr (by decide) tk (by rfl) (pa_cons (pv 1) (pa_cons (pv 2) (pa_cons (pv 3) pa_nil)))) (pe_rz rS hr (by decide) tk (by rfl) (pa_cons (pv 1) (pa_cons (pv 2) (pa_cons (pv 3) pa_nil)))))))
      (fun a oe cls d pn hz hf => pss_one (ps_ret (pe_lst (pa_cons (pe_xf X.xf X.no hz hf (pv 4)) (pa_cons (pe_callB (call_isD X.ec hz hf) (by rfl) B.isi (by decide +kernel) (pa_cons (pv 4) (pa_cons (pe_glob (by rfl) X.gR rfl) pa_nil))) pa_nil)))))), ?_⟩
  obtain ⟨R, ps, m, ok, ⟨h0, h1, rfl, rfl⟩ | ⟨h0, h1, h2, rfl, rfl⟩⟩ := hg
  · obtain ⟨_, _, v3, _, rfl, p1, p2, p3, p4⟩ := dps4 ha
    obtain rfl := dp_bl p1
    obtain rfl := dp_int p2
    obtain rfl := dp_int p4
    refine ⟨.bl true, rfl, true, rfl, iteT ?_⟩
    refine (ead_cons (ed_int (K := K) (ev_var rfl)) (ead_cons (ed_var rfl p3) (ead_cons (ed_int (ev_var rfl)) ead_nil))) H (Ex.refl H) _ fun vs H1 x1 pa => ?_
    refine ⟨R, ps, m, pa, ok, h0, h1, fun hb v H2 x2 p => q v H2 (x1.trans x2) (by rw [if_pos hb]; exact p), fun hb dd H2 x2 hd => suite_ok X hd fun v H3 x3 p => q v H3 (x1.trans (x2.trans x3)) (by rw [if_neg (by omega)]; exact p)⟩
  · obtain ⟨_, _, v3, _, rfl, p1, p2, p3, p4⟩ := dps4 ha
    obtain rfl := dp_bl p1
    obtain rfl := dp_int p2
    obtain rfl := dp_int p4
    refine ⟨.bl false, rfl, false, rfl, iteF ?_⟩
    refine (ead_cons (ed_int (K := K) (ev_var rfl)) (ead_cons (ed_var rfl p3) (ead_cons (ed_int (ev_var rfl)) ead_nil))) H (Ex.refl H) _ fun vs H1 x1 pa => ?_
    refine ⟨R, ps, m, pa, ok, h0, h1, h2, fun hb v H2 x2 p => q v H2 (x1.trans x2) (by rw [if_pos hb]; exact p), fun hb dd H2 x2 hd => suite_ok X hd fun v H3 x3 p => q v H3 (x1.trans (x2.trans x3)) (by rw [if_neg (by omega)]; exact p)⟩
end
end Rbx
set_option Elab.async false
set_option linter.all false
set_option maxRecDepth 100000
set_option maxHeartbeats 4000000
/-! RbFrz: a tuple whose very object is known (so that its methods may be called); method calls with the written part told. -/
namespace Rbx
open PySem PySem.Spec PyProof.Rows L2 Evl C8
/-- a tuple without a dict of its own, known to the object -/
def FzT (H : Hp) (a : Addr) (xs : List V) : Prop := ∃ o : Obj, H a = some (.frz o (.tup xs)) ∧ o.dict = none
theorem FzT.sq {K : PySem.W.Frag} {H : Hp} {a : Addr} {xs : List V} (h : FzT H a xs) : SqT K H a xs := let ⟨o, e, _⟩ := h; .inl (.inr ⟨o, e⟩)
theorem FzT.tex {H H' : Hp} {a : Addr} {xs : List V} (h : FzT H a xs) (e : TEx H H') : FzT H' a xs := let ⟨o, q, d⟩ := h; ⟨o, e _ _ q (fun ys z => nomatch z), d⟩
section
variable {X : Cx}
/-- tuple(list), the new object told -/
def rTupFz (K : PySem.W.Frag) : List V → Hp → VK → Prop := fun xs H Q => ∃ p ys, xs = [.ref p] ∧ SqL K H p ys ∧ ∀ (l : Addr) (o : Obj), H l = none → o.dict = none → Q (.ref l) (upd H l (.frz o (.tup ys)))
theorem call_tupFz : CallR X (.type "tuple") (rTupFz X.K) := by
  intro pins s σ H xs us Q I r h
  obtain ⟨p, ys, rfl, hq, q⟩ := h
  obtain ⟨u, rfl, rx⟩ := vals1 r
  obtain rfl : u = Value.ref p := rx
  obtain ⟨its, r', pl, hz⟩ := I.list hq
  have hlen := r'.length
  refine call_tuple_list pl.isList (fun h' kp => ?_) (by simp only [List.size_toArray] <;> omega)
  have I1 : Inv X pins σ H { s with heap := h' } := I.kept (t' := s.toks) kp
  have I2 : Inv X pins σ (upd H h'.objs.size (.frz { cls := .type "tuple", data := .seq its.toArray } (.tup ys))) { s with heap := h'.push { cls := .type "tuple", data := .seq its.toArray } } :=
    I1.laid (t' := s.toks) (fun b o e => Heap.get?_push_of_some _ e) (Nat.le_refl _) (show ObjOk X.prog X.w _ _ _ (.frz _ (.tup ys)) from ⟨Heap.get?_push_size _ rfl, hz, its, r', IsTup.new _ _⟩)
  exact ⟨.ref h'.objs.size, _, I2, rfl, q _ _ (I1.hok.fresh (Nat.le_refl _)) rfl⟩
end
/-- a method of such a tuple -/
def tBMF (r : V → List V → Hp → VK → Prop) (to : TE) (t : TA) : TE := fun σ H Q => to σ H fun x H1 => (∃ a xs, x = .ref a ∧ FzT H1 a xs) ∧ t σ H1 fun xs H2 => r x xs H2 Q
section
variable {X : Cx} {o e : Expr} {es : List Expr} {to : TE} {t : TA} {name : Str} {apos cpos : Pos} {id : String} {r : V → List V → Hp → VK → Prop}
theorem pe_bmF (pa : PlainAttrs "tuple") (slot : Slot "tuple" name id) (hty : typeOf (.builtin id) = pure (.type "method_descriptor")) (hm : MtR X id r) (ho : PE X o to) (ha : PA X (e :: es) t)
    (hbase : attributeBase o name X.env (eval o X.env) = eval o X.env := by rfl)
    (hfew : ((backTo cpos (starEach (e :: es) X.env)).all (fun x => !x.1) && (backToKw cpos (keywordEach [] X.env)).all (fun x => x.1.isSome)
      && decide ((e :: es).length + ([] : List Keyword).length + (if ([] : List Keyword).isEmpty then 0 else 1) < 30)) = true := by rfl)
    (hline : (apos.endLine == cpos.line) = true := by rfl) (hs : starEach (e :: es) X.env = (false, eval e X.env) :: starEach es X.env := by rfl) (hplain : (backTo cpos (starEach es X.env)).any (·.1) = false := by rfl) :
    PE X (.Call (.Attribute o name apos) (e :: es) [] cpos) (tBMF r to t) := by
  refine ⟨fun pins s σ H Q I h => ?_⟩
  refine wpAny_Call_method_late hbase hfew hline rfl (thn (ho.run pins s σ H _ I h) fun v s1 ⟨x, H1, I1, r1, ⟨a, xs, ex, ob, ea, nd⟩, q1⟩ => ?_)
  subst ex
  obtain rfl : v = Value.ref a := r1
  have k : ObjOk X.prog X.w H1 s1.heap a (.frz ob (.tup xs)) := I1.hok a _ ea
  obtain ⟨hget, _, its, _, o', ho', hc', _⟩ := k
  obtain rfl := Option.some.inj (ho'.symm.trans hget)
  refine ⟨"tuple", id, pa, slot, hty, ⟨_, hget, hc'⟩, fun b e => ?_, ?_⟩
  · obtain rfl := Value.ref.inj e
    exact ⟨_, hget, nd⟩
  have hA := ha.run cpos pins s1 σ H1 _ I1 q1
  rw [hs] at hA ⊢
  refine Calls.callWith_builtin (by show (false || (backTo cpos (starEach es X.env)).any (·.1)) = false; rw [hplain] <;> rfl) (Calls.evalArgs_plain ?_)
  exact thn hA fun us s2 ⟨vs, H2, I2, r2, q2⟩ => hm pins s2 σ H2 (.ref a) vs _ us Q I2 rfl r2 q2
/-- pe_bm with the written part told -/
theorem kpe_bm (K : PySem.W.Frag) {T : String} (pa : PlainAttrs T) (slot : Slot T name id) (hty : typeOf (.builtin id) = pure (.type "method_descriptor")) (hm : MtR X id r) (ho : PE X o to) (ha : PA X (e :: es) t) (hK : X.K = K := by rfl)
    (hbase : attributeBase o name X.env (eval o X.env) = eval o X.env := by rfl)
    (hfew : ((backTo cpos (starEach (e :: es) X.env)).all (fun x => !x.1) && (backToKw cpos (keywordEach [] X.env)).all (fun x => x.1.isSome)
      && decide ((e :: es).length + ([] : List Keyword).length + (if ([] : List Keyword).isEmpty then 0 else 1) < 30)) = true := by rfl)
    (hline : (apos.endLine == cpos.line) = true := by rfl) (hs : starEach (e :: es) X.env = (false, eval e X.env) :: starEach es X.env := by rfl) (hplain : (backTo cpos (starEach es X.env)).any (·.1) = false := by rfl) :
    PE X (.Call (.Attribute o name apos) (e :: es) [] cpos) (tBM K T r to t) := hK ▸ pe_bm pa slot hty hm ho ha hbase hfew hline hs hplain
end
section
variable {K : PySem.W.Frag} {σ : L2.St} {H : Hp} {ta te : TE} {d : PyData} {ds : List PyData}
/-- an item of a list -/
theorem ed_ixL {tb : TE} {i : Int} (ha : EvD K ta σ H (.list ds)) (hb : Ev tb σ H (.int i)) (hi : atI ds i = some d) : EvD K (tOp (rIxL K) ta tb) σ H d := fun H1 x _ q =>
  ha H1 x _ fun v H2 x2 p => hb H2 (x.trans x2) _ fun H3 x3 => by
    obtain ⟨a, xs, rfl, hs, hA⟩ := dp_lst (dp_ex x3 _ _ p)
    unfold atI at hi
    obtain ⟨j, hj, hd⟩ := Option.bind_eq_some_iff.mp hi
    obtain ⟨w, hw, hp⟩ := dps_at hA hd
    refine ⟨a, xs, i, w, rfl, rfl, hs, ?_, q _ H3 (x2.trans x3) hp⟩
    unfold atI
    rw [dps_len hA, hj]
    exact hw
/-- l.append(data) -/
theorem s_appD {D : Ends} {l : Addr} {xs : List V} (hl : H l = some (.lst xs)) (ha : Ev ta σ H (.ref l)) (h : EvD K te σ H d) (hz : xs.length < 100000) (k : ∀ v H1, Ex H H1 → Dp K H1 v d → D.nx σ (upd H1 l (.lst (xs ++ [v])))) :
    tDrop (tBM K "list" rAppend ta (tCons te tNil)) D σ H := ha H (Ex.refl H) _ fun H1 e1 =>
  ⟨Or.inl ⟨rfl, xs, sq_of (e1 l _ hl)⟩, h H1 e1 _ fun v H2 e2 p => ⟨l, xs, v, rfl, rfl, e2 l _ (e1 l _ hl), sz_lt hz, k v H2 (e1.trans e2) p⟩⟩
/-- where an int stands first -/
def First (ys : List V) (x : Int) (j : Nat) : Prop := ys.all flatV = true ∧ ys[j]? = some (.int x) ∧ ∀ (m : Nat) (z : V), m < j → ys[m]? = some z → eqV z (.int x) = false
theorem ev_tixF {a : Addr} {ys : List V} {x : Int} {j : Nat} (ha : Ev ta σ H (.ref a)) (hf : FzT H a ys) (hb : Ev te σ H (.int x)) (f : First ys x j) : Ev (tBMF (rTix K) ta (tCons te tNil)) σ H (.int (j : Int)) := fun H1 e1 _ q =>
  ha H1 e1 _ fun H2 e2 => ⟨⟨a, ys, rfl, hf.tex (TEx.of (e1.trans e2))⟩, hb H2 (e1.trans e2) _ fun H3 e3 => ⟨a, ys, .int x, j, .int x, rfl, rfl, (hf.tex (TEx.of ((e1.trans e2).trans e3))).sq, rfl, f.1, f.2.1, by show (x == x) = true; exact beq_self_eq_true x, f.2.2, q H3 (e2.trans e3)⟩⟩
theorem ev_lix {a : Addr} {ys : List V} {x : Int} {j : Nat} (ha : Ev ta σ H (.ref a)) (hf : SqL K H a ys) (hb : Ev te σ H (.int x)) (f : First ys x j) : Ev (tBM K "list" (rIndex K) ta (tCons te tNil)) σ H (.int (j : Int)) := fun H1 e1 _ q =>
  ha H1 e1 _ fun H2 e2 => ⟨.inl ⟨rfl, ys, ex_l (e1.trans e2) hf⟩, hb H2 (e1.trans e2) _ fun H3 e3 => ⟨a, ys, .int x, j, .int x, rfl, rfl, ex_l ((e1.trans e2).trans e3) hf, rfl, f.1, f.2.1, by show (x == x) = true; exact beq_self_eq_true x, f.2.2, q H3 (e2.trans e3)⟩⟩
end
end Rbx
set_option Elab.async false
set_option linter.all false
set_option maxRecDepth 100000
set_option maxHeartbeats 4000000
/-! RbDefs6: the law's own _law_is_integer and _law_equal. -/
namespace Rbx
open PySem PySem.Spec PyProof.Rows L2 Evl C8
open Rb (Ok)
/-- data that _law_equal takes apart in n turns -/
def sh : Nat → PyData → Bool
  | _, .bool _ => true
  | _, .int _ => true
  | _, .str _ => true
  | n + 1, .tuple xs => decide (xs.length ≤ 1000) && xs.all (sh n)
  | n + 1, .list xs => decide (xs.length ≤ 1000) && xs.all (sh n)
  | _, _ => false
section
variable {P : Program} {w : World} {K : PySem.W.Frag} {mg : Str → Option Value} {base : Heap}
def gIsInt (ds : List PyData) (d : PyData) : Prop := ∃ i : Int, ds = [.int i] ∧ d = .bool true
def gEq (n : Nat) (ds : List PyData) (d : PyData) : Prop := ∃ x : PyData, sh n x = true ∧ ds = [x, x] ∧ d = .bool true
theorem scIsInt : FnScope ["_law_actual"] ["_law_actual"] (defScope sLIsInt) := ⟨rfl, rfl, rfl, by decide +kernel, rfl, by decide +kernel, by decide +kernel⟩
theorem cal_isInt (D : Df K mg "_law_is_integer" sLIsInt ["_law_actual"]) (B : Bn mg) : Cal P w K mg base 1 "_law_is_integer" (spD K gIsInt) [] := by
  refine D.cal scIsInt (fun ds d h => by obtain ⟨i, rfl, _⟩ := h; rfl) fun f cdv A outer s H vs Q E ds d hr ha hg q => ?_
  obtain ⟨i, rfl, rfl⟩ := hg
  obtain ⟨_, rfl, p1⟩ := dps1 ha
  obtain rfl := dp_int p1
  refine ⟨_, pss_one (ps_ret (pe_and (pe_callB call_isi (by rfl) B.isi (by decide +kernel) (pa_cons (pv 0) (pa_cons (pe_bltn (v := .ty "int") (by rfl) B.int (by decide +kernel) rfl) pa_nil)))
    (pe_one (pe_not (pe_callB call_isi (by rfl) B.isi (by decide +kernel) (pa_cons (pv 0) (pa_cons (pe_bltn (v := .ty "bool") (by rfl) B.bool (by decide +kernel) rfl) pa_nil))))))), ?_⟩
  exact w_ret (ed_bl (ev_andV (a := true) (b := !false) (ev_isi (ed_int (ev_var rfl)) (by show kitB "int" "int" = some true; decide +kernel)) fun _ => ev_notV (ev_isi (ed_int (ev_var rfl)) (by show kitB "int" "bool" = some false; decide +kernel)))) q
abbrev nEq : List Str := ["_law_actual", "_law_due", "_law_at"]
theorem scEq : FnScope nEq ["_law_actual", "_law_due"] (defScope sLEqual) := ⟨rfl, rfl, rfl, by decide +kernel, rfl, by decide +kernel, by decide +kernel⟩
theorem isi_ty {d : PyData} {tx : TE} {σ : L2.St} {H : Hp} (n : String) (b : Bool) (h : EvD K tx σ H d) (k : kitB (tyD d) n = some b) : EvT (tB (tCB (rIsi K) (tCons tx (tCons (tC (.ty n)) tNil)))) σ H b := et_B (ev_isi h k)
/-- x is None, of what is not None -/
theorem ev_isN {d : PyData} {ta : TE} {σ : L2.St} {H : Hp} (h : EvD K ta σ H d) (hd : d ≠ .none) : Ev (tOp (fun x y H Q => y = .non ∧ Q (.bl (decide (x = .non))) H) ta (tC .non)) σ H (.bl false) := fun H1 x _ q =>
  h H1 x _ fun v H2 x2 p => by
    refine ⟨rfl, ?_⟩
    have : decide (v = V.non) = false := decide_eq_false fun z => by
      subst z
      cases p
      exact hd rfl
    rw [this]
    exact q H2 x2
theorem all_yes (n : Nat) : ((List.replicate n true).all id) = true := by
  rw [List.all_replicate]
  cases n <;> rfl
theorem yes_list (n : Nat) : givenD n (fun _ => true) (fun _ => PyData.bool true) = (List.replicate n true).map PyData.bool := by
  rw [givenD_all, List.map_replicate, List.map_const', List.length_range]
set_option maxHeartbeats 8000000 in
theorem eq_step (D : Df K mg "_law_equal" sLEqual ["_law_actual", "_law_due"]) (B : Bn mg) (cI : Cal P w K mg base 1 "_law_is_integer" (spD K gIsInt) []) (n : Nat) (rec : ∀ m, n = m + 1 → Cal P w K mg base (2 + m) "_law_equal" (spD K (gEq m)) []) : Cal P w K mg base (2 + n) "_law_equal" (spD K (gEq n)) [] := by
  rw [show 2 + n = (1 + n) + 1 by omega]
  refine D.cal (k := 1 + n) scEq (fun ds d h => by obtain ⟨x, _, rfl, _⟩ := h; rfl) fun f cdv A outer s H vs Q E ds d hr ha hg q => ?_
  obtain ⟨x, hx, rfl, rfl⟩ := hg
  obtain ⟨v1, v2, rfl, p1, p2⟩ := dps2 ha
  have d1 : EvD K (tVar 1) [some v1, some v2, none] H x := ed_var rfl p2
  have d0 : EvD K (tVar 0) [some v1, some v2, none] H x := ed_var rfl p1
  cases x with
  | bool b =>
    obtain rfl := dp_bl p1
    obtain rfl := dp_bl p2
    refine ⟨_, pss_cons (ps_if (pt_cmpR op_isN (pv 1) pe_non (nomark _)) pss_never pss_nil)
      (pss_cons (ps_if (pt_val (pe_callB call_isi (by rfl) B.isi (by decide +kernel) (pa_cons (pv 1) (pa_cons (pe_bltn (v := .ty "bool") (by rfl) B.bool (by decide +kernel) rfl) pa_nil))))
        (pss_one (ps_ret (pe_and (pe_callB call_isi (by rfl) B.isi (by decide +kernel) (pa_cons (pv 0) (pa_cons (pe_bltn (v := .ty "bool") (by rfl) B.bool (by decide +kernel) rfl) pa_nil))) (pe_one (pe_cmpR op_eq (pv 0) (pv 1) (nomark _)))))) pss_nil) pss_never), ?_⟩
    refine w_skip (et_test (ev_isN d1 (fun z => nomatch z))) fun H1 x1 => ?_
    refine isi_ty "bool" true (Ew.mono x1 d1) (by show kitB "bool" "bool" = some true; decide +kernel) H1 (Ex.refl _) _ fun H2 x2 => iteT ?_
    refine w_ret (ed_bl (ev_is (ev_andV (a := true) (ev_isi (Ew.mono (x1.trans x2) d0) (by show kitB "bool" "bool" = some true; decide +kernel)) fun _ => ev_eqS (ev_var rfl) (ev_var rfl) rfl) ?_)) fun v H3 x3 p => q v H3 ((x1.trans x2).trans x3) p
    rw [decide_eq_true rfl] <;> rfl
  | int i =>
    obtain rfl := dp_int p1
    obtain rfl := dp_int p2
    refine ⟨_, pss_cons (ps_if (pt_cmpR op_isN (pv 1) pe_non (nomark _)) pss_never pss_nil)
      (pss_cons (ps_if (pt_val (pe_callB call_isi (by rfl) B.isi (by decide +kernel) (pa_cons (pv 1) (pa_cons (pe_bltn (v := .ty "bool") (by rfl) B.bool (by decide +kernel) rfl) pa_nil)))) pss_never pss_nil)
      (pss_cons (ps_if (pt_val (pe_callB call_isi (by rfl) B.isi (by decide +kernel) (pa_cons (pv 1) (pa_cons (pe_bltn (v := .ty "int") (by rfl) B.int (by decide +kernel) rfl) pa_nil))))
        (pss_one (ps_ret (pe_and (pe_c cI hr (by omega) (by rfl) (pa_cons (pv 0) pa_nil)) (pe_one (pe_cmpR op_eq (pv 0) (pv 1) (nomark _)))))) pss_nil) pss_never)), ?_⟩
    refine w_skip (et_test (ev_isN d1 (fun z => nomatch z))) fun H1 x1 => ?_
    refine w_skip (isi_ty "bool" false (Ew.mono x1 d1) (by show kitB "int" "bool" = some false; decide +kernel)) fun H2 x2 => ?_
    refine isi_ty "int" true (Ew.mono (x1.trans x2) d1) (by show kitB "int" "int" = some true; decide +kernel) H2 (Ex.refl _) _ fun H3 x3 => iteT ?_
    refine w_ret (ed_bl (ev_is (ev_andV (a := true) (ev_bl (ed_call (g := gIsInt) (ead_cons (ed_int (ev_var rfl)) ead_nil) ⟨i, rfl, rfl⟩)) fun _ => ev_eqS (ev_var rfl) (ev_var rfl) rfl) ?_)) fun v H4 x4 p => q v H4 ((x1.trans x2).trans (x3.trans x4)) p
    rw [decide_eq_true rfl] <;> rfl
  | str z =>
    obtain rfl : v1 = .str z := by cases p1; rfl
    obtain rfl : v2 = .str z := by cases p2; rfl
    refine ⟨_, pss_cons (ps_if (pt_cmpR op_isN (pv 1) pe_non (nomark _)) pss_never pss_nil)
      (pss_cons (ps_if (pt_val (pe_callB call_isi (by rfl) B.isi (by decide +kernel) (pa_cons (pv 1) (pa_cons (pe_bltn (v := .ty "bool") (by rfl) B.bool (by decide +kernel) rfl) pa_nil)))) pss_never pss_nil)
      (pss_cons (ps_if (pt_val (pe_callB call_isi (by rfl) B.isi (by decide +kernel) (pa_cons (pv 1) (pa_cons (pe_bltn (v := .ty "int") (by rfl) B.int (by decide +kernel) rfl) pa_nil)))) pss_never pss_nil)
      (pss_cons (ps_if (pt_val (pe_callB call_isi (by rfl) B.isi (by decide +kernel) (pa_cons (pv 1) (pa_cons (pe_bltn (v := .ty "str") (by rfl) B.str (by decide +kernel) rfl) pa_nil))))
        (pss_one (ps_ret (pe_and (pe_callB call_isi (by rfl) B.isi (by decide +kernel) (pa_cons (pv 0) (pa_cons (pe_bltn (v := .ty "str") (by rfl) B.str (by decide +kernel) rfl) pa_nil))) (pe_one (pe_cmpR op_eq (pv 0) (pv 1) (nomark _)))))) pss_nil) pss_never))), ?_⟩
    refine w_skip (et_test (ev_isN d1 (fun z => nomatch z))) fun H1 x1 => ?_
    refine w_skip (isi_ty "bool" false (Ew.mono x1 d1) (by show kitB "str" "bool" = some false; decide +kernel)) fun H2 x2 => ?_
    refine w_skip (isi_ty "int" false (Ew.mono (x1.trans x2) d1) (by show kitB "str" "int" = some false; decide +kernel)) fun H3 x3 => ?_
    refine isi_ty "str" true (Ew.mono (x1.trans (x2.trans x3)) d1) (by show kitB "str" "str" = some true; decide +kernel) H3 (Ex.refl _) _ fun H4 x4 => iteT ?_
    refine w_ret (ed_bl (ev_is (ev_andV (a := true) (ev_isi (Ew.mono ((x1.trans x2).trans (x3.trans x4)) d0) (by show kitB "str" "str" = some true; decide +kernel)) fun _ => ev_eqS (ev_var rfl) (ev_var rfl) rfl) ?_)) fun v H5 x5 p => q v H5 (((x1.trans x2).trans (x3.trans x4)).trans x5) p
    rw [decide_eq_true rfl] <;> rfl
  | none => cases n <;> cases hx
  | dict kvs => cases n <;> cases hx
  | tuple xs =>
    cases n with
    | zero => cases hx
    | succ m =>
    obtain ⟨hl, hx⟩ := Bool.and_eq_true_iff.mp hx
    have hl : xs.length ≤ 1000 := of_decide_eq_true hl
    have cR := rec m rfl
    refine ⟨_, pss_cons (ps_if (pt_cmpR op_isN (pv 1) pe_non (nomark _)) pss_never pss_nil)
      (pss_cons (ps_if (pt_val (pe_callB call_isi (by rfl) B.isi (by decide +kernel) (pa_cons (pv 1) (pa_cons (pe_bltn (v := .ty "bool") (by rfl) B.bool (by decide +kernel) rfl) pa_nil)))) pss_never pss_nil)
      (pss_cons (ps_if (pt_val (pe_callB call_isi (by rfl) B.isi (by decide +kernel) (pa_cons (pv 1) (pa_cons (pe_bltn (v := .ty "int") (by rfl) B.int (by decide +kernel) rfl) pa_nil)))) pss_never pss_nil)
      (pss_cons (ps_if (pt_val (pe_callB call_isi (by rfl) B.isi (by decide +kernel) (pa_cons (pv 1) (pa_cons (pe_bltn (v := .ty "str") (by rfl) B.str (by decide +kernel) rfl) pa_nil)))) pss_never pss_nil)
      (pss_cons (ps_if (PW.pt (pw_and (pt_val (pe_callB call_isi (by rfl) B.isi (by decide +kernel) (pa_cons (pv 1) (pa_cons (pe_bltn (v := .ty "tuple") (by rfl) B.tuple (by decide +kernel) rfl) pa_nil))))
        (pw_and1 (pt_not (pt_val (pe_callB call_isi (by rfl) B.isi (by decide +kernel) (pa_cons (pv 0) (pa_cons (pe_bltn (v := .ty "tuple") (by rfl) B.tuple (by decide +kernel) rfl) pa_nil)))))))) pss_never pss_nil)
      (pss_cons (ps_if (PW.pt (pw_and (pt_val (pe_callB call_isi (by rfl) B.isi (by decide +kernel) (pa_cons (pv 1) (pa_cons (pe_bltn (v := .ty "list") (by rfl) B.list (by decide +kernel) rfl) pa_nil))))
        (pw_and1 (pt_not (pt_val (pe_callB call_isi (by rfl) B.isi (by decide +kernel) (pa_cons (pv 0) (pa_cons (pe_bltn (v := .ty "list") (by rfl) B.list (by decide +kernel) rfl) pa_nil)))))))) pss_never pss_nil)
      (pss_cons (ps_if (pt_cmpR op_ne (pe_callB call_ln (by rfl) B.len PySem.boot_len (pa_cons (pv 0) pa_nil)) (pe_callB call_ln (by rfl) B.len PySem.boot_len (pa_cons (pv 1) pa_nil)) (nomark _)) pss_never pss_nil)
      (pss_one (ps_ret (pe_callB (cr_all rfl) (by rfl) B.all (by decide +kernel) (pa_cons (pe_lc (own := [("_law_at", 2)]) (g := gName 2) (tt := tYes) rfl scEq.nd (pi_range1 (by rfl) B.range (pa_cons (pe_callB call_ln (by rfl) B.len PySem.boot_len (pa_cons (pv 1) pa_nil)) pa_nil)) (blkOk_by (N := nEq) (sc := defScope sLEqual) (by decide +kernel))
        (fun _ _ _ _ _ => pg_name (i := 2) scEq.nd rfl (.inl rfl)) (fun _ _ _ _ _ => pts_nil)
        (fun _ _ _ _ _ => pe_c cR hr (by omega) (by rfl) (pa_cons (pe_ix (kIxT K) (pv 0) (pv 2) (fun _ _ => rfl)) (pa_cons (pe_ix (kIxT K) (pv 1) (pv 2) (fun _ _ => rfl)) pa_nil)))) pa_nil)))))))))), ?_⟩
    refine w_skip (et_test (ev_isN d1 (fun z => nomatch z))) fun H1 x1 => ?_
    refine w_skip (isi_ty "bool" false (Ew.mono x1 d1) (by show kitB "tuple" "bool" = some false; decide +kernel)) fun H2 x2 => ?_
    have x2 := x1.trans x2
    refine w_skip (isi_ty "int" false (Ew.mono x2 d1) (by show kitB "tuple" "int" = some false; decide +kernel)) fun H3 x3 => ?_
    have x3 := x2.trans x3
    refine w_skip (isi_ty "str" false (Ew.mono x3 d1) (by show kitB "tuple" "str" = some false; decide +kernel)) fun H4 x4 => ?_
    have x4 := x3.trans x4
    refine w_skip (et_is (et_and (a := true) (isi_ty "tuple" true (Ew.mono x4 d1) (by show kitB "tuple" "tuple" = some true; decide +kernel)) fun _ => et_not (isi_ty "tuple" true (Ew.mono x4 d0) (by show kitB "tuple" "tuple" = some true; decide +kernel))) rfl) fun H5 x5 => ?_
    have x5 := x4.trans x5
    refine w_skip (et_is (et_and (a := false) (b := false) (isi_ty "list" false (Ew.mono x5 d1) (by show kitB "tuple" "list" = some false; decide +kernel)) fun z => nomatch z) rfl) fun H6 x6 => ?_
    have x6 := x5.trans x6
    refine w_skip (et_is (et_test (ev_op (ev_lnT (Ew.mono x6 d0)) (ev_lnT (Ew.mono x6 d1)) (rv_ne rfl))) (by rw [decide_eq_true rfl] <;> rfl)) fun H7 x7 => ?_
    have x7 := x6.trans x7
    refine w_ret (ed_bl (ev_is (ev_all (bs := List.replicate xs.length true) (ed_is (ed_lcR (m := xs.length) (ea_cons (ev_lnT (Ew.mono x7 d1)) ea_nil) (by omega) (fun _ => true) (fun _ => .bool true) (fun _ _ => rfl) (fun _ => rfl) (fun _ _ _ _ => et_yes) (fun i H8 x8 hi _ => ?_)) (congrArg PyData.list (yes_list _)))) (by rw [all_yes]))) fun v H9 x9 p => q v H9 (x7.trans x9) p
    have x8 := x7.trans x8
    have hi' : xs[i]? = some xs[i] := List.getElem?_eq_getElem hi
    exact ed_call (g := gEq m) (ead_cons (ed_ixT (ed_var rfl (dp_ex x8 _ _ p1)) (ev_var rfl) (atI_n rfl hi')) (ead_cons (ed_ixT (ed_var rfl (dp_ex x8 _ _ p2)) (ev_var rfl) (atI_n rfl hi')) ead_nil)) ⟨xs[i], List.all_eq_true.mp hx _ (List.getElem_mem hi), rfl, rfl⟩
  | list xs =>
    cases n with
    | zero => cases hx
    | succ m =>
    obtain ⟨hl, hx⟩ := Bool.and_eq_true_iff.mp hx
    have hl : xs.length ≤ 1000 := of_decide_eq_true hl
    have cR := rec m rfl
    refine ⟨_, pss_cons (ps_if (pt_cmpR op_isN (pv 1) pe_non (nomark _)) pss_never pss_nil)
      (pss_cons (ps_if (pt_val (pe_callB call_isi (by rfl) B.isi (by decide +kernel) (pa_cons (pv 1) (pa_cons (pe_bltn (v := .ty "bool") (by rfl) B.bool (by decide +kernel) rfl) pa_nil)))) pss_never pss_nil)
      (pss_cons (ps_if (pt_val (pe_callB call_isi (by rfl) B.isi (by decide +kernel) (pa_cons (pv 1) (pa_cons (pe_bltn (v := .ty "int") (by rfl) B.int (by decide +kernel) rfl) pa_nil)))) pss_never pss_nil)
      (pss_cons (ps_if (pt_val (pe_callB call_isi (by rfl) B.isi (by decide +kernel) (pa_cons (pv 1) (pa_cons (pe_bltn (v := .ty "str") (by rfl) B.str (by decide +kernel) rfl) pa_nil)))) pss_never pss_nil)
      (pss_cons (ps_if (PW.pt (pw_and (pt_val (pe_callB call_isi (by rfl) B.isi (by decide +kernel) (pa_cons (pv 1) (pa_cons (pe_bltn (v := .ty "tuple") (by rfl) B.tuple (by decide +kernel) rfl) pa_nil))))
        (pw_and1 (pt_not (pt_val (pe_callB call_isi (by rfl) B.isi (by decide +kernel) (pa_cons (pv 0) (pa_cons (pe_bltn (v := .ty "tuple") (by rfl) B.tuple (by decide +kernel) rfl) pa_nil)))))))) pss_never pss_nil)
      (pss_cons (ps_if (PW.pt (pw_and (pt_val (pe_callB call_isi (by rfl) B.isi (by decide +kernel) (pa_cons (pv 1) (pa_cons (pe_bltn (v := .ty "list") (by rfl) B.list (by decide +kernel) rfl) pa_nil))))
        (pw_and1 (pt_not (pt_val (pe_callB call_isi (by rfl) B.isi (by decide +kernel) (pa_cons (pv 0) (pa_cons (pe_bltn (v := .ty "list") (by rfl) B.list (by decide +kernel) rfl) pa_nil)))))))) pss_never pss_nil)
      (pss_cons (ps_if (pt_cmpR op_ne (pe_callB call_ln (by rfl) B.len PySem.boot_len (pa_cons (pv 0) pa_nil)) (pe_callB call_ln (by rfl) B.len PySem.boot_len (pa_cons (pv 1) pa_nil)) (nomark _)) pss_never pss_nil)
      (pss_one (ps_ret (pe_callB (cr_all rfl) (by rfl) B.all (by decide +kernel) (pa_cons (pe_lc (own := [("_law_at", 2)]) (g := gName 2) (tt := tYes) rfl scEq.nd (pi_range1 (by rfl) B.range (pa_cons (pe_callB call_ln (by rfl) B.len PySem.boot_len (pa_cons (pv 1) pa_nil)) pa_nil)) (blkOk_by (N := nEq) (sc := defScope sLEqual) (by decide +kernel))
        (fun _ _ _ _ _ => pg_name (i := 2) scEq.nd rfl (.inl rfl)) (fun _ _ _ _ _ => pts_nil)
        (fun _ _ _ _ _ => pe_c cR hr (by omega) (by rfl) (pa_cons (pe_ix (kIxL K) (pv 0) (pv 2) (fun _ _ => rfl)) (pa_cons (pe_ix (kIxL K) (pv 1) (pv 2) (fun _ _ => rfl)) pa_nil)))) pa_nil)))))))))), ?_⟩
    refine w_skip (et_test (ev_isN d1 (fun z => nomatch z))) fun H1 x1 => ?_
    refine w_skip (isi_ty "bool" false (Ew.mono x1 d1) (by show kitB "list" "bool" = some false; decide +kernel)) fun H2 x2 => ?_
    have x2 := x1.trans x2
    refine w_skip (isi_ty "int" false (Ew.mono x2 d1) (by show kitB "list" "int" = some false; decide +kernel)) fun H3 x3 => ?_
    have x3 := x2.trans x3
    refine w_skip (isi_ty "str" false (Ew.mono x3 d1) (by show kitB "list" "str" = some false; decide +kernel)) fun H4 x4 => ?_
    have x4 := x3.trans x4
    refine w_skip (et_is (et_and (a := false) (b := false) (isi_ty "tuple" false (Ew.mono x4 d1) (by show kitB "list" "tuple" = some false; decide +kernel)) fun z => nomatch z) rfl) fun H5 x5 => ?_
    have x5 := x4.trans x5
    refine w_skip (et_is (et_and (a := true) (isi_ty "list" true (Ew.mono x5 d1) (by show kitB "list" "list" = some true; decide +kernel)) fun _ => et_not (isi_ty "list" true (Ew.mono x5 d0) (by show kitB "list" "list" = some true; decide +kernel))) rfl) fun H6 x6 => ?_
    have x6 := x5.trans x6
    refine w_skip (et_is (et_test (ev_op (ev_lnL (Ew.mono x6 d0)) (ev_lnL (Ew.mono x6 d1)) (rv_ne rfl))) (by rw [decide_eq_true rfl] <;> rfl)) fun H7 x7 => ?_
    have x7 := x6.trans x7
    refine w_ret (ed_bl (ev_is (ev_all (bs := List.replicate xs.length true) (ed_is (ed_lcR (m := xs.length) (ea_cons (ev_lnL (Ew.mono x7 d1)) ea_nil) (by omega) (fun _ => true) (fun _ => .bool true) (fun _ _ => rfl) (fun _ => rfl) (fun _ _ _ _ => et_yes) (fun i H8 x8 hi _ => ?_)) (congrArg PyData.list (yes_list _)))) (by rw [all_yes]))) fun v H9 x9 p => q v H9 (x7.trans x9) p
    have x8 := x7.trans x8
    have hi' : xs[i]? = some xs[i] := List.getElem?_eq_getElem hi
    exact ed_call (g := gEq m) (ead_cons (ed_ixL (ed_var rfl (dp_ex x8 _ _ p1)) (ev_var rfl) (atI_n rfl hi')) (ead_cons (ed_ixL (ed_var rfl (dp_ex x8 _ _ p2)) (ev_var rfl) (atI_n rfl hi')) ead_nil)) ⟨xs[i], List.all_eq_true.mp hx _ (List.getElem_mem hi), rfl, rfl⟩
theorem cal_eq (D : Df K mg "_law_equal" sLEqual ["_law_actual", "_law_due"]) (B : Bn mg) (cI : Cal P w K mg base 1 "_law_is_integer" (spD K gIsInt) []) : ∀ n, Cal P w K mg base (2 + n) "_law_equal" (spD K (gEq n)) []
  | 0 => eq_step D B cI 0 fun m e => by omega
  | n + 1 => eq_step D B cI (n + 1) fun m e => by
    obtain rfl : m = n := by omega
    exact cal_eq D B cI m
end
end Rbx
set_option Elab.async false
set_option linter.all false
set_option maxRecDepth 100000
set_option maxHeartbeats 4000000
/-! RbDefs7: the law's own _law_by_places, _law_reversed. -/
namespace Rbx
open PySem PySem.Spec PyProof.Rows L2 Evl C8
open Rb (Ok)
section
variable {P : Program} {w : World} {K : PySem.W.Frag} {mg : Str → Option Value} {base : Heap}
/-! ### _law_by_places -/
def gByPl (ds : List PyData) (d : PyData) : Prop := ∃ (R : Int) (ps : List Int), Ok R ps ∧ ds = [.int R, tI ps] ∧ d = tT (Rb.tour R ps)
abbrev nByPl : List Str := ["_law_ring", "_law_places_here", "_law_rows", "_law_one", "_law_ahead", "_law_k", "_law_player"]
theorem scByPl : FnScope nByPl ["_law_ring", "_law_places_here"] (defScope sLByPl) := ⟨rfl, rfl, rfl, by decide +kernel, rfl, by decide +kernel, by decide +kernel⟩
theorem givenD_rows (n : Nat) (f : Nat → Bool) : givenD n f (fun j => .int (j : Int)) = dI (nI ((List.range n).filter f)) := by
  unfold givenD nI dI
  rw [List.map_map]
  rfl
theorem cal_byPl (D : Df K mg "_law_by_places" sLByPl ["_law_ring", "_law_places_here"]) (B : Bn mg) : Cal P w K mg base 1 "_law_by_places" (spD K gByPl) [] := by
  refine D.cal scByPl (fun ds d h => by obtain ⟨R, ps, _, rfl, _⟩ := h; rfl) fun f cdv A outer s H vs Q E ds d hr ha hg q => ?_
  obtain ⟨R, ps, ok, rfl, rfl⟩ := hg
  obtain ⟨_, _, rfl, p1, p2⟩ := dps2 ha
  obtain rfl := dp_int p1
  obtain ⟨a, rfl, hs⟩ := dp_tI p2
  have few := ok.few
  have lo := ok.lo
  have hi := ok.hi
  refine ⟨_, pss_cons (ps_set (i := 2) scByPl.nd rfl (.inl rfl) (pe_lst pa_nil))
    (pss_cons (ps_for PassesOwn.never rfl (pi_tup (pv 1)) (pg_name (i := 3) scByPl.nd rfl (.inr rfl))
      (pss_cons (ps_set (i := 4) scByPl.nd rfl (.inr rfl) (pe_lc (own := [("_law_k", 5)]) (g := gName 5) (tt := tYes) rfl scByPl.nd (pi_range2 (by rfl) B.range (pa_cons pe_int (pa_cons (pe_op op_fdiv (pe_op op_add (pv 0) pe_int) pe_int) pa_nil))) (blkOk_by (N := nByPl) (sc := defScope sLByPl) (by decide +kernel))
          (fun _ _ _ _ _ => pg_name (i := 5) scByPl.nd rfl (.inl rfl)) (fun _ _ _ _ _ => pts_nil) (fun _ _ _ _ _ => pe_op op_mod (pe_op op_add (pv 3) (pv 5)) (pv 0))))
      (pss_one (ps_expr (pe_bm PySem.F.plainAttrs_list PySem.F.slot_list_append PySem.F.type_list_append mt_append (pv 2) (pa_cons (pe_callTy call_tupOf (by rfl) B.tuple (by decide +kernel) (pa_cons
          (pe_lc (own := [("_law_player", 6)]) (g := gName 6) rfl scByPl.nd (pi_range1 (by rfl) B.range (pa_cons (pe_callB call_ln (by rfl) B.len PySem.boot_len (pa_cons (pv 1) pa_nil)) pa_nil)) (blkOk_by (N := nByPl) (sc := defScope sLByPl) (by decide +kernel))
          (fun _ _ _ _ _ => pg_name (i := 6) scByPl.nd rfl (.inl rfl)) (fun _ _ _ _ _ => pts_one (pt_cmpR (kIn K) (pe_ix (kIxT K) (pv 1) (pv 6) (fun _ _ => rfl)) (pv 4) (by rfl))) (fun _ _ _ _ _ => pv 6)) pa_nil)) pa_nil))))))
    (pss_one (ps_ret (pe_callTy call_tupOf (by rfl) B.tuple (by decide +kernel) (pa_cons (pv 2) pa_nil))))), ?_⟩
  -- rows = []
  refine ⟨Nat.zero_le _, fun L hL => ?_⟩
  -- the loop
  refine ⟨.ref a, rfl, a, rfl, ⟨_, ex_t (Ex.new hL) hs⟩, for_tup (K := K) (a := a) (xs := ps.map V.int) (fun i σ H' => ∃ o1 o2 ys, σ = [some (.int R), some (.ref a), some (.ref L), o1, o2, none, none] ∧ Ex H H' ∧ H' L = some (.lst ys) ∧ ys.length = i ∧
      DpAll K H' ys (((List.range ps.length).take i).map fun j => tI (nI (Rb.rowT R ps j))))
    ⟨none, none, [], rfl, Ex.new hL, upd_same, rfl, .nil⟩ (fun i σ H' _ p => by obtain ⟨_, _, _, _, x, _⟩ := p; exact ex_t x hs) ?_ ?_⟩
  · rintro i x σ H1 hx ⟨o1, o2, ys, rfl, x1, e1, e2, e3⟩
    obtain ⟨p, hp, rfl⟩ := map_at hx
    have hin : i < ps.length := (List.getElem?_eq_some_iff.mp hp).1
    have ep : Rb.at0 ps i = p := Rb.at0_of hp
    -- ahead = [..]
    refine w_asg (ed_is (ed_lcR2 (K := K) (lo := 1) (hi := (R + 1) / 2) (m := ((R + 1) / 2 - 1).toNat) (ea_cons ev_c (ea_cons (ev_div (ev_add (ev_var rfl) ev_c) ev_c (by decide)) ea_nil)) rfl (by omega) (by omega) (fun _ => true) (fun k => .int ((p + (1 + (k : Int))) % R)) (fun _ _ => rfl) (fun _ => rfl) (fun _ _ _ _ => et_yes)
      (fun k H2 x2 hk _ => ed_int (ev_mod (ev_add (ev_var rfl) (ev_var rfl)) (ev_var rfl) (by omega)))) (e := .list (dI (Rb.aheadL R p))) ?_) fun v H2 x2 pv => ?_
    · rw [givenD_all]
      unfold Rb.aheadL dI
      rw [List.map_map]
      rfl
    -- rows.append(tuple(..))
    have d1 : EvD K (tVar 1) [some (.int R), some (.ref a), some (.ref L), some (.int p), some v, none, none] H2 (tI ps) := ed_var rfl (dp_ex (x1.trans x2) (tI ps) _ p2)
    refine s_appD (d := tI (nI (Rb.rowT R ps i))) (x2 _ _ e1) (ev_var rfl) (ed_is (ed_tupOf (ed_lcR (m := ps.length) (ea_cons (ev_is (ev_lnT d1) (by rw [List.length_map])) ea_nil) (by omega) (fun j => (Rb.aheadL R p).any fun y => y == Rb.at0 ps j) (fun j => .int (j : Int)) (fun _ _ => rfl) (fun _ => rfl) (fun j H3 x3 hj => ?_)
      (fun j H3 x3 hj _ => ed_int (ev_var rfl)))) ?_) (by omega) fun v2 H3 x3 pv2 => ?_
    · have d3 : EvD K (tVar 1) [some (.int R), some (.ref a), some (.ref L), some (.int p), some v, none, some (.int (j : Int))] H3 (tI ps) := ed_var rfl (dp_ex ((x1.trans x2).trans x3) (tI ps) _ p2)
      exact et_test (ev_inL (neg := false) (ev_int (ed_ixT d3 (ev_var rfl) (at0_atI hj))) (ed_var rfl (dp_ex x3 _ _ pv)))
    · rw [givenD_rows]
      have := Rb.rowB_is ok hin
      rw [ep] at this
      exact congrArg (fun r => tI (nI r)) this
    · have e4 : H3 L = some (.lst ys) := x3 _ _ (x2 _ _ e1)
      refine ⟨_, _, ys ++ [v2], rfl, Ex.mut (x1.trans (x2.trans x3)) hL, upd_same, by rw [List.length_append, e2]; rfl, ?_⟩
      rw [List.take_add_one, List.map_append, List.getElem?_range hin]
      refine dps_app (dps_tex (TEx.put e4) _ _ (noLs_all fun d hd => ?_) (dps_ex (x2.trans x3) _ _ e3)) (.cons (dp_tex (TEx.put e4) _ _ (noL_tI _) pv2) .nil)
      obtain ⟨j, _, rfl⟩ := List.mem_map.mp hd
      exact noL_tI _
  · rintro σ H1 ⟨o1, o2, ys, rfl, x1, e1, e2, e3⟩
    refine w_ret (ed_tupOf (ed_var rfl (.lst (sq_of e1) e3))) fun v H2 x2 p => q v H2 (x1.trans x2) ?_
    rw [List.length_map, List.take_of_length_le (by rw [List.length_range]; exact Nat.le_refl _)] at p
    unfold tT Rb.tour
    rw [List.map_map]
    exact p
/-! ### _law_reversed -/
def gRev (ds : List PyData) (d : PyData) : Prop := ∃ t : List (List Nat), t.length ≤ 8 ∧ ds = [tT t] ∧ d = tT (Rb.revT t.length t)
abbrev nRev : List Str := ["_law_tournament", "_law_many", "_law_one", "_law_other"]
theorem scRev : FnScope nRev ["_law_tournament"] (defScope sLRev) := ⟨rfl, rfl, rfl, by decide +kernel, rfl, by decide +kernel, by decide +kernel⟩
theorem any_nI (l : List Nat) (i : Nat) : ((nI l).any fun y => y == (i : Int)) = l.contains i := by
  rw [Bool.eq_iff_iff, List.any_eq_true, List.contains_iff_mem]
  constructor
  · rintro ⟨x, hx, e⟩
    obtain ⟨j, hj, rfl⟩ := List.mem_map.mp hx
    have e : (j : Int) = (i : Int) := by simpa using e
    have : j = i := by omega
    exact this ▸ hj
  · intro h
    exact ⟨(i : Int), List.mem_map.mpr ⟨i, h, rfl⟩, by simp⟩
theorem cal_rev (D : Df K mg "_law_reversed" sLRev ["_law_tournament"]) (B : Bn mg) : Cal P w K mg base 1 "_law_reversed" (spD K gRev) [] := by
  refine D.cal scRev (fun ds d h => by obtain ⟨t, _, rfl, _⟩ := h; rfl) fun f cdv A outer s H vs Q E ds d hr ha hg q => ?_
  obtain ⟨t, few, rfl, rfl⟩ := hg
  obtain ⟨v, rfl, p1⟩ := dps1 ha
  refine ⟨_, pss_cons (ps_set (i := 1) scRev.nd rfl (.inr rfl) (pe_callB call_ln (by rfl) B.len PySem.boot_len (pa_cons (pv 0) pa_nil)))
    (pss_one (ps_ret (pe_callTy call_tupOf (by rfl) B.tuple (by decide +kernel) (pa_cons (pe_lc (own := [("_law_one", 2)]) (g := gName 2) (tt := tYes) rfl scRev.nd (pi_range1 (by rfl) B.range (pa_cons (pv 1) pa_nil)) (blkOk_by (N := nRev) (sc := defScope sLRev) (by decide +kernel))
      (fun _ _ _ _ _ => pg_name (i := 2) scRev.nd rfl (.inr rfl)) (fun _ _ _ _ _ => pts_nil)
      (fun _ _ _ _ _ => pe_callTy (kTupOf K) (by rfl) B.tuple (by decide +kernel) (pa_cons (pe_lc (own := [("_law_other", 3)]) (g := gName 3) rfl scRev.nd (pi_range1 (by rfl) B.range (pa_cons (pv 1) pa_nil)) (blkOk_by (N := nRev) (sc := relS (lcSc (arg0 (asgE (nthS (defBody sLRev) 1)))) (defScope sLRev)) (by decide +kernel))
        (fun _ _ _ _ _ => pg_name (i := 3) scRev.nd rfl (.inl rfl)) (fun _ _ _ _ _ => pts_one (pt_cmpR (kIn K) (pv 2) (pe_ix (kIxT K) (pv 0) (pv 3) (fun _ _ => rfl)) (by rfl))) (fun _ _ _ _ _ => pv 3)) pa_nil))) pa_nil)))), ?_⟩
  refine w_asg (ed_int (K := K) (i := (t.length : Int)) (ev_is (ev_lnT (ed_var rfl p1)) (by rw [List.length_map]))) fun v1 H1 x1 pv1 => ?_
  obtain rfl := dp_int pv1
  refine w_ret (ed_is (ed_tupOf (ed_lcR (m := t.length) (ea_cons (ev_var rfl) ea_nil) (by omega) (fun _ => true) (fun i => tI (nI ((List.range t.length).filter fun j => (t.getD j []).contains i))) (fun _ _ => noL_tI _) (fun _ => rfl) (fun _ _ _ _ => et_yes) (fun i H2 x2 hi _ => ?_))) ?_) fun v2 H2 x2 p => q v2 H2 (x1.trans x2) p
  · refine ed_is (ed_tupOf (ed_lcR (m := t.length) (ea_cons (ev_var rfl) ea_nil) (by omega) (fun j => (t.getD j []).contains i) (fun j => .int (j : Int)) (fun _ _ => rfl) (fun _ => rfl) (fun j H3 x3 hj => ?_) (fun j H3 x3 hj _ => ed_int (ev_var rfl)))) ?_
    · refine et_is (et_test (ev_inT (neg := false) (ev_var rfl) (ed_ixT (ed_var rfl (dp_ex (x1.trans (x2.trans x3)) _ _ p1)) (ev_var rfl) (atI_n rfl ?_)))) (any_nI (t.getD j []) i)
      rw [List.getElem?_map, List.getElem?_eq_getElem hj, List.getD_eq_getElem?_getD, List.getElem?_eq_getElem hj]
      rfl
    · exact congrArg PyData.tuple (givenD_rows _ _)
  · rw [givenD_all]
    unfold tT Rb.revT
    rw [List.map_map]
    rfl
end
end Rbx
set_option Elab.async false
set_option linter.all false
set_option maxRecDepth 100000
set_option maxHeartbeats 4000000
/-! RbDefs8: the law's own _law_widened, _law_around. -/
namespace Rbx
open PySem PySem.Spec PyProof.Rows L2 Evl C8
open Rb (Ok)
/-- the row's cells as values -/
def oV : Option Int → V
  | none => .non
  | some x => .int x
abbrev vRow (c o : Int) (n : Nat) : List V := (Rb.wRow c o n).map oV
theorem oV_flat (l : List (Option Int)) : (l.map oV).all flatV = true := List.all_eq_true.mpr fun v hv => by
  obtain ⟨x, _, rfl⟩ := List.mem_map.mp hv
  cases x <;> rfl
theorem first_row {c o : Int} (ne : c ≠ o) (hc : 0 ≤ c) (ho : 0 ≤ o) {n p : Nat} (hp : p < n) : First (vRow c o n) (p : Int) (Rb.pos c o p) := by
  refine ⟨oV_flat _, ?_, fun m z hm hz => ?_⟩
  · rw [List.getElem?_map, Rb.wRow_at ne hc ho n p hp]
    rfl
  · rw [List.getElem?_map] at hz
    obtain ⟨x, hx, rfl⟩ := Option.map_eq_some_iff.mp hz
    cases x with
    | none => rfl
    | some x =>
      show (x == (p : Int)) = false
      have := Rb.wRow_first ne hc ho hp hm
      rw [hx] at this
      exact beq_eq_false_iff_ne.mpr fun e => this (by rw [e])
theorem first_idx {ps : List Int} {x : Int} (nd : ps.Nodup) (h : x ∈ ps) : First (ps.map V.int) x (ps.idxOf x) := by
  obtain ⟨h1, h2⟩ := Rb.idx_at h
  have h3 := Rb.at0_get h1
  rw [h2] at h3
  refine ⟨flat_ints ps, by rw [List.getElem?_map, h3]; rfl, fun m z hm hz => ?_⟩
  obtain ⟨p, hp, rfl⟩ := map_at hz
  show (p == x) = false
  refine beq_eq_false_iff_ne.mpr fun e => ?_
  subst e
  have := nd_ix nd hp h3
  omega
section
variable {P : Program} {w : World} {K : PySem.W.Frag} {mg : Str → Option Value} {base : Heap}
def gLWide (ds : List PyData) (d : PyData) : Prop := ∃ (R : Int) (ps : List Int) (m : Int), Ok R ps ∧ 0 ≤ m ∧ m < R ∧ ds = [.int R, tI ps, .int m] ∧ d = .tuple [.int (R + 2), tI (Rb.wideP R m ps)]
abbrev nLWide : List Str := ["_law_ring", "_law_places_here", "_law_at", "_law_row", "_law_place"]
theorem scLWide : FnScope nLWide ["_law_ring", "_law_places_here", "_law_at"] (defScope sLWide) := ⟨rfl, rfl, rfl, by decide +kernel, rfl, by decide +kernel, by decide +kernel⟩
theorem cal_lWide (D : Df K mg "_law_widened" sLWide ["_law_ring", "_law_places_here", "_law_at"]) (B : Bn mg) : Cal P w K mg base 1 "_law_widened" (spD K gLWide) [] := by
  refine D.cal scLWide (fun ds d h => by obtain ⟨R, ps, m, _, _, _, rfl, _⟩ := h; rfl) fun f cdv A outer s H vs Q E ds d hr ha hg q => ?_
  obtain ⟨R, ps, m, ok, h0, h1, rfl, rfl⟩ := hg
  obtain ⟨_, _, _, rfl, p1, p2, p3⟩ := dps3 ha
  obtain rfl := dp_int p1
  obtain rfl := dp_int p3
  obtain ⟨a, rfl, hs⟩ := dp_tI p2
  have few := ok.few
  have lo := ok.lo
  have hi := ok.hi
  refine ⟨_, pss_cons (ps_set (i := 3) scLWide.nd rfl (.inr rfl) (pe_lst pa_nil))
    (pss_cons (ps_for PassesOwn.never rfl (pi_range1 (by rfl) B.range (pa_cons (pv 0) pa_nil)) (pg_name (i := 4) scLWide.nd rfl (.inl rfl))
      (pss_cons (ps_expr (pe_bm PySem.F.plainAttrs_list PySem.F.slot_list_append PySem.F.type_list_append mt_append (pv 3) (pa_cons (pv 4) pa_nil)))
      (pss_one (ps_if (pt_cmpR op_in_seq (pv 4) (pe_lst (pa_cons (pv 2) (pa_cons (pe_op op_mod (pe_op op_add (pv 2) (pe_op op_fdiv (pv 0) pe_int)) (pv 0)) pa_nil))) (by rfl))
        (pss_one (ps_expr (pe_bm PySem.F.plainAttrs_list PySem.F.slot_list_append PySem.F.type_list_append mt_append (pv 3) (pa_cons pe_non pa_nil)))) pss_nil))))
    (pss_cons (ps_if (pt_cmpR op_eq (pv 0) pe_int (nomark _)) (pss_one (ps_set (i := 3) scLWide.nd rfl (.inr rfl) (pe_lst (pa_cons pe_int (pa_cons pe_non (pa_cons pe_non pa_nil)))))) pss_nil)
    (pss_one (ps_ret (pe_tup (pa_cons (pe_op op_add (pv 0) pe_int) (pa_cons (pe_callTy call_tupOf (by rfl) B.tuple (by decide +kernel) (pa_cons (pe_lc (own := [("_law_place", 4)]) (g := gName 4) (tt := tYes) rfl scLWide.nd (pi_tup (pv 1)) (blkOk_by (N := nLWide) (sc := defScope sLWide) (by decide +kernel))
      (fun _ _ _ _ _ => pg_name (i := 4) scLWide.nd rfl (.inl rfl)) (fun _ _ _ _ _ => pts_nil)
      (fun _ _ _ _ _ => kpe_bm K PySem.F.plainAttrs_list PySem.F.slot_list_index PySem.F.type_list_index (kIndex K) (pv 3) (pa_cons (pv 4) pa_nil))) pa_nil)) pa_nil))))))), ?_⟩
  -- row = []
  refine ⟨Nat.zero_le _, fun L hL => ?_⟩
  have oin := Rb.opp_in (R := R) (a := m) lo
  -- the return
  have fin : ∀ (L' : Addr) (ys : List V) (o4 : Option V) (H1 : Hp) (D : Ends), Ex H H1 → H1 L' = some (.lst ys) → (∀ p ∈ ps, First ys p (Rb.pos m (Rb.opp R m) p.toNat)) → D.rt = Q →
      tRet (tTup (tCons (tOp (rI0 fun i j => .int (i + j)) (tVar 0) (tC (.int 2))) (tCons (tCB (rTupOf K) (tCons (tLc (iTup K (tVar 1)) (gName 4) tYes (tBM K "list" (rIndex K) (tVar 3) (tCons (tVar 4) tNil)) [4]) tNil)) tNil))) D [some (.int R), some (.ref a), some (.int m), some (.ref L'), o4] H1 := by
    intro L' ys o4 H1 D x1 eL hf hD
    refine w_ret (P := fun v H2 => Dp K H2 v (.tuple [.int (R + 2), tI (Rb.wideP R m ps)])) (ed_tup (ead_cons (ed_int (ev_add (ev_var rfl) ev_c)) (ead_cons (ed_is (ed_tupOf (ed_lcT (a := a) (xs := ps.map V.int) (ev_var rfl) (ex_t x1 hs) (by rw [List.length_map]; omega) (fun _ => true)
      (fun i => .int (Rb.at0 ps i + Rb.b2i (decide (m < Rb.at0 ps i)) + Rb.b2i (decide (Rb.opp R m < Rb.at0 ps i)))) (fun _ _ => rfl) (fun _ => rfl) (fun _ _ _ _ _ => et_yes) (fun i x H5 x5 hi _ => ?_))) ?_) ead_nil)) (by show 2 ≤ 100000; decide)) fun v H2 x2 p => by
        rw [hD]
        exact q v H2 (x1.trans x2) p
    · obtain ⟨p, hp, rfl⟩ := map_at hi
      have hm := List.mem_of_getElem? hp
      rw [Rb.at0_of hp, ← Rb.pos_is m (Rb.opp R m) (ok.on p hm).1]
      exact ed_int (ev_lix (ev_var rfl) (ex_l x5 (sq_of eL)) (ev_var rfl) (hf p hm))
    · exact congrArg PyData.tuple (int_list ps fun p => p + Rb.b2i (decide (m < p)) + Rb.b2i (decide (Rb.opp R m < p)))
  -- the loop
  refine q_forR1 (n := R) (ea_cons (ev_var rfl) ea_nil) (by omega) (fun i σ' H' => ∃ o4, σ' = [some (.int R), some (.ref a), some (.int m), some (.ref L), o4] ∧ Ex H H' ∧ H' L = some (.lst (vRow m (Rb.opp R m) i))) (fun H1 x1 => ⟨none, rfl, (Ex.new hL).trans x1, x1 _ _ upd_same⟩) ?_ ?_
  · rintro i σ' H1 hi' ⟨o4, rfl, x1, e1⟩
    have wl : (vRow m (Rb.opp R m) i).length < 90000 := by
      rw [List.length_map]
      have : ∀ n : Nat, (Rb.wRow m (Rb.opp R m) n).length ≤ 2 * n := fun n => by
        induction n with
        | zero => exact Nat.le_refl _
        | succ n ih =>
          show (Rb.wRow m (Rb.opp R m) n ++ _).length ≤ _
          rw [List.length_append]
          split
          · show _ + 2 ≤ _
            omega
          · show _ + 1 ≤ _
            omega
      have := this i
      omega
    refine q_app e1 (ev_var rfl) (ev_var rfl) (by omega) fun H2 x2 => ?_
    have e2 : (upd H2 L (.lst (vRow m (Rb.opp R m) i ++ [.int (i : Int)]))) L = some (.lst (vRow m (Rb.opp R m) i ++ [.int (i : Int)])) := upd_same
    have x3 : Ex H (upd H2 L (.lst (vRow m (Rb.opp R m) i ++ [.int (i : Int)]))) := Ex.mut (x1.trans x2) hL
    generalize upd H2 L (.lst (vRow m (Rb.opp R m) i ++ [.int (i : Int)])) = H3 at e2 x3
    refine s_when (et_test (ev_inL (ns := [m, Rb.opp R m]) (neg := false) (ev_var rfl) (ed_lst (ead_cons (ed_int (ev_var rfl)) (ead_cons (ed_int (ev_mod (ev_add (ev_var rfl) (ev_div (ev_var rfl) ev_c (by decide))) (ev_var rfl) (by omega))) ead_nil)) (by show 2 ≤ 100000; decide)))) (fun hb H4 x4 => ?_) (fun hb H4 x4 => ?_)
    · refine s_app (x4 _ _ e2) (ev_var rfl) ev_c (by rw [List.length_append]; show _ + 1 < _; omega) fun H5 x5 => ⟨_, rfl, Ex.mut ((x3.trans x4).trans x5) hL, ?_⟩
      have hb : ((i : Int) = m ∨ (i : Int) = Rb.opp R m) := by
        have hb : ([m, Rb.opp R m].any fun y => y == (i : Int)) = true := hb
        simp only [List.any_cons, List.any_nil, Bool.or_false, Bool.or_eq_true, beq_iff_eq] at hb
        omega
      have : vRow m (Rb.opp R m) (i + 1) = vRow m (Rb.opp R m) i ++ [.int (i : Int)] ++ [.non] := by
        show (Rb.wRow m (Rb.opp R m) i ++ _).map oV = _
        rw [if_pos hb, List.map_append, List.append_assoc]
        rfl
      rw [this]
      exact upd_same
    · refine ⟨_, rfl, x3.trans x4, ?_⟩
      have hb : ¬ ((i : Int) = m ∨ (i : Int) = Rb.opp R m) := by
        have hb : ([m, Rb.opp R m].any fun y => y == (i : Int)) = false := hb
        simp only [List.any_cons, List.any_nil, Bool.or_false, Bool.or_eq_false_iff, beq_eq_false_iff_ne] at hb
        omega
      have : vRow m (Rb.opp R m) (i + 1) = vRow m (Rb.opp R m) i ++ [.int (i : Int)] := by
        show (Rb.wRow m (Rb.opp R m) i ++ _).map oV = _
        rw [if_neg hb, List.map_append]
        rfl
      rw [this]
      exact x4 _ _ e2
  · rintro σ' H1 ⟨o4, rfl, x1, e1⟩
    -- if ring == 1
    refine q_when (et_test (ev_eqS (ev_var rfl) ev_c rfl)) (fun hb H2 x2 => ?_) (fun hb H2 x2 => ?_)
    · have hb : R = 1 := V.int.inj (of_decide_eq_true hb)
      refine s_asgL (el_lst (ea_cons ev_c (ea_cons ev_c (ea_cons ev_c ea_nil))) (by decide)) fun L' H3 _ x3 e3 => ?_
      refine fin L' [.int 0, .non, .non] _ H3 _ ((x1.trans x2).trans x3) e3 (fun p hp => ?_) rfl
      have hp' := ok.on p hp
      obtain rfl : p = 0 := by omega
      have : Rb.pos m (Rb.opp R m) (0 : Int).toNat = 0 := by
        unfold Rb.pos
        show 0 + (if m < ((0 : Nat) : Int) then 1 else 0) + (if Rb.opp R m < ((0 : Nat) : Int) then 1 else 0) = 0
        rw [if_neg (by omega), if_neg (by omega)]
      rw [this]
      exact ⟨rfl, rfl, fun m z hm _ => absurd hm (Nat.not_lt_zero m)⟩
    · have hb : R ≠ 1 := fun z => by
        have hb := of_decide_eq_false hb
        exact hb (by rw [z])
      have odd := ok.odd
      refine fin L _ _ H2 _ (x1.trans x2) (x2 _ _ e1) (fun p hp => ?_) rfl
      have hp' := ok.on p hp
      have := first_row (Rb.opp_ne (R := R) (by omega) h0 h1) h0 oin.1 (n := R.toNat) (p := p.toNat) (by omega)
      rwa [Int.toNat_of_nonneg hp'.1] at this
/-! ### _law_around -/
def spLAr (K : PySem.W.Frag) : Sp := fun vs H Q _ => ∃ (R : Int) (ps : List Int) (a : Addr), vs = [.int R, .ref a] ∧ Ok R ps ∧ FzT H a (ps.map V.int) ∧ ∀ v H2, Ex H H2 → Dp K H2 v (tI (nI (Rb.aroundL R ps))) → Q v H2
abbrev nLAr : List Str := ["_law_ring", "_law_places_here", "_law_k"]
theorem scLAr : FnScope nLAr ["_law_ring", "_law_places_here"] (defScope sLAround) := ⟨rfl, rfl, rfl, by decide +kernel, rfl, by decide +kernel, by decide +kernel⟩
theorem cal_lAr (D : Df K mg "_law_around" sLAround ["_law_ring", "_law_places_here"]) (B : Bn mg) : Cal P w K mg base 1 "_law_around" (spLAr K) [] := by
  obtain ⟨f, fd, F, hm, hb⟩ := D.ex
  refine ⟨f, fd, _, [], F.ok scLAr (fun vs H Q E h => ?_) (fun cdv A outer s H vs Q E hr h => ?_), hm, F.kp, hb, .nil⟩
  · obtain ⟨R, ps, a, rfl, _⟩ := h
    rfl
  obtain ⟨R, ps, a, rfl, ok, hF, q⟩ := h
  have few := ok.few
  have lo := ok.lo
  have hi := ok.hi
  refine ⟨_, pss_one (ps_ret (pe_callTy call_tupOf (by rfl) B.tuple (by decide +kernel) (pa_cons (pe_lc (own := [("_law_k", 2)]) (g := gName 2) rfl scLAr.nd (pi_range1 (by rfl) B.range (pa_cons (pv 0) pa_nil)) (blkOk_by (N := nLAr) (sc := defScope sLAround) (by decide +kernel))
      (fun _ _ _ _ _ => pg_name (i := 2) scLAr.nd rfl (.inl rfl)) (fun _ _ _ _ _ => pts_one (pt_cmpR (kIn K) (pe_op op_mod (pe_op op_add (pe_ix (kIxT K) (pv 1) pe_int (fun _ _ => rfl)) (pv 2)) (pv 0)) (pv 1) (by rfl)))
      (fun _ _ _ _ _ => pe_bmF PySem.F.plainAttrs_tuple PySem.F.slot_tuple_index PySem.F.type_tuple_index (kTix K) (pv 1) (pa_cons (pe_op op_mod (pe_op op_add (pe_ix (kIxT K) (pv 1) pe_int (fun _ _ => rfl)) (pv 2)) (pv 0)) pa_nil))) pa_nil))), ?_⟩
  have p2 : Dp K H (.ref a) (tI ps) := .tup hF.sq (dps_of_ints ps)
  have e : ∀ (k : Nat) (H1 : Hp), Ex H H1 → Ev (tOp (rI (fun _ j => 0 < j) fun i j => .int (i % j)) (tOp (rI0 fun i j => .int (i + j)) (tOp (rIxT K) (tVar 1) (tC (.int 0))) (tVar 2)) (tVar 0)) [some (.int R), some (.ref a), some (.int (k : Int))] H1 (.int ((Rb.at0 ps 0 + (k : Int)) % R)) := fun k H1 x1 =>
    ev_mod (ev_add (ev_int (ed_ixT (ed_var rfl (dp_ex x1 (tI ps) _ p2)) ev_c (at0_atI ok.some))) (ev_var rfl)) (ev_var rfl) (by omega)
  refine w_ret (ed_is (ed_tupOf (ed_lcR (m := R.toNat) (ea_cons (ev_is (ev_var rfl) (by rw [Int.toNat_of_nonneg (by omega)])) ea_nil) (by omega) (fun k => ps.any fun y => y == (Rb.at0 ps 0 + (k : Int)) % R) (fun k => .int ((ps.idxOf ((Rb.at0 ps 0 + (k : Int)) % R) : Nat) : Int)) (fun _ _ => rfl) (fun _ => rfl)
    (fun k H1 x1 hk => et_test (ev_inT (neg := false) (e k H1 x1) (ed_var rfl (dp_ex x1 (tI ps) _ p2)))) (fun k H1 x1 hk hf => ed_int (ev_tixF (ev_var rfl) (hF.tex (TEx.of x1)) (e k H1 x1) (first_idx ok.nd ?_))))) ?_) q
  · obtain ⟨y, hy, e⟩ := List.any_eq_true.mp hf
    have e : y = (Rb.at0 ps 0 + (k : Int)) % R := by simpa using e
    exact e ▸ hy
  · unfold givenD Rb.aroundL
    show PyData.tuple _ = PyData.tuple (((((List.range R.toNat).filter fun (k : Nat) => ps.any fun y => y == (Rb.at0 ps 0 + (k : Int)) % R).map fun (k : Nat) => ps.idxOf ((Rb.at0 ps 0 + (k : Int)) % R)).map fun (j : Nat) => (j : Int)).map PyData.int)
    rw [List.map_map, List.map_map]
    rfl
end
end Rbx
set_option Elab.async false
set_option linter.all false
set_option maxRecDepth 100000
set_option maxHeartbeats 4000000
/-! RbDefs9: the law's own stream: _law_stream, _law_next, _law_places. -/
namespace Rbx
open PySem PySem.Spec PyProof.Rows L2 Evl C8
open Rb (Ok)
/-- the stream at S over the script's copy at L -/
def Sm (H : Hp) (S L : Addr) (ns : List Int) : Prop := ∃ c k : Int, 0 ≤ k ∧ H S = some (.lst [.ref L, .int c, .int k]) ∧ H L = some (.lst (ns.map V.int))
/-- all but S is kept -/
def But (S : Addr) (H H' : Hp) : Prop := ∀ b o, b ≠ S → H b = some o → H' b = some o
theorem But.of {S : Addr} {H H' : Hp} (e : Ex H H') : But S H H' := fun b o _ h => e b o h
theorem But.trans {S : Addr} {H H1 H2 : Hp} (a : But S H H1) (b : But S H1 H2) : But S H H2 := fun x o n h => b x o n (a x o n h)
theorem But.put {S : Addr} {H : Hp} {o : HO} : But S H (upd H S o) := fun b u n e => by
  rw [upd_ne n]
  exact e
theorem Sm.ne {H : Hp} {S L : Addr} {ns : List Int} (h : Sm H S L ns) : L ≠ S := fun z => by
  obtain ⟨c, k, _, e1, e2⟩ := h
  rw [z, e1] at e2
  injection e2 with e2
  injection e2 with e2
  cases ns with
  | nil => cases e2
  | cons n r => cases e2
theorem Sm.ex {H H' : Hp} {S L : Addr} {ns : List Int} (h : Sm H S L ns) (e : Ex H H') : Sm H' S L ns := let ⟨c, k, k0, e1, e2⟩ := h; ⟨c, k, k0, e _ _ e1, e _ _ e2⟩
theorem Sm.put {H : Hp} {S L : Addr} {ns : List Int} (h : Sm H S L ns) {c k : Int} (k0 : 0 ≤ k) : Sm (upd H S (.lst [.ref L, .int c, .int k])) S L ns := by
  have n := h.ne
  obtain ⟨_, _, _, e1, e2⟩ := h
  exact ⟨c, k, k0, upd_same, by rw [upd_ne n]; exact e2⟩
theorem But.tex {S : Addr} {H H' : Hp} {xs : List V} (h : But S H H') (e : H S = some (.lst xs)) : TEx H H' := fun b u hb n => by
  by_cases q : b = S
  · subst q
    rw [e] at hb
    exact absurd (Option.some.inj hb).symm (n xs)
  · exact h b u q hb
section
variable {K : PySem.W.Frag} {σ : L2.St} {H : Hp} {ta tb te : TE}
theorem ev_lnS {p : Addr} {xs : List V} (h : Ev te σ H (.ref p)) (hs : SqL K H p xs) : Ev (tCB (rLn K) (tCons te tNil)) σ H (.int (xs.length : Int)) := fun H1 x _ q => h H1 x _ fun H2 x2 => ⟨p, xs, rfl, .inl (ex_l (x.trans x2) hs), q H2 x2⟩
def rAbs : List V → Hp → VK → Prop := fun xs H Q => ∃ i, xs = [.int i] ∧ Q (.int (if i < 0 then -i else i)) H
theorem call_abs_ {X : Cx} : CallR X (.builtin "abs") rAbs := call_abs
theorem ev_abs {i : Int} (h : Ev te σ H (.int i)) : Ev (tCB rAbs (tCons te tNil)) σ H (.int (if i < 0 then -i else i)) := fun H1 x _ q => h H1 x _ fun H2 x2 => ⟨i, rfl, q H2 x2⟩
def rMin2 : List V → Hp → VK → Prop := fun xs H Q => ∃ i j, xs = [.int i, .int j] ∧ Q (.int (if j < i then j else i)) H
theorem call_min_ {X : Cx} (hc : X.calm = true) : CallR X (.builtin "min") rMin2 := call_min2 hc
theorem ev_pow {i j : Int} (ha : Ev ta σ H (.int i)) (hb : Ev tb σ H (.int j)) (h : CPow i j) : Ev (tOp (rI CPow fun i j => .int (i ^ j.toNat)) ta tb) σ H (.int (i ^ j.toNat)) := ev_op ha hb (rv_I h)
theorem ev_ixL {p : Addr} {xs : List V} {i : Int} {v : V} (ha : Ev ta σ H (.ref p)) (hb : Ev tb σ H (.int i)) (hs : SqL K H p xs) (h : atI xs i = some v) : Ev (tOp (rIxL K) ta tb) σ H v := ev_op ha hb (rv_ixL hs h)
end
section
variable {P : Program} {w : World} {K : PySem.W.Frag} {mg : Str → Option Value} {base : Heap}
/-! ### _law_stream -/
def spStream (K : PySem.W.Frag) : Sp := fun vs H Q _ => ∃ (a : Addr) (ns : List Int), vs = [.ref a] ∧ SqL K H a (ns.map V.int) ∧ ∀ (S L : Addr) (H2 : Hp), Ex H H2 → Sm H2 S L ns → Q (.ref S) H2
theorem scStream : FnScope ["_law_script"] ["_law_script"] (defScope sLStream) := ⟨rfl, rfl, rfl, by decide +kernel, rfl, by decide +kernel, by decide +kernel⟩
theorem cal_stream (D : Df K mg "_law_stream" sLStream ["_law_script"]) (B : Bn mg) : Cal P w K mg base 1 "_law_stream" (spStream K) [] := by
  obtain ⟨f, fd, F, hm, hb⟩ := D.ex
  refine ⟨f, fd, _, [], F.ok scStream (fun vs H Q E h => ?_) (fun cdv A outer s H vs Q E hr h => ?_), hm, F.kp, hb, .nil⟩
  · obtain ⟨a, ns, rfl, _⟩ := h
    rfl
  obtain ⟨a, ns, rfl, hS, q⟩ := h
  refine ⟨_, pss_one (ps_ret (pe_lst (pa_cons (pe_callTy call_lstOf (by rfl) B.list (by decide +kernel) (pa_cons (pv 0) pa_nil)) (pa_cons pe_int (pa_cons pe_int pa_nil))))), ?_⟩
  refine ⟨.ref a, rfl, a, ns.map V.int, rfl, .inl hS, fun L nL => ⟨by show 3 ≤ sizeLine; decide, fun S nS => ?_⟩⟩
  exact q S L _ ((Ex.new nL).trans (Ex.new nS)) ⟨0, 0, Int.le_refl 0, upd_same, Ex.new nS _ _ upd_same⟩
/-! ### _law_next -/
def spNext (K : PySem.W.Frag) : Sp := fun vs H Q _ => ∃ (S L : Addr) (ns : List Int) (m : Int), vs = [.ref S, .int m] ∧ Sm H S L ns ∧ 1 ≤ m ∧ m < 1073741824 ∧ ∀ (d : Int) (H2 : Hp), 0 ≤ d → d < m → But S H H2 → Sm H2 S L ns → Q (.int d) H2
abbrev nNext : List Str := ["_law_stream_here", "_law_many", "_law_k", "_law_cell", "_law_digit"]
theorem scNext : FnScope nNext ["_law_stream_here", "_law_many"] (defScope sLNext) := ⟨rfl, rfl, rfl, by decide +kernel, rfl, by decide +kernel, by decide +kernel⟩
theorem cal_next (D : Df K mg "_law_next" sLNext ["_law_stream_here", "_law_many"]) (B : Bn mg) : Cal P w K mg base 1 "_law_next" (spNext K) [] := by
  obtain ⟨f, fd, F, hm, hb⟩ := D.ex
  refine ⟨f, fd, _, [], F.ok scNext (fun vs H Q E h => ?_) (fun cdv A outer s H vs Q E hr h => ?_), hm, F.kp, hb, .nil⟩
  · obtain ⟨S, L, ns, m, rfl, _⟩ := h
    rfl
  obtain ⟨S, L, ns, m, rfl, hS, m1, m2, q⟩ := h
  refine ⟨_, Evl.pss_cut (ps_if (pt_cmpR op_eq (pe_ix ix_list (pv 0) pe_int (fun _ _ => rfl)) pe_int (nomark _))
      (pss_cons (ps_set (i := 2) scNext.nd rfl (.inl rfl) (pe_ix ix_list (pv 0) pe_int (fun _ _ => rfl)))
      (pss_cons (ps_set (i := 3) scNext.nd rfl (.inl rfl) (pe_op op_add pe_int (pv 2)))
      (Evl.pss_cut (ps_if (pt_cmpR op_lt (pv 2) (pe_callB call_ln (by rfl) B.len PySem.boot_len (pa_cons (pe_ix ix_list (pv 0) pe_int (fun _ _ => rfl)) pa_nil)) (nomark _))
        (pss_one (ps_set (i := 3) scNext.nd rfl (.inl rfl) (pe_callB call_abs_ (by rfl) B.abs (by decide +kernel) (pa_cons (pe_ix ix_list (pe_ix ix_list (pv 0) pe_int (fun _ _ => rfl)) (pv 2) (fun _ _ => rfl)) pa_nil)))) pss_nil)
      (Evl.pss_cut (ps_if (pt_cmpR op_lt (pv 3) (pe_op op_pow pe_int pe_int) (nomark _))
        (pss_cons (ps_set (i := 3) scNext.nd rfl (.inl rfl) (pe_op op_mod (pe_callTy call_int_ (by rfl) B.int (by decide +kernel) (pa_cons (pe_op op_add (pe_op op_add (pe_op op_mul (pv 3) pe_int) (pe_op op_mul (pv 2) pe_int)) pe_int) pa_nil)) pe_int))
        (pss_one (ps_set (i := 3) scNext.nd rfl (.inl rfl) (pe_op op_add (pe_op op_mul (pe_op op_mod (pe_callTy call_int_ (by rfl) B.int (by decide +kernel) (pa_cons (pe_op op_add (pe_op op_mul (pv 3) pe_int) pe_int) pa_nil)) pe_int) pe_int) (pv 3))))) pss_nil)
      (pss_cons (ps_asg (pv 3) (pg_sub (pv 0) pe_int set_list))
      (pss_one (ps_asg (pe_op op_add (pv 2) pe_int) (pg_sub (pv 0) pe_int set_list)))))))) pss_nil)
    (pss_cons (ps_set (i := 4) scNext.nd rfl (.inl rfl) (pe_op op_mod (pe_callTy call_int_ (by rfl) B.int (by decide +kernel) (pa_cons (pe_ix ix_list (pv 0) pe_int (fun _ _ => rfl)) pa_nil)) (pv 1)))
    (pss_cons (ps_asg (pe_op op_fdiv (pe_ix ix_list (pv 0) pe_int (fun _ _ => rfl)) (pv 1)) (pg_sub (pv 0) pe_int set_list))
    (pss_one (ps_ret (pv 4))))), ?_⟩
  obtain ⟨c, k, k0, e1, e2⟩ := id hS
  have cm : ∀ (x y : Int), -(2 ^ 64) < y → y < 2 ^ 64 → CMul x y := fun x y a b => .inr ⟨a, b⟩
  refine q_cut (M := fun σ' H' => ∃ o2 o3, σ' = [some (.ref S), some (.int m), o2, o3, none] ∧ But S H H' ∧ Sm H' S L ns) ?_ ?_
  · refine s_when (et_test (ev_eqS (ev_ixL (v := .int c) (ev_var rfl) ev_c (sq_of e1) rfl) ev_c rfl)) (fun _ H1 x1 => ?_) (fun _ H1 x1 => ⟨_, _, rfl, But.of x1, hS.ex x1⟩)
    have s1 : SqL K H1 S [.ref L, .int c, .int k] := sq_of (x1 _ _ e1)
    have l1 : SqL K H1 L (ns.map V.int) := sq_of (x1 _ _ e2)
    refine q_asg (ev_ixL (v := .int k) (ev_var rfl) ev_c s1 rfl) fun H2 x2 => ?_
    refine q_asg (ev_add ev_c (ev_var rfl)) fun H3 x3 => ?_
    have x13 := x2.trans x3
    refine q_cut (M := fun σ' H' => ∃ c', σ' = [some (.ref S), some (.int m), some (.int k), some (.int c'), none] ∧ Ex H1 H') ?_ ?_
    · refine s_when (et_test (ev_lt (ev_var rfl) (ev_lnS (ev_ixL (v := .ref L) (ev_var rfl) ev_c (ex_l x13 s1) rfl) (ex_l x13 l1)))) (fun hb H4 x4 => ?_) (fun _ H4 x4 => ⟨_, rfl, x13.trans x4⟩)
      have hb := of_decide_eq_true hb
      rw [List.length_map] at hb
      obtain ⟨j, hj⟩ : ∃ j : Nat, k = (j : Int) := ⟨k.toNat, by omega⟩
      have hjl : j < ns.length := by omega
      refine s_asg (ev_abs (ev_ixL (v := .int ns[j]) (ev_ixL (v := .ref L) (ev_var rfl) ev_c (ex_l (x13.trans x4) s1) rfl) (ev_var rfl) (ex_l (x13.trans x4) l1) (atI_n hj (by rw [List.getElem?_map, List.getElem?_eq_getElem hjl]; rfl)))) fun H5 x5 => ⟨_, rfl, (x13.trans x4).trans x5⟩
    · rintro σ' H4 ⟨c1, rfl, x4⟩
      refine q_cut (M := fun σ' H' => ∃ c', σ' = [some (.ref S), some (.int m), some (.int k), some (.int c'), none] ∧ Ex H1 H') ?_ ?_
      · refine s_when (et_test (ev_lt (ev_var rfl) (ev_pow ev_c ev_c ⟨by decide, by decide, by decide⟩))) (fun _ H5 x5 => ?_) (fun _ H5 x5 => ⟨_, rfl, x4.trans x5⟩)
        refine q_asg (ev_mod (ev_intI (ev_add (ev_add (ev_mul (ev_var rfl) ev_c (cm _ _ (by decide) (by decide))) (ev_mul (ev_var rfl) ev_c (cm _ _ (by decide) (by decide)))) ev_c)) ev_c (by decide)) fun H6 x6 => ?_
        refine s_asg (ev_add (ev_mul (ev_mod (ev_intI (ev_add (ev_mul (ev_var rfl) ev_c (cm _ _ (by decide) (by decide))) ev_c)) ev_c (by decide)) ev_c (cm _ _ (by decide) (by decide))) (ev_var rfl)) fun H7 x7 => ⟨_, rfl, (x4.trans x5).trans (x6.trans x7)⟩
      · rintro σ' H5 ⟨c2, rfl, x5⟩
        have e5 : H5 S = some (.lst [.ref L, .int c, .int k]) := x5 _ _ (x1 _ _ e1)
        refine q_setL (j := 1) e5 (ev_var rfl) (ev_var rfl) ev_c (by show 1 < 3; decide) fun H6 x6 => ?_
        have m6 : Sm H6 S L ns := (hS.ex (x1.trans x5)).ex x6
        have m7 : Sm (upd H6 S (.lst [.ref L, .int c2, .int k])) S L ns := m6.put k0
        have b7 : But S H (upd H6 S (.lst [.ref L, .int c2, .int k])) := (But.of ((x1.trans x5).trans x6)).trans But.put
        refine s_setL (j := 2) (xs := [.ref L, .int c2, .int k]) upd_same (ev_add (ev_var rfl) ev_c) (ev_var rfl) ev_c (by show 2 < 3; decide) fun H8 x8 => ⟨_, _, rfl, (b7.trans (But.of x8)).trans But.put, ?_⟩
        exact (m7.ex x8).put (by omega)
  · rintro σ' H1 ⟨o2, o3, rfl, b1, hm1⟩
    obtain ⟨c1, k1, k10, e3, e4⟩ := id hm1
    refine q_asg (ev_mod (ev_intI (ev_ixL (v := .int c1) (ev_var rfl) ev_c (sq_of e3) rfl)) (ev_var rfl) (by omega)) fun H2 x2 => ?_
    refine q_setL (j := 1) (x2 _ _ e3) (ev_div (ev_ixL (v := .int c1) (ev_var rfl) ev_c (sq_of (x2 _ _ e3)) rfl) (ev_var rfl) ⟨by omega, m2⟩) (ev_var rfl) ev_c (by show 1 < 3; decide) fun H3 x3 => ?_
    refine s_ret (ev_var rfl) fun H4 x4 => q _ H4 (Int.emod_nonneg _ (by omega)) (Int.emod_lt_of_pos _ (by omega)) (((b1.trans (But.of (x2.trans x3))).trans But.put).trans (But.of x4)) ?_
    exact (((hm1.ex (x2.trans x3)).put k10)).ex x4
end
end Rbx
set_option Elab.async false
set_option linter.all false
set_option maxRecDepth 100000
set_option maxHeartbeats 4000000
/-! RbDefs10: the law's own _law_places. -/
namespace Rbx
open PySem PySem.Spec PyProof.Rows L2 Evl C8
open Rb (Ok)
/-- the numbers below n -/
def nums (n : Nat) : List Int := (List.range n).map fun (i : Nat) => (i : Int)
theorem nums_in {n : Nat} {x : Int} (h : x ∈ nums n) : 0 ≤ x ∧ x < n := by
  obtain ⟨i, hi, rfl⟩ := List.mem_map.mp h
  have := List.mem_range.mp hi
  omega
theorem nums_nd (n : Nat) : (nums n).Nodup := by
  unfold nums
  refine List.Pairwise.map _ (fun a b h => ?_) List.nodup_range
  intro e
  exact h (by omega)
theorem nums_len (n : Nat) : (nums n).length = n := by
  unfold nums
  rw [List.length_map, List.length_range]
theorem rgV_nums (n : Nat) : rgV 0 (n : Int) = (nums n).map V.int := by
  unfold rgV nums
  rw [List.map_map, show ((n : Int) - 0).toNat = n by omega]
  refine List.map_congr_left fun i _ => ?_
  show V.int (0 + (i : Int)) = V.int (i : Int)
  rw [Int.zero_add]
theorem out_perm : ∀ (l : List Int) (k : Nat) (hk : k < l.length), (l[k] :: l.eraseIdx k).Perm l
  | [], k, hk => absurd hk (Nat.not_lt_zero k)
  | x :: r, 0, _ => List.Perm.refl _
  | x :: r, k + 1, hk => (List.Perm.swap x _ _).trans ((out_perm r k (Nat.lt_of_succ_lt_succ hk)).cons x)
theorem map_out (g : Int → V) : ∀ (l : List Int) (k : Nat), (l.map g).eraseIdx k = (l.eraseIdx k).map g
  | [], k => by cases k <;> rfl
  | x :: r, 0 => rfl
  | x :: r, k + 1 => congrArg (g x :: ·) (map_out g r k)
theorem erase_perm {l : List Int} {k : Nat} (hk : k < l.length) (got : List Int) : (l.eraseIdx k ++ (got ++ [l[k]])).Perm (l ++ got) := by
  have h1 : (l[k] :: l.eraseIdx k).Perm l := out_perm l k hk
  have h2 : (l.eraseIdx k ++ (got ++ [l[k]])).Perm (l[k] :: (l.eraseIdx k ++ got)) := by
    rw [← List.append_assoc]
    exact List.perm_append_singleton _ _
  exact h2.trans ((h1.append_right got))
section
variable {P : Program} {w : World} {K : PySem.W.Frag} {mg : Str → Option Value} {base : Heap}
def spPlaces (K : PySem.W.Frag) : Sp := fun vs H Q _ => ∃ (S L : Addr) (ns : List Int) (R : Int), vs = [.ref S, .int R, .int 8] ∧ Sm H S L ns ∧ 1 ≤ R ∧ R ≤ 31 ∧ R % 2 = 1 ∧
  ∀ (ps : List Int) (a : Addr) (H2 : Hp), Ok R ps → FzT H2 a (ps.map V.int) → But S H H2 → Sm H2 S L ns → Q (.ref a) H2
abbrev nPlaces : List Str := ["_law_stream_here", "_law_ring", "_law_most", "_law_left", "_law_turn"]
theorem scPlaces : FnScope nPlaces ["_law_stream_here", "_law_ring", "_law_most"] (defScope sLPlaces) := ⟨rfl, rfl, rfl, by decide +kernel, rfl, by decide +kernel, by decide +kernel⟩
set_option maxHeartbeats 8000000 in
theorem cal_places (D : Df K mg "_law_places" sLPlaces ["_law_stream_here", "_law_ring", "_law_most"]) (B : Bn mg) (cN : Cal P w K mg base 1 "_law_next" (spNext K) []) : Cal P w K mg base 2 "_law_places" (spPlaces K) [] := by
  obtain ⟨f, fd, F, hm, hb⟩ := D.ex
  refine ⟨f, fd, _, [], F.ok scPlaces (fun vs H Q E h => ?_) (fun cdv A outer s H vs Q E hr h => ?_), hm, F.kp, hb, .nil⟩
  · obtain ⟨S, L, ns, R, rfl, _⟩ := h
    rfl
  obtain ⟨S, L, ns, R, rfl, hS, lo, hi, odd, q⟩ := h
  refine ⟨_, pss_cons (ps_set (i := 3) scPlaces.nd rfl (.inr rfl) (pe_listRg rfl (by rfl) B.list (prg_1 (by rfl) B.range (pv 1))))
    (pss_one (ps_ret (pe_callTy call_tupFz (by rfl) B.tuple (by decide +kernel) (pa_cons (pe_lc (own := [("_law_turn", 4)]) (g := gName 4) (tt := tYes) rfl scPlaces.nd
      (pi_range1 (by rfl) B.range (pa_cons (pe_op op_add pe_int (pe_c cN hr (by decide) (by rfl) (pa_cons (pv 0) (pa_cons (pe_callB (call_min_ rfl) (by rfl) B.min (by decide +kernel) (pa_cons (pv 2) (pa_cons (pv 1) pa_nil))) pa_nil)))) pa_nil))
      (blkOk_by (N := nPlaces) (sc := defScope sLPlaces) (by decide +kernel))
      (fun _ _ _ _ _ => pg_name (i := 4) scPlaces.nd rfl (.inl rfl)) (fun _ _ _ _ _ => pts_nil)
      (fun _ _ _ _ _ => kpe_bm K PySem.F.plainAttrs_list PySem.F.slot_list_pop PySem.F.type_list_pop mt_popAt (pv 3) (pa_cons (pe_c cN hr (by decide) (by rfl) (pa_cons (pv 0) (pa_cons (pe_callB (kLn K) (by rfl) B.len PySem.boot_len (pa_cons (pv 3) pa_nil)) pa_nil))) pa_nil))) pa_nil)))), ?_⟩
  obtain ⟨r, hrn⟩ : ∃ r : Nat, R = (r : Int) := ⟨R.toNat, by omega⟩
  -- left = list(range(ring))
  refine ⟨.int R, rfl, R, rfl, RgOk.of_le (by decide) (by omega) (by decide) (by omega), fun Lf nLf => ?_⟩
  have eLf : (upd H Lf (.lst (rgV 0 R))) Lf = some (.lst ((nums r).map V.int)) := by rw [hrn, rgV_nums]; exact upd_same
  have x1 : Ex H (upd H Lf (.lst (rgV 0 R))) := Ex.new nLf
  generalize upd H Lf (.lst (rgV 0 R)) = H1 at eLf x1
  have m1 := hS.ex x1
  have nSf : Lf ≠ S := fun z => by
    obtain ⟨c, k, _, e1, _⟩ := hS
    rw [z, e1] at nLf
    cases nLf
  -- range(1 + _law_next(stream, min(most, ring)))
  refine ⟨.ref S, rfl, .int 8, rfl, .int R, rfl, 8, R, rfl, S, L, ns, (if R < 8 then R else 8), rfl, m1, by split <;> omega, by split <;> omega, fun d H2 d0 d1 b2 m2 => ?_⟩
  refine ⟨1, d, rfl, rfl, 1 + d, rfl, by omega, by split at d1 <;> omega, fun Dl nD => ?_⟩
  have eLf2 : H2 Lf = some (.lst ((nums r).map V.int)) := b2 _ _ nSf eLf
  have nDf : Lf ≠ Dl := fun z => by
    rw [← z, eLf2] at nD
    cases nD
  have nDS : S ≠ Dl := fun z => by
    obtain ⟨c, k, _, e1, _⟩ := m2
    rw [← z, e1] at nD
    cases nD
  have nDL : L ≠ Dl := fun z => by
    obtain ⟨c, k, _, _, e2⟩ := m2
    rw [← z, e2] at nD
    cases nD
  have nfL : L ≠ Lf := fun z => by
    obtain ⟨c, k, _, _, e2⟩ := hS
    rw [← z, e2] at nLf
    cases nLf
  have putSm : ∀ {H3 : Hp} {b : Addr} {o : HO}, b ≠ S → b ≠ L → Sm H3 S L ns → Sm (upd H3 b o) S L ns := fun {H3 b o} h1 h2 h => by
    obtain ⟨c, k, k0, e1, e2⟩ := h
    exact ⟨c, k, k0, by rw [upd_ne (Ne.symm h1)]; exact e1, by rw [upd_ne (Ne.symm h2)]; exact e2⟩
  -- what stood before
  have old : ∀ b o, b ≠ S → H b = some o → b ≠ Lf ∧ b ≠ Dl ∧ H2 b = some o := fun b o n h => by
    have h2 := b2 _ _ n (x1 _ _ h)
    exact ⟨ne_of_none h nLf, ne_of_none h2 nD, h2⟩
  refine lc_it (walk_range (lo := 0) (n := (1 + d).toNat)) (fun i H' => (∀ b o, b ≠ S → H b = some o → H' b = some o) ∧ Sm H' S L ns ∧ ∃ left got : List Int, H' Lf = some (.lst (left.map V.int)) ∧ H' Dl = some (.lst (got.map V.int)) ∧ got.length = i ∧ (left ++ got).Perm (nums r))
    ⟨fun b o n h => ?_, putSm (Ne.symm nDS) (Ne.symm nDL) m2, nums r, [], by rw [upd_ne nDf]; exact eLf2, upd_same, rfl, by rw [List.append_nil]⟩ (fun i H' _ _ => trivial) ?_ ?_
  · obtain ⟨_, n2, h2⟩ := old b o n h
    rw [upd_ne n2]
    exact h2
  · rintro i x H3 H4 hi' ⟨kp, m3, left, got, e1, e2, e3, e4⟩ ⟨eH, ex⟩
    rw [eH]
    clear eH H4
    have hlen := e4.length_eq
    rw [List.length_append, nums_len, e3] at hlen
    have hleft : 1 ≤ left.length := by split at d1 <;> omega
    refine ⟨rfl, yes_lc ?_⟩
    -- left.pop(next(stream, len(left)))
    refine ⟨.ref Lf, rfl, .inl ⟨rfl, _, sq_of e1⟩, .ref S, rfl, .ref Lf, rfl, Lf, _, rfl, .inl (sq_of e1), S, L, ns, (left.length : Int), by rw [List.length_map] <;> rfl, m3, by omega, by omega, fun dd H4 dd0 dd1 b4 m4 => ?_⟩
    have hk : dd.toNat < left.length := by omega
    have e14 : H4 Lf = some (.lst (left.map V.int)) := b4 _ _ nSf e1
    have e24 : H4 Dl = some (.lst (got.map V.int)) := b4 _ _ (Ne.symm nDS) e2
    refine ⟨Lf, left.map V.int, dd, dd.toNat, .int left[dd.toNat], rfl, rfl, e14, by omega, by omega, seqIndex_of dd0 (by rw [List.length_map]; exact dd1), by rw [List.getElem?_map, List.getElem?_eq_getElem hk]; rfl, ?_⟩
    refine ⟨got.map V.int, by rw [upd_ne (Ne.symm nDf)]; exact e24, sz_lt (by rw [List.length_map, e3]; split at d1 <;> omega), fun b o n h => ?_, putSm (Ne.symm nDS) (Ne.symm nDL) (putSm nSf (Ne.symm nfL) m4), left.eraseIdx dd.toNat, got ++ [left[dd.toNat]], ?_, ?_, by rw [List.length_append, e3]; rfl, ?_⟩
    · obtain ⟨n1, n2, _⟩ := old b o n h
      rw [upd_ne n2, upd_ne n1]
      exact b4 _ _ n (kp b o n h)
    · rw [upd_ne nDf, upd_same, map_out]
    · rw [upd_same, List.map_append]
      rfl
    · exact (erase_perm hk got).trans e4
  · rintro H3 ⟨kp, m3, left, got, e1, e2, e3, e4⟩
    refine ⟨Dl, got.map V.int, rfl, sq_of e2, fun a o na nd => ?_⟩
    have x4 : Ex H3 (upd H3 a (.frz o (.tup (got.map V.int)))) := Ex.new na
    have hsub : ∀ p ∈ got, p ∈ nums r := fun p hp => e4.mem_iff.mp (List.mem_append_right _ hp)
    refine q got a _ ⟨lo, hi, odd, by rw [e3]; omega, by rw [e3]; split at d1 <;> omega, fun p hp => ?_, ?_⟩ ⟨o, upd_same, nd⟩ (fun b u n h => x4 _ _ (kp b u n h)) (m3.ex x4)
    · have := nums_in (hsub p hp)
      omega
    · have := e4.nodup_iff.mpr (nums_nd r)
      exact (List.nodup_append.mp this).2.1
end
end Rbx
set_option Elab.async false
set_option linter.all false
set_option maxRecDepth 100000
set_option maxHeartbeats 4000000
/-! RbLaw0: what the law's body wants besides: shapes of data, tuples cut and put together, facts that stay. -/
namespace Rbx
open PySem PySem.Spec PyProof.Rows L2 Evl C8
open Rb (Ok)
/-! ### shapes -/
theorem lays_ints : ∀ ns : List Int, PyData.canLayAll0 (dI ns) = true
  | [] => rfl
  | n :: ns => by
    show (PyData.canLay0 (.int n) && PyData.canLayAll0 (dI ns)) = true
    rw [lays_ints ns] <;> rfl
theorem lays_rows : ∀ t : List (List Nat), PyData.canLayAll0 (t.map fun r => tI (nI r)) = true
  | [] => rfl
  | r :: t => by
    show (PyData.canLayAll0 (dI (nI r)) && PyData.canLayAll0 (t.map fun r => tI (nI r))) = true
    rw [lays_ints, lays_rows t] <;> rfl
theorem deep_ints : ∀ ns : List Int, PyData.depthAll (dI ns) ≤ 1
  | [] => by unfold dI PyData.depthAll; decide
  | n :: ns => by
    have ih := deep_ints ns
    show max (PyData.depth (.int n)) (PyData.depthAll (dI ns)) ≤ 1
    have : PyData.depth (.int n) = 0 := rfl
    omega
theorem deep_rows : ∀ t : List (List Nat), PyData.depthAll (t.map fun r => tI (nI r)) ≤ 2
  | [] => by unfold List.map PyData.depthAll; decide
  | r :: t => by
    have ih := deep_rows t
    show max (PyData.depthAll (dI (nI r)) + 1) (PyData.depthAll (t.map fun r => tI (nI r))) ≤ 2
    have := deep_ints (nI r)
    omega
theorem shaped_tI (ns : List Int) : SeqAt.shaped (tI ns) = true := by
  unfold SeqAt.shaped
  refine Bool.and_eq_true_iff.mpr ⟨lays_ints ns, decide_eq_true ?_⟩
  show PyData.depthAll (dI ns) + 1 ≤ 64
  have := deep_ints ns
  omega
theorem shaped_tT (t : List (List Nat)) : SeqAt.shaped (tT t) = true := by
  unfold SeqAt.shaped
  refine Bool.and_eq_true_iff.mpr ⟨lays_rows t, decide_eq_true ?_⟩
  show PyData.depthAll (t.map fun r => tI (nI r)) + 1 ≤ 64
  have := deep_rows t
  omega
theorem eqv_tI (ns : List Int) : PyData.eqv (tI ns) (tI ns) = true := SeqAt.eqv_refl _ (lays_ints ns)
theorem eqv_tT (t : List (List Nat)) : PyData.eqv (tT t) (tT t) = true := SeqAt.eqv_refl _ (lays_rows t)
theorem sh_tI {n : Nat} {ns : List Int} (h : ns.length ≤ 1000) : sh (n + 1) (tI ns) = true := Bool.and_eq_true_iff.mpr ⟨decide_eq_true (by rw [List.length_map]; exact h), List.all_eq_true.mpr fun d hd => by
  obtain ⟨i, _, rfl⟩ := List.mem_map.mp hd
  cases n <;> rfl⟩
theorem sh_tT {n : Nat} {t : List (List Nat)} (h : t.length ≤ 1000) (hr : ∀ r ∈ t, r.length ≤ 1000) : sh (n + 2) (tT t) = true := Bool.and_eq_true_iff.mpr ⟨decide_eq_true (by rw [List.length_map]; exact h), List.all_eq_true.mpr fun d hd => by
  obtain ⟨r, hm, rfl⟩ := List.mem_map.mp hd
  exact sh_tI (by rw [List.length_map]; exact hr r hm)⟩
theorem sh_pair {n : Nat} {a b : PyData} (ha : sh n a = true) (hb : sh n b = true) : sh (n + 1) (.list [a, b]) = true := by
  show (decide (2 ≤ 1000) && ([a, b].all (sh n))) = true
  rw [List.all_cons, List.all_cons, ha, hb] <;> rfl
theorem sh_pairT {n : Nat} {a b : PyData} (ha : sh n a = true) (hb : sh n b = true) : sh (n + 1) (.tuple [a, b]) = true := by
  show (decide (2 ≤ 1000) && ([a, b].all (sh n))) = true
  rw [List.all_cons, List.all_cons, ha, hb] <;> rfl
theorem sh_int (n : Nat) (i : Int) : sh n (.int i) = true := by cases n <;> rfl
theorem sh_str (n : Nat) (x : Str) : sh n (.str x) = true := by cases n <;> rfl
theorem sh_bool (n : Nat) (b : Bool) : sh n (.bool b) = true := by cases n <;> rfl
theorem rowT_len (R : Int) (ps : List Int) (i : Nat) : (Rb.rowT R ps i).length ≤ ps.length := by
  unfold Rb.rowT
  have := List.length_filter_le (fun j => Rb.isAhead R (Rb.at0 ps i) (Rb.at0 ps j)) (List.range ps.length)
  rwa [List.length_range] at this
theorem sh_tour {n : Nat} {R : Int} {ps : List Int} (h : ps.length ≤ 8) : sh (n + 2) (tT (Rb.tour R ps)) = true := sh_tT (by rw [Rb.tour_len]; omega) fun r hr => by
  unfold Rb.tour at hr
  obtain ⟨i, _, rfl⟩ := List.mem_map.mp hr
  have := rowT_len R ps i
  omega
/-! ### tuples cut, turned round, put together -/
section
variable {K : PySem.W.Frag} {σ : L2.St} {H : Hp} {ta tb te : TE} {ds es : List PyData} {vs ws : List V}
theorem dps_take : ∀ {ds : List PyData} {vs : List V} (n : Nat), DpAll K H vs ds → DpAll K H (vs.take n) (ds.take n)
  | _, _, 0, _ => .nil
  | [], _, n + 1, h => by cases h; exact .nil
  | d :: ds, _, n + 1, h => by
    cases h with
    | cons h1 h2 => exact .cons h1 (dps_take n h2)
theorem dps_drop1 (h : DpAll K H vs ds) : DpAll K H (vs.drop 1) (ds.drop 1) := by
  cases h with
  | nil => exact .nil
  | cons h1 h2 => exact h2
theorem dps_rev : ∀ {ds : List PyData} {vs : List V}, DpAll K H vs ds → DpAll K H vs.reverse ds.reverse
  | [], _, h => by cases h; exact .nil
  | d :: ds, _, h => by
    cases h with
    | cons h1 h2 =>
      rw [List.reverse_cons, List.reverse_cons]
      exact dps_app (dps_rev h2) (.cons h1 .nil)
/-- t[:1] -/
theorem ed_head {tl th : TO} (h : EvD K te σ H (.tuple ds)) (h1 : EvO tl σ H none) (h2 : EvO th σ H (some 1)) : EvD K (tSl (rSlA K) te tl th) σ H (.tuple (ds.take 1)) := fun H1 e _ q =>
  h H1 e _ fun v H2 e2 p => h1 H2 (e.trans e2) _ fun H3 e3 => h2 H3 ((e.trans e2).trans e3) _ fun H4 e4 => by
    obtain ⟨a, xs, rfl, hs, ha⟩ := dp_tup (dp_ex (e3.trans e4) _ _ p)
    have ec : cutV xs none (some 1) = xs.take 1 := cut_take xs 1
    refine ⟨a, xs, rfl, hs, fun hw => q _ _ (e2.trans (e3.trans e4)) (.tup hs ?_), fun hw p np => q _ _ ((e2.trans (e3.trans e4)).trans (Ex.new np)) (.tup (st_of upd_same) ?_)⟩
    · have hw := hw.2
      rw [show HT.sIx xs.length xs.length (some 1) = min 1 xs.length from HT.sIx_nat xs.length xs.length 1] at hw
      rw [List.take_of_length_le (by rw [← dps_len ha]; omega)]
      exact ha
    · rw [ec]
      exact dps_ex (Ex.new np) _ _ (dps_take 1 ha)
/-- t[:0:-1] -/
theorem ed_back (h : EvD K te σ H (.tuple ds)) : EvD K (tBack K te) σ H (.tuple (ds.drop 1).reverse) := fun H1 e _ q =>
  h H1 e _ fun v H2 e2 p => by
    obtain ⟨a, xs, rfl, hs, ha⟩ := dp_tup p
    exact ⟨a, xs, rfl, hs, fun p np => q _ _ (e2.trans (Ex.new np)) (.tup (st_of upd_same) (dps_ex (Ex.new np) _ _ (dps_rev (dps_drop1 ha))))⟩
/-- t + u -/
theorem ed_cat (h : EvD K ta σ H (.tuple ds)) (h2 : EvD K tb σ H (.tuple es)) (hz : ds.length + es.length ≤ 100000) : EvD K (tOp (rCatA K) ta tb) σ H (.tuple (ds ++ es)) := fun H1 e _ q =>
  h H1 e _ fun v H2 e2 p => h2 H2 (e.trans e2) _ fun u H3 e3 p3 => by
    obtain ⟨a, xs, rfl, hs, ha⟩ := dp_tup (dp_ex e3 _ _ p)
    obtain ⟨b, ys, rfl, hs2, hb⟩ := dp_tup p3
    refine ⟨a, b, xs, ys, rfl, rfl, hs, hs2, sz_of (by rw [dps_len ha, dps_len hb]; exact hz), fun z => ?_, fun _ z => ?_, fun _ _ p np => q _ _ ((e2.trans e3).trans (Ex.new np)) (.tup (st_of upd_same) (dps_ex (Ex.new np) _ _ (dps_app ha hb)))⟩
    · subst z
      cases ha
      exact q _ _ (e2.trans e3) (.tup hs2 hb)
    · subst z
      cases hb
      exact q _ _ (e2.trans e3) (by
        show Dp K H3 (.ref a) (.tuple (ds ++ []))
        rw [List.append_nil]
        exact .tup hs ha)
end
/-! ### what stays through the law -/
structure Fa (K : PySem.W.Frag) (H : Hp) (pl S L : Addr) (vd vo : V) (ns ps : List Int) (due : List (List Nat)) (l : List Nat) : Prop where
  pp : Dp K H (.ref pl) (tI ps)
  pd : Dp K H vd (tT due)
  po : Dp K H vo (tI (nI l))
  sm : Sm H S L ns
section
variable {K : PySem.W.Frag} {H H' : Hp} {pl S L : Addr} {vd vo : V} {ns ps : List Int} {due : List (List Nat)} {l : List Nat}
theorem Fa.ex (f : Fa K H pl S L vd vo ns ps due l) (e : Ex H H') : Fa K H' pl S L vd vo ns ps due l := ⟨dp_ex e _ _ f.pp, dp_ex e _ _ f.pd, dp_ex e _ _ f.po, f.sm.ex e⟩
theorem Fa.next (f : Fa K H pl S L vd vo ns ps due l) (b : But S H H') (m : Sm H' S L ns) : Fa K H' pl S L vd vo ns ps due l := by
  obtain ⟨_, _, _, e, _⟩ := f.sm
  have t : TEx H H' := b.tex e
  exact ⟨dp_tex t _ _ (noL_tI _) f.pp, dp_tex t _ _ (noL_tT _) f.pd, dp_tex t _ _ (noL_tI _) f.po, m⟩
end
end Rbx
set_option Elab.async false
set_option linter.all false
set_option maxRecDepth 100000
set_option maxHeartbeats 16000000
/-! RbLaw: the law's body. -/
namespace Rbx
open PySem PySem.Spec PyProof.Rows L2 Evl C8
open Rb (Ok)
/-- the defs that the law calls -/
structure Cs (P : Program) (w : World) (K : PySem.W.Frag) (mg : Str → Option Value) (base : Heap) : Prop where
  stream : Cal P w K mg base 1 "_law_stream" (spStream K) []
  next : Cal P w K mg base 1 "_law_next" (spNext K) []
  places : Cal P w K mg base 2 "_law_places" (spPlaces K) []
  byPl : Cal P w K mg base 1 "_law_by_places" (spD K gByPl) []
  lAr : Cal P w K mg base 1 "_law_around" (spLAr K) []
  eq : Cal P w K mg base 5 "_law_equal" (spD K (gEq 3)) []
  beaten : Cal P w K mg base 4 "beaten" (spD K gBeaten) []
  around : Cal P w K mg base 4 "around" (spD K gAround) []
  turned : Cal P w K mg base 4 "turned" (spD K gTurned) []
  mir : Cal P w K mg base 4 "mirrored" (spD K gMir) []
  rev : Cal P w K mg base 1 "_law_reversed" (spD K gRev) []
  lWide : Cal P w K mg base 1 "_law_widened" (spD K gLWide) []
  told : Cal P w K mg base 5 "_law_told" (spD K gTold) []
section
variable {K : PySem.W.Frag} {σ : L2.St} {H : Hp} {ta tb te : TE} {d : PyData}
/-- the same data twice -/
theorem ev_neS (ha : EvD K ta σ H d) (hb : EvD K tb σ H d) (sd : SeqAt.shaped d = true) (e : PyData.eqv d d = true) : Ev (tOp (rNeD K) ta tb) σ H (.bl false) := ev_is (ev_neD ha hb sd sd) (by rw [e] <;> rfl)
theorem ev_eqT (ha : EvD K ta σ H d) (hb : EvD K tb σ H d) (sd : SeqAt.shaped d = true) (e : PyData.eqv d d = true) : Ev (tOp (rEqD K) ta tb) σ H (.bl true) := ev_is (ev_eqD ha hb sd sd) (by rw [e])
theorem back_is (l : List Nat) : PyData.tuple ((dI (nI l)).take 1 ++ ((dI (nI l)).drop 1).reverse) = tI (nI (l.take 1 ++ (l.drop 1).reverse)) := by
  unfold tI dI nI
  simp only [List.map_append, List.map_reverse, List.map_take, List.map_drop]
end
section
variable {P : Program} {w : World} {K : PySem.W.Frag} {mg : Str → Option Value} {base : Heap}
def spLaw (K : PySem.W.Frag) : Sp := fun vs H Q _ => ∃ (a : Addr) (ns : List Int), vs = [.ref a] ∧ SqL K H a (ns.map V.int) ∧ ∀ H', Q (.bl true) H'
abbrev nLaw : List Str := ["_law_script", "_law_stream_here", "_law_ring", "_law_places_here", "_law_due", "_law_order", "_law_many", "_law_ahead", "_law_back", "_law_at", "_law_wide", "_law_factor", "_law_great", "_law_k", "_law_place"]
theorem scLaw : FnScope nLaw ["_law_script"] (defScope sLaw) := ⟨rfl, rfl, rfl, by decide +kernel, rfl, by decide +kernel, by decide +kernel⟩
theorem ok_law {f : Addr} {fd : FuncData} (F : L2.Fun K "law" "law" sLaw f fd) (B : Bn mg) (C : Cs P w K mg base) : FnOk P w K mg base L2.CX0 6 f fd ["_law_script"] (spLaw K) := by
  refine F.ok scLaw (fun vs H Q E h => ?_) (fun cdv A outer s H vs Q E hr h => ?_)
  · obtain ⟨a, ns, rfl, _⟩ := h
    rfl
  obtain ⟨a0, ns, rfl, hA, q⟩ := h
  refine ⟨_, pss_cons (ps_set (i := 1) scLaw.nd rfl (.inl rfl) (pe_c C.stream hr (by decide) (by rfl) (pa_cons (pv 0) pa_nil)))
    (pss_cons (ps_set (i := 2) scLaw.nd rfl (.inr rfl) (pe_op op_add pe_int (pe_op op_mul pe_int (pe_c C.next hr (by decide) (by rfl) (pa_cons (pv 1) (pa_cons pe_int pa_nil))))))
    (pss_cons (ps_set (i := 3) scLaw.nd rfl (.inl rfl) (pe_c C.places hr (by decide) (by rfl) (pa_cons (pv 1) (pa_cons (pv 2) (pa_cons pe_int pa_nil)))))
    (pss_cons (ps_set (i := 4) scLaw.nd rfl (.inr rfl) (pe_c C.byPl hr (by decide) (by rfl) (pa_cons (pv 2) (pa_cons (pv 3) pa_nil))))
    (pss_cons (ps_set (i := 5) scLaw.nd rfl (.inl rfl) (pe_c C.lAr hr (by decide) (by rfl) (pa_cons (pv 2) (pa_cons (pv 3) pa_nil))))
    (pss_cons (ps_if (pt_not (pt_val (pe_c C.eq hr (by decide) (by rfl) (pa_cons (pe_lst (pa_cons (pe_c C.beaten hr (by decide) (by rfl) (pa_cons (pv 2) (pa_cons (pv 3) pa_nil))) (pa_cons (pe_c C.around hr (by decide) (by rfl) (pa_cons (pv 2) (pa_cons (pv 3) pa_nil))) pa_nil)))
        (pa_cons (pe_lst (pa_cons (pv 4) (pa_cons (pv 5) pa_nil))) pa_nil))))) pss_never pss_nil)
    (pss_cons (ps_if (PW.pt (pw_and (pt_cmpR op_gt (pe_callB call_ln (by rfl) B.len PySem.boot_len (pa_cons (pv 4) pa_nil)) pe_int (nomark _)) (pw_and1 (pt_val (pe_callB (cr_any rfl) (by rfl) B.any (by decide +kernel) (pa_cons
        (pe_lc (own := [("_law_k", 13)]) (g := gName 13) (tt := tYes) rfl scLaw.nd (pi_range1 (by rfl) B.range (pa_cons (pe_callB call_ln (by rfl) B.len PySem.boot_len (pa_cons (pv 4) pa_nil)) pa_nil)) (blkOk_by (N := nLaw) (sc := defScope sLaw) (by decide +kernel))
          (fun _ _ _ _ _ => pg_name (i := 13) scLaw.nd rfl (.inl rfl)) (fun _ _ _ _ _ => pts_nil)
          (fun _ _ _ _ _ => pe_cmpR op_eq (pe_cmpR (kIn K) (pe_op op_mod (pe_op op_add (pv 13) pe_int) (pe_callB (kLn K) (by rfl) B.len PySem.boot_len (pa_cons (pv 4) pa_nil))) (pe_ix (kIxT K) (pv 4) (pv 13) (fun _ _ => rfl)) (by rfl))
            (pe_cmpR (kIn K) (pv 13) (pe_ix (kIxT K) (pv 4) (pe_op op_mod (pe_op op_add (pv 13) pe_int) (pe_callB (kLn K) (by rfl) B.len PySem.boot_len (pa_cons (pv 4) pa_nil))) (fun _ _ => rfl)) (by rfl)) (nomark _))) pa_nil)))))) pss_never pss_nil)
    (pss_cons (ps_set (i := 6) scLaw.nd rfl (.inr rfl) (pe_c C.next hr (by decide) (by rfl) (pa_cons (pv 1) (pa_cons (pv 2) pa_nil))))
    (pss_cons (ps_set (i := 7) scLaw.nd rfl (.inl rfl) (pe_callTy call_tupOf (by rfl) B.tuple (by decide +kernel) (pa_cons (pe_lc (own := [("_law_place", 14)]) (g := gName 14) (tt := tYes) rfl scLaw.nd (pi_tup (pv 3)) (blkOk_by (N := nLaw) (sc := defScope sLaw) (by decide +kernel))
        (fun _ _ _ _ _ => pg_name (i := 14) scLaw.nd rfl (.inl rfl)) (fun _ _ _ _ _ => pts_nil) (fun _ _ _ _ _ => pe_op op_mod (pe_op op_add (pv 14) (pv 6)) (pv 2))) pa_nil)))
    (pss_cons (ps_set (i := 8) scLaw.nd rfl (.inl rfl) (pe_callTy call_tupOf (by rfl) B.tuple (by decide +kernel) (pa_cons (pe_lc (own := [("_law_place", 14)]) (g := gName 14) (tt := tYes) rfl scLaw.nd (pi_tup (pv 3)) (blkOk_by (N := nLaw) (sc := defScope sLaw) (by decide +kernel))
        (fun _ _ _ _ _ => pg_name (i := 14) scLaw.nd rfl (.inl rfl)) (fun _ _ _ _ _ => pts_nil) (fun _ _ _ _ _ => pe_op op_mod (pe_op op_sub (pv 2) (pv 14)) (pv 2))) pa_nil)))
    (pss_cons (ps_if (pt_not (pt_val (pe_c C.eq hr (by decide) (by rfl) (pa_cons (pe_lst (pa_cons (pe_c C.turned hr (by decide) (by rfl) (pa_cons (pv 2) (pa_cons (pv 3) (pa_cons (pv 6) pa_nil)))) (pa_cons (pe_c C.mir hr (by decide) (by rfl) (pa_cons (pv 2) (pa_cons (pv 3) pa_nil))) pa_nil)))
        (pa_cons (pe_lst (pa_cons (pv 7) (pa_cons (pv 8) pa_nil))) pa_nil))))) pss_never pss_nil)
    (pss_cons (ps_if (PW.pt (pw_or (pt_cmpR (op_neD hr.units) (pe_c C.beaten hr (by decide) (by rfl) (pa_cons (pv 2) (pa_cons (pv 7) pa_nil))) (pv 4) (nomark _))
        (pw_or (pt_cmpR (op_neD hr.units) (pe_c C.beaten hr (by decide) (by rfl) (pa_cons (pv 2) (pa_cons (pv 8) pa_nil))) (pe_c C.rev hr (by decide) (by rfl) (pa_cons (pv 4) pa_nil)) (nomark _))
        (pw_or (pt_cmpR (op_neD hr.units) (pe_c C.around hr (by decide) (by rfl) (pa_cons (pv 2) (pa_cons (pv 7) pa_nil))) (pv 5) (nomark _))
        (pw_or1 (pt_cmpR (op_neD hr.units) (pe_c C.around hr (by decide) (by rfl) (pa_cons (pv 2) (pa_cons (pv 8) pa_nil))) (pe_op op_catA (pe_slice sl_tupA (pv 5) po_none (po_some pe_int)) (pe_back (pv 5))) (nomark _))))))) pss_never pss_nil)
    (pss_cons (ps_set (i := 9) scLaw.nd rfl (.inl rfl) (pe_c C.next hr (by decide) (by rfl) (pa_cons (pv 1) (pa_cons (pv 2) pa_nil))))
    (pss_cons (ps_set (i := 10) scLaw.nd rfl (.inl rfl) (pe_c C.lWide hr (by decide) (by rfl) (pa_cons (pv 2) (pa_cons (pv 3) (pa_cons (pv 9) pa_nil)))))
    (pss_cons (ps_if (pt_not (pt_val (pe_c C.eq hr (by decide) (by rfl) (pa_cons (pe_c C.told hr (by decide) (by rfl) (pa_cons pe_bl (pa_cons (pv 2) (pa_cons (pv 3) (pa_cons (pv 9) pa_nil)))))
        (pa_cons (pe_ifExp (pt_cmpR op_lt (pv 2) pe_int (nomark _)) (pv 10) (pe_lst (pa_cons pe_str (pa_cons pe_bl pa_nil)))) pa_nil))))) pss_never pss_nil)
    (pss_cons (ps_if (PW.pt (pw_and (pt_cmpR op_lt (pv 2) pe_int (nomark _)) (pw_and1 (PW.pt (pw_or
        (pt_cmpR (op_neD hr.units) (pe_c C.beaten hr (by decide) (by rfl) (pa_cons (pe_ix ix_tup (pv 10) pe_int (fun _ _ => rfl)) (pa_cons (pe_ix ix_tup (pv 10) pe_int (fun _ _ => rfl)) pa_nil))) (pv 4) (nomark _))
        (pw_or1 (pt_cmpR (op_neD hr.units) (pe_c C.around hr (by decide) (by rfl) (pa_cons (pe_ix ix_tup (pv 10) pe_int (fun _ _ => rfl)) (pa_cons (pe_ix ix_tup (pv 10) pe_int (fun _ _ => rfl)) pa_nil))) (pv 5) (nomark _)))))))) pss_never pss_nil)
    (pss_cons (ps_set (i := 11) scLaw.nd rfl (.inr rfl) (pe_op op_add pe_int (pe_op op_mul pe_int (pe_c C.next hr (by decide) (by rfl) (pa_cons (pv 1) (pa_cons pe_int pa_nil))))))
    (pss_cons (ps_set (i := 12) scLaw.nd rfl (.inl rfl) (pe_tup (pa_cons (pe_op op_mul (pv 2) (pv 11)) (pa_cons (pe_callTy call_tupOf (by rfl) B.tuple (by decide +kernel) (pa_cons (pe_lc (own := [("_law_place", 14)]) (g := gName 14) (tt := tYes) rfl scLaw.nd (pi_tup (pv 3)) (blkOk_by (N := nLaw) (sc := defScope sLaw) (by decide +kernel))
        (fun _ _ _ _ _ => pg_name (i := 14) scLaw.nd rfl (.inl rfl)) (fun _ _ _ _ _ => pts_nil) (fun _ _ _ _ _ => pe_op op_mul (pv 14) (pv 11))) pa_nil)) pa_nil))))
    (pss_cons (ps_if (pt_not (pt_val (pe_c C.eq hr (by decide) (by rfl) (pa_cons (pe_c C.told hr (by decide) (by rfl) (pa_cons pe_bl (pa_cons (pv 2) (pa_cons (pv 3) (pa_cons (pv 11) pa_nil)))))
        (pa_cons (pe_ifExp (pt_cmpR op_le (pe_ix ix_tup (pv 12) pe_int (fun _ _ => rfl)) pe_int (nomark _)) (pv 12) (pe_lst (pa_cons pe_str (pa_cons pe_bl pa_nil)))) pa_nil))))) pss_never pss_nil)
    (pss_one (ps_ret (pe_or (pe_cmpR op_gt (pe_ix ix_tup (pv 12) pe_int (fun _ _ => rfl)) pe_int (nomark _))
      (pe_one (pe_and (pe_cmpR (op_eqD hr.units) (pe_c C.beaten hr (by decide) (by rfl) (pa_cons (pe_ix ix_tup (pv 12) pe_int (fun _ _ => rfl)) (pa_cons (pe_ix ix_tup (pv 12) pe_int (fun _ _ => rfl)) pa_nil))) (pv 4) (nomark _))
        (pe_one (pe_cmpR (op_eqD hr.units) (pe_c C.around hr (by decide) (by rfl) (pa_cons (pe_ix ix_tup (pv 12) pe_int (fun _ _ => rfl)) (pa_cons (pe_ix ix_tup (pv 12) pe_int (fun _ _ => rfl)) pa_nil))) (pv 5) (nomark _)))))))))))))))))))))))))), ?_⟩
  -- the stream, the ring
  refine ⟨.ref a0, rfl, a0, ns, rfl, hA, fun S L H1 x1 sm1 => ?_⟩
  refine ⟨.ref S, rfl, S, L, ns, 16, rfl, sm1, by decide, by decide, fun d H2 d0 d1 b2 sm2 => ⟨2, d, rfl, rfl, .inl ⟨by decide, by decide⟩, 1, 2 * d, rfl, rfl, ?_⟩⟩
  obtain ⟨R, eR⟩ : ∃ R : Int, R = 1 + 2 * d := ⟨_, rfl⟩
  show gName 2 (.int (1 + 2 * d)) _ H2 _
  rw [← eR]
  -- the places, due, the order
  refine ⟨.ref S, rfl, .int R, rfl, S, L, ns, R, rfl, sm2, by omega, by omega, by omega, fun ps pl H3 ok fz b3 sm3 => ?_⟩
  have pp3 : Dp K H3 (.ref pl) (tI ps) := .tup fz.sq (dps_of_ints ps)
  refine w_asg (ed_call (g := gByPl) (ead_cons (ed_int (ev_var rfl)) (ead_cons (ed_var rfl pp3) ead_nil)) ⟨R, ps, ok, rfl, rfl⟩) fun vd H4 x4 pd => ?_
  refine ⟨.int R, rfl, .ref pl, rfl, R, ps, pl, rfl, ok, fz.tex (TEx.of x4), fun vo H5 x5 po => ?_⟩
  have f : Fa K H5 pl S L vd vo ns ps (Rb.tour R ps) (Rb.aroundL R ps) := ⟨dp_ex (x4.trans x5) _ _ pp3, dp_ex x5 _ _ pd, po, sm3.ex (x4.trans x5)⟩
  clear x4 pd x5 po pp3 sm3 b3 fz sm2 b2 sm1 x1 hA H4 H3 H2 H1
  have few := ok.few
  have lo := ok.lo
  have hi := ok.hi
  have ar := Rb.around_is ok
  have llen : (Rb.aroundL R ps).length = ps.length := by
    have := ar.perm.length_eq
    rwa [List.length_range] at this
  have shT : ∀ n, sh (n + 2) (tT (Rb.tour R ps)) = true := fun n => sh_tour few
  have shO : ∀ n, sh (n + 1) (tI (nI (Rb.aroundL R ps))) = true := fun n => sh_tI (by unfold nI; rw [List.length_map]; omega)
  -- beaten, around are due, order
  refine w_skip (et_not (et_B (ev_bl (b := true) (ed_call (g := gEq 3) (ead_cons (ed_lst (ead_cons (ed_call (g := gBeaten) (ead_cons (ed_int (ev_var rfl)) (ead_cons (ed_var rfl f.pp) ead_nil)) ⟨R, ps, ok, rfl, rfl⟩)
      (ead_cons (ed_call (g := gAround) (ead_cons (ed_int (ev_var rfl)) (ead_cons (ed_var rfl f.pp) ead_nil)) ⟨R, ps, _, ok, ar, rfl, rfl⟩) ead_nil)) (by show 2 ≤ 100000; decide))
      (ead_cons (ed_lst (ead_cons (ed_var rfl f.pd) (ead_cons (ed_var rfl f.po) ead_nil)) (by show 2 ≤ 100000; decide)) ead_nil)) ⟨_, sh_pair (shT 0) (shO 1), rfl, rfl⟩)))) fun H6 x6 => ?_
  have f6 := f.ex x6
  clear f x6 H5
  -- one of two beats
  have dl : (Rb.tour R ps).length = ps.length := Rb.tour_len
  refine w_skip (et_is (et_and (a := decide ((1 : Int) < (ps.length : Int))) (b := false) (et_test (ev_gt (ev_is (ev_lnT (ed_var rfl f6.pd)) (by rw [List.length_map, dl])) ev_c)) (fun h => et_B (ev_is (ev_any (bs := List.replicate ps.length false)
      (ed_is (ed_lcR (m := ps.length) (ea_cons (ev_is (ev_lnT (ed_var rfl f6.pd)) (by rw [List.length_map, dl])) ea_nil) (by omega) (fun _ => true) (fun _ => .bool false) (fun _ _ => rfl) (fun _ => rfl) (fun _ _ _ _ => et_yes) (fun k H7 x7 hk _ => ?_)) ?_)) ?_))) (by rw [Bool.and_false])) fun H7 x7 => ?_
  · have h := of_decide_eq_true h
    have dd : ∀ σ : L2.St, σ[4]? = some (some vd) → EvD K (tVar 4) σ H7 (tT (Rb.tour R ps)) := fun σ e => ed_var e (dp_ex x7 _ _ f6.pd)
    have at_ : ∀ j, j < ps.length → ((Rb.tour R ps).map fun r => tI (nI r))[j]? = some (tI (nI ((Rb.tour R ps).getD j []))) := fun j hj => by
      rw [List.getElem?_map, List.getD_eq_getElem?_getD, List.getElem?_eq_getElem (by rw [dl]; exact hj)]
      rfl
    have mm : (((k : Int) + 1) % (ps.length : Int)) = (((k + 1) % ps.length : Nat) : Int) := by rw [Int.natCast_emod, Int.natCast_add] <;> rfl
    have ml : (k + 1) % ps.length < ps.length := Nat.mod_lt _ (by omega)
    refine ed_bl (ev_is (ev_eqS (ev_is (ev_inT (x := (((k + 1) % ps.length : Nat) : Int)) (ns := nI ((Rb.tour R ps).getD k [])) (neg := false) (ev_is (ev_mod (ev_add (ev_var rfl) ev_c) (ev_is (ev_lnT (dd _ rfl)) (by rw [List.length_map, dl])) (by omega)) (congrArg V.int mm)) (ed_ixT (dd _ rfl) (ev_var rfl) (atI_n rfl (at_ k hk)))) (congrArg V.bl (any_nI _ _)))
      (ev_is (ev_inT (x := (k : Int)) (ns := nI ((Rb.tour R ps).getD ((k + 1) % ps.length) [])) (neg := false) (ev_var rfl) (ed_ixT (dd _ rfl) (ev_is (ev_mod (ev_add (ev_var rfl) ev_c) (ev_is (ev_lnT (dd _ rfl)) (by rw [List.length_map, dl])) (by omega)) (congrArg V.int mm)) (atI_n rfl (at_ _ ml)))) (congrArg V.bl (any_nI _ _))) rfl) ?_)
    have ob := beq_eq_false_iff_ne.mp (Rb.one_beats ok hk (by omega))
    exact congrArg V.bl (decide_eq_false fun e => ob (V.bl.inj e))
  · rw [givenD_all, List.map_replicate, List.map_const', List.length_range]
  · rw [List.any_replicate]
    cases ps.length <;> rfl
  have f7 := f6.ex x7
  clear f6 x7 H6
  -- many
  refine ⟨.ref S, rfl, .int R, rfl, S, L, ns, R, rfl, f7.sm, by omega, by omega, fun m H8 m0 m1 b8 sm8 => ?_⟩
  have f8 := f7.next b8 sm8
  clear f7 b8 sm8 H7
  -- ahead
  obtain ⟨_, e, hs8⟩ := dp_tI f8.pp
  cases e
  refine w_asg (ed_is (e := tI (Rb.turnP R m ps)) (ed_tupOf (ed_lcT (a := pl) (xs := ps.map V.int) (ev_var rfl) hs8 (by rw [List.length_map]; omega) (fun _ => true) (fun i => .int ((Rb.at0 ps i + m) % R)) (fun _ _ => rfl) (fun _ => rfl) (fun _ _ _ _ _ => et_yes) (fun i x H9 x9 hi _ => ?_))) ?_) fun va H9 x9 pa => ?_
  · obtain ⟨p, hp, rfl⟩ := map_at hi
    rw [Rb.at0_of hp]
    exact ed_int (ev_mod (ev_add (ev_var rfl) (ev_var rfl)) (ev_var rfl) (by omega))
  · exact congrArg PyData.tuple (int_list ps fun p => (p + m) % R)
  have f9 := f8.ex x9
  clear f8 x9 hs8 H8
  -- back
  obtain ⟨_, e, hs9⟩ := dp_tI f9.pp
  cases e
  refine w_asg (ed_is (e := tI (Rb.mirP R ps)) (ed_tupOf (ed_lcT (a := pl) (xs := ps.map V.int) (ev_var rfl) hs9 (by rw [List.length_map]; omega) (fun _ => true) (fun i => .int ((R - Rb.at0 ps i) % R)) (fun _ _ => rfl) (fun _ => rfl) (fun _ _ _ _ _ => et_yes) (fun i x H10 x10 hi _ => ?_))) ?_) fun vb H10 x10 pb => ?_
  · obtain ⟨p, hp, rfl⟩ := map_at hi
    rw [Rb.at0_of hp]
    exact ed_int (ev_mod (ev_sub (ev_var rfl) (ev_var rfl)) (ev_var rfl) (by omega))
  · exact congrArg PyData.tuple (int_list ps fun p => (R - p) % R)
  have f10 := f9.ex x10
  have pa10 := dp_ex x10 _ _ pa
  clear f9 x10 hs9 pa H9
  -- turned, mirrored are ahead, back
  have okT := Rb.turn_ok ok m0 m1
  have okM := Rb.mir_ok ok
  have shP : ∀ n (F : Int → Int), sh (n + 1) (tI (ps.map F)) = true := fun n F => sh_tI (by rw [List.length_map]; omega)
  refine w_skip (et_not (et_B (ev_bl (b := true) (ed_call (g := gEq 3) (ead_cons (ed_lst (ead_cons (ed_call (g := gTurned) (ead_cons (ed_int (ev_var rfl)) (ead_cons (ed_var rfl f10.pp) (ead_cons (ed_int (ev_var rfl)) ead_nil))) ⟨R, ps, m, ok, m0, m1, rfl, rfl⟩)
      (ead_cons (ed_call (g := gMir) (ead_cons (ed_int (ev_var rfl)) (ead_cons (ed_var rfl f10.pp) ead_nil)) ⟨R, ps, ok, rfl, rfl⟩) ead_nil)) (by show 2 ≤ 100000; decide))
      (ead_cons (ed_lst (ead_cons (ed_var rfl pa10) (ead_cons (ed_var rfl pb) ead_nil)) (by show 2 ≤ 100000; decide)) ead_nil)) ⟨_, sh_pair (shP 1 _) (shP 1 _), rfl, rfl⟩)))) fun H11 x11 => ?_
  have f11 := f10.ex x11
  have pa11 := dp_ex x11 _ _ pa10
  have pb11 := dp_ex x11 _ _ pb
  clear f10 x11 pa10 pb H10
  -- they beat as before
  refine w_skip (et_is (et_or (a := false) (b := false) (et_test (ev_neS (d := tT (Rb.tour R ps)) (ed_is (ed_call (g := gBeaten) (ead_cons (ed_int (ev_var rfl)) (ead_cons (ed_var rfl pa11) ead_nil)) ⟨R, _, okT, rfl, rfl⟩) (congrArg tT (Rb.turn_tour ok m0 m1))) (ed_var rfl f11.pd) (shaped_tT _) (eqv_tT _)))
    fun _ => et_or (a := false) (b := false) (et_test (ev_neS (d := tT (Rb.revT ps.length (Rb.tour R ps))) (ed_is (ed_call (g := gBeaten) (ead_cons (ed_int (ev_var rfl)) (ead_cons (ed_var rfl pb11) ead_nil)) ⟨R, _, okM, rfl, rfl⟩) (congrArg tT (Rb.mir_tour ok)))
        (ed_call (g := gRev) (ead_cons (ed_var rfl f11.pd) ead_nil) ⟨Rb.tour R ps, by omega, rfl, by rw [dl]⟩) (shaped_tT _) (eqv_tT _)))
    fun _ => et_or (a := false) (b := false) (et_test (ev_neS (d := tI (nI (Rb.aroundL R ps))) (ed_call (g := gAround) (ead_cons (ed_int (ev_var rfl)) (ead_cons (ed_var rfl pa11) ead_nil)) ⟨R, _, _, okT, Rb.turn_ar ok ar, rfl, rfl⟩) (ed_var rfl f11.po) (shaped_tI _) (eqv_tI _)))
    fun _ => et_test (ev_neS (d := tI (nI ((Rb.aroundL R ps).take 1 ++ ((Rb.aroundL R ps).drop 1).reverse))) (ed_call (g := gAround) (ead_cons (ed_int (ev_var rfl)) (ead_cons (ed_var rfl pb11) ead_nil)) ⟨R, _, _, okM, Rb.mir_ar ok ar, rfl, rfl⟩)
        (ed_is (ed_cat (ed_head (ed_var rfl f11.po) eo_none (eo_some ev_c)) (ed_back (ed_var rfl f11.po)) ?_) (back_is _)) (shaped_tI _) (eqv_tI _))) rfl) fun H12 x12 => ?_
  · have : (dI (nI (Rb.aroundL R ps))).length = ps.length := by
      unfold dI nI
      rw [List.length_map, List.length_map, llen]
    have h1 := List.length_take_le 1 (dI (nI (Rb.aroundL R ps)))
    rw [List.length_reverse, List.length_drop]
    omega
  have f12 := f11.ex x12
  clear f11 x12 pa11 pb11 H11
  -- at, wide
  refine ⟨.ref S, rfl, .int R, rfl, S, L, ns, R, rfl, f12.sm, by omega, by omega, fun t H13 t0 t1 b13 sm13 => ?_⟩
  have f13 := f12.next b13 sm13
  clear f12 b13 sm13 H12
  refine w_asg (ed_call (g := gLWide) (ead_cons (ed_int (ev_var rfl)) (ead_cons (ed_var rfl f13.pp) (ead_cons (ed_int (ev_var rfl)) ead_nil))) ⟨R, ps, t, ok, t0, t1, rfl, rfl⟩) fun vw H14 x14 pw => ?_
  have f14 := f13.ex x14
  clear f13 x14 H13
  refine w_skip (et_not (et_B (ev_bl (b := true) (ed_call (g := gEq 3) (ead_cons (ed_call (g := gTold) (ead_cons (ed_bl ev_c) (ead_cons (ed_int (ev_var rfl)) (ead_cons (ed_var rfl f14.pp) (ead_cons (ed_int (ev_var rfl)) ead_nil)))) ⟨R, ps, t, ok, .inl ⟨t0, t1, rfl, rfl⟩⟩)
      (ead_cons (ed_if (d := if R + 2 ≤ 31 then .tuple [.int (R + 2), tI (Rb.wideP R t ps)] else dRing) (et_test (ev_lt (ev_var rfl) ev_c)) (fun h => ed_is (ed_var rfl pw) ?_) (fun h => ed_is (ed_lst (ead_cons ed_str (ead_cons (ed_bl ev_c) ead_nil)) (by show 2 ≤ 100000; decide)) ?_)) ead_nil)) ⟨_, ?_, rfl, rfl⟩)))) fun H15 x15 => ?_
  · have h := of_decide_eq_true h
    rw [if_pos (by omega)]
  · have h := of_decide_eq_false h
    rw [if_neg (by omega)]
  · split
    · exact sh_pairT (sh_int _ _) (shP _ _)
    · exact sh_pair (sh_str _ _) (sh_bool _ _)
  have f15 := f14.ex x15
  have pw15 := dp_ex x15 _ _ pw
  clear f14 x15 pw H14
  refine w_skip (et_is (et_and (a := decide (R < 31)) (b := false) (et_test (ev_lt (ev_var rfl) ev_c)) fun h => ?_) (Bool.and_false _)) fun H16 x16 => ?_
  · have h := of_decide_eq_true h
    have okW := Rb.wide_ok (a := t) ok (by omega)
    refine et_or (a := false) (b := false) (et_test (ev_neS (d := tT (Rb.tour R ps)) (ed_is (ed_call (g := gBeaten) (ead_cons (ed_ixT (ed_var rfl pw15) ev_c rfl) (ead_cons (ed_ixT (ed_var rfl pw15) ev_c rfl) ead_nil)) ⟨_, _, okW, rfl, rfl⟩) (congrArg tT (Rb.wide_tour ok t0 t1))) (ed_var rfl f15.pd) (shaped_tT _) (eqv_tT _)))
      fun _ => et_test (ev_neS (d := tI (nI (Rb.aroundL R ps))) (ed_call (g := gAround) (ead_cons (ed_ixT (ed_var rfl pw15) ev_c rfl) (ead_cons (ed_ixT (ed_var rfl pw15) ev_c rfl) ead_nil)) ⟨_, _, _, okW, Rb.wide_ar ok ar, rfl, rfl⟩) (ed_var rfl f15.po) (shaped_tI _) (eqv_tI _))
  have f16 := f15.ex x16
  clear f15 x16 pw15 H15
  -- factor, great
  refine ⟨.ref S, rfl, S, L, ns, 5, rfl, f16.sm, by decide, by decide, fun e H17 e0 e1 b17 sm17 => ⟨2, e, rfl, rfl, .inl ⟨by decide, by decide⟩, 1, 2 * e, rfl, rfl, ?_⟩⟩
  have f17 := f16.next b17 sm17
  clear f16 b17 sm17 H16
  obtain ⟨F, eF⟩ : ∃ F : Int, F = 1 + 2 * e := ⟨_, rfl⟩
  show gName 11 (.int (1 + 2 * e)) _ H17 _
  rw [← eF]
  have cm : ∀ x : Int, 0 ≤ x → x ≤ 31 → CMul x F := fun x _ _ => .inl ⟨by omega, by omega⟩
  obtain ⟨_, ee, hs17⟩ := dp_tI f17.pp
  cases ee
  refine w_asg (ed_tup (ead_cons (ed_int (ev_mul (ev_var rfl) (ev_var rfl) (cm R (by omega) hi))) (ead_cons (ed_is (e := tI (Rb.scaP F ps)) (ed_tupOf (ed_lcT (a := pl) (xs := ps.map V.int) (ev_var rfl) hs17 (by rw [List.length_map]; omega) (fun _ => true) (fun i => .int (Rb.at0 ps i * F)) (fun _ _ => rfl) (fun _ => rfl) (fun _ _ _ _ _ => et_yes) (fun i x H18 x18 hi' _ => ?_))) ?_) ead_nil)) (by show 2 ≤ 100000; decide)) fun vg H18 x18 pg => ?_
  · obtain ⟨p, hp, rfl⟩ := map_at hi'
    rw [Rb.at0_of hp]
    have := ok.on p (List.mem_of_getElem? hp)
    exact ed_int (ev_mul (ev_var rfl) (ev_var rfl) (cm p this.1 (by omega)))
  · exact congrArg PyData.tuple (int_list ps fun p => p * F)
  have f18 := f17.ex x18
  clear f17 x18 hs17 H17
  refine w_skip (et_not (et_B (ev_bl (b := true) (ed_call (g := gEq 3) (ead_cons (ed_call (g := gTold) (ead_cons (ed_bl ev_c) (ead_cons (ed_int (ev_var rfl)) (ead_cons (ed_var rfl f18.pp) (ead_cons (ed_int (ev_var rfl)) ead_nil)))) ⟨R, ps, F, ok, .inr ⟨by omega, by omega, by omega, rfl, rfl⟩⟩)
      (ead_cons (ed_if (d := if R * F ≤ 31 then .tuple [.int (R * F), tI (Rb.scaP F ps)] else dRing) (et_test (ev_le (ev_int (ed_ixT (ed_var rfl pg) ev_c rfl)) ev_c)) (fun h => ed_is (ed_var rfl pg) ?_) (fun h => ed_is (ed_lst (ead_cons ed_str (ead_cons (ed_bl ev_c) ead_nil)) (by show 2 ≤ 100000; decide)) ?_)) ead_nil)) ⟨_, ?_, rfl, rfl⟩)))) fun H19 x19 => ?_
  · rw [if_pos (of_decide_eq_true h)]
  · rw [if_neg (of_decide_eq_false h)]
  · split
    · exact sh_pairT (sh_int _ _) (shP _ _)
    · exact sh_pair (sh_str _ _) (sh_bool _ _)
  have f19 := f18.ex x19
  have pg19 := dp_ex x19 _ _ pg
  clear f18 x19 pg H18
  -- the answer
  refine w_ret (P := fun v H2 => Dp K H2 v (.bool true)) (ed_bl (K := K) (b := true) (ev_is (ev_orV (a := decide (31 < R * F)) (b := true) (ev_gt (ev_int (ed_ixT (ed_var rfl pg19) ev_c rfl)) ev_c) fun h => ?_) (by rw [Bool.or_true]))) fun v H20 x20 pv => ?_
  · have h := of_decide_eq_false h
    have okS := Rb.sca_ok (f := F) ok (by omega) (by omega) (by omega)
    exact ev_andV (a := true) (b := true) (ev_eqT (d := tT (Rb.tour R ps)) (ed_is (ed_call (g := gBeaten) (ead_cons (ed_ixT (ed_var rfl pg19) ev_c rfl) (ead_cons (ed_ixT (ed_var rfl pg19) ev_c rfl) ead_nil)) ⟨_, _, okS, rfl, rfl⟩) (congrArg tT (Rb.sca_tour ok (by omega) (by omega)))) (ed_var rfl f19.pd) (shaped_tT _) (eqv_tT _))
      fun _ => ev_eqT (d := tI (nI (Rb.aroundL R ps))) (ed_call (g := gAround) (ead_cons (ed_ixT (ed_var rfl pg19) ev_c rfl) (ead_cons (ed_ixT (ed_var rfl pg19) ev_c rfl) ead_nil)) ⟨_, _, _, okS, Rb.sca_ar ok (by omega) ar, rfl, rfl⟩) (ed_var rfl f19.po) (shaped_tI _) (eqv_tI _)
  · obtain rfl := dp_bl pv
    exact q H20
end
end Rbx
set_option Elab.async false
set_option linter.all false
set_option maxRecDepth 100000
set_option maxHeartbeats 16000000
/-! RbEnd: what the top has written, put together for the law. -/
namespace Rbx
open PySem PySem.Spec PyProof.Rows L2 Evl C8
open Rb (Ok)
section
variable {K : PySem.W.Frag} {h : Heap} {mg : Str → Option Value}
abbrev BindOk (x qual : Str) (st : Stmt) (ps : List Str) : Prop := ∀ (kV doc pm : Value) (an : Option Addr) (cdv ct : Value) (us : List Value), us.length = ps.length → bindArgs (PySem.W.fnOf x qual (defArgs st) (defBody st) (defScope st) .none kV doc pm an cdv ct) ⟨us, []⟩ = pure (ps.zip us)
theorem df_mk (X : K.In h) (G : h.Ns mainGlobals mg) {x : Str} {st : Stmt} {ps : List Str} {f : Addr} {oc : Value} {od an : Option Addr} {sl : Array (Option Value)} {kV dc pm cd ct : Value}
    (a : PySem.W.nsIn K mainGlobals x = some (some (.ref f))) (l : K.lookup f = some ⟨oc, od, .func (PySem.W.fnOf x x (defArgs st) (defBody st) (defScope st) .none kV dc pm an cd ct), sl⟩) (c : PySem.W.codeIn K cd x = true) (k : PySem.W.keepIn K (.ref f) = true)
    (b : BindOk x x st ps) : Df K mg x st ps :=
  ⟨f, _, fun_mk l c k, PySem.W.mg_of X G a, (fun_mk (st := st) l c k).binds b⟩
structure Ds (K : PySem.W.Frag) (mg : Str → Option Value) : Prop where
  whole : Df K mg "is_whole" sWhole ["value", "low", "high"]
  ring : Df K mg "is_ring" sRing ["value"]
  arePl : Df K mg "are_places" sArePl ["ring", "value"]
  ahead : Df K mg "is_ahead" sAhead ["ring", "one", "other"]
  tourOf : Df K mg "tournament_of" sTourOf ["ring", "places"]
  check : Df K mg "check_places" sCheck ["ring", "places"]
  beaten : Df K mg "beaten" sBeaten ["ring", "places"]
  turned : Df K mg "turned" sTurned ["ring", "places", "many"]
  mir : Df K mg "mirrored" sMirrored ["ring", "places"]
  wide : Df K mg "widened" sWidened ["ring", "places", "at"]
  scal : Df K mg "scaled" sScaled ["ring", "places", "factor"]
  around : Df K mg "around" sAround ["ring", "places"]
  lStream : Df K mg "_law_stream" sLStream ["_law_script"]
  lNext : Df K mg "_law_next" sLNext ["_law_stream_here", "_law_many"]
  lIsInt : Df K mg "_law_is_integer" sLIsInt ["_law_actual"]
  lEq : Df K mg "_law_equal" sLEqual ["_law_actual", "_law_due"]
  lPlaces : Df K mg "_law_places" sLPlaces ["_law_stream_here", "_law_ring", "_law_most"]
  lByPl : Df K mg "_law_by_places" sLByPl ["_law_ring", "_law_places_here"]
  lRev : Df K mg "_law_reversed" sLRev ["_law_tournament"]
  lTold : Df K mg "_law_told" sLTold ["_law_which", "_law_ring", "_law_places_here", "_law_number"]
  lWide : Df K mg "_law_widened" sLWide ["_law_ring", "_law_places_here", "_law_at"]
  lAr : Df K mg "_law_around" sLAround ["_law_ring", "_law_places_here"]
theorem b_whole : BindOk "is_whole" "is_whole" sWhole ["value", "low", "high"] := fun _ _ _ _ _ _ us hl => match us, hl with | [_, _, _], _ => rfl
theorem b_ring : BindOk "is_ring" "is_ring" sRing ["value"] := fun _ _ _ _ _ _ us hl => match us, hl with | [_], _ => rfl
theorem b_arePl : BindOk "are_places" "are_places" sArePl ["ring", "value"] := fun _ _ _ _ _ _ us hl => match us, hl with | [_, _], _ => rfl
theorem b_ahead : BindOk "is_ahead" "is_ahead" sAhead ["ring", "one", "other"] := fun _ _ _ _ _ _ us hl => match us, hl with | [_, _, _], _ => rfl
theorem b_tourOf : BindOk "tournament_of" "tournament_of" sTourOf ["ring", "places"] := fun _ _ _ _ _ _ us hl => match us, hl with | [_, _], _ => rfl
theorem b_check : BindOk "check_places" "check_places" sCheck ["ring", "places"] := fun _ _ _ _ _ _ us hl => match us, hl with | [_, _], _ => rfl
theorem b_beaten : BindOk "beaten" "beaten" sBeaten ["ring", "places"] := fun _ _ _ _ _ _ us hl => match us, hl with | [_, _], _ => rfl
theorem b_turned : BindOk "turned" "turned" sTurned ["ring", "places", "many"] := fun _ _ _ _ _ _ us hl => match us, hl with | [_, _, _], _ => rfl
theorem b_mir : BindOk "mirrored" "mirrored" sMirrored ["ring", "places"] := fun _ _ _ _ _ _ us hl => match us, hl with | [_, _], _ => rfl
theorem b_wide : BindOk "widened" "widened" sWidened ["ring", "places", "at"] := fun _ _ _ _ _ _ us hl => match us, hl with | [_, _, _], _ => rfl
theorem b_scal : BindOk "scaled" "scaled" sScaled ["ring", "places", "factor"] := fun _ _ _ _ _ _ us hl => match us, hl with | [_, _, _], _ => rfl
theorem b_around : BindOk "around" "around" sAround ["ring", "places"] := fun _ _ _ _ _ _ us hl => match us, hl with | [_, _], _ => rfl
theorem b_lStream : BindOk "_law_stream" "_law_stream" sLStream ["_law_script"] := fun _ _ _ _ _ _ us hl => match us, hl with | [_], _ => rfl
theorem b_lNext : BindOk "_law_next" "_law_next" sLNext ["_law_stream_here", "_law_many"] := fun _ _ _ _ _ _ us hl => match us, hl with | [_, _], _ => rfl
theorem b_lIsInt : BindOk "_law_is_integer" "_law_is_integer" sLIsInt ["_law_actual"] := fun _ _ _ _ _ _ us hl => match us, hl with | [_], _ => rfl
theorem b_lEq : BindOk "_law_equal" "_law_equal" sLEqual ["_law_actual", "_law_due"] := fun _ _ _ _ _ _ us hl => match us, hl with | [_, _], _ => rfl
theorem b_lPlaces : BindOk "_law_places" "_law_places" sLPlaces ["_law_stream_here", "_law_ring", "_law_most"] := fun _ _ _ _ _ _ us hl => match us, hl with | [_, _, _], _ => rfl
theorem b_lByPl : BindOk "_law_by_places" "_law_by_places" sLByPl ["_law_ring", "_law_places_here"] := fun _ _ _ _ _ _ us hl => match us, hl with | [_, _], _ => rfl
theorem b_lRev : BindOk "_law_reversed" "_law_reversed" sLRev ["_law_tournament"] := fun _ _ _ _ _ _ us hl => match us, hl with | [_], _ => rfl
theorem b_lTold : BindOk "_law_told" "_law_told" sLTold ["_law_which", "_law_ring", "_law_places_here", "_law_number"] := fun _ _ _ _ _ _ us hl => match us, hl with | [_, _, _, _], _ => rfl
theorem b_lWide : BindOk "_law_widened" "_law_widened" sLWide ["_law_ring", "_law_places_here", "_law_at"] := fun _ _ _ _ _ _ us hl => match us, hl with | [_, _, _], _ => rfl
theorem b_lAr : BindOk "_law_around" "_law_around" sLAround ["_law_ring", "_law_places_here"] := fun _ _ _ _ _ _ us hl => match us, hl with | [_, _], _ => rfl
theorem b_init : BindOk "__init__" "TooLarge.__init__" sInit ["self", "what"] := fun _ _ _ _ _ _ us hl => match us, hl with | [_, _], _ => rfl
theorem kit_ref {C R : Addr} (i : PySem.W.isClsIn K R = true) (t : PySem.W.typeIn K (.ref R) = some (.type "type")) (s : PySem.W.subIn K (.ref C) (.ref R) = some true) : PySem.W.kitOne K (.ref C) (.ref R) = some true := by
  have e2 : ((PySem.W.clsIn K R).isSome && PySem.W.typeIn K (.ref R) == some (.type "type")) = true := by
    have i' : (PySem.W.clsIn K R).isSome = true := i
    rw [i', t] <;> rfl
  unfold PySem.W.kitOne
  split
  · rfl
  · show (if ((PySem.W.clsIn K R).isSome && PySem.W.typeIn K (.ref R) == some (.type "type")) = true then PySem.W.subIn K (.ref C) (.ref R) else none) = some true
    rw [if_pos e2]
    exact s
theorem ec_mk (X : K.In h) (G : h.Ns mainGlobals mg) {C CR fI : Addr} {nm q : Str} {N : Addr} {bs : List Value} {sn : List Str} {sub : List Value} {ab : Bool} {col : Option Bool} {dd : Option Addr} {m0 m1 m2 m3 m5 : Option Value}
    {od an : Option Addr} {sl : Array (Option Value)} {oc kV dc pm cd ct : Value}
    (aC : PySem.W.nsIn K mainGlobals "TooLarge" = some (some (.ref C))) (aR : PySem.W.nsIn K mainGlobals "RingError" = some (some (.ref CR)))
    (xL : K.lookup C = some (excClassObj nm q C N bs [.ref CR, .type "ValueError", .type "Exception", .type "BaseException", .type "object"] true sn sub ab col dd m0 m1 m2 m3 m5 "ValueError.__new__"))
    (sa : PySem.W.findIn K (.ref C) "__setattr__" = some (some (.builtin "object.__setattr__"))) (ga : PySem.W.findIn K (.ref C) "__getattribute__" = some (some (.builtin "BaseException.__getattribute__"))) (gg : PySem.W.findIn K (.ref C) "__getattr__" = some none) (nb : PySem.W.findIn K (.ref C) "what" = some none)
    (ac : PySem.W.findIn K (.ref C) "__class__" = some (some (.builtin "object.__class__"))) (hn : PySem.W.specialIn K (.builtin "object.__class__") "__get__" = some (some (.builtin "getset_descriptor.__get__"))) (ht : PySem.W.takesIn K (.builtin "object.__class__") = some true) (hm : PySem.W.mroIn K C (.type "object") = some true)
    (iC : PySem.W.findIn K (.ref C) "__init__" = some (some (.ref fI))) (tI : PySem.W.typeIn K (.ref fI) = some (.type "function"))
    (l : K.lookup fI = some ⟨oc, od, .func (PySem.W.fnOf "__init__" "TooLarge.__init__" (defArgs sInit) (defBody sInit) (defScope sInit) .none kV dc pm an cd ct), sl⟩) (c : PySem.W.codeIn K cd "TooLarge.__init__" = true) (k : PySem.W.keepIn K (.ref fI) = true)
    (kC : PySem.W.keepIn K (.ref C) = true) (eC : PySem.W.subIn K (.ref C) (.type "BaseException") = some true) (tC : PySem.W.typeIn K (.ref C) = some (.type "type")) (hC : PySem.W.hasDictIn K C = true) (sC : PySem.W.subIn K (.ref C) (.ref C) = some true)
    (iR : PySem.W.isClsIn K CR = true) (tR : PySem.W.typeIn K (.ref CR) = some (.type "type")) (sR : PySem.W.subIn K (.ref C) (.ref CR) = some true) :
    ∃ fdI : FuncData, Ec K mg C CR fI fdI :=
  ⟨_, { gC := PySem.W.mg_of X G aC, gR := PySem.W.mg_of X G aR, ox := ⟨⟨nm, q, N, bs, _, sn, sub, ab, col, dd, m0, m1, m2, m3, m5, xL, by rfl⟩, sa, eC, tC, kC⟩, xf := ⟨ga, gg, eC, hC⟩, ec := ⟨ga, gg, eC, hC, ac, hn, ht, hm⟩,
        no := nb, iC := iC, tI := tI, F := fun_mk l c k, b := (fun_mk (st := sInit) l c k).binds b_init, te := PySem.W.exm_ref eC hC tC sC, ki := kit_ref iR tR sR }⟩
theorem bn_mk (X : K.In h) (G : h.Ns mainGlobals mg) {t1 t2 : _} (z_isi : PySem.W.nsIn K mainGlobals "isinstance" = some none) (z_int : PySem.W.nsIn K mainGlobals "int" = some none) (z_bool : PySem.W.nsIn K mainGlobals "bool" = some none) (z_str : PySem.W.nsIn K mainGlobals "str" = some none) (z_tuple : PySem.W.nsIn K mainGlobals "tuple" = some none) (z_list : PySem.W.nsIn K mainGlobals "list" = some none) (z_len : PySem.W.nsIn K mainGlobals "len" = some none) (z_all : PySem.W.nsIn K mainGlobals "all" = some none) (z_any : PySem.W.nsIn K mainGlobals "any" = some none) (z_enum : PySem.W.nsIn K mainGlobals "enumerate" = some none) (z_range : PySem.W.nsIn K mainGlobals "range" = some none) (z_sorted : PySem.W.nsIn K mainGlobals "sorted" = some none) (z_abs : PySem.W.nsIn K mainGlobals "abs" = some none) (z_min : PySem.W.nsIn K mainGlobals "min" = some none)
    (z_ring : PySem.W.nsIn K mainGlobals "MOST_RING" = some (some (.int 31 t1))) (z_players : PySem.W.nsIn K mainGlobals "MOST_PLAYERS" = some (some (.int 8 t2))) : Bn mg :=
  { isi := PySem.W.mg_none_of X G z_isi, int := PySem.W.mg_none_of X G z_int, bool := PySem.W.mg_none_of X G z_bool, str := PySem.W.mg_none_of X G z_str, tuple := PySem.W.mg_none_of X G z_tuple, list := PySem.W.mg_none_of X G z_list, len := PySem.W.mg_none_of X G z_len, all := PySem.W.mg_none_of X G z_all, any := PySem.W.mg_none_of X G z_any, enum := PySem.W.mg_none_of X G z_enum, range := PySem.W.mg_none_of X G z_range, sorted := PySem.W.mg_none_of X G z_sorted, abs := PySem.W.mg_none_of X G z_abs, min := PySem.W.mg_none_of X G z_min, ring := ⟨_, PySem.W.mg_of X G z_ring, t1, rfl⟩, players := ⟨_, PySem.W.mg_of X G z_players, t2, rfl⟩ }
end
theorem all_mk {P : Program} {w : World} {K : PySem.W.Frag} {h : Heap} {mg : Str → Option Value} {fa f : Addr} (X : K.In h) (G : h.Ns mainGlobals mg) (hfa : mg "law" = some (.ref fa)) (D : Ds K mg) {C CR fI : Addr} (EX : ∃ fdI : FuncData, Ec K mg C CR fI fdI) (B : Bn mg)
    {oc : Value} {od an : Option Addr} {sl : Array (Option Value)} {kV dc pm cd ct : Value}
    (a : PySem.W.nsIn K mainGlobals "law" = some (some (.ref f))) (l : K.lookup f = some ⟨oc, od, .func (PySem.W.fnOf "law" "law" (defArgs sLaw) (defBody sLaw) (defScope sLaw) .none kV dc pm an cd ct), sl⟩) (c : PySem.W.codeIn K cd "law" = true) (k : PySem.W.keepIn K (.ref f) = true) :
    ∃ fd : FuncData, (∀ (s : Shared) (v : Value), BindsTo s fd ⟨[v], []⟩ [("_law_script", v)]) ∧ ∀ base : Heap, K.In base → base.Ns mainGlobals mg → FnOk P w K mg base L2.CX0 6 fa fd ["_law_script"] (spLaw K) := by
  have e := hfa.symm.trans (PySem.W.mg_of X G a)
  cases e
  obtain ⟨fdI, E⟩ := EX
  have F := fun_mk (st := sLaw) l c k
  refine ⟨PySem.W.fnOf "law" "law" (defArgs sLaw) (defBody sLaw) (defScope sLaw) .none kV dc pm an cd ct, fun s v => .of_eq rfl, fun base _ _ => ?_⟩
  have cW : Cal P w K mg base 1 "is_whole" (spD K gWhole) [] := cal_whole D.whole B
  have cR : Cal P w K mg base 2 "is_ring" (spD K gRing) [] := cal_ring D.ring B cW
  have cP : Cal P w K mg base 2 "are_places" (spD K gArePl) [] := cal_arePl D.arePl B cW
  have cC : Cal P w K mg base 3 "check_places" (spD K gCheck) [] := cal_check D.check cR cP
  have cA : Cal P w K mg base 1 "is_ahead" (spD K gAhead) [] := cal_ahead D.ahead
  have cT : Cal P w K mg base 2 "tournament_of" (spD K gTour) [] := cal_tourOf D.tourOf B cA
  have cN : Cal P w K mg base 1 "_law_next" (spNext K) [] := cal_next D.lNext B
  have cI : Cal P w K mg base 1 "_law_is_integer" (spD K gIsInt) [] := cal_isInt D.lIsInt B
  exact ok_law F B { stream := cal_stream D.lStream B, next := cN, places := cal_places D.lPlaces B cN, byPl := cal_byPl D.lByPl B, lAr := cal_lAr D.lAr B, eq := cal_eq D.lEq B cI 3, beaten := cal_beaten D.beaten cC cT, around := cal_around D.around B cC, turned := cal_turned D.turned B cW cC, mir := cal_mir D.mir B cC, rev := cal_rev D.lRev B, lWide := cal_lWide D.lWide B, told := cal_told D.lTold E B (rz_wide D.wide B E cW cC) (rz_scale D.scal B E cW cC) }
end Rbx
open PySem PySem.W PyProof.Rows
set_option Elab.async false
set_option linter.all false
set_option maxRecDepth 100000 in
set_option maxHeartbeats 0 in
theorem PySem.Challenge.cw_ringbeats_k02_whole_places_on_rings_holds : PySem.Challenge.rw_ringbeats_k02_whole_places_on_rings.Holds := by
  w_on; o_law; k_head; (case hw => w_witness2)
  k_fill
  refine L2.walk_of (l := PySem.Challenge.rw_ringbeats_k02_whole_places_on_rings) (n := 63) (k := 6) (x := "_law_script") (CX := fun _ => L2.CX0) (sp := fun w => Rbx.spLaw _) rfl (by decide) rfl ⟨rfl, by decide, by decide⟩ (fun w h Y => PySem.W.kIn_of Y) ?F (fun _ _ a ns hl _ hS => ⟨a, ns, rfl, hS, fun _ => rfl⟩) (fun _ _ _ _ _ h => h)
  case F =>
    intro w mg fa h KX G hmg
    refine' Rbx.all_mk KX G hmg ⟨Rbx.df_mk KX G ?a_whole ?l_whole ?c_whole ?k_whole Rbx.b_whole, Rbx.df_mk KX G ?a_ring ?l_ring ?c_ring ?k_ring Rbx.b_ring, Rbx.df_mk KX G ?a_arePl ?l_arePl ?c_arePl ?k_arePl Rbx.b_arePl, Rbx.df_mk KX G ?a_ahead ?l_ahead ?c_ahead ?k_ahead Rbx.b_ahead, Rbx.df_mk KX G ?a_tourOf ?l_tourOf ?c_tourOf ?k_tourOf Rbx.b_tourOf, Rbx.df_mk KX G ?a_check ?l_check ?c_check ?k_check Rbx.b_check, Rbx.df_mk KX G ?a_beaten ?l_beaten ?c_beaten ?k_beaten Rbx.b_beaten, Rbx.df_mk KX G ?a_turned ?l_turned ?c_turned ?k_turned Rbx.b_turned, Rbx.df_mk KX G ?a_mir ?l_mir ?c_mir ?k_mir Rbx.b_mir, Rbx.df_mk KX G ?a_wide ?l_wide ?c_wide ?k_wide Rbx.b_wide, Rbx.df_mk KX G ?a_scal ?l_scal ?c_scal ?k_scal Rbx.b_scal, Rbx.df_mk KX G ?a_around ?l_around ?c_around ?k_around Rbx.b_around, Rbx.df_mk KX G ?a_lStream ?l_lStream ?c_lStream ?k_lStream Rbx.b_lStream, Rbx.df_mk KX G ?a_lNext ?l_lNext ?c_lNext ?k_lNext Rbx.b_lNext, Rbx.df_mk KX G ?a_lIsInt ?l_lIsInt ?c_lIsInt ?k_lIsInt Rbx.b_lIsInt, Rbx.df_mk KX G ?a_lEq ?l_lEq ?c_lEq ?k_lEq Rbx.b_lEq, Rbx.df_mk KX G ?a_lPlaces ?l_lPlaces ?c_lPlaces ?k_lPlaces Rbx.b_lPlaces, Rbx.df_mk KX G ?a_lByPl ?l_lByPl ?c_lByPl ?k_lByPl Rbx.b_lByPl, Rbx.df_mk KX G ?a_lRev ?l_lRev ?c_lRev ?k_lRev Rbx.b_lRev, Rbx.df_mk KX G ?a_lTold ?l_lTold ?c_lTold ?k_lTold Rbx.b_lTold, Rbx.df_mk KX G ?a_lWide ?l_lWide ?c_lWide ?k_lWide Rbx.b_lWide, Rbx.df_mk KX G ?a_lAr ?l_lAr ?c_lAr ?k_lAr Rbx.b_lAr⟩ (Rbx.ec_mk KX G ?e_aC ?e_aR ?e_xL ?e_sa ?e_ga ?e_gg ?e_nb ?e_ac ?e_hn ?e_ht ?e_hm ?e_iC ?e_tI ?e_l ?e_c ?e_k ?e_kC ?e_eC ?e_tC ?e_hC ?e_sC ?e_iR ?e_tR ?e_sR) (Rbx.bn_mk KX G ?z_isi ?z_int ?z_bool ?z_str ?z_tuple ?z_list ?z_len ?z_all ?z_any ?z_enum ?z_range ?z_sorted ?z_abs ?z_min ?z_ring ?z_players) ?a0 ?l0 ?c0 ?k0
    (case a_whole => k_is); (case l_whole => k_is); (case c_whole => k_is); (case k_whole => k_is)
    (case a_ring => k_is); (case l_ring => k_is); (case c_ring => k_is); (case k_ring => k_is)
    (case a_arePl => k_is); (case l_arePl => k_is); (case c_arePl => k_is); (case k_arePl => k_is)
    (case a_ahead => k_is); (case l_ahead => k_is); (case c_ahead => k_is); (case k_ahead => k_is)
    (case a_tourOf => k_is); (case l_tourOf => k_is); (case c_tourOf => k_is); (case k_tourOf => k_is)
    (case a_check => k_is); (case l_check => k_is); (case c_check => k_is); (case k_check => k_is)
    (case a_beaten => k_is); (case l_beaten => k_is); (case c_beaten => k_is); (case k_beaten => k_is)
    (case a_turned => k_is); (case l_turned => k_is); (case c_turned => k_is); (case k_turned => k_is)
    (case a_mir => k_is); (case l_mir => k_is); (case c_mir => k_is); (case k_mir => k_is)
    (case a_wide => k_is); (case l_wide => k_is); (case c_wide => k_is); (case k_wide => k_is)
    (case a_scal => k_is); (case l_scal => k_is); (case c_scal => k_is); (case k_scal => k_is)
    (case a_around => k_is); (case l_around => k_is); (case c_around => k_is); (case k_around => k_is)
    (case a_lStream => k_is); (case l_lStream => k_is); (case c_lStream => k_is); (case k_lStream => k_is)
    (case a_lNext => k_is); (case l_lNext => k_is); (case c_lNext => k_is); (case k_lNext => k_is)
    (case a_lIsInt => k_is); (case l_lIsInt => k_is); (case c_lIsInt => k_is); (case k_lIsInt => k_is)
    (case a_lEq => k_is); (case l_lEq => k_is); (case c_lEq => k_is); (case k_lEq => k_is)
    (case a_lPlaces => k_is); (case l_lPlaces => k_is); (case c_lPlaces => k_is); (case k_lPlaces => k_is)
    (case a_lByPl => k_is); (case l_lByPl => k_is); (case c_lByPl => k_is); (case k_lByPl => k_is)
    (case a_lRev => k_is); (case l_lRev => k_is); (case c_lRev => k_is); (case k_lRev => k_is)
    (case a_lTold => k_is); (case l_lTold => k_is); (case c_lTold => k_is); (case k_lTold => k_is)
    (case a_lWide => k_is); (case l_lWide => k_is); (case c_lWide => k_is); (case k_lWide => k_is)
    (case a_lAr => k_is); (case l_lAr => k_is); (case c_lAr => k_is); (case k_lAr => k_is)
    (case e_aC => k_is); (case e_aR => k_is); (case e_xL => k_is); (case e_sa => k_is); (case e_ga => k_is); (case e_gg => k_is); (case e_nb => k_is); (case e_ac => k_is); (case e_hn => k_is); (case e_ht => k_is); (case e_hm => k_is); (case e_iC => k_is); (case e_tI => k_is); (case e_l => k_is); (case e_c => k_is); (case e_k => k_is); (case e_kC => k_is); (case e_eC => k_is); (case e_tC => k_is); (case e_hC => k_is); (case e_sC => first | rfl | k_is); (case e_iR => k_is); (case e_tR => k_is); (case e_sR => k_is)
    (case z_isi => k_is); (case z_int => k_is); (case z_bool => k_is); (case z_str => k_is); (case z_tuple => k_is); (case z_list => k_is); (case z_len => k_is); (case z_all => k_is); (case z_any => k_is); (case z_enum => k_is); (case z_range => k_is); (case z_sorted => k_is); (case z_abs => k_is); (case z_min => k_is); (case z_ring => k_is); (case z_players => k_is)
    (case a0 => k_is); (case l0 => k_is); (case c0 => k_is); (case k0 => k_is)
