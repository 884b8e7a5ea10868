import PyProof.Rows.All
import Wide.All
import OpenK.AllK
import Wide.FinOn
import HandS.ForMost
import HandS.ForExc
import HandS.Walk
import HandS.IsInst
import HandS.Conv
import HandS.Style
import HandS.TupAny
import KE.GoesEnum
import KE.GoesZip
import HandS.Iter
import HandS.Exc
import HandS.ExcIs
import HandS.Hot
import HandS.HotCalls
import HandS.WordsExc
import HandS.ExcCtx
import HandS.Comp
import PySem.Challenge.RW_aisleturns_k41_whole_what_was_seen
set_option Elab.async false
set_option linter.all false
set_option maxRecDepth 100000
set_option maxHeartbeats 8000000
/-! plain lists, no program: where folk stand, who stays behind a turn, in which turn each one stows -/
namespace Ai

/-- one who stands in the aisle: the place in the queue, the row -/
abbrev Pr := Nat × Int
/-- where one of the row r stands behind one at a -/
def put (a r : Int) : Int := if a - 1 < r then a - 1 else r
theorem put_le (a r : Int) : put a r ≤ r := by unfold put; split <;> omega
theorem put_eq {a r : Int} : put a r = r ↔ r < a := by unfold put; split <;> omega
theorem put_lt {a r : Int} : put a r < r ↔ ¬ r < a := by unfold put; split <;> omega
theorem put_sit {a r : Int} (h : r < a) : put a r = r := put_eq.mpr h
theorem put_wait {a r : Int} (h : ¬ r < a) : put a r = a - 1 := by unfold put; split <;> omega

def stay : Int → List Pr → List Pr
  | _, [] => []
  | a, (p, r) :: P => if r < a then stay r P else (p, r) :: stay (a - 1) P
def spots : Int → List Pr → List Int
  | _, [] => []
  | a, (_, r) :: P => put a r :: spots (put a r) P
/-- all places of the queue, none for who is not there -/
def stL (th : Nat → Bool) : Int → Nat → List Int → List (Option Int)
  | _, _, [] => []
  | a, i, r :: q => if th i = true then some (put a r) :: stL th (put a r) (i + 1) q else none :: stL th a (i + 1) q
def en : Nat → List Int → List Pr
  | _, [] => []
  | i, r :: q => (i, r) :: en (i + 1) q

theorem en_fst (q : List Int) : ∀ i, (en i q).map Prod.fst = List.range' i q.length := by
  induction q with
  | nil => intro i; rfl
  | cons r q ih => intro i; simp [en, ih, List.range'_succ]
theorem en_snd (q : List Int) : ∀ i, (en i q).map Prod.snd = q := by
  induction q with
  | nil => intro i; rfl
  | cons r q ih => intro i; simp [en, ih]
theorem en_length (q : List Int) (i : Nat) : (en i q).length = q.length := by
  have := congrArg List.length (en_snd q i)
  simpa using this
theorem en_nodup (q : List Int) (i : Nat) : ((en i q).map Prod.fst).Nodup := by
  rw [en_fst]; exact List.nodup_range'
theorem en_mem {q : List Int} : ∀ {i p : Nat} {r : Int}, (p, r) ∈ en i q → i ≤ p ∧ p < i + q.length ∧ q[p - i]? = some r := by
  induction q with
  | nil => intro i p r h; simp [en] at h
  | cons a q ih =>
    intro i p r h
    simp only [en, List.mem_cons, Prod.mk.injEq] at h
    rcases h with ⟨rfl, rfl⟩ | h
    · simp
    · obtain ⟨h1, h2, h3⟩ := ih h
      refine ⟨by omega, by simp; omega, ?_⟩
      have : p - i = (p - (i + 1)) + 1 := by omega
      rw [this]; simpa using h3
theorem en_app (a b : List Int) : ∀ i, en i (a ++ b) = en i a ++ en (i + a.length) b := by
  induction a with
  | nil => intro i; simp [en]
  | cons r a ih =>
    intro i
    simp only [List.cons_append, en, ih, List.length_cons]
    rw [show i + 1 + a.length = i + (a.length + 1) by omega]

theorem stay_sub : ∀ (P : List Pr) (a : Int), (stay a P).Sublist P
  | [], _ => by simp [stay]
  | (p, r) :: P, a => by
    simp only [stay]
    split
    · exact (stay_sub P r).cons _
    · exact (stay_sub P (a - 1)).cons₂ _
theorem stay_mono {A B : List Pr} (h : A.Sublist B) : ∀ {a b : Int}, b ≤ a → (stay a A).Sublist (stay b B) := by
  induction h with
  | slnil => intro a b _; simp [stay]
  | @cons A B x h ih =>
    intro a b hab
    obtain ⟨p, r⟩ := x
    simp only [stay]
    split
    · exact ih (by omega)
    · exact (ih (by omega)).cons _
  | @cons_cons A B x h ih =>
    intro a b hab
    obtain ⟨p, r⟩ := x
    simp only [stay]
    by_cases h1 : r < b
    · rw [if_pos h1, if_pos (by omega)]
      exact ih (Int.le_refl _)
    · rw [if_neg h1]
      by_cases h2 : r < a
      · rw [if_pos h2]
        exact (ih (by omega)).cons _
      · rw [if_neg h2]
        exact (ih (by omega)).cons₂ _
theorem stay_less {P : List Pr} {a : Int} (h : P ≠ []) (hr : ∀ x ∈ P, x.2 < a) : (stay a P).length < P.length := by
  cases P with
  | nil => exact absurd rfl h
  | cons x P =>
    obtain ⟨p, r⟩ := x
    simp only [stay]
    rw [if_pos (hr (p, r) List.mem_cons_self)]
    have := (stay_sub P r).length_le
    simp only [List.length_cons]; omega
/-- where it begins makes no difference -/
theorem stay_from {P : List Pr} {a b : Int} (ha : ∀ x ∈ P, x.2 < a) (hb : ∀ x ∈ P, x.2 < b) : stay a P = stay b P := by
  cases P with
  | nil => rfl
  | cons x P =>
    obtain ⟨p, r⟩ := x
    simp only [stay]
    rw [if_pos (ha (p, r) List.mem_cons_self), if_pos (hb (p, r) List.mem_cons_self)]
theorem spots_from {P : List Pr} {a b : Int} (ha : ∀ x ∈ P, x.2 < a) (hb : ∀ x ∈ P, x.2 < b) : spots a P = spots b P := by
  cases P with
  | nil => rfl
  | cons x P =>
    obtain ⟨p, r⟩ := x
    simp only [spots]
    rw [put_sit (ha (p, r) List.mem_cons_self), put_sit (hb (p, r) List.mem_cons_self)]
theorem spots_length : ∀ (P : List Pr) (a : Int), (spots a P).length = P.length
  | [], _ => rfl
  | (p, r) :: P, a => by simp [spots, spots_length P]
/-- the last one's place -/
def fin : Int → List Pr → Int
  | a, [] => a
  | a, (_, r) :: P => fin (put a r) P
theorem stay_app : ∀ (P Q : List Pr) (a : Int), stay a (P ++ Q) = stay a P ++ stay (fin a P) Q
  | [], _, _ => rfl
  | (p, r) :: P, Q, a => by
    simp only [List.cons_append, stay, fin]
    by_cases h : r < a
    · rw [if_pos h, if_pos h, put_sit h, stay_app]
    · rw [if_neg h, if_neg h, put_wait h, stay_app]; rfl
theorem fin_app : ∀ (P Q : List Pr) (a : Int), fin a (P ++ Q) = fin (fin a P) Q
  | [], _, _ => rfl
  | (p, r) :: P, Q, a => by simp only [List.cons_append, fin, fin_app]

/-- who is there in the turn t + 1 -/
def S (q : List Int) : Nat → List Pr
  | 0 => en 0 q
  | t + 1 => stay 100 (S q t)
def Rows (q : List Int) : Prop := ∀ r ∈ q, 1 ≤ r ∧ r ≤ 99
instance (q : List Int) : Decidable (Rows q) := by unfold Rows; infer_instance

theorem S_sub0 (q : List Int) : ∀ t, (S q t).Sublist (en 0 q)
  | 0 => List.Sublist.refl _
  | t + 1 => (stay_sub _ _).trans (S_sub0 q t)
theorem S_sub (q : List Int) (t : Nat) : (S q (t + 1)).Sublist (S q t) := stay_sub _ _
theorem S_mem {q : List Int} {t p : Nat} {r : Int} (h : (p, r) ∈ S q t) : p < q.length ∧ q[p]? = some r := by
  have := en_mem ((S_sub0 q t).subset h)
  simpa using this.2
theorem S_row {q : List Int} (hq : Rows q) {t : Nat} {x : Pr} (h : x ∈ S q t) : 1 ≤ x.2 ∧ x.2 ≤ 99 := by
  obtain ⟨p, r⟩ := x
  exact hq r (List.mem_of_getElem? (S_mem h).2)
theorem S_lt {q : List Int} (hq : Rows q) {t : Nat} : ∀ x ∈ S q t, x.2 < (100 : Int) := fun x h => by
  have := S_row hq h; omega
theorem S_lt' {q : List Int} (hq : Rows q) {t : Nat} : ∀ x ∈ S q t, x.2 < (1000 : Int) := fun x h => by
  have := S_row hq h; omega
theorem S_nodup (q : List Int) (t : Nat) : ((S q t).map Prod.fst).Nodup := (en_nodup q 0).sublist ((S_sub0 q t).map _)
theorem S_len {q : List Int} (hq : Rows q) : ∀ t, (S q t).length ≤ q.length - t
  | 0 => by simp [S, en_length]
  | t + 1 => by
    have ih := S_len hq t
    by_cases h : S q t = []
    · simp [S, h, stay]
    · have := stay_less h (S_lt hq)
      simp only [S]; omega
theorem S_end {q : List Int} (hq : Rows q) {t : Nat} (h : q.length ≤ t) : S q t = [] := by
  have := S_len hq t
  exact List.eq_nil_of_length_eq_zero (by omega)

/-- what holds so long -/
theorem count_anti (n : Nat) : ∀ (f : Nat → Bool), (∀ t, f (t + 1) = true → f t = true) → f n = false → ∀ t, f t = true ↔ t < ((List.range n).filter f).length := by
  induction n with
  | zero =>
    intro f h hn t
    have all : ∀ t, f t = true → f 0 = true := fun t => by
      induction t with
      | zero => exact id
      | succ t ih => exact fun z => ih (h t z)
    constructor
    · intro z; rw [all t z] at hn; cases hn
    · intro z; simp at z
  | succ n ih =>
    intro f h hn t
    rw [List.range_succ, List.filter_append]
    cases e : f n with
    | false =>
      have := ih f h e t
      simpa [e] using this
    | true =>
      have down : ∀ k t, f (t + k) = true → f t = true := fun k => by
        induction k with
        | zero => exact fun t z => z
        | succ k ihk => exact fun t z => ihk t (h _ z)
      have low : ∀ t, t ≤ n → f t = true := fun t ht => down (n - t) t (by rw [show t + (n - t) = n by omega]; exact e)
      have e1 : (List.range n).filter f = List.range n := List.filter_eq_self.mpr fun t ht => low t (by have := List.mem_range.mp ht; omega)
      rw [e1]
      simp only [List.filter_cons, e, if_true, List.filter_nil, List.length_append, List.length_range, List.length_singleton]
      constructor
      · intro z
        apply Decidable.byContradiction
        intro hh
        have : f (n + 1) = true := down (t - (n + 1)) (n + 1) (by rw [show n + 1 + (t - (n + 1)) = t by omega]; exact z)
        rw [this] at hn; cases hn
      · intro z; exact low t (by omega)

def inS (q : List Int) (p t : Nat) : Bool := decide (p ∈ (S q t).map Prod.fst)
/-- in which turn the one at the place p stows -/
def Tn (q : List Int) (p : Nat) : Nat := ((List.range q.length).filter (inS q p)).length
theorem inS_iff {q : List Int} {p t : Nat} : inS q p t = true ↔ p ∈ (S q t).map Prod.fst := by unfold inS; exact decide_eq_true_iff
theorem mem_iff {q : List Int} (hq : Rows q) {p t : Nat} : p ∈ (S q t).map Prod.fst ↔ t < Tn q p := by
  rw [← inS_iff]
  refine count_anti q.length (inS q p) (fun t h => ?_) ?_ t
  · rw [inS_iff] at h ⊢
    exact ((S_sub q t).map Prod.fst).subset h
  · unfold inS; rw [S_end hq (Nat.le_refl _)]; simp
theorem T_le (q : List Int) (p : Nat) : Tn q p ≤ q.length := by
  unfold Tn
  have := List.length_filter_le (inS q p) (List.range q.length)
  simpa using this
theorem T_pos {q : List Int} (hq : Rows q) {p : Nat} (h : p < q.length) : 0 < Tn q p := by
  rw [← mem_iff hq]
  show p ∈ (en 0 q).map Prod.fst
  rw [en_fst]; simp [List.mem_range'_1]; exact h
theorem T_zero {q : List Int} (hq : Rows q) {p : Nat} (h : q.length ≤ p) : Tn q p = 0 := by
  apply Nat.eq_zero_of_not_pos
  intro z
  have := (mem_iff hq).mpr z
  obtain ⟨x, hx, e⟩ := List.mem_map.mp this
  have := (S_mem (p := x.1) (r := x.2) hx).1
  omega
theorem T_eq {q q' : List Int} (hq : Rows q) (hq' : Rows q') {p p' : Nat} (h : ∀ t, p ∈ (S q t).map Prod.fst ↔ p' ∈ (S q' t).map Prod.fst) : Tn q p = Tn q' p' := by
  have e : ∀ t, t < Tn q p ↔ t < Tn q' p' := fun t => by rw [← mem_iff hq, ← mem_iff hq']; exact h t
  have h1 := e (Tn q p)
  have h2 := e (Tn q' p')
  omega

theorem sub_filter {l L : List Pr} (h : l.Sublist L) : (L.map Prod.fst).Nodup → l = L.filter (fun x => decide (x.1 ∈ l.map Prod.fst)) := by
  induction h with
  | slnil => intro _; rfl
  | @cons l L x h ih =>
    intro nd
    rw [List.map_cons, List.nodup_cons] at nd
    rw [List.filter_cons, if_neg]
    · exact ih nd.2
    · simp only [decide_eq_true_eq]
      exact fun z => nd.1 ((h.map Prod.fst).subset z)
  | @cons_cons l L x h ih =>
    intro nd
    rw [List.map_cons, List.nodup_cons] at nd
    rw [List.filter_cons, if_pos (by simp)]
    congr 1
    have e := ih nd.2
    refine e.trans (List.filter_congr fun y hy => ?_)
    have : y.1 ≠ x.1 := fun z => nd.1 (List.mem_map.mpr ⟨y, hy, z⟩)
    simp [this]
theorem S_filter {q : List Int} (hq : Rows q) (t : Nat) : S q t = (en 0 q).filter (fun x => decide (t < Tn q x.1)) := by
  refine (sub_filter (S_sub0 q t) (en_nodup q 0)).trans (List.filter_congr fun x _ => ?_)
  exact decide_eq_decide.mpr (mem_iff hq)

/-- one place of all -/
theorem stL_at {th : Nat → Bool} : ∀ {q : List Int} {a : Int} {i j : Nat} {r : Int}, q[j]? = some r → th (i + j) = true →
    ∃ l, (stL th a i q)[j]? = some (some l) ∧ l ≤ r ∧ (l = r ↔ (i + j) ∉ (stay a ((en i q).filter (fun x => th x.1))).map Prod.fst) := by
  intro q
  induction q with
  | nil => intro a i j r h; simp at h
  | cons b q ih =>
    intro a i j r h ht
    have out : ∀ c, i ∉ (stay c ((en (i + 1) q).filter (fun x => th x.1))).map Prod.fst := fun c z => by
      obtain ⟨x, hx, e⟩ := List.mem_map.mp z
      have := (en_mem (p := x.1) (r := x.2) (List.mem_filter.mp ((stay_sub _ _).subset hx)).1).1
      omega
    cases j with
    | zero =>
      simp only [List.getElem?_cons_zero, Option.some.injEq] at h
      subst h
      simp only [Nat.add_zero] at ht ⊢
      refine ⟨put a b, by simp [stL, ht], put_le a b, ?_⟩
      simp only [en, List.filter_cons, ht, if_true, stay]
      by_cases hb : b < a
      · rw [if_pos hb, put_eq]
        exact ⟨fun _ => out b, fun _ => hb⟩
      · rw [if_neg hb, put_eq]
        simp [hb]
    | succ j =>
      simp only [List.getElem?_cons_succ] at h
      have ht' : th (i + 1 + j) = true := by rw [show i + 1 + j = i + (j + 1) by omega]; exact ht
      by_cases hi : th i = true
      · obtain ⟨l, h1, h2, h3⟩ := ih (a := put a b) (i := i + 1) h ht'
        refine ⟨l, by simp [stL, hi, h1], h2, ?_⟩
        rw [h3]
        simp only [en, List.filter_cons, hi, if_true, stay]
        rw [show i + 1 + j = i + (j + 1) by omega]
        by_cases hb : b < a
        · rw [if_pos hb, put_sit hb]
        · rw [if_neg hb, put_wait hb]
          simp
      · obtain ⟨l, h1, h2, h3⟩ := ih (a := a) (i := i + 1) h ht'
        refine ⟨l, by simp [stL, hi, h1], h2, ?_⟩
        rw [h3]
        simp only [en, List.filter_cons, hi]
        rw [show i + 1 + j = i + (j + 1) by omega]
        simp
theorem stL_none {th : Nat → Bool} : ∀ {q : List Int} {a : Int} {i j : Nat}, j < q.length → th (i + j) = false → (stL th a i q)[j]? = some none := by
  intro q
  induction q with
  | nil => intro a i j h; simp at h
  | cons b q ih =>
    intro a i j h ht
    cases j with
    | zero =>
      simp only [Nat.add_zero] at ht
      simp [stL, ht]
    | succ j =>
      have ht' : th (i + 1 + j) = false := by rw [show i + 1 + j = i + (j + 1) by omega]; exact ht
      simp only [List.length_cons] at h
      by_cases hi : th i = true
      · simp [stL, hi, ih (a := put a b) (i := i + 1) (show j < q.length by omega) ht']
      · simp [stL, hi, ih (a := a) (i := i + 1) (show j < q.length by omega) ht']
theorem stL_length {th : Nat → Bool} : ∀ (q : List Int) (a : Int) (i : Nat), (stL th a i q).length = q.length
  | [], _, _ => rfl
  | b :: q, a, i => by
    simp only [stL]
    split <;> simp [stL_length q]
theorem stL_congr {th th' : Nat → Bool} : ∀ (q : List Int) (a : Int) (i : Nat), (∀ j, j < q.length → th (i + j) = th' (i + j)) → stL th a i q = stL th' a i q
  | [], _, _, _ => rfl
  | b :: q, a, i, h => by
    have h0 := h 0 (by simp)
    have ih := fun c => stL_congr (th := th) (th' := th') q c (i + 1) fun j hj => by
      have := h (j + 1) (by simp; omega)
      rw [show i + 1 + j = i + (j + 1) by omega]; exact this
    simp only [Nat.add_zero] at h0
    simp only [stL, h0, ih]

/-- who is there in the turn t + 1, as a test of places -/
def thr (q : List Int) (t : Nat) : Nat → Bool := fun p => decide (t < Tn q p)
/-- the program's own look at who stows -/
theorem stow_iff {q : List Int} (hq : Rows q) {t p : Nat} {r : Int} (hr : q[p]? = some r) (ht : t < Tn q p) :
    ∃ l, (stL (thr q t) 100 0 q)[p]? = some (some l) ∧ l ≤ r ∧ (l = r ↔ Tn q p = t + 1) := by
  obtain ⟨l, h1, h2, h3⟩ := stL_at (th := thr q t) (a := 100) (i := 0) hr (by simp [thr, ht])
  refine ⟨l, h1, h2, ?_⟩
  rw [h3]
  have e : (en 0 q).filter (fun x => thr q t x.1) = S q t := (S_filter hq t).symm
  rw [e]
  have := mem_iff hq (p := p) (t := t + 1)
  simp only [S] at this
  rw [Nat.zero_add, this]
  omega

/-- how many turns it takes -/
def LL (q : List Int) : Nat := ((List.range q.length).filter (fun t => decide (S q t ≠ []))).length
theorem LL_iff {q : List Int} (hq : Rows q) {t : Nat} : S q t ≠ [] ↔ t < LL q := by
  have := count_anti q.length (fun t => decide (S q t ≠ [])) (fun t h => ?_) ?_ t
  · rw [decide_eq_true_iff] at this
    exact this
  · simp only [decide_eq_true_eq] at h ⊢
    intro z
    have := S_sub q t
    rw [z] at this
    exact h (List.sublist_nil.mp this)
  · simp [S_end hq (Nat.le_refl _)]
theorem LL_le (q : List Int) : LL q ≤ q.length := by
  unfold LL
  have := List.length_filter_le (fun t => decide (S q t ≠ [])) (List.range q.length)
  simpa using this
theorem T_le_LL {q : List Int} (hq : Rows q) (p : Nat) : Tn q p ≤ LL q := by
  apply Nat.le_of_not_lt
  intro h
  have h1 := (mem_iff hq (p := p) (t := LL q)).mpr h
  have h2 : ¬ S q (LL q) ≠ [] := fun z => Nat.lt_irrefl _ ((LL_iff hq).mp z)
  simp only [ne_eq, Decidable.not_not] at h2
  rw [h2] at h1
  simp at h1
theorem T_max {q : List Int} (hq : Rows q) (h : 0 < LL q) : ∃ p, p < q.length ∧ Tn q p = LL q := by
  have h1 : S q (LL q - 1) ≠ [] := (LL_iff hq).mpr (by omega)
  obtain ⟨x, hx⟩ := List.exists_mem_of_ne_nil _ h1
  refine ⟨x.1, (S_mem (p := x.1) (r := x.2) hx).1, ?_⟩
  have h2 := (mem_iff hq).mp (List.mem_map.mpr ⟨x, hx, rfl⟩)
  have h3 := T_le_LL hq x.1
  omega
theorem LL_zero {q : List Int} (hq : Rows q) : LL q = 0 ↔ q = [] := by
  constructor
  · intro h
    cases q with
    | nil => rfl
    | cons r q =>
      have := (LL_iff hq (t := 0)).mp (by simp [S, en])
      omega
  · rintro rfl; rfl
/-- the turns, by places -/
def TT (q : List Int) : List Int := (List.range q.length).map fun p => (Tn q p : Int)
theorem TT_length (q : List Int) : (TT q).length = q.length := by simp [TT]
theorem TT_at {q : List Int} {p : Nat} (h : p < q.length) : (TT q)[p]? = some (Tn q p : Int) := by
  simp [TT, List.getElem?_map, List.getElem?_range h]

/-! the program's own turns, turn by turn -/
/-- the places of who is there -/
def pls (q : List Int) (t : Nat) : List Int := (S q t).map fun x => (x.1 : Int)
theorem pls_mem {q : List Int} (hq : Rows q) {t p : Nat} : ((p : Int) ∈ pls q t) ↔ t < Tn q p := by
  rw [← mem_iff hq]
  unfold pls
  constructor
  · intro h
    obtain ⟨x, hx, e⟩ := List.mem_map.mp h
    exact List.mem_map.mpr ⟨x, hx, by omega⟩
  · intro h
    obtain ⟨x, hx, e⟩ := List.mem_map.mp h
    exact List.mem_map.mpr ⟨x, hx, by omega⟩
theorem pls_zero (q : List Int) : pls q 0 = (List.range q.length).map fun i : Nat => (i : Int) := by
  unfold pls
  show ((en 0 q).map fun x => (x.1 : Int)) = _
  have : ((en 0 q).map fun x => (x.1 : Int)) = ((en 0 q).map Prod.fst).map fun i : Nat => (i : Int) := by simp [List.map_map, Function.comp_def]
  rw [this, en_fst, List.range_eq_range']
theorem pls_nil {q : List Int} (hq : Rows q) {t : Nat} : pls q t = [] ↔ ¬ t < LL q := by
  rw [← LL_iff hq]
  unfold pls
  simp
theorem pls_filter {q : List Int} (hq : Rows q) (t : Nat) : pls q t = ((List.range q.length).filter (thr q t)).map fun i : Nat => (i : Int) := by
  unfold pls
  rw [S_filter hq t]
  have e : ((en 0 q).filter (fun x => decide (t < Tn q x.1))).map (fun x => (x.1 : Int)) = (((en 0 q).map Prod.fst).filter (thr q t)).map fun i : Nat => (i : Int) := by
    rw [List.filter_map, List.map_map]
    rfl
  rw [e, en_fst, List.range_eq_range']
/-- found, behind t turns -/
def FF (q : List Int) (t : Nat) : List Int := (List.range q.length).map fun p => if t < Tn q p then 0 else (Tn q p : Int)
theorem FF_length (q : List Int) (t : Nat) : (FF q t).length = q.length := by simp [FF]
theorem FF_zero {q : List Int} (hq : Rows q) : FF q 0 = List.replicate q.length 0 := by
  refine List.ext_getElem (by simp [FF]) fun i h1 h2 => ?_
  simp only [FF, List.length_map, List.length_range] at h1
  simp [FF, T_pos hq h1]
theorem FF_end {q : List Int} (hq : Rows q) {t : Nat} (h : LL q ≤ t) : FF q t = TT q := by
  unfold FF TT
  refine List.map_congr_left fun p _ => ?_
  have := T_le_LL hq p
  rw [if_neg (by omega)]
theorem FF_at {q : List Int} {t p : Nat} (h : p < q.length) : (FF q t)[p]? = some (if t < Tn q p then 0 else (Tn q p : Int)) := by
  simp [FF, List.getElem?_map, List.getElem?_range h]
/-- .. within the turn t + 1, when the first j of those there were looked at -/
def GG (q : List Int) (t j : Nat) : List Int := (List.range q.length).map fun p : Nat => if (p : Int) ∈ (pls q t).take j then (if t + 1 < Tn q p then 0 else (Tn q p : Int)) else (if t < Tn q p then 0 else (Tn q p : Int))
theorem GG_length (q : List Int) (t j : Nat) : (GG q t j).length = q.length := by simp [GG]
theorem GG_zero (q : List Int) (t : Nat) : GG q t 0 = FF q t := by simp [GG, FF]
theorem GG_end {q : List Int} (hq : Rows q) {t j : Nat} (h : (pls q t).length ≤ j) : GG q t j = FF q (t + 1) := by
  unfold GG FF
  refine List.map_congr_left fun p _ => ?_
  rw [List.take_of_length_le h]
  by_cases hp : (p : Int) ∈ pls q t
  · rw [if_pos hp]
  · rw [if_neg hp]
    have : ¬ t < Tn q p := fun z => hp ((pls_mem hq).mpr z)
    rw [if_neg this, if_neg (by omega)]
theorem pls_at {q : List Int} {t j : Nat} {x : Int} (h : (pls q t)[j]? = some x) : ∃ (p : Nat) (r : Int), x = (p : Int) ∧ p < q.length ∧ q[p]? = some r ∧ (p, r) ∈ S q t := by
  unfold pls at h
  rw [List.getElem?_map] at h
  cases e : (S q t)[j]? with
  | none => rw [e] at h; cases h
  | some y =>
    rw [e] at h
    obtain ⟨p, r⟩ := y
    have hm := List.mem_of_getElem? e
    exact ⟨p, r, (Option.some.inj h).symm, (S_mem hm).1, (S_mem hm).2, hm⟩
theorem pls_nodup (q : List Int) (t : Nat) : (pls q t).Nodup := by
  have e : pls q t = ((S q t).map Prod.fst).map fun i : Nat => (i : Int) := by unfold pls; simp [List.map_map, Function.comp_def]
  rw [e]
  refine List.Pairwise.map _ (fun a b h => ?_) (S_nodup q t)
  omega
theorem take_succ_of {α : Type} {l : List α} {j : Nat} {x : α} (h : l[j]? = some x) : l.take (j + 1) = l.take j ++ [x] := by
  rw [List.take_add_one, h]
  rfl
theorem not_in_take {q : List Int} {t j : Nat} {x : Int} (h : (pls q t)[j]? = some x) : x ∉ (pls q t).take j := by
  intro hm
  have nd := pls_nodup q t
  have h2 : (pls q t) = (pls q t).take j ++ (pls q t).drop j := (List.take_append_drop j _).symm
  rw [h2, List.nodup_append] at nd
  have h3 : x ∈ (pls q t).drop j := by
    refine List.mem_of_getElem? (i := 0) ?_
    rw [List.getElem?_drop]
    simpa using h
  exact nd.2.2 x hm x h3 rfl
theorem GG_wait {q : List Int} (hq : Rows q) {t j p : Nat} (h : (pls q t)[j]? = some (p : Int)) (hw : ¬ Tn q p = t + 1) : GG q t (j + 1) = GG q t j := by
  unfold GG
  refine List.map_congr_left fun i _ => ?_
  rw [take_succ_of h]
  have hp : t < Tn q p := (pls_mem hq).mp (List.mem_of_getElem? h)
  by_cases e : i = p
  · subst e
    rw [if_pos (by simp), if_neg (not_in_take h), if_pos (by omega), if_pos (by omega)]
  · by_cases hm : (i : Int) ∈ (pls q t).take j
    · rw [if_pos (by simp [hm]), if_pos hm]
    · rw [if_neg (by simp [hm]; omega), if_neg hm]
theorem GG_sit {q : List Int} (hq : Rows q) {t j p : Nat} (h : (pls q t)[j]? = some (p : Int)) (hp : p < q.length) (hw : Tn q p = t + 1) : GG q t (j + 1) = (GG q t j).set p ((t : Int) + 1) := by
  unfold GG
  refine List.ext_getElem (by simp) fun i h1 h2 => ?_
  simp only [List.length_map, List.length_range] at h1
  rw [List.getElem_set]
  simp only [List.getElem_map, List.getElem_range]
  rw [take_succ_of h]
  by_cases e : p = i
  · subst e
    rw [if_pos rfl, if_pos (by simp), if_neg (by omega), hw]
    omega
  · rw [if_neg e]
    by_cases hm : (i : Int) ∈ (pls q t).take j
    · rw [if_pos (by simp [hm]), if_pos hm]
    · rw [if_neg (by simp [hm]; omega), if_neg hm]
theorem range_filter {α : Type} (d : α) (p : α → Bool) (l : List α) : ((List.range l.length).filter (fun i => p (l.getD i d))).map (fun i => l.getD i d) = l.filter p := by
  have e1 : (List.range l.length).map (fun i => l.getD i d) = l := by
    refine List.ext_getElem (by simp) fun i h1 h2 => ?_
    simp [List.getD_eq_getElem?_getD, List.getElem?_eq_getElem h2]
  have e2 : ((List.range l.length).filter (fun i => p (l.getD i d))).map (fun i => l.getD i d) = ((List.range l.length).map (fun i => l.getD i d)).filter p := by
    rw [List.filter_map]
    rfl
  rw [e2, e1]
theorem pls_sub {q : List Int} (hq : Rows q) (t : Nat) : (pls q t).filter (fun x => decide (t + 1 < Tn q x.toNat)) = pls q (t + 1) := by
  rw [pls_filter hq t, pls_filter hq (t + 1), List.filter_map]
  congr 1
  rw [List.filter_filter]
  refine List.filter_congr fun p _ => ?_
  show (decide (t + 1 < Tn q ((p : Int)).toNat) && decide (t < Tn q p)) = decide (t + 1 < Tn q p)
  rw [Int.toNat_natCast]
  by_cases h : t + 1 < Tn q p
  · simp [h]; omega
  · simp [h]
theorem pls_next {q : List Int} (hq : Rows q) (t : Nat) : ((List.range (pls q t).length).filter (fun i => decide (t + 1 < Tn q ((pls q t).getD i 0).toNat))).map (fun i => (pls q t).getD i 0) = pls q (t + 1) := by
  rw [← pls_sub hq t]
  exact range_filter 0 (fun x => decide (t + 1 < Tn q x.toNat)) (pls q t)
end Ai
namespace Ai
theorem T_LL {q : List Int} (hq : Rows q) (p : Nat) : ((List.range (LL q)).filter (inS q p)).length = Tn q p := by
  have e := count_anti (LL q) (inS q p) (fun t h => ?_) ?_
  · have e2 : ∀ t, t < ((List.range (LL q)).filter (inS q p)).length ↔ t < Tn q p := fun t => by rw [← e t, inS_iff, mem_iff hq]
    have h1 := e2 (Tn q p)
    have h2 := e2 ((List.range (LL q)).filter (inS q p)).length
    omega
  · rw [inS_iff] at h ⊢
    exact ((S_sub q t).map Prod.fst).subset h
  · rw [Bool.eq_false_iff]
    intro z
    rw [inS_iff, mem_iff hq] at z
    have := T_le_LL hq p
    omega
structure QOk (q : List Int) : Prop where
  len : q.length ≤ 40
  rows : Rows q
theorem max0 {q : List Int} (hq : Rows q) {m : Int} (h1 : m ∈ [0] ++ TT q) (h2 : ∀ y, y ∈ [0] ++ TT q → y ≤ m) : m = LL q := by
  by_cases c : LL q = 0
  · have e := (LL_zero hq).mp c
    subst e
    have : m = 0 := by simpa [TT] using h1
    rw [this, c]
    rfl
  · obtain ⟨p, hp, ep⟩ := T_max hq (Nat.pos_of_ne_zero c)
    have a1 := h2 (Tn q p : Int) (List.mem_append_right _ (List.mem_of_getElem? (TT_at hp)))
    rcases List.mem_append.mp h1 with h | h
    · have : m = 0 := by simpa using h
      omega
    · obtain ⟨x, _, rfl⟩ := List.mem_map.mp h
      have := T_le_LL hq x
      omega
end Ai

/-! enumerate over a tuple, as a rule of the hand layer -/
namespace Ai
open PySem PySem.Spec PyProof.Rows L2

theorem meets_enum1 {v : Value} {o : Obj} {Hh : Heap → Prop} (B : Begins v o Hh) :
    Meets (Builtin.«enumerate.__new__» ⟨[.type "enumerate", v], []⟩) (fun _ R s => Hh s.heap ∧
      R (.ok (.ret (.ref (s.heap.push o).objs.size))) { s with heap := (s.heap.push o).push { cls := .type "enumerate", data := .fields #[.none, .bool false, .ref s.heap.objs.size, rawInt 0, .none, .none] } }) :=
  .of_wp fun prog w A R s h => by
    obtain ⟨hp, g, d, tk, os⟩ := s; obtain ⟨h1, h⟩ := h
    have hsub := sub_enumerate
    have q1 : ∀ {A' : Around} {E : Value → Shared → Prop} {Q : Value → Shared → Prop}, Q (.ref hp.objs.size) ⟨hp.push o, g, d, tk, os⟩ → wpAny (model prog w) A' (pyIter v) Q E ⟨hp, g, d, tk, os⟩ :=
      fun q => B.iter prog w _ _ ⟨hp, g, d, tk, os⟩ _ h1 q
    wp_walk using q1
    refine wpAny_stack_any fun st => wpAny_pure ?_
    split
    · rename_i c _ _ _ _ _
      cases (c == Value.type "enumerate")
      · wp_walk using q1
        exact ⟨_, rfl, h⟩
      · wp_walk using q1
        exact ⟨_, rfl, h⟩
    · wp_walk using q1
      exact ⟨_, rfl, h⟩
theorem call_enum1 {prog : Program} {w : World} {A : Around} {E : Value → Shared → Prop} {s : Shared} {v : Value} {o : Obj} {Hh : Heap → Prop} {Q : Value → Shared → Prop} (B : Begins v o Hh) (h1 : Hh s.heap)
    (h : ∀ h', IsEnum h' (s.heap.objs.size + 1) s.heap.objs.size 0 .none → h'.get? s.heap.objs.size = some o →
      (∀ b o, s.heap.get? b = some o → h'.get? b = some o) → Q (.ref (s.heap.objs.size + 1)) { s with heap := h' }) :
    wpAny (model prog w) A (call (.type "enumerate") [v]) Q E s := by
  refine callType_new F.called_enumerate (by decide) (F.typeCall_enumerate_1 _) (F.newCall_enumerate_1 _) (fun obj => F.args_object_init_2 obj _) F.entry_enumerate_new (meets_enum1 B) ⟨h1, ?_⟩
  have hz : (s.heap.push o).objs.size = s.heap.objs.size + 1 := Heap.size_push ..
  show _ ∧ _
  rw [hz]
  have he : IsEnum ((s.heap.push o).push { cls := .type "enumerate", data := .fields #[.none, .bool false, .ref s.heap.objs.size, rawInt 0, .none, .none] }) (s.heap.objs.size + 1) s.heap.objs.size 0 .none := by
    have := Heap.get?_push_size (s.heap.push o) (o := { cls := .type "enumerate", data := .fields #[.none, .bool false, .ref s.heap.objs.size, rawInt 0, .none, .none] }) rfl
    rw [hz] at this
    exact this
  exact ⟨⟨_, he, rfl⟩, h _ he (Heap.get?_push_of_some _ (Heap.get?_push_size _ B.free)) fun b o x => Heap.get?_push_of_some _ (Heap.get?_push_of_some _ x)⟩

/-- the tuple at a, each item in a new pair -/
def IteT (K : PySem.W.Frag) (a : Addr) : It :=
  ⟨fun i H => ∃ (xs : List V) (x : V), SqT K H a xs ∧ xs[i]? = some x, fun i H v H' => ∃ T x, v = .ref T ∧ H T = none ∧ H' = upd H T (.tup [.int (i : Nat), x]) ∧ ∀ xs, SqT K H a xs → xs[i]? = some x, fun i H => ∃ xs : List V, SqT K H a xs ∧ xs.length = i⟩
theorem turn_enumT {P : Program} {w : World} {K : PySem.W.Frag} {elts : List Expr} {kk : Nat} {tpos : Pos} (a e it : Addr) :
    Turn P w K (.Tuple elts kk tpos) (IteT K a) [e, it] e (fun i h => (∃ old, IsEnum h e it ((i : Nat) : Int) old) ∧ h.IsTupleIter it a i ∧ e ≠ it ∧ a ≠ it ∧ e ≠ a) where
  mem := by simp
  obj := fun i h st b hb => by
    obtain ⟨⟨old, he⟩, ⟨o, ho, hc, hd⟩, _⟩ := st
    have e' : b = e ∨ b = it := by simpa using hb
    rcases e' with z | z
    · rw [z]; exact ⟨_, he, fun v q => nomatch q⟩
    · rw [z]; exact ⟨o, ho, fun v q => by rw [hd] at q; cases q⟩
  keep := fun i h h' st k => by
    obtain ⟨⟨old, he⟩, hi, hne⟩ := st
    exact ⟨⟨old, k e (by simp) _ he⟩, hi.at fun o q => k it (by simp) o q, hne⟩
  item := by
    intro X hP hw hK hc i pins s σ H E I hf st hg
    subst hP hw hK
    obtain ⟨⟨old, he⟩, hit, hne, hai, hea⟩ := st
    obtain ⟨xs, x, hq, hx⟩ := hg
    obtain ⟨its, rv, p, hz⟩ := I.tuple hq
    obtain ⟨u, hu, ru⟩ := rv.get hx
    have hel : e < s.heap.objs.size := Heap.lt_size he
    have hil : it < s.heap.objs.size := by obtain ⟨_, q, _⟩ := hit; exact Heap.lt_size q
    have hlt : i < its.toArray.size := by
      have := (List.getElem?_eq_some_iff.mp hu).1
      simpa using this
    have D := Draws.tuple (prog := X.prog) (w := X.w) (A := X.A.in1) (I.ok.hd hc) it a hai its.toArray
    refine wpAny_pyNext_enum_itemC D he ⟨hit, p⟩ hlt hne (by simp [hne, hea]) fun y h' tk hy ho hst hT hsz hk => ?_
    have ey : y = u := by
      have : its.toArray[i]? = some u := by simpa using hu
      rw [this] at hy
      exact (Option.some.inj hy).symm
    subst ey
    refine ⟨_, rfl, wpAny_letOwnedTupleGo_enum (s := { s with heap := h', toks := tk + 1 }) ho fun h'' he' sb => ?_⟩
    have hT2 : h''.get? s.heap.objs.size = some { cls := .type "tuple", data := .seq #[.int i tk, y] } := (sb.2 _ (Nat.ne_of_gt hel)).trans hT
    have new : ObjOk X.prog X.w (upd H s.heap.objs.size (.tup [.int (i : Nat), x])) h'' s.heap.objs.size (.tup [.int (i : Nat), x]) :=
      ⟨by show 2 ≤ sizeLine; decide, [.int i tk, y], .cons ⟨_, rfl⟩ (.cons ru .nil), ⟨_, hT2, rfl, _, rfl⟩⟩
    have I1 : Inv X pins σ (upd H s.heap.objs.size (.tup [.int (i : Nat), x])) { s with heap := h'', toks := tk + 1 } :=
      I.turnedNew (ch := [e, it]) (fun b ob hb q => (sb.2 b (fun z => hb (by simp [z]))).trans (hk b ob (fun z => hb (by simp [z])) (fun z => hb (by simp [z])) q)) hf (Nat.le_refl _) new
    refine ⟨.ref s.heap.objs.size, _, I1, rfl, ⟨_, x, rfl, I.hok.fresh (Nat.le_refl _), rfl, fun ys hy' => by rw [I.tuple_inj hy' hq]; exact hx⟩, ⟨⟨y, ?_⟩, hst.1.at fun o q => (sb.2 it (Ne.symm hne)).trans q, hne, hai, hea⟩, fun b hb => ?_⟩
    · have e1 : ((i + 1 : Nat) : Int) = (i : Int) + 1 := by omega
      rw [e1]; exact he'
    · have hb' : b < s.heap.objs.size := by
        have e' : b = e ∨ b = it := by simpa using hb
        rcases e' with z | z
        · rw [z]; exact hel
        · rw [z]; exact hil
      rw [upd_ne (Nat.ne_of_lt hb')]
      exact (hf b hb).1
  done := by
    intro X hP hw hK hc i pins s σ H E I hf st hg
    subst hP hw hK
    obtain ⟨⟨old, he⟩, hit, hne, hai, hea⟩ := st
    obtain ⟨xs, hq, hx⟩ := hg
    obtain ⟨its, rv, p, hz⟩ := I.tuple hq
    obtain ⟨f0, f1, f2, f3, f4, f5⟩ := hf it (by simp)
    have hl := rv.length
    have D := Draws.tuple (prog := X.prog) (w := X.w) (A := X.A.in1) (I.ok.hd hc) it a hai its.toArray
    have hn : i = its.toArray.size := by simp; omega
    subst hn
    exact wpAny_pyNext_enum_endD D he ⟨hit, p⟩ fun h' eb => ⟨rfl, I.turned (t' := s.toks) (fun b o hb q => eb b o hb q) f0 f1 f3 f4 f5⟩
  self := fun A i s Q E st h => by
    obtain ⟨⟨_, he⟩, _⟩ := st
    exact wpAny_pyIter_enum he h
def iEnumT (K : PySem.W.Frag) (ta : TA) : TI := fun σ H R => ta σ H fun vs H1 => ∃ a xs, vs = [.ref a] ∧ SqT K H1 a xs ∧ R (IteT K a) H1
theorem pi_enumT {X : Cx} {e : Expr} {ta : TA} {p pos tpos : Pos} {elts : List Expr} {kk : Nat} (hg : Gl X "enumerate") (hm : X.mg "enumerate" = none) (ha : PA X [e] ta) (hs : starEach [e] X.env = [(false, eval e X.env)] := by rfl) :
    PI X (.Tuple elts kk tpos) (.Call (.Name "enumerate" p) [e] [] pos) (iEnumT X.K ta) := by
  refine ⟨fun pins s σ H R I h => ?_⟩
  refine Call_ (ld_blt I hg hm boot_enumerate (PyProof.Rows.callWith_type1 (thn (ha.run pos pins s σ H _ I h) fun us s1 ⟨vs, H1, I1, r1, q1⟩ => ?_) hs rfl))
  obtain ⟨a, xs, ex, hq, q⟩ := q1
  subst ex
  cases r1 with
  | cons r rr =>
    cases rr
    cases r
    obtain ⟨its, rv, p', hz⟩ := I1.tuple hq
    have hal : a < s1.heap.objs.size := p'.lt
    refine call_enum1 (begins_tuple a its.toArray) p' fun h' he hit hk => wpAny_pyIter_enum he ?_
    have I2 : Inv X pins σ H1 { s1 with heap := h' } := I1.kept (t' := s1.toks) hk
    refine ⟨s1.heap.objs.size + 1, [s1.heap.objs.size + 1, s1.heap.objs.size], _, _, H1, rfl, I2, turn_enumT a (s1.heap.objs.size + 1) s1.heap.objs.size, ⟨⟨.none, he⟩, ⟨_, hit, rfl, rfl⟩, Nat.succ_ne_self _, Nat.ne_of_lt hal, Nat.ne_of_gt (Nat.lt_succ_of_lt hal)⟩, fun b hb => ?_, q⟩
    have e' : b = s1.heap.objs.size + 1 ∨ b = s1.heap.objs.size := by simpa using hb
    have hle : s1.heap.objs.size ≤ b := by
      rcases e' with z | z
      · rw [z]; exact Nat.le_add_right _ _
      · rw [z]; exact Nat.le_refl _
    exact I1.fpOk hle (I1.hok.fresh hle)
theorem walk_enumT {K : PySem.W.Frag} {a : Addr} {xs : List V} : Walk (IteT K a) xs.length (fun H => SqT K H a xs) (YPair (fun i => some (.int (i : Nat))) (fun i => xs[i]?)) := by
  refine ⟨fun i _ hi q => ⟨xs, xs[i], q, by simp [hi]⟩, fun _ q => ⟨xs, q, rfl⟩, fun i H v H' _ q y => ?_⟩
  obtain ⟨T, x, h1, h2, h3, h4⟩ := y
  exact ⟨T, .int (i : Nat), x, h1, h2, h3, rfl, h4 xs q⟩
end Ai

/-! what every def's reading uses -/
namespace Ai
open PySem PySem.Spec PyProof.Rows L2

/-! heaps -/
theorem same_new {H : Hp} {p : Addr} {o : HO} (h : H p = none) : Same H (upd H p o) := fun b x e => by
  rw [upd_ne (ne_of_none e h)]
  exact e
theorem _root_.L2.Same.mut {H H' : Hp} {p : Addr} {o : HO} (e : Same H H') (h : H p = none) : Same H (upd H' p o) := fun b x k => by
  rw [upd_ne (ne_of_none k h)]
  exact e b x k
theorem _root_.L2.Same.new {H H' : Hp} {p : Addr} {o : HO} (e : Same H H') (h : H' p = none) : Same H (upd H' p o) := e.trans (same_new h)
theorem _root_.L2.Same.tup {K : PySem.W.Frag} {H H' : Hp} {a : Addr} {xs : List V} (e : Same H H') (h : SqT K H a xs) : SqT K H' a xs := by
  rcases h with (h | ⟨o, h⟩) | h
  · exact .inl (.inl (e _ _ h))
  · exact .inl (.inr ⟨o, e _ _ h⟩)
  · exact .inr h
mutual
theorem dp_same {K : PySem.W.Frag} {H H' : Hp} (e : Same H H') : ∀ (d : PyData) (v : V), Dp K H v d → Dp K H' v d
  | .none, _, h => by cases h; exact .non
  | .bool b, _, h => by cases h; exact .bl b
  | .int i, _, h => by cases h; exact .int i
  | .str x, _, h => by cases h; exact .str x
  | .list ds, _, h => by
    cases h with
    | lst hs ha => exact .lst (e.seq hs) (dps_same e ds _ ha)
  | .tuple ds, _, h => by
    cases h with
    | tup hs ha => exact .tup (e.tup hs) (dps_same e ds _ ha)
  | .dict _, _, h => by cases h
theorem dps_same {K : PySem.W.Frag} {H H' : Hp} (e : Same H H') : ∀ (ds : List PyData) (vs : List V), DpAll K H vs ds → DpAll K H' vs ds
  | [], _, h => by cases h; exact .nil
  | d :: ds, _, h => by
    cases h with
    | cons h1 h2 => exact .cons (dp_same e d _ h1) (dps_same e ds _ h2)
end
theorem _root_.L2.Same.dp {K : PySem.W.Frag} {H H' : Hp} {v : V} {d : PyData} (e : Same H H') (h : Dp K H v d) : Dp K H' v d := dp_same e d v h
theorem _root_.L2.Same.dp' {K : PySem.W.Frag} {H H' : Hp} {vs : List V} {ds : List PyData} (e : Same H H') (h : DpAll K H vs ds) : DpAll K H' vs ds := dps_same e ds vs h
/-- the heap without what stands at w -/
def hid (H : Hp) (w : Addr) : Hp := fun b => if b = w then none else H b
theorem hid_at (H : Hp) (w : Addr) : hid H w w = none := by unfold hid; rw [if_pos rfl]
theorem hid_ne {H : Hp} {w b : Addr} (h : b ≠ w) : hid H w b = H b := by unfold hid; rw [if_neg h]
theorem hid_same (H : Hp) (w : Addr) : Same (hid H w) H := fun b o e => by
  unfold hid at e
  split at e
  · cases e
  · exact e
theorem hid_upd (H : Hp) (w : Addr) (o : HO) : hid (upd H w o) w = hid H w := by
  funext b
  by_cases e : b = w
  · rw [e, hid_at, hid_at]
  · rw [hid_ne e, hid_ne e, upd_ne e]
theorem hid_of {H : Hp} {w : Addr} (h : H w = none) : hid H w = H := by
  funext b
  by_cases e : b = w
  · rw [e, hid_at, h]
  · rw [hid_ne e]
theorem hid_mono {H H' : Hp} (e : Same H H') (w : Addr) : Same (hid H w) (hid H' w) := fun b o h => by
  have ne : b ≠ w := fun z => by rw [z, hid_at] at h; cases h
  rw [hid_ne ne] at h ⊢
  exact e b o h

theorem hid_get {H H' : Hp} {w b : Addr} (e : hid H' w = hid H w) (h : b ≠ w) : H' b = H b := by
  have := congrFun e b
  rw [hid_ne h, hid_ne h] at this
  exact this
theorem hid_new {H : Hp} {w p : Addr} {o : HO} (h : H p = none) : Same (hid H w) (hid (upd H p o) w) := hid_mono (same_new h) w
theorem hid_some {H : Hp} {w b : Addr} {o : HO} (h : H b = some o) (hb : b ≠ w) : hid H w b = some o := by rw [hid_ne hb]; exact h
/-- slices of mapped lists -/
theorem cut_to {α : Type} (f : α → V) (xs : List α) (h : Nat) : cutV (xs.map f) none (some (h : Int)) = (xs.take h).map f := by
  unfold cutV
  rw [HT.sIx_none, HT.sIx_nat, List.drop_zero, Nat.sub_zero, List.map_take, ← List.take_take, List.length_map]
  rw [List.take_of_length_le (i := xs.length) (by simp)]
theorem cut_from {α : Type} (f : α → V) (xs : List α) (h : Nat) : cutV (xs.map f) (some (h : Int)) none = (xs.drop h).map f := by
  unfold cutV
  rw [HT.sIx_none, HT.sIx_nat, List.map_drop, List.length_map]
  by_cases c : h ≤ xs.length
  · rw [Nat.min_eq_left c, List.take_of_length_le (by simp)]
  · rw [Nat.min_eq_right (by omega), List.drop_eq_nil_of_le (by simp), List.drop_eq_nil_of_le (by simp; omega), List.take_nil]
/-! data -/
def ov : Option Int → V
  | none => .non
  | some i => .int i
def od : Option Int → PyData
  | none => .none
  | some i => .int i
theorem dp_ov {K : PySem.W.Frag} {H : Hp} (o : Option Int) : Dp K H (ov o) (od o) := by
  cases o with
  | none => exact .non
  | some i => exact .int i
theorem dps_of {α : Type} {K : PySem.W.Frag} {H : Hp} {f : α → V} {g : α → PyData} (h : ∀ x, Dp K H (f x) (g x)) : ∀ xs : List α, DpAll K H (xs.map f) (xs.map g)
  | [] => .nil
  | x :: xs => .cons (h x) (dps_of h xs)
theorem dps_ints {K : PySem.W.Frag} {H : Hp} (ns : List Int) : DpAll K H (ns.map V.int) (ns.map PyData.int) := dps_of (fun i => .int i) ns
theorem dps_oints {K : PySem.W.Frag} {H : Hp} (os : List (Option Int)) : DpAll K H (os.map ov) (os.map od) := dps_of dp_ov os
theorem dps_inv {K : PySem.W.Frag} {H : Hp} : ∀ {ns : List Int} {vs : List V}, DpAll K H vs (ns.map PyData.int) → vs = ns.map V.int
  | [], _, h => by cases h; rfl
  | n :: ns, _, h => by
    cases h with
    | cons h1 h2 =>
      cases h1
      rw [dps_inv h2]
      rfl
theorem dps_bools {K : PySem.W.Frag} {H : Hp} : ∀ {bs : List Bool} {vs : List V}, DpAll K H vs (bs.map PyData.bool) → vs = bs.map V.bl
  | [], _, h => by cases h; rfl
  | n :: ns, _, h => by
    cases h with
    | cons h1 h2 =>
      cases h1
      rw [dps_bools h2]
      rfl
theorem dp_intsL {K : PySem.W.Frag} {H : Hp} {a : Addr} {ns : List Int} (h : SqL K H a (ns.map V.int)) : Dp K H (.ref a) (.list (ns.map PyData.int)) := .lst h (dps_ints ns)
theorem dp_intsT {K : PySem.W.Frag} {H : Hp} {a : Addr} {ns : List Int} (h : SqT K H a (ns.map V.int)) : Dp K H (.ref a) (.tuple (ns.map PyData.int)) := .tup h (dps_ints ns)
theorem dp_ointsL {K : PySem.W.Frag} {H : Hp} {a : Addr} {os : List (Option Int)} (h : SqL K H a (os.map ov)) : Dp K H (.ref a) (.list (os.map od)) := .lst h (dps_oints os)
theorem sqT_of {K : PySem.W.Frag} {H : Hp} {v : V} {ns : List Int} (h : Dp K H v (.tuple (ns.map PyData.int))) : ∃ a, v = .ref a ∧ SqT K H a (ns.map V.int) := by
  cases h with
  | tup hs ha =>
    have e := dps_inv ha
    subst e
    exact ⟨_, rfl, hs⟩
theorem sqL_of {K : PySem.W.Frag} {H : Hp} {v : V} {ns : List Int} (h : Dp K H v (.list (ns.map PyData.int))) : ∃ a, v = .ref a ∧ SqL K H a (ns.map V.int) := by
  cases h with
  | lst hs ha =>
    have e := dps_inv ha
    subst e
    exact ⟨_, rfl, hs⟩
theorem dps_length {K : PySem.W.Frag} {H : Hp} : ∀ {vs : List V} {ds : List PyData}, DpAll K H vs ds → vs.length = ds.length
  | [], [], _ => rfl
  | [], _ :: _, h => by cases h
  | _ :: _, [], h => by cases h
  | _ :: vs, _ :: ds, h => by
    cases h with
    | cons _ h2 => simp [dps_length h2]
theorem dps_at {K : PySem.W.Frag} {H : Hp} : ∀ {vs : List V} {ds : List PyData} {i : Nat} {v : V}, DpAll K H vs ds → vs[i]? = some v → ∃ d, ds[i]? = some d ∧ Dp K H v d
  | _, _, i, v, .nil, h => by simp at h
  | _, _, 0, v, .cons h1 h2, h => by
    have e := Option.some.inj h
    subst e
    exact ⟨_, rfl, h1⟩
  | _, _, i + 1, v, .cons h1 h2, h => dps_at (i := i) h2 h

def tyD : PyData → String
  | .none => "NoneType"
  | .bool _ => "bool"
  | .int _ => "int"
  | .str _ => "str"
  | .list _ => "list"
  | .tuple _ => "tuple"
  | .dict _ => "dict"
theorem dp_ty {K : PySem.W.Frag} {H : Hp} {v : V} {d : PyData} (h : Dp K H v d) : TyX K H v (.type (tyD d)) := by
  cases h with
  | non => exact .base .non
  | bl b => exact .base (.bl b)
  | int i => exact .base (.int i)
  | str x => exact .base (.str x)
  | lst hs _ =>
    rcases hs with (hs | ⟨o, hs⟩) | ⟨o, its, n, hk, hc, _⟩
    · exact .base (.lst hs)
    · exact .base (.frz hs)
    · exact .kList hk hc
  | tup hs _ =>
    rcases hs with (hs | ⟨o, hs⟩) | ⟨o, its, n, hk, hc, _⟩
    · exact .base (.tup hs)
    · exact .fTuple hs
    · exact .kTuple hk hc
/-- isinstance(x, n), x data -/
theorem isi_of {K : PySem.W.Frag} {H : Hp} {v : V} {d : PyData} {n : String} {b : Bool} {Q : VK} (h : Dp K H v d) (hb : kitB (tyD d) n = some b) (q : Q (.bl b) H) : rIsi K [v, .ty n] H Q :=
  ⟨v, .ty n, _, _, b, rfl, .ty n, dp_ty h, kit_ty hb, q⟩

/-! == of lists of ints, of ints and None -/
theorem eqv_ints : ∀ ns ms : List Int, PyData.eqvAll (ns.map PyData.int) (ms.map PyData.int) = decide (ns = ms)
  | [], [] => rfl
  | [], _ :: _ => rfl
  | _ :: _, [] => rfl
  | n :: ns, m :: ms => by
    rw [List.map_cons, List.map_cons, PyData.eqvAll, eqv_ints ns ms]
    show ((n == m) && decide (ns = ms)) = decide (n :: ns = m :: ms)
    by_cases h : n = m
    · subst h; simp
    · simp [h]
theorem eqv_oints : ∀ ns ms : List (Option Int), PyData.eqvAll (ns.map od) (ms.map od) = decide (ns = ms)
  | [], [] => rfl
  | [], _ :: _ => rfl
  | _ :: _, [] => rfl
  | n :: ns, m :: ms => by
    rw [List.map_cons, List.map_cons, PyData.eqvAll, eqv_oints ns ms]
    cases n with
    | none => cases m with
      | none => show (true && decide (ns = ms)) = _; simp
      | some j => show (false && decide (ns = ms)) = _; simp
    | some i => cases m with
      | none => show (false && decide (ns = ms)) = _; simp
      | some j =>
        show ((i == j) && decide (ns = ms)) = _
        by_cases h : i = j
        · subst h; simp
        · simp [h]

/-! isinstance of data -/
def intB : PyData → Bool
  | .int _ => true
  | .bool _ => true
  | _ => false
def boolB : PyData → Bool
  | .bool _ => true
  | _ => false
def tupB : PyData → Bool
  | .tuple _ => true
  | _ => false
def listB : PyData → Bool
  | .list _ => true
  | _ => false
theorem kit_int {K K' : PySem.W.Frag} {H : Hp} {v : V} {d : PyData} (h : Dp K H v d) : PySem.W.kitOne K' (.type (tyD d)) (.type "int") = some (intB d) := by
  cases h with
  | non => exact kit_ty (a := "NoneType") (b := "int") (r := false) (by decide +kernel)
  | bl b => exact kit_ty (a := "bool") (b := "int") (r := true) (by decide +kernel)
  | int i => exact kit_ty (a := "int") (b := "int") (r := true) (by decide +kernel)
  | str x => exact kit_ty (a := "str") (b := "int") (r := false) (by decide +kernel)
  | lst _ _ => exact kit_ty (a := "list") (b := "int") (r := false) (by decide +kernel)
  | tup _ _ => exact kit_ty (a := "tuple") (b := "int") (r := false) (by decide +kernel)
theorem kit_bool {K K' : PySem.W.Frag} {H : Hp} {v : V} {d : PyData} (h : Dp K H v d) : PySem.W.kitOne K' (.type (tyD d)) (.type "bool") = some (boolB d) := by
  cases h with
  | non => exact kit_ty (a := "NoneType") (b := "bool") (r := false) (by decide +kernel)
  | bl b => exact kit_ty (a := "bool") (b := "bool") (r := true) (by decide +kernel)
  | int i => exact kit_ty (a := "int") (b := "bool") (r := false) (by decide +kernel)
  | str x => exact kit_ty (a := "str") (b := "bool") (r := false) (by decide +kernel)
  | lst _ _ => exact kit_ty (a := "list") (b := "bool") (r := false) (by decide +kernel)
  | tup _ _ => exact kit_ty (a := "tuple") (b := "bool") (r := false) (by decide +kernel)
theorem kit_tuple {K K' : PySem.W.Frag} {H : Hp} {v : V} {d : PyData} (h : Dp K H v d) : PySem.W.kitOne K' (.type (tyD d)) (.type "tuple") = some (tupB d) := by
  cases h with
  | non => exact kit_ty (a := "NoneType") (b := "tuple") (r := false) (by decide +kernel)
  | bl b => exact kit_ty (a := "bool") (b := "tuple") (r := false) (by decide +kernel)
  | int i => exact kit_ty (a := "int") (b := "tuple") (r := false) (by decide +kernel)
  | str x => exact kit_ty (a := "str") (b := "tuple") (r := false) (by decide +kernel)
  | lst _ _ => exact kit_ty (a := "list") (b := "tuple") (r := false) (by decide +kernel)
  | tup _ _ => exact kit_ty (a := "tuple") (b := "tuple") (r := true) (by decide +kernel)
theorem kit_list {K K' : PySem.W.Frag} {H : Hp} {v : V} {d : PyData} (h : Dp K H v d) : PySem.W.kitOne K' (.type (tyD d)) (.type "list") = some (listB d) := by
  cases h with
  | non => exact kit_ty (a := "NoneType") (b := "list") (r := false) (by decide +kernel)
  | bl b => exact kit_ty (a := "bool") (b := "list") (r := false) (by decide +kernel)
  | int i => exact kit_ty (a := "int") (b := "list") (r := false) (by decide +kernel)
  | str x => exact kit_ty (a := "str") (b := "list") (r := false) (by decide +kernel)
  | lst _ _ => exact kit_ty (a := "list") (b := "list") (r := true) (by decide +kernel)
  | tup _ _ => exact kit_ty (a := "tuple") (b := "list") (r := false) (by decide +kernel)
/-! what is shaped -/
theorem lay_of {ds : List PyData} (h : ∀ d ∈ ds, d.canLay0 = true) : PyData.canLayAll0 ds = true := by
  induction ds with
  | nil => rfl
  | cons d ds ih => rw [PyData.canLayAll0, h d List.mem_cons_self, ih fun x hx => h x (List.mem_cons_of_mem _ hx)]; rfl
theorem depth_of {ds : List PyData} {n : Nat} (h : ∀ d ∈ ds, d.depth ≤ n) : PyData.depthAll ds ≤ n := by
  induction ds with
  | nil => exact Nat.zero_le _
  | cons d ds ih =>
    rw [PyData.depthAll]
    exact Nat.max_le.mpr ⟨h d List.mem_cons_self, ih fun x hx => h x (List.mem_cons_of_mem _ hx)⟩
theorem shaped_list {ds : List PyData} {n : Nat} (h1 : ∀ d ∈ ds, d.canLay0 = true) (h2 : ∀ d ∈ ds, d.depth ≤ n) (hn : n ≤ 63) : SeqAt.shaped (.list ds) = true := by
  unfold SeqAt.shaped
  rw [PyData.canLay0, lay_of h1, Bool.true_and]
  refine decide_eq_true ?_
  rw [PyData.depth]
  have := depth_of h2
  omega
theorem shaped_tuple {ds : List PyData} {n : Nat} (h1 : ∀ d ∈ ds, d.canLay0 = true) (h2 : ∀ d ∈ ds, d.depth ≤ n) (hn : n ≤ 63) : SeqAt.shaped (.tuple ds) = true := by
  unfold SeqAt.shaped
  rw [PyData.canLay0, lay_of h1, Bool.true_and]
  refine decide_eq_true ?_
  rw [PyData.depth]
  have := depth_of h2
  omega
theorem sh_ints (ns : List Int) : SeqAt.shaped (.list (ns.map PyData.int)) = true := by
  refine shaped_list (n := 0) (fun d h => ?_) (fun d h => ?_) (by omega)
  · obtain ⟨i, _, rfl⟩ := List.mem_map.mp h; rfl
  · obtain ⟨i, _, rfl⟩ := List.mem_map.mp h; exact Nat.le_refl _
theorem sh_intsT (ns : List Int) : SeqAt.shaped (.tuple (ns.map PyData.int)) = true := by
  refine shaped_tuple (n := 0) (fun d h => ?_) (fun d h => ?_) (by omega)
  · obtain ⟨i, _, rfl⟩ := List.mem_map.mp h; rfl
  · obtain ⟨i, _, rfl⟩ := List.mem_map.mp h; exact Nat.le_refl _
theorem sh_oints (os : List (Option Int)) : SeqAt.shaped (.list (os.map od)) = true := by
  refine shaped_list (n := 0) (fun d h => ?_) (fun d h => ?_) (by omega)
  · obtain ⟨i, _, rfl⟩ := List.mem_map.mp h; cases i <;> rfl
  · obtain ⟨i, _, rfl⟩ := List.mem_map.mp h; cases i <;> exact Nat.le_refl _

/-! in, of ints -/
theorem inV_ints (x : Int) (ns : List Int) : inV (.int x) (ns.map V.int) = decide (x ∈ ns) := by
  unfold inV
  rw [List.any_map]
  induction ns with
  | nil => rfl
  | cons n ns ih =>
    rw [List.any_cons, ih]
    show ((n == x) || decide (x ∈ ns)) = decide (x ∈ n :: ns)
    by_cases h : n = x
    · subst h; simp
    · have h' : ¬ x = n := fun z => h z.symm
      simp [h, h']
theorem flat_ints (ns : List Int) : (ns.map V.int).all flatV = true := by
  rw [List.all_map]
  exact List.all_eq_true.mpr fun _ _ => rfl

/-- len of a list, of a tuple -/
def rLenK (K : PySem.W.Frag) : List V → Hp → VK → Prop := fun xs H Q => ∃ p ys, xs = [.ref p] ∧ (SqL K H p ys ∨ SqT K H p ys) ∧ Q (.int ys.length) H
/-- a statement, then the rest, what stands between them said once -/
def tCut (t u : TS) : TS := fun D σ H => ∃ Mid : L2.St → Hp → Prop, t { D with nx := Mid } σ H ∧ ∀ σ' H', Mid σ' H' → u D σ' H'
theorem pss_cut {X : Cx} {st : Stmt} {rest : List Stmt} {t u : TS} (h1 : PS X st t) (h2 : PSs X rest u) : PSs X (st :: rest) (tCut t u) := by
  refine ⟨fun pins s σ H D I ⟨Mid, hm, hu⟩ => ?_⟩
  refine wpAny_execs_cons (L2.thn (h1.run pins s σ H { D with nx := Mid } I hm) fun f s1 q => ?_)
  cases f with
  | next =>
    obtain ⟨σ', H', I', q⟩ := q
    exact h2.run pins s1 σ' H' D I' (hu σ' H' q)
  | ret v => exact q
  | brk => exact q
  | cont => exact q
theorem yes_go {σ : L2.St} {H : Hp} {R S : Hp → Prop} (h : R H) : tYes σ H fun b H3 => if b = true then R H3 else S H3 := by
  show (if true = true then R H else S H)
  rw [if_pos rfl]
  exact h
/-! loops and comprehensions -/
section
variable {K : PySem.W.Frag} {J : It} {n : Nat} {G : Hp → Prop} {f g : Nat → Option V}
/-- a for whose target is a pair of names -/
theorem for_pair (w : Walk J n G (YPair f g)) {i1 i2 : Nat} {tb : TS} {D : Ends} {σ : L2.St} {H : Hp} (Pv : Nat → L2.St → Hp → Prop) (h0 : Pv 0 σ H) (hG : ∀ i σ H, i ≤ n → Pv i σ H → G H)
    (hs : ∀ i x y T σ H, i < n → f i = some x → g i = some y → Pv i σ H → H T = none → tb { D with nx := Pv (i + 1), ct := Pv (i + 1), bk := D.nx } ((σ.set i1 (some x)).set i2 (some y)) (upd H T (.tup [x, y])))
    (hd : ∀ σ H, Pv n σ H → D.nx σ H) :
    ∃ W : Nat → Nat → L2.St → Hp → Prop, (∃ m, W 0 m σ H) ∧ ∀ i m σ H, W i m σ H →
      (J.stop i H ∧ D.nx σ H) ∨ (J.go i H ∧ ∃ N : L2.St → Hp → Prop, (∀ σ' H', N σ' H' → ∃ m', m' < m ∧ W (i + 1) m' σ' H') ∧ ∀ x H', J.yld i H x H' → (gTup K 2 (gCons (gName i1) (gCons (gName i2) gNil))) x σ H' fun σ2 H2 => tb { D with nx := N, ct := N, bk := D.nx } σ2 H2) := by
  refine for_it w (g := gTup K 2 (gCons (gName i1) (gCons (gName i2) gNil))) Pv h0 hG (fun i x σ H H' hi p y => ?_) hd
  obtain ⟨T, u, v, rfl, hT, rfl, e1, e2⟩ := y
  exact ⟨T, [u, v], rfl, .of upd_same, rfl, u, [v], rfl, v, [], rfl, rfl, hs i u v T σ H hi e1 e2 p hT⟩
/-- a comprehension over what the walk gives, what it makes told beside w0, the target a name: the heap grows only; t who is taken, dv what is made of each -/
theorem lc_dataW (w0 : Addr) {Y : Nat → Hp → V → Hp → Prop} (w : Walk J n G Y) (xs : Nat → V) (hY : ∀ i H x H', i < n → G H → Y i H x H' → H' = H ∧ x = xs i) {j : Nat} {tt : L2.TT} {te : L2.TE} {vs : List Nat} {σ : L2.St} {H1 : Hp} {D : Addr} {Qd : Hp → Prop}
    (t : Nat → Bool) (dv : Nat → PyData) (hn : n ≤ 100000) (hD : H1 D = none) (hG : ∀ H, Same H1 H → G H) (hw : ∀ x, wipe ((wipe σ vs).set j (some x)) vs = wipe σ vs)
    (ht : ∀ i H, i < n → Same H1 H → ∀ Q : Bool → Hp → Prop, (∀ H3, Same H H3 → Q (t i) H3) → tt ((wipe σ vs).set j (some (xs i))) H Q)
    (he : ∀ i H, i < n → t i = true → Same H1 H → (∃ ys, H D = some (.lst ys)) → ∀ Q : VK, (∀ y H4, Same H H4 → Dp K (hid (hid H4 D) w0) y (dv i) → Q y H4) → te ((wipe σ vs).set j (some (xs i))) H Q)
    (hd : ∀ H ys, Same H1 H → H D = some (.lst ys) → DpAll K (hid H w0) ys (((List.range n).filter t).map dv) → Qd H) :
    ∃ W : Nat → Nat → Hp → Prop, (∃ m, W 0 m (upd H1 D (.lst []))) ∧ ∀ i m H, W i m H →
      (J.stop i H ∧ Qd H) ∨ (J.go i H ∧ ∃ Nx : Hp → Prop, (∀ H', Nx H' → ∃ m', m' < m ∧ W (i + 1) m' H') ∧ ∀ x H', J.yld i H x H' → (gName j) x (wipe σ vs) H' fun σ2 H2 => wipe σ2 vs = wipe σ vs ∧ tt σ2 H2 fun b H3 =>
        if b = true then te σ2 H3 fun y H4 => ∃ acc, H4 D = some (.lst acc) ∧ acc.length < sizeLine ∧ Nx (upd H4 D (.lst (acc ++ [y]))) else Nx H3) := by
  have app : ∀ {vs : List V} {ds : List PyData} {y : V} {d : PyData} {H : Hp}, DpAll K H vs ds → Dp K H y d → DpAll K H (vs ++ [y]) (ds ++ [d]) := by
    intro vs ds y d H h1 h2
    induction vs generalizing ds with
    | nil => cases h1; exact .cons h2 .nil
    | cons v vs ih => cases h1 with | cons a b => exact .cons a (ih b)
  have le : ∀ i, ((List.range i).filter t).length ≤ i := fun i => by
    have := List.length_filter_le t (List.range i)
    simpa using this
  refine lc_it w (fun i H => Same H1 H ∧ ∃ ys, H D = some (.lst ys) ∧ DpAll K (hid (hid H D) w0) ys (((List.range i).filter t).map dv)) ⟨same_new hD, [], upd_same, .nil⟩ (fun i H _ p => hG H p.1) (fun i x H H' hi p y => ?_) (fun H p => ?_)
  · obtain ⟨s1, ys, hy, hds⟩ := p
    obtain ⟨rfl, rfl⟩ := hY i H x H' hi (hG H s1) y
    refine ⟨hw _, ht i H' hi s1 _ fun H3 s3 => ?_⟩
    refine ite2 (fun e => ?_) (fun e => ?_)
    · refine he i H3 hi e (s1.trans s3) ⟨ys, s3 D _ hy⟩ _ fun z H4 s4 hz => ?_
      have hy4 : H4 D = some (.lst ys) := s4 D _ (s3 D _ hy)
      refine ⟨ys, hy4, ?_, ((s1.trans s3).trans s4).mut hD, _, upd_same, ?_⟩
      · have e1 := dps_length hds
        rw [List.length_map] at e1
        have e2 := le i
        have : (100000 : Nat) < sizeLine := by decide
        omega
      · rw [hid_upd, List.range_succ, List.filter_append, List.map_append, List.filter_cons, if_pos e]
        exact app ((hid_mono (hid_mono (s3.trans s4) D) w0).dp' hds) hz
    · refine ⟨s1.trans s3, ys, s3 D _ hy, ?_⟩
      rw [List.range_succ, List.filter_append, List.map_append, List.filter_cons, if_neg e]
      simp only [List.filter_nil, List.map_nil, List.append_nil]
      exact (hid_mono (hid_mono s3 D) w0).dp' hds
  · obtain ⟨s1, ys, hy, hds⟩ := p
    exact hd H ys s1 hy ((hid_mono (hid_same H D) w0).dp' hds)
/-- a comprehension over what the walk gives, the target a name: the heap grows only; t who is taken, dv what is made of each -/
theorem lc_data {Y : Nat → Hp → V → Hp → Prop} (w : Walk J n G Y) (xs : Nat → V) (hY : ∀ i H x H', i < n → G H → Y i H x H' → H' = H ∧ x = xs i) {j : Nat} {tt : L2.TT} {te : L2.TE} {vs : List Nat} {σ : L2.St} {H1 : Hp} {D : Addr} {Qd : Hp → Prop}
    (t : Nat → Bool) (dv : Nat → PyData) (hn : n ≤ 100000) (hD : H1 D = none) (hG : ∀ H, Same H1 H → G H) (hw : ∀ x, wipe ((wipe σ vs).set j (some x)) vs = wipe σ vs)
    (ht : ∀ i H, i < n → Same H1 H → ∀ Q : Bool → Hp → Prop, (∀ H3, Same H H3 → Q (t i) H3) → tt ((wipe σ vs).set j (some (xs i))) H Q)
    (he : ∀ i H, i < n → t i = true → Same H1 H → (∃ ys, H D = some (.lst ys)) → ∀ Q : VK, (∀ y H4, Same H H4 → Dp K (hid H4 D) y (dv i) → Q y H4) → te ((wipe σ vs).set j (some (xs i))) H Q)
    (hd : ∀ H ys, Same H1 H → H D = some (.lst ys) → DpAll K H ys (((List.range n).filter t).map dv) → Qd H) :
    ∃ W : Nat → Nat → Hp → Prop, (∃ m, W 0 m (upd H1 D (.lst []))) ∧ ∀ i m H, W i m H →
      (J.stop i H ∧ Qd H) ∨ (J.go i H ∧ ∃ Nx : Hp → Prop, (∀ H', Nx H' → ∃ m', m' < m ∧ W (i + 1) m' H') ∧ ∀ x H', J.yld i H x H' → (gName j) x (wipe σ vs) H' fun σ2 H2 => wipe σ2 vs = wipe σ vs ∧ tt σ2 H2 fun b H3 =>
        if b = true then te σ2 H3 fun y H4 => ∃ acc, H4 D = some (.lst acc) ∧ acc.length < sizeLine ∧ Nx (upd H4 D (.lst (acc ++ [y]))) else Nx H3) := by
  have hh : ∀ H : Hp, hid (hid H D) D = hid H D := fun H => hid_of (hid_at H D)
  exact lc_dataW D w xs hY t dv hn hD hG hw ht (fun i H hi e s1 hz Q q => he i H hi e s1 hz Q fun y H4 s2 d => q y H4 s2 (by rw [hh]; exact d)) (fun H ys s1 hy hds => hd H ys s1 hy ((hid_same H D).dp' hds))
/-- .. whose target is a pair of names: the walk gives new pairs -/
theorem lc_data2 (w : Walk J n G (YPair f g)) (xs ys : Nat → V) (hf : ∀ i, i < n → f i = some (xs i)) (hg : ∀ i, i < n → g i = some (ys i)) {j1 j2 : Nat} {tt : L2.TT} {te : L2.TE} {vs : List Nat} {σ : L2.St} {H1 : Hp} {D : Addr} {Qd : Hp → Prop}
    (t : Nat → Bool) (dv : Nat → PyData) (hn : n ≤ 100000) (hD : H1 D = none) (hG : ∀ H, Same H1 H → G H) (hw : ∀ x y, wipe (((wipe σ vs).set j1 (some x)).set j2 (some y)) vs = wipe σ vs)
    (ht : ∀ i H, i < n → Same H1 H → ∀ Q : Bool → Hp → Prop, (∀ H3, Same H H3 → Q (t i) H3) → tt (((wipe σ vs).set j1 (some (xs i))).set j2 (some (ys i))) H Q)
    (he : ∀ i H, i < n → t i = true → Same H1 H → (∃ ys, H D = some (.lst ys)) → ∀ Q : VK, (∀ y H4, Same H H4 → Dp K (hid H4 D) y (dv i) → Q y H4) → te (((wipe σ vs).set j1 (some (xs i))).set j2 (some (ys i))) H Q)
    (hd : ∀ H ys, Same H1 H → H D = some (.lst ys) → DpAll K H ys (((List.range n).filter t).map dv) → Qd H) :
    ∃ W : Nat → Nat → Hp → Prop, (∃ m, W 0 m (upd H1 D (.lst []))) ∧ ∀ i m H, W i m H →
      (J.stop i H ∧ Qd H) ∨ (J.go i H ∧ ∃ Nx : Hp → Prop, (∀ H', Nx H' → ∃ m', m' < m ∧ W (i + 1) m' H') ∧ ∀ x H', J.yld i H x H' → (gTup K 2 (gCons (gName j1) (gCons (gName j2) gNil))) x (wipe σ vs) H' fun σ2 H2 => wipe σ2 vs = wipe σ vs ∧ tt σ2 H2 fun b H3 =>
        if b = true then te σ2 H3 fun y H4 => ∃ acc, H4 D = some (.lst acc) ∧ acc.length < sizeLine ∧ Nx (upd H4 D (.lst (acc ++ [y]))) else Nx H3) := by
  have app : ∀ {vs : List V} {ds : List PyData} {y : V} {d : PyData} {H : Hp}, DpAll K H vs ds → Dp K H y d → DpAll K H (vs ++ [y]) (ds ++ [d]) := by
    intro vs ds y d H h1 h2
    induction vs generalizing ds with
    | nil => cases h1; exact .cons h2 .nil
    | cons v vs ih => cases h1 with | cons a b => exact .cons a (ih b)
  have le : ∀ i, ((List.range i).filter t).length ≤ i := fun i => by
    have := List.length_filter_le t (List.range i)
    simpa using this
  refine lc_it w (fun i H => Same H1 H ∧ ∃ ys, H D = some (.lst ys) ∧ DpAll K (hid H D) ys (((List.range i).filter t).map dv)) ⟨same_new hD, [], upd_same, .nil⟩ (fun i H _ p => hG H p.1) (fun i x H H' hi p y => ?_) (fun H p => ?_)
  · obtain ⟨s1, zs, hz, hds⟩ := p
    obtain ⟨T, u, v, rfl, hT, rfl, e1, e2⟩ := y
    obtain rfl := Option.some.inj ((hf i hi).symm.trans e1)
    obtain rfl := Option.some.inj ((hg i hi).symm.trans e2)
    have nDT : D ≠ T := ne_of_none hz hT
    have s2 : Same H (upd H T (.tup [xs i, ys i])) := same_new hT
    have hz2 : (upd H T (.tup [xs i, ys i])) D = some (.lst zs) := s2 _ _ hz
    have hds2 : DpAll K (hid (upd H T (.tup [xs i, ys i])) D) zs (((List.range i).filter t).map dv) := (hid_mono s2 D).dp' hds
    refine ⟨T, [xs i, ys i], rfl, .of upd_same, rfl, xs i, [ys i], rfl, ys i, [], rfl, rfl, hw _ _, ht i _ hi (s1.trans s2) _ fun H3 s3 => ?_⟩
    refine ite2 (fun e => ?_) (fun e => ?_)
    · refine he i H3 hi e ((s1.trans s2).trans s3) ⟨zs, s3 D _ hz2⟩ _ fun z H4 s4 hzd => ?_
      refine ⟨zs, s4 D _ (s3 D _ hz2), ?_, (((s1.trans s2).trans s3).trans s4).mut hD, _, upd_same, ?_⟩
      · have e1 := dps_length hds
        rw [List.length_map] at e1
        have e2 := le i
        have : (100000 : Nat) < sizeLine := by decide
        omega
      · rw [hid_upd, List.range_succ, List.filter_append, List.map_append, List.filter_cons, if_pos e]
        exact app ((hid_mono (s3.trans s4) D).dp' hds2) hzd
    · refine ⟨(s1.trans s2).trans s3, zs, s3 D _ hz2, ?_⟩
      rw [List.range_succ, List.filter_append, List.map_append, List.filter_cons, if_neg e]
      simp only [List.filter_nil, List.map_nil, List.append_nil]
      exact (hid_mono s3 D).dp' hds2
  · obtain ⟨s1, zs, hz, hds⟩ := p
    exact hd H zs s1 hz ((hid_same H D).dp' hds)
/-- two generators, the second a range -/
theorem lc2_data {Y : Nat → Hp → V → Hp → Prop} (w : Walk J n G Y) (xs : Nat → V) (hY : ∀ i H x H', i < n → G H → Y i H x H' → H' = H ∧ x = xs i) {j j1 : Nat} {wi1 : L2.TI} {te : L2.TE} {vs vs1 : List Nat} {σ : L2.St} {H1 : Hp} {D : Addr} {Qd : Hp → Prop}
    (lo : Int) (n1 : Nat) (dv : Nat → Nat → PyData) (hn : n * n1 ≤ 100000) (hD : H1 D = none) (hG : ∀ H, Same H1 H → G H) (hw : ∀ x, wipe ((wipe σ vs).set j (some x)) vs = wipe σ vs)
    (hi : ∀ i H, i < n → Same H1 H → ∀ R : It → Hp → Prop, R (Itr lo n1) H → wi1 ((wipe σ vs).set j (some (xs i))) H R)
    (hw1 : ∀ x y, wipe ((wipe ((wipe σ vs).set j (some x)) vs1).set j1 (some y)) vs1 = wipe ((wipe σ vs).set j (some x)) vs1)
    (he : ∀ i k H, i < n → k < n1 → Same H1 H → (∃ ys, H D = some (.lst ys)) → ∀ Q : VK, (∀ y H4, Same H H4 → Dp K (hid H4 D) y (dv i k) → Q y H4) → te ((wipe ((wipe σ vs).set j (some (xs i))) vs1).set j1 (some (.int (lo + (k : Int))))) H Q)
    (hd : ∀ H ys, Same H1 H → H D = some (.lst ys) → DpAll K H ys ((List.range n).flatMap fun i => (List.range n1).map (dv i)) → Qd H) :
    ∃ W : Nat → Nat → Hp → Prop, (∃ m, W 0 m (upd H1 D (.lst []))) ∧ ∀ i m H, W i m H →
      (J.stop i H ∧ Qd H) ∨ (J.go i H ∧ ∃ Nx : Hp → Prop, (∀ H', Nx H' → ∃ m', m' < m ∧ W (i + 1) m' H') ∧ ∀ x H', J.yld i H x H' → (gName j) x (wipe σ vs) H' fun σ2 H2 => wipe σ2 vs = wipe σ vs ∧ tYes σ2 H2 fun b H3 =>
        if b = true then wi1 σ2 H3 fun J1 H4 => ∃ W1 : Nat → Nat → Hp → Prop, (∃ m, W1 0 m H4) ∧ ∀ j k H, W1 j k H →
          (J1.stop j H ∧ Nx H) ∨ (J1.go j H ∧ ∃ Nx1 : Hp → Prop, (∀ H', Nx1 H' → ∃ k', k' < k ∧ W1 (j + 1) k' H') ∧ ∀ x H', J1.yld j H x H' → (gName j1) x (wipe σ2 vs1) H' fun σ3 H5 => wipe σ3 vs1 = wipe σ2 vs1 ∧ tYes σ3 H5 fun b H6 =>
            if b = true then te σ3 H6 fun y H7 => ∃ acc, H7 D = some (.lst acc) ∧ acc.length < sizeLine ∧ Nx1 (upd H7 D (.lst (acc ++ [y]))) else Nx1 H6)
        else Nx H3) := by
  have app : ∀ {vs : List V} {ds : List PyData} {y : V} {d : PyData} {H : Hp}, DpAll K H vs ds → Dp K H y d → DpAll K H (vs ++ [y]) (ds ++ [d]) := by
    intro vs ds y d H h1 h2
    induction vs generalizing ds with
    | nil => cases h1; exact .cons h2 .nil
    | cons v vs ih => cases h1 with | cons a b => exact .cons a (ih b)
  have len : ∀ i, ((List.range i).flatMap fun i => (List.range n1).map (dv i)).length = i * n1 := fun i => by
    induction i with
    | zero => simp
    | succ i ih => rw [List.range_succ, List.flatMap_append, List.length_append, ih, Nat.succ_mul]; simp
  refine ⟨fun i m H => m = n - i ∧ i ≤ n ∧ Same H1 H ∧ ∃ ys, H D = some (.lst ys) ∧ DpAll K (hid H D) ys ((List.range i).flatMap fun i => (List.range n1).map (dv i)), ⟨n, by simp, Nat.zero_le _, same_new hD, [], upd_same, .nil⟩, ?_⟩
  rintro i m H ⟨rfl, hin, s1, ys, hy, hds⟩
  have q := hG H s1
  by_cases hlt : i < n
  · refine .inr ⟨w.goes i H hlt q, fun H => i + 1 ≤ n ∧ Same H1 H ∧ ∃ ys, H D = some (.lst ys) ∧ DpAll K (hid H D) ys ((List.range (i + 1)).flatMap fun i => (List.range n1).map (dv i)), fun H' p' => ⟨n - (i + 1), by omega, rfl, p'⟩, fun x H' y => ?_⟩
    obtain ⟨rfl, rfl⟩ := hY i H x H' hlt q (w.yields i H x H' hlt q y)
    refine ⟨hw _, yes_go (hi i H' hlt s1 _ ?_)⟩
    refine ⟨fun k m H => m = n1 - k ∧ k ≤ n1 ∧ Same H1 H ∧ ∃ ys, H D = some (.lst ys) ∧ DpAll K (hid H D) ys (((List.range i).flatMap fun i => (List.range n1).map (dv i)) ++ (List.range k).map (dv i)), ⟨n1, by simp, Nat.zero_le _, s1, ys, hy, by simpa using hds⟩, ?_⟩
    rintro k m H ⟨rfl, hk, s2, zs, hz, hzs⟩
    by_cases hk2 : k < n1
    · refine .inr ⟨hk2, fun H => Same H1 H ∧ ∃ ys, H D = some (.lst ys) ∧ DpAll K (hid H D) ys (((List.range i).flatMap fun i => (List.range n1).map (dv i)) ++ (List.range (k + 1)).map (dv i)), fun H' p' => ⟨n1 - (k + 1), by omega, rfl, hk2, p'⟩, fun x H'' y => ?_⟩
      obtain ⟨rfl, rfl⟩ := y
      refine ⟨hw1 _ _, yes_go ?_⟩
      refine he i k H'' hlt hk2 s2 ⟨zs, hz⟩ _ fun z H4 s4 hzd => ⟨zs, s4 D _ hz, ?_, (s2.trans s4).mut hD, _, upd_same, ?_⟩
      · have e1 := dps_length hzs
        rw [List.length_append, len, List.length_map, List.length_range] at e1
        have : (i + 1) * n1 ≤ n * n1 := Nat.mul_le_mul_right _ hlt
        rw [Nat.succ_mul] at this
        have : (100000 : Nat) < sizeLine := by decide
        omega
      · rw [hid_upd, List.range_succ, List.map_append, ← List.append_assoc]
        exact app ((hid_mono s4 D).dp' hzs) hzd
    · have e : k = n1 := by omega
      subst e
      refine .inl ⟨Nat.le_refl _, hlt, s2, zs, hz, ?_⟩
      rw [List.range_succ, List.flatMap_append]
      simpa using hzs
  · have e : i = n := by omega
    subst e
    exact .inl ⟨w.stops H q, hd H ys s1 hy ((hid_same H D).dp' hds)⟩
end
theorem tup_hid {K : PySem.W.Frag} {H : Hp} {D u : Addr} {xs : List V} (hD : ∃ ys, H D = some (.lst ys)) (h : SqT K H u xs) : SqT K (hid H D) u xs := by
  obtain ⟨ys, hD⟩ := hD
  rcases h with (h | ⟨o, h⟩) | h
  · exact .inl (.inl (hid_some h fun e => by rw [e, hD] at h; cases h))
  · exact .inl (.inr ⟨o, hid_some h fun e => by rw [e, hD] at h; cases h⟩)
  · exact .inr h
/-- a tuple of ints and another -/
theorem cat_go {K : PySem.W.Frag} {H : Hp} {a b : Addr} {q q' : List Int} {Q : VK} (ha : SqT K H a (q.map V.int)) (hb : SqT K H b (q'.map V.int)) (hl : q.length + q'.length ≤ 1000) (h : ∀ H' p, Same H H' → SqT K H' p ((q ++ q').map V.int) → Q (.ref p) H') : rCatA K (.ref a) (.ref b) H Q := by
  refine ⟨a, b, _, _, rfl, rfl, ha, hb, ?_, fun e => ?_, fun _ e => ?_, fun _ _ p hp => ?_⟩
  · rw [List.length_map, List.length_map]
    exact Nat.le_of_lt (small1000 hl)
  · have : q = [] := List.map_eq_nil_iff.mp e
    subst this
    exact h H b (Same.refl _) hb
  · have : q' = [] := List.map_eq_nil_iff.mp e
    subst this
    exact h H a (Same.refl _) (by rw [List.append_nil]; exact ha)
  · rw [← List.map_append]
    exact h _ p (same_new hp) (.of upd_same)
theorem range_flat {α β : Type} (d : α) (g : α → List β) (l : List α) : (List.range l.length).flatMap (fun i => g (l.getD i d)) = l.flatMap g := by
  have e1 : (List.range l.length).map (fun i => l.getD i d) = l := by
    refine List.ext_getElem (by simp) fun i h1 h2 => ?_
    simp [List.getD_eq_getElem?_getD, List.getElem?_eq_getElem h2]
  conv => rhs; rw [← e1]
  rw [List.flatMap_map]
theorem range_getD {α β : Type} (d : α) (f : α → β) (l : List α) : ((List.range l.length).filter (fun _ => true)).map (fun i => f (l.getD i d)) = l.map f := by
  rw [List.filter_eq_self.mpr (by simp)]
  refine List.ext_getElem (by simp) fun i h1 h2 => ?_
  have h : i < l.length := by simpa using h2
  simp [List.getD_eq_getElem?_getD, List.getElem?_eq_getElem h]
theorem ixN_of {n j : Nat} (h : j < n) : ixN n (j : Int) = some j := by
  unfold ixN
  rw [if_pos (by omega), if_pos (by omega), Int.toNat_natCast]
theorem same_str {x y : Str} (h : x = y) : (!decide (V.str x = V.str y)) = false := by
  rw [h, decide_eq_true rfl]
  rfl
theorem tup_inj {q q' : List Int} (h : PyData.tuple (q.map PyData.int) = .tuple (q'.map PyData.int)) : q = q' := by
  have h1 := PyData.tuple.inj h
  have e := eqv_ints q q'
  have e2 := eqv_ints q q
  rw [← h1, e2] at e
  simpa using e.symm
end Ai

/-! code that runs while an exception is handled: the end of a list's and a tuple's walk, zip, unpacking, a list comprehension, a def that looks at the exception -/
namespace Ai
open PySem PySem.Spec PyProof.Rows L2 HotX
section
variable {prog : Program} {w : World} {A : Around} {E : Value → Shared → Prop} {s : Shared}
theorem _root_.HotX.HotAt.keep {x1 : Addr} {h h' : Heap} (c : HotAt A x1 h) (k : ∀ o, h.get? x1 = some o → h'.get? x1 = some o) : HotAt A x1 h' := by
  obtain ⟨hh, o, vs, e, d, n⟩ := c
  exact ⟨hh, o, vs, k o e, d, n⟩
/-- a StopIteration that is raised there -/
theorem stop_hot {α : Type} {x1 : Addr} {Q : α → Shared → Prop} (hot : HotAt A x1 s.heap)
    (hE : ∀ h' e, (∀ b o, s.heap.get? b = some o → h'.get? b = some o) → (∃ o, h'.get? e = some o ∧ o.cls = .type "StopIteration") → E (.ref e) { s with heap := h' }) :
    wpAny (model prog w) A (Builtin.SmallTypes.stopIteration : Sem α) Q E s := by
  unfold Builtin.SmallTypes.stopIteration
  obtain ⟨hh, o1, vs1, h1, d1, c1⟩ := hot
  refine wpAny_bind ?_
  simp only [newExc, newTuple]
  refine wpAny_bind (wpAny_newObj_type ?_ (by size_fits))
  refine wpAny_bind (m := firstArgMember _ _) (wpAny_of_eq (a := Value.none) (by first | rfl | (simp only [firstArgMember]; rfl)) ?_)
  refine wpAny_newObj_type ?_ (by size_fits)
  have g1 := Heap.get?_push_of_some { cls := .type "tuple", data := .seq ([] : List Value).toArray } h1
  refine raiseNew_hot ⟨hh, o1, vs1, Heap.get?_push_of_some _ g1, d1, c1⟩ (Nat.ne_of_lt (Heap.lt_size g1)) (Heap.get?_push_size _ rfl) rfl (by first | (simp; done) | (simp; omega) | (simp only [Array.size_append]; simp; omega)) ?_
  refine hE _ _ (fun b o e => ?_) ⟨_, Heap.get?_update_self _ (Heap.get?_push_size _ rfl) rfl, rfl⟩
  have g2 := Heap.get?_push_of_some { cls := .type "tuple", data := .seq ([] : List Value).toArray } e
  rw [Heap.get?_update_other _ _ (Nat.ne_of_gt (Heap.lt_size g2))]
  exact Heap.get?_push_of_some _ g2
theorem list_end_hot {it l x1 : Addr} {i : Nat} {items : Array Value} {Q : Value → Shared → Prop} (hot : HotAt A x1 s.heap) (hne : x1 ≠ it) (hit : s.heap.IsListIter it l i) (hl : s.heap.IsList l items) (hx : items[i]? = none)
    (hE : ∀ h' e, Heap.ExtBut it s.heap h' → (∃ o, h'.get? e = some o ∧ o.cls = .type "StopIteration") → E (.ref e) { s with heap := h' }) :
    wpAny (model prog w) A (Builtin.SmallTypes.nextOf (.ref it)) Q E s := by
  obtain ⟨o, ho, hc, hd⟩ := id hit
  obtain ⟨ol, hol, _, nl, hdl⟩ := hl
  unfold Builtin.SmallTypes.nextOf
  refine wpAny_bind (wpAny_callSpecial?_slot (name := Str.ofString "__next__") hit.typeIs slot_listiter_next (wpAny_call_entry slot_listiter_next hit.typeIs entry_listiter_next ?_ (args_listiter_next _)))
  show wpAny _ _ (field (.ref it) 0 >>= _) _ _ s
  refine wpAny_bind (wpAny_field ho hd (x := .ref l) rfl ?_)
  show wpAny _ _ (if (Value.ref l == Value.none) = true then _ else _) _ _ s
  rw [if_neg (show ¬ ((Value.ref l == Value.none) = true) from Bool.false_ne_true)]
  show wpAny _ _ (field (.ref it) 1 >>= _) _ _ s
  refine wpAny_bind (wpAny_field ho hd (x := .int i 0) rfl ?_)
  show wpAny _ _ (seqItems? (.ref l) >>= _) _ _ s
  refine wpAny_bind (wpAny_seqItems hol hdl ?_)
  simp only [Int.toNat_natCast, hx]
  refine wpAny_bind (wpAny_rule (wpAny_bind (wpAny_setField ho hd (by simp) ?_)))
  have sb : Heap.SameBut it s.heap (s.heap.update it (Obj.mapFields (·.setIfInBounds 0 .none))) := Heap.SameBut.update ..
  exact stop_hot (hot.keep fun o e => sb.extBut x1 o hne e) fun h' e hk he => hE h' e (fun b o hb q => hk b o (sb.extBut b o hb q)) he
theorem tuple_end_hot {it t x1 : Addr} {i : Nat} {items : Array Value} {Q : Option Value → Shared → Prop} (hot : HotAt A x1 s.heap) (hne : x1 ≠ it) (hit : IsTupIter s.heap it t i) (ht : IsTup s.heap t items) (hx : items[i]? = none)
    (hQ : ∀ h', Heap.ExtBut it s.heap h' → Q none { s with heap := h' }) : wpAny (model prog w) A (pyNext (.ref it)) Q E s := by
  obtain ⟨o, ho, hc, hd⟩ := id hit
  obtain ⟨ol, hol, _, nl, hdl⟩ := ht
  unfold pyNext
  refine wpAny_bind (wpAny_attempt (wpAny_callSpecial?_slot (name := Str.ofString "__next__") hit.typeIs slot_tupleiter_next (wpAny_call_entry slot_tupleiter_next hit.typeIs entry_tupleiter_next ?_ (args_tupleiter_next _))))
  show wpAny _ _ (field (.ref it) 0 >>= _) _ _ s
  refine wpAny_bind (wpAny_field ho hd (x := .ref t) rfl ?_)
  show wpAny _ _ (if (Value.ref t == Value.none) = true then _ else _) _ _ s
  rw [if_neg (show ¬ ((Value.ref t == Value.none) = true) from Bool.false_ne_true)]
  show wpAny _ _ (field (.ref it) 1 >>= _) _ _ s
  refine wpAny_bind (wpAny_field ho hd (x := .int i 0) rfl ?_)
  show wpAny _ _ (seqItems? (.ref t) >>= _) _ _ s
  refine wpAny_bind (wpAny_seqItems hol hdl ?_)
  simp only [Int.toNat_natCast, hx]
  refine wpAny_bind (wpAny_rule (wpAny_bind (wpAny_setField ho hd (by simp) ?_)))
  have sb : Heap.SameBut it s.heap (s.heap.update it (Obj.mapFields (·.setIfInBounds 0 .none))) := Heap.SameBut.update ..
  refine stop_hot (hot.keep fun o e => sb.extBut x1 o hne e) fun h' e hk he => ?_
  obtain ⟨oe, he1, he2⟩ := he
  refine wpAny_bind (wpAny_isInstance (T := "StopIteration") (b := true) ⟨oe, he1, he2⟩ isSubtype_stop ?_)
  exact wpAny_pure (hQ _ fun b o hb q => hk b o (sb.extBut b o hb q))
/-- a, b = a tuple -/
theorem assign_tuple_hot {x1 : Addr} {env : Env} {elts : List Expr} {k} {pos : Pos} {t : Addr} {items : Array Value} {Q : Unit → Shared → Prop} (hot : HotAt A x1 s.heap) (ht : IsTup s.heap t items)
    (hn : (assignEach elts env).length = items.size) (hstar : (assignEach elts env).findIdx? (·.1) = none)
    (h : ∀ h', Heap.ExtBut s.heap.objs.size s.heap h' → wpAny (model prog w) A (assignInOrder ((assignEach elts env).map (·.2)) items.toList) Q E { s with heap := h' }) :
    wpAny (model prog w) A (assign (.Tuple elts k pos) env (.ref t)) Q E s := by
  rw [assign_Tuple]
  refine wpAny_bind (wpAny_standAt ?_)
  have hlt : t ≠ s.heap.objs.size := by obtain ⟨o, ho, _⟩ := ht; exact Nat.ne_of_lt (Heap.lt_size ho)
  have hx1 : x1 ≠ s.heap.objs.size := by obtain ⟨_, o, _, e, _⟩ := hot; exact Nat.ne_of_lt (Heap.lt_size e)
  unfold unpack
  rw [hn, hstar]
  refine wpAny_bind (wpAny_holding ?_)
  unfold unpackItems
  refine wpAny_bind ?_
  unfold notIterableAtAll
  refine wpAny_bind (wpAny_specialOf ht.typeIs slot_tuple_iter.lookup ?_)
  refine wpAny_pure ?_
  simp only [Bool.false_eq_true, if_false]
  refine wpAny_bind (wpAny_holding (iter_tuple ht ?_))
  refine wpAny_bind (wpAny_holding (draw_tuple hlt items.size 0 _ _ ⟨_, Heap.get?_push_size _ rfl, rfl, rfl⟩ (ht.push _) (by omega) fun h₁ hit₁ hs₁ => ?_))
  have hall : List.take items.size (List.drop 0 items.toList) = items.toList := by
    rw [List.drop_zero]; exact List.take_of_length_le (by simp)
  rw [hall, if_neg (by simp)]
  have up : ∀ b o, b ≠ s.heap.objs.size → s.heap.get? b = some o → h₁.get? b = some o := fun b o hb e => hs₁.extBut b o hb (Heap.get?_push_of_some _ e)
  refine wpAny_bind (wpAny_holding (tuple_end_hot (hot.keep fun o e => up x1 o hx1 e) hx1 hit₁ ((ht.push _).extBut hs₁.extBut hlt) (by simp) fun h₂ he₂ => ?_))
  simp only [Option.isSome_none, Bool.false_eq_true, if_false]
  exact wpAny_pure (h h₂ fun b o hb e => he₂ b o hb (up b o hb e))
/-- a list's iterator, there -/
theorem draws_hot {it l x1 : Addr} (hA : A.handled = some (.ref x1)) (hne : l ≠ it) (hx : x1 ≠ it) (items : Array Value) :
    Draws prog w A it [it, l, x1] items.size (fun i v => items[i]? = some v) (fun i h => h.IsListIter it l i ∧ h.IsList l items ∧ HotAt A x1 h) where
  live := fun _ _ st => let ⟨o, ho, _⟩ := st.1; ⟨o, ho⟩
  frame := fun _ _ _ st hk => ⟨st.1.at fun o e => hk it (by simp) o e, st.2.1.at fun o e => hk l (by simp) o e, st.2.2.keep fun o e => hk x1 (by simp) o e⟩
  item := fun i s Q E hi st hQ => by
    refine wpAny_nextOf_list_item st.1 st.2.1 (x := items[i]) (by simp [hi]) fun h' hit' hs' => ?_
    exact hQ _ h' s.toks (by simp [hi]) ⟨hit', st.2.1.extBut hs'.extBut hne, st.2.2.keep fun o e => hs'.extBut _ _ hx e⟩ hs'
  done := fun s Q E st hE => list_end_hot st.2.2 hx st.1 st.2.1 (by simp) hE
end

/-! ### zip, there -/
/-- the lists at a and b as they stand at each turn, the items in new pairs, n of them -/
def ItzH (K : PySem.W.Frag) (a b : Addr) (n : Nat) : It :=
  ⟨fun i H => (Itz K a b).go i H, fun i H v H' => (Itz K a b).yld i H v H', fun i H => i = n ∧ ∃ xs ys : List V, SqL K H a xs ∧ SqL K H b ys ∧ n = min xs.length ys.length⟩
theorem turn_zipH {P : Program} {w : World} {K : PySem.W.Frag} {elts : List Expr} {kk : Nat} {tpos : Pos} {a b z TI TO i1 i2 : Addr} {n : Nat} (D : ZipApart z TI TO i1 i2 a b) :
    L2H.TurnH P w K (.Tuple elts kk tpos) (ItzH K a b n) [z, TI, TO, i1, i2] z (fun i h => IsZip h z TI TO .none ∧ IsPair h TI (.ref i1) (.ref i2) ∧ (∃ x y, IsPair h TO x y) ∧ h.IsListIter i1 a i ∧ h.IsListIter i2 b i) where
  mem := (turn_zip (P := P) (w := w) (K := K) (elts := elts) (kk := kk) (tpos := tpos) D).mem
  obj := (turn_zip (P := P) (w := w) (K := K) (elts := elts) (kk := kk) (tpos := tpos) D).obj
  keep := (turn_zip (P := P) (w := w) (K := K) (elts := elts) (kk := kk) (tpos := tpos) D).keep
  self := (turn_zip (P := P) (w := w) (K := K) (elts := elts) (kk := kk) (tpos := tpos) D).self
  item := by
    intro X hP hw hK hc i pins s σ H E I hf st hg
    subst hP hw hK
    obtain ⟨hz, hTI, ⟨x0, y0, hTO⟩, h1, h2⟩ := st
    obtain ⟨xs, ys, x, y, hqx, hqy, hx, hy⟩ := hg
    obtain ⟨its, rv, p, _⟩ := I.list hqx
    obtain ⟨its2, rv2, p2, _⟩ := I.list hqy
    obtain ⟨u, hu, ru⟩ := rv.get hx
    obtain ⟨u2, hu2, ru2⟩ := rv2.get hy
    have far : ∀ c ∈ [z, TI, TO, i1, i2], c < s.heap.objs.size := fun c hcm => by
      simp only [List.mem_cons, List.not_mem_nil, or_false] at hcm
      obtain ⟨_, e1, _⟩ := h1
      obtain ⟨_, e2, _⟩ := h2
      rcases hcm with q | q | q | q | q <;> rw [q]
      · exact Heap.lt_size hz
      · exact Heap.lt_size hTI
      · exact Heap.lt_size hTO
      · exact Heap.lt_size e1
      · exact Heap.lt_size e2
    refine wpAny_pyNext_zip_item D hz hTI hTO h1 h2 p.isList p2.isList (x := u) (y := u2) (by simpa using hu) (by simpa using hu2) fun h' z' TO' h1' h2' hT hsz hk => ?_
    refine ⟨_, rfl, wpAny_letOwnedTupleGo_zip (s := { s with heap := h' }) z' fun h'' z'' sb => ?_⟩
    have zlt := far z (by simp)
    have new : ObjOk X.prog X.w (upd H s.heap.objs.size (.tup [x, y])) h'' s.heap.objs.size (.tup [x, y]) :=
      ⟨by show 2 ≤ sizeLine; decide, [u, u2], .cons ru (.cons ru2 .nil), ⟨_, (sb.2 _ (Nat.ne_of_gt zlt)).trans hT, rfl, _, rfl⟩⟩
    have out : ∀ c o, c ∉ [z, TI, TO, i1, i2] → s.heap.get? c = some o → h''.get? c = some o := fun c o hb q => by
      simp only [List.mem_cons, List.not_mem_nil, or_false, not_or] at hb
      exact (sb.2 c hb.1).trans (hk c o hb.1 hb.2.2.1 hb.2.2.2.1 hb.2.2.2.2 q)
    have I1 : Inv X pins σ (upd H s.heap.objs.size (.tup [x, y])) { s with heap := h'' } := I.turnedNew (t' := s.toks) (ch := [z, TI, TO, i1, i2]) out hf (Nat.le_refl _) new
    refine ⟨.ref s.heap.objs.size, _, I1, rfl, ⟨_, x, y, rfl, I.hok.fresh (Nat.le_refl _), rfl, fun l hl => by rw [I.list_inj hl hqx]; exact hx, fun l hl => by rw [I.list_inj hl hqy]; exact hy⟩, ⟨z'', ?_, ⟨u, u2, ?_⟩, ?_, ?_⟩, fun c hcm => ?_⟩
    · exact (sb.2 _ D.TIz).trans (hk _ _ D.TIz D.TITO D.TIi1 D.TIi2 hTI)
    · exact (sb.2 _ D.TOz).trans TO'
    · exact h1'.at fun o q => (sb.2 _ D.i1z).trans q
    · exact h2'.at fun o q => (sb.2 _ D.i2z).trans q
    · rw [upd_ne (Nat.ne_of_lt (far c hcm))]
      exact (hf c hcm).1
  done := by
    intro X hP hw hK hc i pins s σ H E I hf st hg
    subst hP hw hK
    obtain ⟨hz, hTI, ⟨x0, y0, hTO⟩, h1, h2⟩ := st
    obtain ⟨rfl, xs, ys, hqx, hqy, hn⟩ := hg
    obtain ⟨its, rv, p, _⟩ := I.list hqx
    obtain ⟨its2, rv2, p2, _⟩ := I.list hqy
    have l1 := rv.length
    have l2 := rv2.length
    obtain ⟨q, ⟨hh, v1, e1, c1⟩, hq⟩ := hc
    have ex := (I.pin q (List.mem_append_left _ hq)).1
    have nx : ∀ c ∈ [z, TI, TO, i1, i2], q.1 ≠ c := fun c hcm => (hf c hcm).2.2.2.2.2 q (List.mem_append_left _ hq)
    have hot : HotAt X.A.in1 q.1 s.heap := ⟨hh, q.2, v1, ex, e1, c1⟩
    have S : ZipSep2 z TI TO i1 i2 [i1, a, q.1] [i2, b, q.1] := by
      have n1 := nx z (by simp)
      have n2 := nx TO (by simp)
      have n3 := nx i1 (by simp)
      have n4 := nx i2 (by simp)
      refine ⟨D.TIz, D.TOz, D.TITO, D.TIi1, by simp, ?_, ?_, D.TIi2, by simp, ?_, ?_, ?_, ?_⟩ <;> simp only [List.mem_cons, List.not_mem_nil, or_false, not_or]
      · exact ⟨D.i1z.symm, D.l1z.symm, n1.symm⟩
      · exact ⟨D.TOi1, D.l1TO.symm, n2.symm⟩
      · exact ⟨D.i2z.symm, D.l2z.symm, n1.symm⟩
      · exact ⟨D.TOi2, D.l2TO.symm, n2.symm⟩
      · exact ⟨D.i12, D.l2i1.symm, n3.symm⟩
      · exact ⟨D.i12.symm, D.l1i2.symm, n4.symm⟩
    have D1 := draws_hot (prog := X.prog) (w := X.w) (A := X.A.in1) (it := i1) (l := a) hh D.l1i1 (nx i1 (by simp)) its.toArray
    have D2 := draws_hot (prog := X.prog) (w := X.w) (A := X.A.in1) (it := i2) (l := b) hh D.l2i2 (nx i2 (by simp)) its2.toArray
    have s1 : its.toArray.size = its.length := by simp
    have s2 : its2.toArray.size = its2.length := by simp
    refine wpAny_pyNext_zipD2_end S D1 D2 hz hTI hTO ⟨h1, p.isList, hot⟩ ⟨h2, p2.isList, hot⟩ (by omega) (by omega) (by omega) fun h' tk hk => ⟨rfl, I.turnedL (t' := tk) (ch := [z, TI, TO, i1, i2]) (fun c o hb q => ?_) hf⟩
    simp only [List.mem_cons, List.not_mem_nil, or_false, not_or] at hb
    exact hk c o hb.1 hb.2.2.1 hb.2.2.2.1 hb.2.2.2.2 q
def iZipH (K : PySem.W.Frag) (ta : TA) : TI := fun σ H R => ta σ H fun vs H1 => ∃ a b xs ys, vs = [.ref a, .ref b] ∧ SqL K H1 a xs ∧ SqL K H1 b ys ∧ R (ItzH K a b (min xs.length ys.length)) H1
theorem pi_zipH {X : Cx} {e e2 : Expr} {ta : TA} {p pos tpos : Pos} {elts : List Expr} {kk : Nat} (hg : Gl X "zip") (hm : X.mg "zip" = none) (ha : PA X [e, e2] ta)
    (hs : starEach [e, e2] X.env = (false, eval e X.env) :: starEach [e2] X.env := by rfl) (hpl : (backTo pos (starEach [e2] X.env)).any (·.1) = false := by rfl) :
    L2H.PIH X (.Tuple elts kk tpos) (.Call (.Name "zip" p) [e, e2] [] pos) (iZipH X.K ta) := by
  refine ⟨fun pins s σ H R I h => ?_⟩
  refine Call_ (ld_blt I hg hm PyProof.Rows.boot_zip (PyProof.Rows.callWith_type1 (thn (ha.run pos pins s σ H _ I h) fun us s1 ⟨vs, H1, I1, r1, q1⟩ => ?_) hs hpl))
  obtain ⟨a, b, xs, ys, ex, hqx, hqy, q⟩ := q1
  subst ex
  cases r1 with
  | cons r rr =>
    cases rr with
    | cons r' rr =>
      cases rr
      cases r
      cases r'
      obtain ⟨its, rv, p1, _⟩ := I1.list hqx
      obtain ⟨its2, rv2, p2, _⟩ := I1.list hqy
      refine call_zip_2 p1.isList p2.isList fun h' hz hTI hTO h1 h2 hsz hk => wpAny_pyIter_zip hz ?_
      refine ⟨s1.heap.objs.size + 4, [s1.heap.objs.size + 4, s1.heap.objs.size + 2, s1.heap.objs.size + 3, s1.heap.objs.size, s1.heap.objs.size + 1], _, _, H1, rfl, I1.kept (t' := s1.toks) hk, turn_zipH (PySem.W.ktu_apart s1.heap.objs.size a b p1.lt p2.lt), ⟨hz, hTI, ⟨_, _, hTO⟩, h1, h2⟩, fun c hcm => ?_, q⟩
      have hle : s1.heap.objs.size ≤ c := by
        simp only [List.mem_cons, List.not_mem_nil, or_false] at hcm
        rcases hcm with z | z | z | z | z <;> rw [z]
        · exact Nat.le_add_right _ _
        · exact Nat.le_add_right _ _
        · exact Nat.le_add_right _ _
        · exact Nat.le_refl _
        · exact Nat.le_add_right _ _
      exact I1.fpOk hle (I1.hok.fresh hle)
theorem walk_zipH {K : PySem.W.Frag} {a b : Addr} {xs ys : List V} {n : Nat} (hn : n = min xs.length ys.length) : Walk (ItzH K a b n) n (fun H => SqL K H a xs ∧ SqL K H b ys) (YPair (fun i => xs[i]?) (fun i => ys[i]?)) :=
  ⟨(walk_zip (K := K) (a := a) (b := b) hn).goes, fun _ q => ⟨rfl, xs, ys, q.1, q.2, hn⟩, (walk_zip (K := K) (a := a) (b := b) hn).yields⟩
/-- (a, b, ..) = a tuple of that length, there -/
theorem pg_tupH {X : Cx} {pos : Pos} {es : List Expr} {k : Nat} {t : TGs} {n : Nat} (hc : L2H.HotC X) (h : PGs X es t)
    (hn : (assignEach es X.env).length = n := by rfl) (hst : (assignEach es X.env).findIdx? (·.1) = none := by rfl) : PG X (.Tuple es k pos) (gTup X.K n t) := by
  refine ⟨fun pins s σ H v u Q I r hw => ?_⟩
  obtain ⟨a, xs, e1, hq, hl, hw⟩ := hw
  subst e1
  cases r
  obtain ⟨its, rv, ht, hz⟩ := I.tuple hq
  obtain ⟨x1, hot⟩ := hc.at I
  refine assign_tuple_hot hot ht (by simp [hn, ← hl, rv.length]) hst fun h' hx => ?_
  exact h.run pins _ σ H xs _ Q (I.kept (t' := s.toks) fun b o e => hx b o (Nat.ne_of_lt (Heap.lt_size e)) e) (by simpa using rv) hw

/-! ### a list comprehension, there -/
/-- the block's context: as ever, and the handled exception stays pinned -/
abbrev blkH (X : Cx) (s : Shared) (H : Hp) (scope : Scope) (cenv : Env) (fp : List Addr) : Cx := { X.blk s H scope cenv fp with pn := X.pn }
section
variable {X : Cx} {pins : List (Addr × Obj)} {σ : L2.St} {H : Hp} {s : Shared}
theorem blkH_start {scope : Scope} {own : List (Str × Nat)} {fp : List Addr} (I : Inv X pins σ H s) (ok : BlkOk X.N X.env.scope scope own) (hN : X.N.Nodup) (hfp : ∀ b ∈ fp, FpOk X pins H b ∧ b < s.heap.objs.size) :
    Inv (blkH X s H scope (compEnvC scope (cellsFrom (s.heap.objs.size + 1) scope.names (cloFrom X.env.cells scope.names [])) s.heap.objs.size X.env) fp) [] (wipe σ (own.map (·.2))) H { s with heap := pushCells (s.heap.push { cls := .type "dict", data := .dict #[] }) scope.names } := by
  have B := block_start I ok hN hfp
  have O := B.ok
  refine ⟨⟨O.mod, O.kind, O.glob, O.blt, O.above, O.inj, O.has, O.cab, O.hd, O.frames, O.stk, O.exf, O.bs, O.bsz, O.noex, O.exfs, O.funs, O.frf⟩, B.os, B.bare, B.base, B.loc, B.cell, B.free, B.freeC, fun p hp => ?_, B.hok, B.len⟩
  have hp' : p ∈ X.pn := by simpa using (show p ∈ X.pn ++ [] from hp)
  obtain ⟨p1, p2, p3, p4, p5⟩ := I.pin p (List.mem_append_left _ hp')
  refine ⟨pushCells_keeps _ _ _ _ (Heap.get?_push_of_some _ p1), p2, Nat.ne_of_lt (Heap.lt_size p1), fun z => ?_, p5⟩
  rcases List.mem_cons.mp (I.stkSub p.1 z) with z | z
  · exact p3 z
  · exact p4 z
theorem pe_lcH {elt tg iter : Expr} {ifs : List Expr} {scope : Scope} {own : List (Str × Nat)} {pos : Pos} {wi : TI} {g : TG} {tt : L2.TT} {te : L2.TE} (hc : L2H.HotC X) (hN : X.N.Nodup) (hi : L2H.PIH X tg iter wi) (ok : BlkOk X.N X.env.scope scope own)
    (hg : ∀ (s : Shared) (H : Hp) (C : Addr) (cl : List (Str × Addr)) (fp : List Addr), PG (blkH X s H scope (compEnvC scope cl C X.env) fp) tg g) (ht : ∀ (s : Shared) (H : Hp) (C : Addr) (cl : List (Str × Addr)) (fp : List Addr), PTs (blkH X s H scope (compEnvC scope cl C X.env) fp) ifs tt)
    (he : ∀ (s : Shared) (H : Hp) (C : Addr) (cl : List (Str × Addr)) (fp : List Addr), PE (blkH X s H scope (compEnvC scope cl C X.env) fp) elt te) (hs : ∀ x, foldedSetIterable iter X.env x = pure x := by intro _; rfl) :
    PE X (.ListComp elt [⟨tg, iter, ifs, 0⟩] scope pos) (tLc wi g tt te (own.map (·.2))) := by
  refine ⟨fun pins s σ H Q I h => ?_⟩
  rw [eval_ListComp]
  have hfree : ∀ y ∈ scope.names, y.2 = .free → ∃ c, X.env.cells.lookup y.1 = some c := fun y hy e => (ok.free y hy e).elim (fun k => I.ok.has _ (.inl k)) (fun k => I.ok.has _ (.inr k))
  refine wpAny_comprehension_free (use := none) rfl hs (closure_ok hfree) ok.kind (fun y hy e => by rw [ok.uniq y hy, e]) (thn (hi.run pins s σ H _ I h) fun xv s1 hx => thn hx fun itv s2 h2 => ?_)
  obtain ⟨it, fp, tn, J, H2, e, I2, T, st2, f2, q⟩ := h2
  subst e
  refine wpAny_newObj_type (newEnv_comp ?_) (by show 0 ≤ sizeLine; decide)
  obtain ⟨W, ⟨m0, w0⟩, turn⟩ := q s2.heap.objs.size (I2.hok.fresh (Nat.le_refl _))
  -- the new list
  have I3 : Inv X pins σ (upd H2 s2.heap.objs.size (.lst [])) { s2 with heap := s2.heap.push { cls := .type "list", data := .seq ([] : List Value).toArray } } :=
    I2.laid (t' := s2.toks) (fun b o e => Heap.get?_push_of_some _ e) (Nat.le_refl _) ⟨Nat.zero_le _, [], 0, .nil, Heap.get?_push_size _ rfl⟩
  have sz : ∀ b ∈ fp, b < s2.heap.objs.size := fun b hb => by
    obtain ⟨o, e, _⟩ := T.obj _ _ st2 b hb
    exact Heap.lt_size e
  have f3 : ∀ b ∈ fp, FpOk X pins (upd H2 s2.heap.objs.size (.lst [])) b ∧ b < (s2.heap.push { cls := .type "list", data := .seq ([] : List Value).toArray }).objs.size := fun b hb => by
    refine ⟨⟨?_, (f2 b hb).2⟩, by rw [Heap.size_push]; exact Nat.lt_succ_of_lt (sz b hb)⟩
    rw [upd_ne (Nat.ne_of_lt (sz b hb))]
    exact (f2 b hb).1
  have st3 : tn 0 (s2.heap.push { cls := .type "list", data := .seq ([] : List Value).toArray }) := T.keep _ _ _ st2 fun b _ o e => Heap.get?_push_of_some _ e
  generalize hD : s2.heap.objs.size = D at I3 f3 w0 turn ⊢
  generalize hH3 : upd H2 D (.lst []) = H3 at I3 f3 w0
  generalize hs3 : ({ s2 with heap := s2.heap.push { cls := .type "list", data := .seq ([] : List Value).toArray } } : Shared) = s3 at I3 ⊢
  have h3 : s3.heap = s2.heap.push { cls := .type "list", data := .seq ([] : List Value).toArray } := by rw [← hs3]
  rw [← h3] at f3 st3
  have I4 := blkH_start I3 ok hN f3
  have pg := hg s3 H3 s3.heap.objs.size (cellsFrom (s3.heap.objs.size + 1) scope.names (cloFrom X.env.cells scope.names [])) fp
  have pt := ht s3 H3 s3.heap.objs.size (cellsFrom (s3.heap.objs.size + 1) scope.names (cloFrom X.env.cells scope.names [])) fp
  have pe := he s3 H3 s3.heap.objs.size (cellsFrom (s3.heap.objs.size + 1) scope.names (cloFrom X.env.cells scope.names [])) fp
  show codeAny _ _ (.compStart (.ListComp elt [⟨tg, iter, ifs, 0⟩] scope pos) 0 (.ref it) (.ref D) (compEnvC scope (cellsFrom (s3.heap.objs.size + 1) scope.names (cloFrom X.env.cells scope.names [])) s3.heap.objs.size X.env)) _ { s3 with heap := pushCells (s3.heap.push { cls := .type "dict", data := .dict #[] }) scope.names }
  have nfp : ∀ b ∈ fp, H3 b = none := fun b hb => (f3 b hb).1.1
  have st4 : tn 0 (pushCells (s3.heap.push { cls := .type "dict", data := .dict #[] }) scope.names) := T.keep _ _ _ st3 fun b _ o e => pushCells_keeps _ _ _ _ (Heap.get?_push_of_some _ e)
  generalize hce : compEnvC scope (cellsFrom (s3.heap.objs.size + 1) scope.names (cloFrom X.env.cells scope.names [])) s3.heap.objs.size X.env = ce at I4 pg pt pe ⊢
  have cL : ce.locals = s3.heap.objs.size := by subst hce; rfl
  generalize hs4 : ({ s3 with heap := pushCells (s3.heap.push { cls := .type "dict", data := .dict #[] }) scope.names } : Shared) = s4 at I4 ⊢
  rw [show pushCells (s3.heap.push { cls := .type "dict", data := .dict #[] }) scope.names = s4.heap by rw [← hs4]] at st4
  have hcB : L2H.HotC (blkH X s3 H3 scope ce fp) := hc
  have stat : ∀ {σ' : L2.St} {H' : Hp} {s' : Shared}, Inv (blkH X s3 H3 scope ce fp) [] σ' H' s' → (∀ b ∈ fp, H' b = none) → ∀ b ∈ fp, FpOk (blkH X s3 H3 scope ce fp) [] H' b := fun {σ' H' s'} I' hn b hb =>
    ⟨hn b hb, (I'.ok.exf b hb).1, I'.ok.exfs b hb, .inl hb, fun x c e => (I'.ok.exf b hb).2 x c e, fun p hp => (f3 b hb).1.2.2.2.2.2 p (List.mem_append_left _ (by simpa using (show p ∈ X.pn ++ [] from hp)))⟩
  refine codeAny_compStart_list ?loop (T.self X.A 0 _ _ _ st4 ?loop)
  refine compLoop_any (fun n s' => ∃ i H', Inv (blkH X s3 H3 scope ce fp) [] (wipe σ (own.map (·.2))) H' s' ∧ tn i s'.heap ∧ (∀ b ∈ fp, H' b = none) ∧ W i n H') ?_ m0 ⟨0, H3, I4, st4, nfp, w0⟩
  rintro n s5 ⟨i, H5, I5, st5, n5, w5⟩
  rcases turn i n H5 w5 with ⟨stop, qq⟩ | ⟨go, Nx, hNx, step⟩
  · refine thnF (T.done (blkH X s3 H3 scope ce fp) rfl rfl rfl hcB i [] s5 _ H5 (fun _ _ => False) I5 (stat I5 n5) st5 stop) fun r s6 ⟨hr, I6⟩ => ?_
    subst hr
    have I7 : Inv X pins σ H5 s6 := I3.call' (ch := fp) I6.os I6.base I6.hok I6.bare fun b hb => ⟨(f3 b hb).1.2.2.2.1, (f3 b hb).1.2.1, (f3 b hb).1.2.2.2.2.1, (f3 b hb).1.2.2.2.2.2⟩
    have nC : H5 s3.heap.objs.size = none := by
      have z : H5 ce.locals = none := I6.free
      rwa [cL] at z
    obtain ⟨m, hn, _⟩ := I6.loc
    have hn : s6.heap.Ns ce.locals m := hn
    rw [cL] at hn
    obtain ⟨g0, g1, g2, g3, g4, g5⟩ := I3.fpOk (Nat.le_refl _) nC
    exact ⟨m, hn, fun h'' sb => ⟨.ref D, H5, I7.turned (t' := s6.toks) (fun b o hb e => (sb.2 b hb).trans e) g0 g1 g3 g4 g5, rfl, qq⟩⟩
  · refine thnF (T.item (blkH X s3 H3 scope ce fp) rfl rfl rfl hcB i [] s5 _ H5 (fun _ _ => False) I5 (stat I5 n5) st5 go) fun r s6 ⟨u, hr, h6⟩ => ?_
    subst hr
    refine thnF h6 fun _ s7 ⟨x, H7, I7, r7, y7, st7, n7⟩ => ?_
    have I7' := I7.pinned (stat I7 n7) (T.obj _ _ st7)
    refine thnF (pg.run _ s7 _ H7 x u _ I7' r7 (step x H7 y7)) fun _ s8 ⟨σ8, H8, I8, hw8, q8⟩ => ?_
    refine thnF (pt.run _ s8 σ8 H8 _ I8 q8) fun b s9 ⟨H9, I9, q9⟩ => ?_
    have fin : ∀ {s' : Shared} {H' : Hp}, Inv (blkH X s3 H3 scope ce fp) ([] ++ pinsAt fp s7.heap) σ8 H' s' → Nx H' → ∃ m, m < n ∧ ∃ i H', Inv (blkH X s3 H3 scope ce fp) [] (wipe σ (own.map (·.2))) H' s' ∧ tn i s'.heap ∧ (∀ b ∈ fp, H' b = none) ∧ W i m H' := fun {s' H'} I' nx => by
      obtain ⟨m', hm, w'⟩ := hNx H' nx
      have pin' : ∀ b ∈ fp, ∀ o, s7.heap.get? b = some o → s'.heap.get? b = some o ∧ H' b = none := fun b hb o e =>
        let z := I'.pin (b, o) (List.mem_append_right _ (List.mem_append_right _ (mem_pinsAt hb e)))
        ⟨z.1, z.2.1⟩
      have hl : (wipe σ (own.map (·.2))).length = σ8.length := by rw [← hw8, wipe_length]
      refine ⟨m', hm, i + 1, H', (I'.unpinned (pins := [])).weak hl (fun j v e => ?_), T.keep _ _ _ st7 fun b hb o e => (pin' b hb o e).1, fun b hb => ?_, w'⟩
      · rw [← hw8] at e
        exact (wipe_some e).1
      · obtain ⟨o, e, _⟩ := T.obj _ _ st7 b hb
        exact (pin' b hb o e).2
    cases b with
    | false =>
      simp only [Bool.false_eq_true, if_false] at q9 ⊢
      exact fin I9 q9
    | true =>
      simp only [if_true] at q9 ⊢
      refine thnF (pe.run _ s9 σ8 H9 _ I9 q9) fun z s10 ⟨yv, H10, I10, r10, acc, hD10, hz10, nx⟩ => ?_
      exact app_ok (X := blkH X s3 H3 scope ce fp) I10 hD10 hz10 r10 fun s11 I11 => fin I11 nx
end

/-! ### a def that looks at the handled exception: its promise tells of the exception's address, class and dict -/
structure FnZ (P : Program) (w : World) (K : PySem.W.Frag) (mg : Str → Option Value) (base : Heap) (CX : CXT) (k : Nat) (f : Addr) (fd : FuncData) (ps : List Str) (sp : Addr → Value → Option Addr → Sp) : Prop where
  len : ∀ a c d vs H Q E, sp a c d vs H Q E → vs.length = ps.length
  run : ∀ (A : Around) (outer : List Env) (s : Shared) (H : Hp) (args : Args) (us : List Value) (vs : List V) (Q : VK) (E : XK) (p : Addr × Obj) (c : Value) (d : Option Addr), L2H.RoomH k A → L2H.Hot1 A p → Zc c d p.2 → L2H.PinOk outer H s p →
    Env0 P w K mg base A outer s H → BindsTo s fd args (ps.zip us) → Vals vs us → sp p.1 c d vs H Q E → codeAny (model P w) A (.call (.ref f) args) (CR CX outer P w H s Q E) s
section
variable {P : Program} {w : World} {K : PySem.W.Frag} {mg : Str → Option Value} {base : Heap}
theorem _root_.L2.Fun.okZ {x qual : Str} {st : Stmt} {f : Addr} {fd : FuncData} {N ps : List Str} {k : Nat} {sp : Addr → Value → Option Addr → Sp} (F : L2.Fun K x qual st f fd) (S : FnScope N ps (defScope st)) (len : ∀ a c d vs H Q E, sp a c d vs H Q E → vs.length = ps.length)
    (hbody : ∀ (cdv : Value) (A : Around) (outer : List Env) (s : Shared) (H : Hp) (vs : List V) (Q : VK) (E : XK) (p : Addr × Obj) (c : Value) (d : Option Addr), L2H.Hot1 A p → Zc c d p.2 → L2H.RoomH k (A.deeper (envOfC qual (defScope st) s.heap.objs.size f cdv)) → sp p.1 c d vs H Q E →
      ∃ t, PSs (L2H.cxH CX0 P w K mg base N qual (defScope st) f cdv A outer s H E p) (defBody st) t ∧ t { nx := fun _ H' => Q .non H', rt := Q } (L2.start N vs) H) : FnZ P w K mg base CX0 (k + 1) f fd ps sp := by
  obtain ⟨oc, od, kV, doc, pm, an, cdv, ct, osl, rfl, lk, hcd⟩ := F.ex
  refine ⟨len, fun A outer s H args us vs Q E p c d hr hot hz hpin e0 hb r hsp => ?_⟩
  have hl := len _ _ _ _ _ _ _ hsp
  have KX : K.In s.heap := e0.mod.kin.keeps fun b o e => (e0.bs b o e).1
  have lim : s.heap.NoLimit := e0.mod.nolimit.keeps fun b o e => (e0.bs b o e).1
  have hkind : ∀ y ∈ ps.zip us, (defScope st).names.lookup y.1 = some .local ∨ ((defScope st).names.lookup y.1 = some .cell ∧ ((cellsFrom (s.heap.objs.size + 1) (defScope st).names []).lookup y.1).isSome = true) := fun y hy =>
    (S.par y.1 (List.of_mem_zip (a := y.1) (b := y.2) hy).1).elim .inl fun q => .inr ⟨q, PySem.W.cellsFrom_some _ _ _ (.inl q)⟩
  refine codeAny_call_function hr.depth (KX _ _ lk) rfl S.co S.gen rfl (PySem.W.codeRec_of KX hcd) (hb _ _ _ _ (wpAny_newFunctionEnv_cells S.kind hkind fun env he s1 x => ?_))
  subst he
  obtain ⟨t, ht, hq⟩ := hbody cdv A outer s H vs Q E p c d hot hz (hr.deeper _) hsp
  refine ⟨lim.keeps x.toInCall.keep, codeAny_func (wpAny_mono (ht.run [] s1 (L2.start N vs) H _ (L2H.inv_startH S hpin e0 hl r x) hq) (fun fl s' hs => ?_) fun e s' hs => hs)⟩
  cases fl with
  | ret u =>
    obtain ⟨v, σ', H', J, rv, q⟩ := hs
    exact ⟨v, H', J.os, J.bare, J.base, J.hok, rv, q⟩
  | next =>
    obtain ⟨σ', H', J, q⟩ := hs
    exact ⟨V.non, H', J.os, J.bare, J.base, J.hok, rfl, q⟩
  | brk => exact False.elim hs.choose_spec.choose_spec.2
  | cont => exact False.elim hs.choose_spec.choose_spec.2
theorem _root_.L2.Fun.okN {x qual : Str} {st : Stmt} {f : Addr} {fd : FuncData} {N ps : List Str} {k : Nat} {sp : Sp} (F : L2.Fun K x qual st f fd) (S : FnScope N ps (defScope st)) (len : ∀ vs H Q E, sp vs H Q E → vs.length = ps.length)
    (hbody : ∀ (cdv : Value) (A : Around) (outer : List Env) (s : Shared) (H : Hp) (vs : List V) (Q : VK) (E : XK), Room k (A.deeper (envOfC qual (defScope st) s.heap.objs.size f cdv)) → sp vs H Q E →
      ∃ t, PSs (cxOf (L2N.CX P w) P w K mg base N qual (defScope st) f cdv A outer s H E) (defBody st) t ∧ t { nx := fun _ H' => Q .non H', rt := Q } (L2.start N vs) H) : FnOk P w K mg base (L2N.CX P w) (k + 1) f fd ps sp := by
  obtain ⟨oc, od, kV, doc, pm, an, cdv, ct, osl, rfl, lk, hcd⟩ := F.ex
  exact fn_of lk hcd S len fun A outer s H vs Q E hr hsp => hbody cdv A outer s H vs Q E hr hsp
end
section
variable {X : Cx} {CX : CXT} {k : Nat} {f C : Addr} {fd : FuncData} {ps : List Str} {sp : Addr → Value → Option Addr → Sp} {E : L2.St → XK} {x m : Str} {q pos apos : Pos} {e o : Expr} {es : List Expr} {ta : L2.TE} {t : L2.TA}
theorem passN {X : Cx} : Passes (L2N.CX X.prog X.w) X E0 := fun _ _ _ _ _ _ _ h => by
  obtain ⟨_, _, _, _, _, _, _, _, _, _, _, _, z⟩ := h
  exact z.elim
theorem takesN0 {X : Cx} : L2N.Takes X (fun _ _ _ _ => False) := fun _ _ x => by
  obtain ⟨_, _, _, _, _, _, _, _, _, _, _, _, _, _, _, _, z⟩ := x
  exact z.elim
theorem pe_callZ {p : Addr × Obj} {c : Value} {d : Option Addr} (F : FnZ X.prog X.w X.K X.mg X.base CX0 k f fd ps sp) (hr : L2H.RoomH k X.A) (hot : L2H.Hot1 X.A p) (hp : p ∈ X.pn) (hz : Zc c d p.2) (hg : Gl X x) (hm : X.mg x = some (.ref f)) (hk : PySem.W.keepIn X.K (.ref f) = true) (hb : Binds X.K fd ps [])
    (ha : PA X (e :: es) t) (hdb : (x == ("__debug__" : Str)) = false := by decide) (he : starEach (e :: es) X.env = (false, eval e X.env) :: starEach es X.env := by rfl) (hpl : (backTo pos (starEach es X.env)).any (·.1) = false := by rfl) :
    PE X (.Call (.Name x q) (e :: es) [] pos) (tCallS (sp p.1 c d) (fun _ => E0) t) := by
  refine ⟨fun pins s σ H Q I h => ?_⟩
  refine wpAny_Call_Name_kw (ld_glob I hg hm ?_ hdb)
  refine PySem.W.callWith_K (h₀ := X.base) I.ok.mod.kin hk (thn (ha.run pos pins s σ H _ I h) fun us s1 ⟨vs, H1, I1, r, q⟩ => ⟨I1.kIn, ?_⟩) he hpl
  have hl : us.length = ps.length := by rw [← r.length]; exact F.len _ _ _ _ _ _ _ q
  have b := hb s1 us I1.kIn (by rw [List.append_nil]; exact hl)
  rw [List.append_nil] at b
  have P1 := I1.pin p (List.mem_append_left _ hp)
  have hpin : L2H.PinOk X.stack H1 s1 p := ⟨P1.1, P1.2.1, fun hm => (List.mem_cons.mp (I1.stkSub p.1 hm)).elim P1.2.2.1 P1.2.2.2.1, P1.2.2.2.2⟩
  refine wpAny_call (codeAny_mono (F.run X.A X.stack s1 H1 ⟨us, []⟩ us vs Q E0 p c d hr hot hz hpin I1.env0 b r q) fun r s' hq => ?_)
  cases r with
  | error e => exact False.elim hq
  | ok fl =>
    cases fl with
    | ret u => exact I1.after hq
    | next => exact False.elim hq
    | brk => exact False.elim hq
    | cont => exact False.elim hq
theorem pe_callZS {a : Addr} {oe : Obj} {c : Value} {d : Option Addr} (F : FnZ X.prog X.w X.K X.mg X.base CX0 k f fd ps sp) (hr : L2H.RoomH k X.A) (hot : L2H.Hot1 X.A (a, oe)) (hp : (a, oe) ∈ X.pn) (hz : Zc c d oe) (hg : Gl X x) (hm : X.mg x = some (.ref f)) (hk : PySem.W.keepIn X.K (.ref f) = true) (hb : Binds X.K fd ps [])
    (ha : PA X (e :: es) t) (hdb : (x == ("__debug__" : Str)) = false := by decide) (he : starEach (e :: es) X.env = (false, eval e X.env) :: starEach es X.env := by rfl) (hpl : (backTo pos (starEach es X.env)).any (·.1) = false := by rfl) :
    PE X (.Call (.Name x q) (e :: es) [] pos) (tCallS (sp a c d) (fun _ => E0) t) := pe_callZ (p := (a, oe)) F hr hot hp hz hg hm hk hb ha hdb he hpl
/-- isinstance(e, c), e the handled exception -/
theorem call_isH {p : Addr × Obj} {D : Addr} (hp : p ∈ X.pn) (C : ExcC X.K D) (hz : Zc (.ref D) none p.2) (hf : ∃ vs, p.2.data = .fields vs) : CallR X (.builtin "isinstance") (rIsE X.K D p.1) := by
  intro pins s σ H xs us Q I r h
  obtain ⟨c, cv, b, rfl, hcv, e, q⟩ := h
  cases r with
  | cons rx rr =>
    cases rr with
    | cons rt rr =>
      cases rr
      cases rx
      obtain rfl := hcv _ rt
      have hget := (I.pin p (List.mem_append.mpr (.inl hp))).1
      obtain ⟨vs, hv⟩ := hf
      have J : PySem.W.InstAt s.heap p.1 p.2 D none := by
        obtain ⟨a, oc, od, oda, osl⟩ := p
        obtain ⟨h1, h2⟩ := hz
        dsimp only at h1 h2 hv hget
        subst h1 h2 hv
        exact ⟨hget, rfl, rfl, trivial⟩
      exact PySem.W.kia_one (PySem.W.handS_kitx_exc C.hg C.hk C.hs C.hd C.ha C.hn C.ht C.hm) I.kIn J e (fun z => nomatch z) fun tk => ⟨.bl b, H, I.kept (t' := tk) fun _ _ z => z, rfl, q⟩
end
theorem roomH_mark {k : Nat} {A : Around} {v : Option Value} (r : Room k A) : L2H.RoomH k (A.mark v) := ⟨r.dp, r.un⟩
theorem hot_suite {A : Around} {a : Addr} {oe : Obj} {cls : Value} {d : Option Addr} (hz : L2N.Zn cls d oe) (hf : ∃ vs, oe.data = .fields vs) : L2H.Hot1 (A.mark (some (.ref a))) (a, oe) := by
  obtain ⟨vs, h⟩ := hf
  exact ⟨rfl, vs, h, hz.2.2 vs h⟩

/-! ### what is known of a caught class: D, the i-th of the classes cs, all of which stand under a -/
structure KnD (K : PySem.W.Frag) (cs : List Addr) (a D : Addr) (i : Nat) : Prop where
  ec : ExcC K D
  ki : ∀ j C, cs[j]? = some C → PySem.W.kitOne K (.ref D) (.ref C) = some (decide (i = j))
  ka : PySem.W.kitOne K (.ref D) (.ref a) = some true
  kv : PySem.W.kitOne K (.ref D) (.type "ValueError") = some true
  ex : PySem.W.exmOne K (.ref D) (.ref a) = some true
theorem kit_self (K : PySem.W.Frag) (v : Value) : PySem.W.kitOne K v v = some true := by
  unfold PySem.W.kitOne
  rw [if_pos (by simp)]
theorem kit_own {K : PySem.W.Frag} {t : Value} {C : Addr} {b : Bool} (ne : (t == Value.ref C) = false) (h1 : PySem.W.hasDictIn K C = true) (h2 : PySem.W.typeIn K (.ref C) = some (.type "type")) (h3 : PySem.W.subIn K t (.ref C) = some b) : PySem.W.kitOne K t (.ref C) = some b := by
  obtain ⟨cd, hc, _⟩ := PySem.W.any_some h1
  unfold PySem.W.kitOne PySem.W.kitCls
  rw [ne, if_neg Bool.false_ne_true]
  show (if ((PySem.W.clsIn K C).isSome && PySem.W.typeIn K (.ref C) == some (.type "type")) = true then _ else _) = _
  rw [hc, h2]
  exact h3
theorem kit_vt {K : PySem.W.Frag} {D : Addr} {b : Bool} (h3 : PySem.W.subIn K (.ref D) (.type "ValueError") = some b) : PySem.W.kitOne K (.ref D) (.type "ValueError") = some b := by
  unfold PySem.W.kitOne PySem.W.kitCls
  rw [if_neg (by intro q; cases beq_iff_eq.mp q)]
  show (if PySem.W.kitMeta "ValueError" = true then _ else _) = _
  rw [if_pos (by decide +kernel)]
  exact h3
theorem knd_of {K : PySem.W.Frag} {c0 c1 c2 c3 c4 c5 c6 c7 a D : Addr} {i : Nat} (ec : ExcC K D)
    (k0 : PySem.W.kitOne K (.ref D) (.ref c0) = some (decide (i = 0))) (k1 : PySem.W.kitOne K (.ref D) (.ref c1) = some (decide (i = 1))) (k2 : PySem.W.kitOne K (.ref D) (.ref c2) = some (decide (i = 2))) (k3 : PySem.W.kitOne K (.ref D) (.ref c3) = some (decide (i = 3)))
    (k4 : PySem.W.kitOne K (.ref D) (.ref c4) = some (decide (i = 4))) (k5 : PySem.W.kitOne K (.ref D) (.ref c5) = some (decide (i = 5))) (k6 : PySem.W.kitOne K (.ref D) (.ref c6) = some (decide (i = 6))) (k7 : PySem.W.kitOne K (.ref D) (.ref c7) = some (decide (i = 7)))
    (ka : PySem.W.kitOne K (.ref D) (.ref a) = some true) (kv : PySem.W.kitOne K (.ref D) (.type "ValueError") = some true) (ex : PySem.W.exmOne K (.ref D) (.ref a) = some true) : KnD K [c0, c1, c2, c3, c4, c5, c6, c7] a D i := by
  refine ⟨ec, fun j C h => ?_, ka, kv, ex⟩
  match j, h with
  | 0, h => cases h; exact k0
  | 1, h => cases h; exact k1
  | 2, h => cases h; exact k2
  | 3, h => cases h; exact k3
  | 4, h => cases h; exact k4
  | 5, h => cases h; exact k5
  | 6, h => cases h; exact k6
  | 7, h => cases h; exact k7
theorem _root_.L2H.RoomH.units {k : Nat} {A : Around} (r : L2H.RoomH k A) : A.units + 64 < cLine := by
  have := r.un
  omega
end Ai

/-! plain lists: who comes behind makes no difference; all queues, those that stow as seen -/
namespace Ai
theorem S_behind (q b : List Int) : ∀ t, ∃ R, S (q ++ b) t = S q t ++ R ∧ ∀ x ∈ R, q.length ≤ x.1
  | 0 => ⟨en (0 + q.length) b, en_app q b 0, fun x hx => by
      have := (en_mem (p := x.1) (r := x.2) hx).1
      omega⟩
  | t + 1 => by
    obtain ⟨R, e, h⟩ := S_behind q b t
    refine ⟨stay (fin 100 (S q t)) R, ?_, fun x hx => h x ((stay_sub _ _).subset hx)⟩
    show stay 100 (S (q ++ b) t) = stay 100 (S q t) ++ _
    rw [e, stay_app]
theorem T_behind {q b : List Int} (h : Rows (q ++ b)) {p : Nat} (hp : p < q.length) : Tn (q ++ b) p = Tn q p := by
  have hq : Rows q := fun r hr => h r (List.mem_append_left _ hr)
  refine T_eq h hq fun t => ?_
  obtain ⟨R, e, hR⟩ := S_behind q b t
  rw [e, List.map_append, List.mem_append]
  refine ⟨fun z => z.elim id fun z => ?_, .inl⟩
  obtain ⟨x, hx, ex⟩ := List.mem_map.mp z
  have := hR x hx
  omega
/-- the queues that are one longer -/
def ext (r : Nat) (q : List Int) : List (List Int) := (List.range r).map fun k : Nat => q ++ [(1 : Int) + (k : Int)]
def allQ (r : Nat) : Nat → List (List Int)
  | 0 => [[]]
  | n + 1 => (allQ r n).flatMap (ext r)
theorem ext_mem {r : Nat} {q q' : List Int} (h : q' ∈ ext r q) : ∃ x : Int, q' = q ++ [x] ∧ 1 ≤ x ∧ x ≤ r := by
  obtain ⟨k, hk, rfl⟩ := List.mem_map.mp h
  have := List.mem_range.mp hk
  exact ⟨_, rfl, by omega, by omega⟩
theorem allQ_mem {r : Nat} : ∀ {n : Nat} {q : List Int}, q ∈ allQ r n → q.length = n ∧ ∀ x ∈ q, 1 ≤ x ∧ x ≤ r
  | 0, q, h => by
    have : q = [] := by simpa [allQ] using h
    subst this
    exact ⟨rfl, fun x hx => nomatch hx⟩
  | n + 1, q, h => by
    obtain ⟨q0, h0, h1⟩ := List.mem_flatMap.mp h
    obtain ⟨x, rfl, x1, x2⟩ := ext_mem h1
    obtain ⟨l0, r0⟩ := allQ_mem h0
    refine ⟨by simp [l0], fun y hy => ?_⟩
    rcases List.mem_append.mp hy with h | h
    · exact r0 y h
    · have : y = x := by simpa using h
      rw [this]
      exact ⟨x1, x2⟩
theorem allQ_rows {r n : Nat} {q : List Int} (hr : r ≤ 99) (h : q ∈ allQ r n) : Rows q := fun x hx => by
  have := (allQ_mem h).2 x hx
  omega
theorem flat_length {α β : Type} (f : α → List β) (m : Nat) : ∀ l : List α, (∀ a ∈ l, (f a).length = m) → (l.flatMap f).length = l.length * m
  | [], _ => by simp
  | a :: l, h => by
    rw [List.flatMap_cons, List.length_append, h a List.mem_cons_self, flat_length f m l fun b hb => h b (List.mem_cons_of_mem _ hb), List.length_cons, Nat.succ_mul]
    omega
theorem ext_length (r : Nat) (q : List Int) : (ext r q).length = r := by simp [ext]
theorem allQ_length (r : Nat) : ∀ n, (allQ r n).length = r ^ n
  | 0 => rfl
  | n + 1 => by
    show ((allQ r n).flatMap (ext r)).length = _
    rw [flat_length (ext r) r _ fun q _ => ext_length r q, allQ_length r n, Nat.pow_succ]
/-- the j-th is as seen -/
def seenT (o : Option Int) (t : Int) : Bool := match o with
  | none => true
  | some s => decide (s = t)
def okj (os : List (Option Int)) (q : List Int) (j : Nat) : Bool := seenT (os.getD j none) (Tn q j)
def okU (os : List (Option Int)) (n : Nat) (q : List Int) : Bool := (List.range n).all (okj os q)
def FQ (os : List (Option Int)) (r n : Nat) : List (List Int) := (allQ r n).filter (okU os n)
theorem okU_succ (os : List (Option Int)) (n : Nat) (q : List Int) : okU os (n + 1) q = (okU os n q && okj os q n) := by
  unfold okU
  rw [List.range_succ, List.all_append]
  simp
theorem okU_behind {os : List (Option Int)} {q : List Int} {x : Int} (h : Rows (q ++ [x])) : okU os q.length (q ++ [x]) = okU os q.length q := by
  unfold okU
  rw [Bool.eq_iff_iff, List.all_eq_true, List.all_eq_true]
  have e : ∀ j ∈ List.range q.length, okj os (q ++ [x]) j = okj os q j := fun j hj => by
    unfold okj
    rw [T_behind h (List.mem_range.mp hj)]
  exact ⟨fun z j hj => by rw [← e j hj]; exact z j hj, fun z j hj => by rw [e j hj]; exact z j hj⟩
theorem filter_flat {α β : Type} (f : α → List β) (p : β → Bool) (g : α → Bool) (p' : β → Bool) : ∀ l : List α, (∀ a ∈ l, (f a).filter p = if g a = true then (f a).filter p' else []) → (l.flatMap f).filter p = ((l.filter g).flatMap f).filter p'
  | [], _ => rfl
  | a :: l, h => by
    rw [List.flatMap_cons, List.filter_append, h a List.mem_cons_self, filter_flat f p g p' l fun b hb => h b (List.mem_cons_of_mem _ hb), List.filter_cons]
    by_cases c : g a = true
    · rw [if_pos c, if_pos c, List.flatMap_cons, List.filter_append]
    · rw [if_neg c, if_neg c, List.nil_append]
theorem FQ_succ {os : List (Option Int)} {r n : Nat} (hr : r ≤ 99) : FQ os r (n + 1) = ((FQ os r n).flatMap (ext r)).filter (fun q => okj os q n) := by
  unfold FQ
  show ((allQ r n).flatMap (ext r)).filter _ = _
  refine filter_flat _ _ _ _ _ fun q hq => ?_
  have hl := (allQ_mem hq).1
  have e : ∀ q' ∈ ext r q, okU os (n + 1) q' = (okU os n q && okj os q' n) := fun q' hq' => by
    obtain ⟨x, rfl, x1, x2⟩ := ext_mem hq'
    have hrow : Rows (q ++ [x]) := fun y hy => by
      rcases List.mem_append.mp hy with h | h
      · exact allQ_rows hr hq y h
      · have : y = x := by simpa using h
        omega
    rw [okU_succ, ← hl, okU_behind hrow]
  rw [List.filter_congr e]
  by_cases c : okU os n q = true
  · rw [if_pos c, c]
    simp
  · rw [if_neg c, Bool.eq_false_iff.mpr c]
    simp
theorem FQ_mem {os : List (Option Int)} {r n : Nat} {q : List Int} (h : q ∈ FQ os r n) : q.length = n ∧ ∀ x ∈ q, 1 ≤ x ∧ x ≤ r := allQ_mem (List.mem_filter.mp h).1
theorem FQ_length (os : List (Option Int)) (r n : Nat) : (FQ os r n).length ≤ r ^ n := by
  rw [← allQ_length]
  exact List.length_filter_le _ _
end Ai

namespace Ai
open PySem PySem.Spec PyProof.Rows L2
def topS (i : Nat) : Stmt := PySem.Challenge.pw_aisleturns_k41_whole_what_was_seen.main.body.getD i (.Pass ⟨0, 0, 0, 0⟩)
abbrev s_is_whole : Stmt := topS 12
theorem sc_is_whole : FnScope ["thing"] ["thing"] (defScope s_is_whole) := ⟨rfl, rfl, rfl, by decide +kernel, rfl, by decide +kernel, by decide +kernel⟩
abbrev s_stands : Stmt := topS 13
theorem sc_stands : FnScope ["queue", "there", "found", "last", "place", "row"] ["queue", "there"] (defScope s_stands) := ⟨rfl, rfl, rfl, by decide +kernel, rfl, by decide +kernel, by decide +kernel⟩
abbrev s_turns_of : Stmt := topS 14
theorem sc_turns_of : FnScope ["queue", "there", "found", "turn", "spots", "place"] ["queue"] (defScope s_turns_of) := ⟨rfl, rfl, rfl, by decide +kernel, rfl, by decide +kernel, by decide +kernel⟩
abbrev s_queues_for : Stmt := topS 18
theorem sc_queues_for : FnScope ["seen", "rows", "found", "place", "one", "queue", "row"] ["seen", "rows"] (defScope s_queues_for) := ⟨rfl, rfl, rfl, by decide +kernel, rfl, by decide +kernel, by decide +kernel⟩
abbrev s_law_well : Stmt := topS 20
theorem sc_law_well : FnScope ["script", "k", "cell", "primes", "seed"] ["script", "k"] (defScope s_law_well) := ⟨rfl, rfl, rfl, by decide +kernel, rfl, by decide +kernel, by decide +kernel⟩
abbrev s_law_take : Stmt := topS 21
theorem sc_law_take : FnScope ["well", "many", "drew"] ["well", "many"] (defScope s_law_take) := ⟨rfl, rfl, rfl, by decide +kernel, rfl, by decide +kernel, by decide +kernel⟩
abbrev s_law_kinds : Stmt := topS 22
theorem sc_law_kinds : FnScope ["e", "some", "words", "word", "good"] ["e"] (defScope s_law_kinds) := ⟨rfl, rfl, rfl, by decide +kernel, rfl, by decide +kernel, by decide +kernel⟩
abbrev s_law_refusal : Stmt := topS 23
theorem sc_law_refusal : FnScope ["e", "kinds"] ["e"] (defScope s_law_refusal) := ⟨rfl, rfl, rfl, by decide +kernel, rfl, by decide +kernel, by decide +kernel⟩
abbrev s_law_spots : Stmt := topS 24
theorem sc_law_spots : FnScope ["queue", "there", "place", "found", "last"] ["queue", "there"] (defScope s_law_spots) := ⟨rfl, rfl, rfl, by decide +kernel, rfl, by decide +kernel, by decide +kernel⟩
abbrev s_law_walk : Stmt := topS 25
theorem sc_law_walk : FnScope ["queue", "found", "there", "spots", "place"] ["queue"] (defScope s_law_walk) := ⟨rfl, rfl, rfl, by decide +kernel, rfl, by decide +kernel, by decide +kernel⟩
abbrev s_law_turns : Stmt := topS 26
theorem sc_law_turns : FnScope ["queue", "walk", "place", "spots"] ["queue"] (defScope s_law_turns) := ⟨rfl, rfl, rfl, by decide +kernel, rfl, by decide +kernel, by decide +kernel⟩
abbrev s_law_all_queues : Stmt := topS 27
theorem sc_law_all_queues : FnScope ["many", "rows", "found", "turn", "longer", "queue", "row"] ["many", "rows"] (defScope s_law_all_queues) := ⟨rfl, rfl, rfl, by decide +kernel, rfl, by decide +kernel, by decide +kernel⟩
abbrev s_law_word : Stmt := topS 28
theorem sc_law_word : FnScope ["seen", "rows", "e"] ["seen", "rows"] (defScope s_law_word) := ⟨rfl, rfl, rfl, by decide +kernel, rfl, by decide +kernel, by decide +kernel⟩
abbrev s_law : Stmt := topS 29
theorem sc_law : FnScope ["script", "k", "well", "every", "turn", "odd", "many", "rows", "seen", "at", "good", "queue", "stowed", "one", "due"] ["script"] (defScope s_law) := ⟨rfl, rfl, rfl, by decide +kernel, rfl, by decide +kernel, by decide +kernel⟩
structure Fns (K : PySem.W.Frag) (mg : Str → Option Value) : Type where
  n_ValueError : mg "ValueError" = none
  n_all : mg "all" = none
  n_bool : mg "bool" = none
  n_enumerate : mg "enumerate" = none
  n_int : mg "int" = none
  n_isinstance : mg "isinstance" = none
  n_len : mg "len" = none
  n_list : mg "list" = none
  n_max : mg "max" = none
  n_min : mg "min" = none
  n_range : mg "range" = none
  n_zip : mg "zip" = none
  tk_MOST_ROW : Tok
  c_MOST_ROW : mg "MOST_ROW" = some (.int 99 tk_MOST_ROW)
  tk_MOST_SEEN : Tok
  c_MOST_SEEN : mg "MOST_SEEN" = some (.int 5 tk_MOST_SEEN)
  tk_MOST_ROWS : Tok
  c_MOST_ROWS : mg "MOST_ROWS" = some (.int 6 tk_MOST_ROWS)
  a_is_whole : Addr
  d_is_whole : FuncData
  F_is_whole : Fun K "is_whole" "is_whole" s_is_whole a_is_whole d_is_whole
  b_is_whole : Binds K d_is_whole ["thing"] []
  g_is_whole : mg "is_whole" = some (.ref a_is_whole)
  a_stands : Addr
  d_stands : FuncData
  F_stands : Fun K "stands" "stands" s_stands a_stands d_stands
  b_stands : Binds K d_stands ["queue", "there"] []
  g_stands : mg "stands" = some (.ref a_stands)
  a_turns_of : Addr
  d_turns_of : FuncData
  F_turns_of : Fun K "turns_of" "turns_of" s_turns_of a_turns_of d_turns_of
  b_turns_of : Binds K d_turns_of ["queue"] []
  g_turns_of : mg "turns_of" = some (.ref a_turns_of)
  a_queues_for : Addr
  d_queues_for : FuncData
  F_queues_for : Fun K "queues_for" "queues_for" s_queues_for a_queues_for d_queues_for
  b_queues_for : Binds K d_queues_for ["seen", "rows"] []
  g_queues_for : mg "queues_for" = some (.ref a_queues_for)
  a_law_well : Addr
  d_law_well : FuncData
  F_law_well : Fun K "_law_well" "_law_well" s_law_well a_law_well d_law_well
  b_law_well : Binds K d_law_well ["script", "k"] []
  g_law_well : mg "_law_well" = some (.ref a_law_well)
  a_law_take : Addr
  d_law_take : FuncData
  F_law_take : Fun K "_law_take" "_law_take" s_law_take a_law_take d_law_take
  b_law_take : Binds K d_law_take ["well", "many"] []
  g_law_take : mg "_law_take" = some (.ref a_law_take)
  a_law_kinds : Addr
  d_law_kinds : FuncData
  F_law_kinds : Fun K "_law_kinds" "_law_kinds" s_law_kinds a_law_kinds d_law_kinds
  b_law_kinds : Binds K d_law_kinds ["e"] []
  g_law_kinds : mg "_law_kinds" = some (.ref a_law_kinds)
  a_law_refusal : Addr
  d_law_refusal : FuncData
  F_law_refusal : Fun K "_law_refusal" "_law_refusal" s_law_refusal a_law_refusal d_law_refusal
  b_law_refusal : Binds K d_law_refusal ["e"] []
  g_law_refusal : mg "_law_refusal" = some (.ref a_law_refusal)
  a_law_spots : Addr
  d_law_spots : FuncData
  F_law_spots : Fun K "_law_spots" "_law_spots" s_law_spots a_law_spots d_law_spots
  b_law_spots : Binds K d_law_spots ["queue", "there"] []
  g_law_spots : mg "_law_spots" = some (.ref a_law_spots)
  a_law_walk : Addr
  d_law_walk : FuncData
  F_law_walk : Fun K "_law_walk" "_law_walk" s_law_walk a_law_walk d_law_walk
  b_law_walk : Binds K d_law_walk ["queue"] []
  g_law_walk : mg "_law_walk" = some (.ref a_law_walk)
  a_law_turns : Addr
  d_law_turns : FuncData
  F_law_turns : Fun K "_law_turns" "_law_turns" s_law_turns a_law_turns d_law_turns
  b_law_turns : Binds K d_law_turns ["queue"] []
  g_law_turns : mg "_law_turns" = some (.ref a_law_turns)
  a_law_all_queues : Addr
  d_law_all_queues : FuncData
  F_law_all_queues : Fun K "_law_all_queues" "_law_all_queues" s_law_all_queues a_law_all_queues d_law_all_queues
  b_law_all_queues : Binds K d_law_all_queues ["many", "rows"] []
  g_law_all_queues : mg "_law_all_queues" = some (.ref a_law_all_queues)
  a_law_word : Addr
  d_law_word : FuncData
  F_law_word : Fun K "_law_word" "_law_word" s_law_word a_law_word d_law_word
  b_law_word : Binds K d_law_word ["seen", "rows"] []
  g_law_word : mg "_law_word" = some (.ref a_law_word)
  a_law : Addr
  d_law : FuncData
  F_law : Fun K "law" "law" s_law a_law d_law
  b_law : Binds K d_law ["script"] []
  g_law : mg "law" = some (.ref a_law)
  a_AisleError : Addr
  g_AisleError : mg "AisleError" = some (.ref a_AisleError)
  kp_AisleError : PySem.W.keepIn K (.ref a_AisleError) = true
  x_AisleError : PySem.W.excIn K a_AisleError [.type "ValueError", .type "Exception", .type "BaseException", .type "object"] "ValueError.__new__" = true
  sb_AisleError : PySem.W.subIn K (.ref a_AisleError) (.type "BaseException") = some true
  ty_AisleError : PySem.W.typeIn K (.ref a_AisleError) = some (.type "type")
  a_NoQueue : Addr
  g_NoQueue : mg "NoQueue" = some (.ref a_NoQueue)
  kp_NoQueue : PySem.W.keepIn K (.ref a_NoQueue) = true
  x_NoQueue : PySem.W.excIn K a_NoQueue [.type "ValueError", .type "Exception", .type "BaseException", .type "object"] "ValueError.__new__" = true
  sb_NoQueue : PySem.W.subIn K (.ref a_NoQueue) (.type "BaseException") = some true
  ty_NoQueue : PySem.W.typeIn K (.ref a_NoQueue) = some (.type "type")
  a_NoTurn : Addr
  g_NoTurn : mg "NoTurn" = some (.ref a_NoTurn)
  kp_NoTurn : PySem.W.keepIn K (.ref a_NoTurn) = true
  x_NoTurn : PySem.W.excIn K a_NoTurn [.type "ValueError", .type "Exception", .type "BaseException", .type "object"] "ValueError.__new__" = true
  sb_NoTurn : PySem.W.subIn K (.ref a_NoTurn) (.type "BaseException") = some true
  ty_NoTurn : PySem.W.typeIn K (.ref a_NoTurn) = some (.type "type")
  a_NoFolk : Addr
  g_NoFolk : mg "NoFolk" = some (.ref a_NoFolk)
  kp_NoFolk : PySem.W.keepIn K (.ref a_NoFolk) = true
  x_NoFolk : PySem.W.excIn K a_NoFolk [.type "ValueError", .type "Exception", .type "BaseException", .type "object"] "ValueError.__new__" = true
  sb_NoFolk : PySem.W.subIn K (.ref a_NoFolk) (.type "BaseException") = some true
  ty_NoFolk : PySem.W.typeIn K (.ref a_NoFolk) = some (.type "type")
  a_NoSeen : Addr
  g_NoSeen : mg "NoSeen" = some (.ref a_NoSeen)
  kp_NoSeen : PySem.W.keepIn K (.ref a_NoSeen) = true
  x_NoSeen : PySem.W.excIn K a_NoSeen [.type "ValueError", .type "Exception", .type "BaseException", .type "object"] "ValueError.__new__" = true
  sb_NoSeen : PySem.W.subIn K (.ref a_NoSeen) (.type "BaseException") = some true
  ty_NoSeen : PySem.W.typeIn K (.ref a_NoSeen) = some (.type "type")
  a_NoRow : Addr
  g_NoRow : mg "NoRow" = some (.ref a_NoRow)
  kp_NoRow : PySem.W.keepIn K (.ref a_NoRow) = true
  x_NoRow : PySem.W.excIn K a_NoRow [.type "ValueError", .type "Exception", .type "BaseException", .type "object"] "ValueError.__new__" = true
  sb_NoRow : PySem.W.subIn K (.ref a_NoRow) (.type "BaseException") = some true
  ty_NoRow : PySem.W.typeIn K (.ref a_NoRow) = some (.type "type")
  a_NoPlace : Addr
  g_NoPlace : mg "NoPlace" = some (.ref a_NoPlace)
  kp_NoPlace : PySem.W.keepIn K (.ref a_NoPlace) = true
  x_NoPlace : PySem.W.excIn K a_NoPlace [.type "ValueError", .type "Exception", .type "BaseException", .type "object"] "ValueError.__new__" = true
  sb_NoPlace : PySem.W.subIn K (.ref a_NoPlace) (.type "BaseException") = some true
  ty_NoPlace : PySem.W.typeIn K (.ref a_NoPlace) = some (.type "type")
  a_Full : Addr
  g_Full : mg "Full" = some (.ref a_Full)
  kp_Full : PySem.W.keepIn K (.ref a_Full) = true
  x_Full : PySem.W.excIn K a_Full [.type "ValueError", .type "Exception", .type "BaseException", .type "object"] "ValueError.__new__" = true
  sb_Full : PySem.W.subIn K (.ref a_Full) (.type "BaseException") = some true
  ty_Full : PySem.W.typeIn K (.ref a_Full) = some (.type "type")
  a_NothingLeft : Addr
  g_NothingLeft : mg "NothingLeft" = some (.ref a_NothingLeft)
  kp_NothingLeft : PySem.W.keepIn K (.ref a_NothingLeft) = true
  x_NothingLeft : PySem.W.excIn K a_NothingLeft [.type "ValueError", .type "Exception", .type "BaseException", .type "object"] "ValueError.__new__" = true
  sb_NothingLeft : PySem.W.subIn K (.ref a_NothingLeft) (.type "BaseException") = some true
  ty_NothingLeft : PySem.W.typeIn K (.ref a_NothingLeft) = some (.type "type")
  kn_NoSeen : KnD K [a_NoQueue, a_NoTurn, a_NoFolk, a_NoSeen, a_NoRow, a_NoPlace, a_Full, a_NothingLeft] a_AisleError a_NoSeen 3
  kn_NoRow : KnD K [a_NoQueue, a_NoTurn, a_NoFolk, a_NoSeen, a_NoRow, a_NoPlace, a_Full, a_NothingLeft] a_AisleError a_NoRow 4
end Ai
namespace Ai
open PySem PySem.Spec PyProof.Rows L2
/-! ### is_whole, is_row, is_queue -/
def wholeD : PyData → Bool
  | .int _ => true
  | _ => false
def sp_is_whole (K : PySem.W.Frag) : Sp := fun vs H Q _ => ∃ v d, vs = [v] ∧ Dp K H v d ∧ Q (.bl (wholeD d)) H
section
variable {P : Program} {w : World} {K : PySem.W.Frag} {mg : Str → Option Value} {base : Heap}
theorem ok_is_whole (T : Fns K mg) : FnOk P w K mg base CX0 1 T.a_is_whole T.d_is_whole ["thing"] (sp_is_whole K) := by
  refine T.F_is_whole.ok sc_is_whole (fun vs H Q E h => ?_) (fun cdv A outer s H vs Q E hr h => ?_)
  · obtain ⟨v, d, rfl, _⟩ := h
    rfl
  · obtain ⟨v, d, rfl, hd, q⟩ := h
    refine ⟨_, (pss_one (ps_ret (pe_and (pe_callB call_isi (by rfl) T.n_isinstance (by decide +kernel) (pa_cons (pv 0) (pa_cons (pe_bltn (v := .ty "int") (by rfl) T.n_int (by decide +kernel) rfl) pa_nil))) (pe_one (pe_not (pe_callB call_isi (by rfl) T.n_isinstance (by decide +kernel) (pa_cons (pv 0) (pa_cons (pe_bltn (v := .ty "bool") (by rfl) T.n_bool (by decide +kernel) rfl) pa_nil)))))))), ?_⟩
    refine ⟨v, rfl, ?_⟩
    refine ⟨_, _, _, _, _, rfl, .ty _, dp_ty hd, kit_int hd, intB d, rfl, ?_⟩
    refine ite2 (fun e => ?_) (fun e => ?_)
    · refine ⟨v, rfl, _, _, _, _, _, rfl, .ty _, dp_ty hd, kit_bool hd, boolB d, rfl, ?_⟩
      cases d <;> first | exact q | exact nomatch e
    · cases d <;> first | exact q | exact absurd rfl e
end
end Ai
namespace Ai
open PySem PySem.Spec PyProof.Rows L2
def inL (ns : List Int) : Nat → Bool := fun i => decide ((i : Int) ∈ ns)
def sp_stands (K : PySem.W.Frag) : Sp := fun vs H Q _ => ∃ (a b : Addr) (q ns : List Int), vs = [.ref a, .ref b] ∧ SqT K H a (q.map V.int) ∧ SqL K H b (ns.map V.int) ∧ q.length ≤ 1000 ∧
  ∀ H' p, Same H H' → H p = none → H' p = some (.lst ((stL (inL ns) 100 0 q).map ov)) → Q (.ref p) H'
section
variable {P : Program} {w : World} {K : PySem.W.Frag} {mg : Str → Option Value} {base : Heap}
theorem ok_stands (T : Fns K mg) : FnOk P w K mg base CX0 1 T.a_stands T.d_stands ["queue", "there"] (sp_stands K) := by
  refine T.F_stands.ok sc_stands (fun vs H Q E h => ?_) (fun cdv A outer s H vs Q E hr h => ?_)
  · obtain ⟨a, b, q, ns, rfl, _⟩ := h
    rfl
  · obtain ⟨a, b, q, ns, rfl, hq, hb, hlen, k⟩ := h
    refine ⟨_, (pss_cons (ps_par rfl sc_stands.nd (i := 2) (j := 3) rfl rfl (by decide) rfl rfl (pa_cons (pe_lst pa_nil) (pa_cons (pe_op op_add (pe_glob (v := .int 99) (by rfl) T.c_MOST_ROW ⟨_, rfl⟩) pe_int) pa_nil)) (by rfl))
    (pss_cons (ps_for PassesOwn.never rfl (pi_enumT (by rfl) T.n_enumerate (pa_cons (pv 0) pa_nil)) (pg_tup rfl (pgs_cons (pg_name (i := 4) sc_stands.nd rfl (.inl rfl)) (pgs_cons (pg_name (i := 5) sc_stands.nd rfl (.inl rfl)) pgs_nil)))
      (pss_one (ps_if (pt_cmpR op_in_seq (pv 4) (pv 1) rfl) (pss_cons (ps_set (i := 3) sc_stands.nd rfl (.inl rfl) (pe_callB (call_min2 rfl) (by rfl) T.n_min (by decide +kernel) (pa_cons (pv 5) (pa_cons (pe_op op_sub (pv 3) pe_int) pa_nil))))
        (pss_one (ps_expr (pe_bm PySem.F.plainAttrs_list PySem.F.slot_list_append PySem.F.type_list_append mt_append (pv 2) (pa_cons (pv 3) pa_nil))))) (pss_one (ps_expr (pe_bm PySem.F.plainAttrs_list PySem.F.slot_list_append PySem.F.type_list_append mt_append (pv 2) (pa_cons pe_non pa_nil)))))))
    (pss_one (ps_ret (pv 2))))), ?_⟩
    refine ⟨Nat.zero_le _, fun o no => ⟨99, 1, rfl, rfl, _, _, rfl, ?_⟩⟩
    have s1 : Same H (upd H o (.lst [])) := same_new no
    refine ⟨_, rfl, a, _, rfl, s1.tup hq, for_pair walk_enumT (fun i σ H' => ∃ (last : Int) (acc : List (Option Int)) (x4 x5 : Option V), σ = [some (.ref a), some (.ref b), some (.ref o), some (.int last), x4, x5] ∧ Same H H' ∧ H' o = some (.lst (acc.map ov)) ∧ acc.length = i ∧ acc ++ stL (inL ns) last i (q.drop i) = stL (inL ns) 100 0 q)
      ⟨100, [], none, none, rfl, s1, upd_same, rfl, rfl⟩ (fun i σ H' _ ⟨_, _, _, _, _, s2, _⟩ => s2.tup hq) ?_ ?_⟩
    · rintro i x y t σ H' hi ex ey ⟨last, acc, x4, x5, rfl, s2, ho, ha, he⟩ ht
      cases ex
      obtain ⟨r, hr1, rfl⟩ : ∃ r, q[i]? = some r ∧ y = V.int r := by
        rw [List.getElem?_map] at ey
        cases e : q[i]? with
        | none => rw [e] at ey; cases ey
        | some r => rw [e] at ey; exact ⟨r, rfl, (Option.some.inj ey).symm⟩
      have hd : q.drop i = r :: q.drop (i + 1) := by
        obtain ⟨h1, h2⟩ := List.getElem?_eq_some_iff.mp hr1
        rw [← h2]
        exact List.drop_eq_getElem_cons h1
      have s3 : Same H (upd H' t (.tup [.int i, .int r])) := s2.new ht
      have ho3 : (upd H' t (.tup [V.int i, V.int r])) o = some (.lst (acc.map ov)) := by
        rw [upd_ne (ne_of_none ho ht)]
        exact ho
      have hlt : acc.length < q.length := by
        have := (List.getElem?_eq_some_iff.mp hr1).1
        omega
      rw [hd] at he
      simp only [stL] at he
      refine ⟨_, rfl, _, rfl, b, ns.map V.int, rfl, .inl (s3.seq hb), rfl, flat_ints ns, _, rfl, ?_⟩
      refine ite2 (fun e => ?_) (fun e => ?_)
      · have e1 : inL ns i = true := by
          rw [if_neg Bool.false_ne_true, inV_ints] at e
          exact e
        rw [if_pos e1] at he
        refine ⟨_, rfl, _, rfl, _, _, rfl, rfl, _, _, rfl, ?_⟩
        refine ⟨_, rfl, .inl ⟨rfl, _, .of ho3⟩, _, rfl, o, _, _, rfl, rfl, ho3, (by rw [List.length_map]; exact small1000 (by omega)), ?_⟩
        refine ⟨put last r, acc ++ [some (put last r)], _, _, rfl, s3.mut no, ?_, by simp [ha], by simpa using he⟩
        rw [upd_same, List.map_append]
        rfl
      · have e1 : ¬ inL ns i = true := fun z => e (by rw [if_neg Bool.false_ne_true, inV_ints]; exact z)
        rw [if_neg e1] at he
        refine ⟨_, rfl, .inl ⟨rfl, _, .of ho3⟩, o, _, _, rfl, rfl, ho3, (by rw [List.length_map]; exact small1000 (by omega)), ?_⟩
        refine ⟨last, acc ++ [none], _, _, rfl, s3.mut no, ?_, by simp [ha], by simpa using he⟩
        rw [upd_same, List.map_append]
        rfl
    · rintro σ H' ⟨last, acc, x4, x5, rfl, s2, ho, ha, he⟩
      rw [List.drop_eq_nil_of_le (by simp)] at he
      simp only [stL, List.append_nil] at he
      rw [he] at ho
      exact ⟨_, rfl, k H' o s2 no ho⟩
end
end Ai
namespace Ai
open PySem PySem.Spec PyProof.Rows L2
def sp_turns_of (K : PySem.W.Frag) : Sp := fun vs H Q _ => ∃ (a : Addr) (q : List Int), vs = [.ref a] ∧ SqT K H a (q.map V.int) ∧ QOk q ∧ ∀ H' p, Same H H' → H p = none → H' p = some (.lst ((TT q).map V.int)) → Q (.ref p) H'
/-- the state between two turns -/
def TurnW (H0 : Hp) (a : Addr) (q : List Int) (m : Nat) (σ : L2.St) (H : Hp) : Prop :=
  ∃ (t : Nat) (f l : Addr) (x4 x5 : Option V), t + m = LL q ∧ σ = [some (.ref a), some (.ref l), some (.ref f), some (.int t), x4, x5] ∧ Same H0 H ∧ H0 f = none ∧ f ≠ l ∧ H f = some (.lst ((FF q t).map V.int)) ∧ H l = some (.lst ((pls q t).map V.int))
theorem rgV_eq (n : Nat) : rgV 0 (n : Int) = ((List.range n).map fun i : Nat => (i : Int)).map V.int := by
  unfold rgV
  rw [List.map_map]
  have e : ((n : Int) - 0).toNat = n := by omega
  rw [e]
  refine List.map_congr_left fun i _ => ?_
  show V.int (0 + (i : Int)) = V.int (i : Int)
  rw [Int.zero_add]
theorem inL_thr {q : List Int} (hq : Rows q) (t : Nat) : stL (inL (pls q t)) 100 0 q = stL (thr q t) 100 0 q := by
  refine stL_congr q 100 0 fun j _ => ?_
  unfold inL thr
  exact decide_eq_decide.mpr (by rw [Nat.zero_add]; exact pls_mem hq)
section
variable {P : Program} {w : World} {K : PySem.W.Frag} {mg : Str → Option Value} {base : Heap}
theorem ok_turns_of (T : Fns K mg) : FnOk P w K mg base CX0 2 T.a_turns_of T.d_turns_of ["queue"] (sp_turns_of K) := by
  refine T.F_turns_of.ok sc_turns_of (fun vs H Q E h => ?_) (fun cdv A outer s H vs Q E hr h => ?_)
  · obtain ⟨a, q, rfl, _⟩ := h
    rfl
  · obtain ⟨a, q, rfl, hq, ok, k⟩ := h
    have hlen := ok.len
    refine ⟨_, (pss_cons (ps_asg (pe_tup (pa_cons (pe_op op_rep (pe_lst (pa_cons pe_int pa_nil)) (pe_callB call_len_seq (by rfl) T.n_len PySem.boot_len (pa_cons (pv 0) pa_nil))) (pa_cons pe_int pa_nil))) (pg_tup rfl (pgs_cons (pg_name (i := 2) sc_turns_of.nd rfl (by first | exact .inl rfl | exact .inr rfl)) (pgs_cons (pg_name (i := 3) sc_turns_of.nd rfl (.inl rfl)) pgs_nil))))
    (pss_cons (ps_set (i := 1) sc_turns_of.nd rfl (.inl rfl) (pe_listRg rfl (by rfl) T.n_list (prg_1 (by rfl) T.n_range (pe_callB call_len_seq (by rfl) T.n_len PySem.boot_len (pa_cons (pv 0) pa_nil)))))
    (pss_cons (ps_while PassesOwn.never (pt_cmpR (op_neD hr.units) (pv 1) (pe_lst pa_nil) (nomark _)) (pss_cons (ps_set (i := 3) sc_turns_of.nd rfl (.inl rfl) (pe_op op_add (pv 3) pe_int))
      (pss_cons (ps_set (i := 4) sc_turns_of.nd rfl (.inl rfl) (pe_call (E := E0) (ok_stands T) (hr.mono (by decide)) (by rfl) T.g_stands T.F_stands.kp T.b_stands .nil pass0 (pa_cons (pv 0) (pa_cons (pv 1) pa_nil))))
      (pss_cons (ps_for PassesOwn.never rfl (pi_list (pv 1)) (pg_name (i := 5) sc_turns_of.nd rfl (.inl rfl))
        (pss_one (ps_if (pt_cmpR op_eq (pe_ix ix_list (pv 4) (pv 5) (fun _ _ => rfl)) (pe_ix ix_tup (pv 0) (pv 5) (fun _ _ => rfl)) (nomark _)) (pss_one (ps_asg (pv 3) (pg_sub (pv 2) (pv 5) set_list))) pss_nil)))
      (pss_one (ps_setLc (i := 1) (own := [("place", 5)]) (g := gName 5) rfl sc_turns_of.nd rfl rfl (sw_true rfl rfl rfl (by decide +kernel)) (pi_list (pv 1)) (blkOk_by (N := ["queue", "there", "found", "turn", "spots", "place"]) (sc := defScope s_turns_of) (by decide +kernel)) (fun _ _ _ _ _ => (pg_name (i := 5) sc_turns_of.nd rfl (by first | exact .inl rfl | exact .inr rfl))) (fun _ _ _ _ _ => pts_one (pt_cmpR op_eq (pe_ix (show IxR _ (rIxL K) from ix_list) (pv 2) (pv 5) (fun _ _ => rfl)) pe_int (nomark _))) (fun _ _ _ _ _ => (pv 5))))))))
    (pss_one (ps_ret (pv 2)))))), ?_⟩
    -- found, turn
    refine ⟨(by show 1 ≤ sizeLine; decide), fun l0 hl0 => ?_⟩
    have s1 : Same H (upd H l0 (.lst [.int 0])) := same_new hl0
    refine ⟨_, rfl, a, _, rfl, .inr (s1.tup hq), l0, _, _, rfl, rfl, upd_same, (by omega), (by rw [List.length_map]; omega), (by rw [List.length_map, Int.toNat_natCast]; show 1 * q.length ≤ sizeLine; exact Nat.le_of_lt (small1000 (by omega))), fun f hf => ?_⟩
    have ef : (List.replicate ((((q.map V.int).length : Nat) : Int)).toNat [V.int 0]).flatten = (FF q 0).map V.int := by
      rw [FF_zero ok.rows, Int.toNat_natCast, List.length_map, List.map_replicate]
      generalize q.length = n
      induction n with
      | zero => rfl
      | succ n ih => rw [List.replicate_succ, List.flatten_cons, ih]; rfl
    rw [ef]
    have s2 := s1.new (o := .lst ((FF q 0).map V.int)) hf
    have nf : H f = none := s1.free hf
    refine ⟨(by show 2 ≤ sizeLine; decide), fun t0 ht0 => ?_⟩
    have s3 := s2.new (o := .tup [.ref f, .int 0]) ht0
    refine ⟨t0, _, rfl, .of upd_same, rfl, _, _, rfl, _, _, rfl, rfl, ?_⟩
    have hf3 : (upd (upd (upd H l0 (.lst [.int 0])) f (.lst ((FF q 0).map V.int))) t0 (.tup [.ref f, .int 0])) f = some (.lst ((FF q 0).map V.int)) := by
      have n1 : f ≠ t0 := fun e => by rw [← e, upd_same] at ht0; cases ht0
      rw [upd_ne n1, upd_same]
    generalize hH3 : (upd (upd (upd H l0 (.lst [.int 0])) f (.lst ((FF q 0).map V.int))) t0 (.tup [.ref f, .int 0])) = H3 at s3 hf3
    -- there
    refine ⟨_, rfl, a, _, rfl, .inr (s3.tup hq), _, rfl, RgOk.of_le (by omega) (by rw [List.length_map]; omega) (by omega) (by omega), fun l hl => ?_⟩
    have el : rgV 0 (((q.map V.int).length : Nat) : Int) = (pls q 0).map V.int := by rw [List.length_map, rgV_eq, pls_zero]
    rw [el]
    have nfl : f ≠ l := ne_of_none hf3 hl
    refine ⟨TurnW H a q, ⟨LL q, 0, f, l, none, none, by omega, rfl, s3.new hl, nf, nfl, by rw [upd_ne nfl]; exact hf3, upd_same⟩, ?_⟩
    rintro m σ H4 ⟨t, f, l, x4, x5, em, rfl, s4, nf, nfl, hf4, hl4⟩
    have hq4 : SqT K H4 a (q.map V.int) := s4.tup hq
    refine ⟨_, rfl, Nat.zero_le _, fun e he => ⟨_, _, dp_intsL (.of ((same_new he) _ _ hl4)), dp_intsL (ns := []) (.of upd_same), sh_ints _, sh_ints [], _, rfl, ?_⟩⟩
    have s5 : Same H4 (upd H4 e (.lst [])) := same_new he
    have ev : PyData.eqv (.list ((pls q t).map PyData.int)) (.list (([] : List Int).map PyData.int)) = decide (pls q t = []) := eqv_ints _ []
    rw [ev]
    generalize upd H4 e (.lst []) = H5 at s5
    have hf5 := s5 _ _ hf4
    have hl5 := s5 _ _ hl4
    refine ite2 (fun c => ?_) (fun c => ?_)
    · have c1 : pls q t ≠ [] := by simpa using c
      have ht : t < LL q := Decidable.byContradiction fun z => c1 ((pls_nil ok.rows).mpr z)
      refine ⟨fun σ' H' => TurnW H a q (m - 1) σ' H', fun σ' H' z => ⟨m - 1, by omega, z⟩, ?_⟩
      -- turn = turn + 1; spots = stands(queue, there)
      refine ⟨_, rfl, _, _, rfl, rfl, ?_⟩
      refine ⟨_, rfl, _, rfl, a, l, q, pls q t, rfl, s5.tup hq4, .of hl5, by omega, fun H6 p s6 np hp => ?_⟩
      rw [inL_thr ok.rows] at hp
      have hf6 := s6 _ _ hf5
      have hl6 := s6 _ _ hl5
      have hq6 : SqT K H6 a (q.map V.int) := s6.tup (s5.tup hq4)
      have npf : p ≠ f := (ne_of_none hf5 np).symm
      have npl : p ≠ l := (ne_of_none hl5 np).symm
      -- the folk who are there
      refine ⟨_, rfl, l, rfl, ⟨_, .of hl6⟩, for_it (walk_list (K := K)) (fun j σ H' => ∃ x5, σ = [some (.ref a), some (.ref l), some (.ref f), some (.int ((t : Int) + 1)), some (.ref p), x5] ∧ H' = upd H6 f (.lst ((GG q t j).map V.int)))
        ⟨x5, rfl, ?_⟩ (fun j σ H' _ ⟨_, _, e⟩ => by rw [e]; exact .of (by rw [upd_ne nfl.symm]; exact hl6)) ?_ ?_⟩
      · rw [GG_zero]
        funext b
        by_cases e : b = f
        · rw [e, upd_same]; exact hf6
        · rw [upd_ne e]
      · rintro j x σ H7 H8 hj ⟨x5, rfl, rfl⟩ ⟨rfl, hx⟩
        obtain ⟨px, hpx, rfl⟩ : ∃ px, (pls q t)[j]? = some px ∧ x = V.int px := by
          rw [List.getElem?_map] at hx
          cases e : (pls q t)[j]? with
          | none => rw [e] at hx; cases hx
          | some r => rw [e] at hx; exact ⟨r, rfl, (Option.some.inj hx).symm⟩
        obtain ⟨pn, r, rfl, hpn, hr, hS⟩ := pls_at hpx
        have htp : t < Tn q pn := (mem_iff ok.rows).mp (List.mem_map.mpr ⟨_, hS, rfl⟩)
        obtain ⟨z, hz, hz1, hz2⟩ := stow_iff ok.rows hr htp
        have hp7 : (upd H6 f (.lst ((GG q t j).map V.int))) p = some (.lst ((stL (thr q t) 100 0 q).map ov)) := by rw [upd_ne npf]; exact hp
        have hq7 : SqT K (upd H6 f (.lst ((GG q t j).map V.int))) a (q.map V.int) := by
          rcases hq6 with (h | ⟨o, h⟩) | h
          · exact .inl (.inl (by rw [upd_ne (ne_of h hf6 (by intro y; cases y))]; exact h))
          · exact .inl (.inr ⟨o, by rw [upd_ne (ne_of h hf6 (by intro y; cases y))]; exact h⟩)
          · exact .inr h
        have g1 : atI ((stL (thr q t) 100 0 q).map ov) ((pn : Nat) : Int) = some (V.int z) := atI_nat (by rw [List.getElem?_map, hz]; rfl)
        have g2 : atI (q.map V.int) ((pn : Nat) : Int) = some (V.int r) := atI_nat (by rw [List.getElem?_map, hr]; rfl)
        refine ⟨_, rfl, _, rfl, p, _, _, _, rfl, rfl, .of hp7, g1, _, rfl, _, rfl, a, _, _, _, rfl, rfl, hq7, g2, rfl, _, rfl, ?_⟩
        refine ite2 (fun c => ?_) (fun c => ?_)
        · have c1 : z = r := V.int.inj (of_decide_eq_true c)
          have c2 : Tn q pn = t + 1 := hz2.mp c1
          refine ⟨_, rfl, _, rfl, _, rfl, f, _, _, pn, rfl, rfl, upd_same, ?_, ?_⟩
          · rw [List.length_map, GG_length]
            unfold ixN
            rw [if_pos (by omega), if_pos (by omega)]
            simp
          · refine ⟨_, rfl, ?_⟩
            rw [GG_sit ok.rows hpx hpn c2, upd_upd, List.map_set]
        · have c1 : ¬ Tn q pn = t + 1 := fun y => c (decide_eq_true (by rw [hz2.mpr y]))
          refine ⟨_, rfl, ?_⟩
          rw [GG_wait ok.rows hpx c1]
      · rintro σ H7 ⟨x5, rfl, rfl⟩
        rw [GG_end ok.rows (by simp)]
        generalize hH8 : upd H6 f (.lst ((FF q (t + 1)).map V.int)) = H8
        have hf8 : H8 f = some (.lst ((FF q (t + 1)).map V.int)) := by rw [← hH8, upd_same]
        have hl8 : H8 l = some (.lst ((pls q t).map V.int)) := by rw [← hH8, upd_ne nfl.symm]; exact hl6
        have s8 : Same H H8 := by rw [← hH8]; exact ((s4.trans s5).trans s6).mut nf
        -- there = [place for place in there if found[place] == 0]
        refine ⟨_, rfl, l, rfl, ⟨_, .of hl8⟩, fun D hD => lc_data (K := K) walk_list (fun i => ((pls q t).map V.int).getD i .non) (fun i H x H' hi _ y => ⟨y.1, ?_⟩)
          (fun i => decide (t + 1 < Tn q ((pls q t).getD i 0).toNat)) (fun i => .int ((pls q t).getD i 0)) ?_ hD (fun H' s1 => .of (s1 _ _ hl8)) (fun x => rfl) (fun i H' hi s9 Q kq => ?_) (fun i H' hi _ s9 hD Q kq => ?_) (fun H' ys s9 hy hds => ?_)⟩
        · rw [List.getD_eq_getElem?_getD, y.2]; rfl
        · rw [List.length_map]
          have e1 : (pls q t).length ≤ q.length := by
            unfold pls
            rw [List.length_map]
            exact Nat.le_trans ((S_sub0 q t).length_le) (Nat.le_of_eq (en_length q 0))
          omega
        · rw [List.length_map] at hi
          obtain ⟨px, hpx⟩ : ∃ px, (pls q t)[i]? = some px := ⟨_, List.getElem?_eq_getElem hi⟩
          obtain ⟨pn, r, rfl, hpn, hr, hS⟩ := pls_at hpx
          have e1 : ((pls q t).map V.int).getD i .non = .int pn := by rw [List.getD_eq_getElem?_getD, List.getElem?_map, hpx]; rfl
          have e2 : (pls q t).getD i 0 = pn := by rw [List.getD_eq_getElem?_getD, hpx]; rfl
          have g1 : atI ((FF q (t + 1)).map V.int) ((pn : Nat) : Int) = some (V.int (if t + 1 < Tn q pn then 0 else (Tn q pn : Int))) := atI_nat (by rw [List.getElem?_map, FF_at hpn]; rfl)
          rw [e1]
          refine ⟨_, rfl, _, rfl, f, _, _, _, rfl, rfl, .of (s9 _ _ hf8), g1, rfl, _, rfl, ?_⟩
          have e3 : decide (V.int (if t + 1 < Tn q pn then 0 else (Tn q pn : Int)) = V.int 0) = decide (t + 1 < Tn q ((pn : Int)).toNat) := by
            rw [Int.toNat_natCast]
            by_cases c : t + 1 < Tn q pn
            · simp [c]
            · have := T_pos ok.rows hpn
              rw [if_neg c]
              rw [decide_eq_false c]
              exact decide_eq_false fun z => by have := V.int.inj z; omega
          rw [e3]
          rw [e2] at kq
          exact kq H' (Same.refl _)
        · rw [List.length_map] at hi
          have e1 : ((pls q t).map V.int).getD i .non = .int ((pls q t).getD i 0) := by rw [List.getD_eq_getElem?_getD, List.getElem?_map, List.getElem?_eq_getElem hi, List.getD_eq_getElem?_getD, List.getElem?_eq_getElem hi]; rfl
          rw [e1]
          exact ⟨_, rfl, kq _ H' (Same.refl _) (.int _)⟩
        · have e1 : ((List.range ((pls q t).map V.int).length).filter (fun i => decide (t + 1 < Tn q ((pls q t).getD i 0).toNat))).map (fun i => PyData.int ((pls q t).getD i 0)) = (pls q (t + 1)).map PyData.int := by
            rw [List.length_map, ← pls_next ok.rows t, List.map_map]
            rfl
          rw [e1] at hds
          have e2 := dps_inv hds
          subst e2
          refine ⟨t + 1, f, D, _, _, by omega, rfl, s8.trans s9, nf, ?_, s9 _ _ hf8, hy⟩
          exact ne_of_none hf8 hD
    · have c1 : pls q t = [] := by simpa using c
      have ht : LL q ≤ t := Nat.le_of_not_lt ((pls_nil ok.rows).mp c1)
      rw [FF_end ok.rows ht] at hf5
      exact ⟨_, rfl, k H5 f (s4.trans s5) nf hf5⟩
end
end Ai
namespace Ai
open PySem PySem.Spec PyProof.Rows L2
/-! ### queues_for -/
def seenOne : PyData → Bool
  | .none => true
  | .int i => decide (1 ≤ i)
  | _ => false
def seenD : PyData → Bool
  | .list ds => decide (ds.length ≤ 5) && ds.all seenOne
  | _ => false
def rowsD : PyData → Bool
  | .int i => decide (1 ≤ i) && decide (i ≤ 6)
  | _ => false
def tupI (q : List Int) : PyData := .tuple (q.map PyData.int)
def firstD : List (List Int) → PyData
  | [] => .none
  | q :: _ => tupI q
def resD (qs : List (List Int)) : PyData := .tuple [.int qs.length, firstD qs]
theorem seen_inv : ∀ {ds : List PyData}, ds.all seenOne = true → ∃ os : List (Option Int), ds = os.map od
  | [], _ => ⟨[], rfl⟩
  | d :: ds, h => by
    rw [List.all_cons, Bool.and_eq_true] at h
    obtain ⟨os, rfl⟩ := seen_inv h.2
    cases d with
    | none => exact ⟨none :: os, rfl⟩
    | int i => exact ⟨some i :: os, rfl⟩
    | _ => exact absurd h.1 (by simp [seenOne])
theorem rowsD_inv {d : PyData} (h : rowsD d = true) : ∃ r : Nat, d = .int r ∧ 1 ≤ r ∧ r ≤ 6 := by
  cases d with
  | int i =>
    simp only [rowsD, Bool.and_eq_true, decide_eq_true_eq] at h
    exact ⟨i.toNat, by congr 1; omega, by omega, by omega⟩
  | _ => exact absurd h (by simp [rowsD])
theorem dps_ov {K : PySem.W.Frag} {H : Hp} : ∀ {os : List (Option Int)} {vs : List V}, DpAll K H vs (os.map od) → vs = os.map ov
  | [], _, h => by cases h; rfl
  | none :: os, _, h => by
    cases h with
    | cons h1 h2 => cases h1; rw [dps_ov h2]; rfl
  | some i :: os, _, h => by
    cases h with
    | cons h1 h2 => cases h1; rw [dps_ov h2]; rfl
theorem sh_tups (qs : List (List Int)) : SeqAt.shaped (.list (qs.map tupI)) = true := by
  refine shaped_list (n := 1) (fun d h => ?_) (fun d h => ?_) (by omega)
  · obtain ⟨q, _, rfl⟩ := List.mem_map.mp h
    show PyData.canLay0 (.tuple (q.map PyData.int)) = true
    rw [PyData.canLay0]
    exact lay_of fun d h => by obtain ⟨i, _, rfl⟩ := List.mem_map.mp h; rfl
  · obtain ⟨q, _, rfl⟩ := List.mem_map.mp h
    show PyData.depth (.tuple (q.map PyData.int)) ≤ 1
    rw [PyData.depth]
    have := depth_of (ds := q.map PyData.int) (n := 0) fun d h => by obtain ⟨i, _, rfl⟩ := List.mem_map.mp h; exact Nat.le_refl _
    omega
theorem eqv_nilL (ds : List PyData) : PyData.eqv (.list ds) (.list []) = decide (ds = []) := by
  cases ds <;> rfl
theorem in_seen (o : Option Int) (t : Int) : inV (ov o) [V.non, V.int t] = seenT o t := by
  cases o with
  | none => rfl
  | some s =>
    show (false || ((t == s) || false)) = decide (s = t)
    by_cases h : s = t
    · simp [h]
    · have : ¬ t = s := fun z => h z.symm
      simp [h, this]
def sp_queues_for {K : PySem.W.Frag} {mg : Str → Option Value} (T : Fns K mg) : Sp := fun vs H Q E => ∃ v d u e, vs = [v, u] ∧ Dp K H v d ∧ Dp K H u e ∧ (seenD d = false → ∀ H', Same H H' → E (.ref T.a_NoSeen) none H') ∧ (seenD d = true → rowsD e = false → ∀ H', Same H H' → E (.ref T.a_NoRow) none H') ∧
  (seenD d = true → rowsD e = true → ∀ os (r : Nat), d = .list (os.map od) → os.length ≤ 5 → e = .int r → r ≤ 6 → ∀ H' p, Same H H' → Dp K H' (.ref p) (resD (FQ os r os.length)) → Q (.ref p) H')
section
variable {P : Program} {w : World} {K : PySem.W.Frag} {mg : Str → Option Value} {base : Heap}
theorem ok_queues_for (T : Fns K mg) : FnOk P w K mg base (L2N.CX P w) 3 T.a_queues_for T.d_queues_for ["seen", "rows"] (sp_queues_for T) := by
  refine T.F_queues_for.okN sc_queues_for (fun vs H Q E h => ?_) (fun cdv A outer s H vs Q E hr h => ?_)
  · obtain ⟨v, d, u, e, rfl, _⟩ := h
    rfl
  · obtain ⟨v, d, u, e, rfl, hd, he, q1, q2, q3⟩ := h
    refine ⟨_, (pss_cons (ps_if (PW.pt (pw_or (pt_not (pt_val (pe_callB call_isi (by rfl) T.n_isinstance (by decide +kernel) (pa_cons (pv 0) (pa_cons (pe_bltn (v := .ty "list") (by rfl) T.n_list (by decide +kernel) rfl) pa_nil))))) (pw_or1 (pt_cmpR op_gt (pe_callB call_len_seq (by rfl) T.n_len PySem.boot_len (pa_cons (pv 0) pa_nil)) (pe_glob (v := .int 5) (by rfl) T.c_MOST_SEEN ⟨_, rfl⟩) (nomark _))))) (pss_one (L2N.ps_raise rfl (L2N.takes_of rfl rfl rfl rfl) (L2N.pmk_own PySem.F.excBase_ValueError T.x_NoSeen T.g_NoSeen T.kp_NoSeen (raises_own T.sb_NoSeen T.ty_NoSeen) rfl))) pss_nil)
    (pss_cons (ps_if (pt_not (pt_val (pe_callB (cr_all rfl) (by rfl) T.n_all (by decide +kernel) (pa_cons (pe_lc (own := [("one", 4)]) (g := gName 4) (tt := tYes) rfl sc_queues_for.nd (pi_list (pv 0)) (blkOk_by (N := ["seen", "rows", "found", "place", "one", "queue", "row"]) (sc := defScope s_queues_for) (by decide +kernel)) (fun _ _ _ _ _ => (pg_name (i := 4) sc_queues_for.nd rfl (by first | exact .inl rfl | exact .inr rfl))) (fun _ _ _ _ _ => pts_nil) (fun _ _ _ _ _ => (pe_or (pe_cmpR op_isN (pv 4) pe_non (nomark _)) (pe_one (pe_and (pe_call (E := E0) (ok_is_whole T) (hr.mono (by decide)) (by rfl) T.g_is_whole T.F_is_whole.kp T.b_is_whole .nil pass0 (pa_cons (pv 4) pa_nil)) (pe_one (pe_cmpR op_ge (pv 4) pe_int (nomark _)))))))) pa_nil)))) (pss_one (L2N.ps_raise rfl (L2N.takes_of rfl rfl rfl rfl) (L2N.pmk_own PySem.F.excBase_ValueError T.x_NoSeen T.g_NoSeen T.kp_NoSeen (raises_own T.sb_NoSeen T.ty_NoSeen) rfl))) pss_nil)
    (pss_cons (ps_if (PW.pt (pw_or (pt_not (pt_val (pe_call (E := E0) (ok_is_whole T) (hr.mono (by decide)) (by rfl) T.g_is_whole T.F_is_whole.kp T.b_is_whole .nil pass0 (pa_cons (pv 1) pa_nil)))) (pw_or1 (pt_not (pt_chain op_le op_le pe_int (pv 1) (pe_glob (v := .int 6) (by rfl) T.c_MOST_ROWS ⟨_, rfl⟩)))))) (pss_one (L2N.ps_raise rfl (L2N.takes_of rfl rfl rfl rfl) (L2N.pmk_own PySem.F.excBase_ValueError T.x_NoRow T.g_NoRow T.kp_NoRow (raises_own T.sb_NoRow T.ty_NoRow) rfl))) pss_nil)
    (pss_cons (ps_set (i := 2) sc_queues_for.nd rfl (.inl rfl) (pe_lst (pa_cons (pe_tup pa_nil) pa_nil)))
    (pss_cons (ps_for (passes_of rfl) rfl (pi_range1 (by rfl) T.n_range (pa_cons (pe_callB call_len_seq (by rfl) T.n_len PySem.boot_len (pa_cons (pv 0) pa_nil)) pa_nil)) (pg_name (i := 3) sc_queues_for.nd rfl (by first | exact .inl rfl | exact .inr rfl))
      (pss_cons (ps_setLc2 (i := 2) (own := [("queue", 5), ("row", 6)]) (g := gName 5) (tt := tYes) (vs1 := [6]) (g1 := gName 6) (tt1 := tYes) rfl sc_queues_for.nd rfl rfl (sw_true rfl rfl rfl (by decide +kernel)) (pi_list (pv 2)) (blkOk_by (N := ["seen", "rows", "found", "place", "one", "queue", "row"]) (sc := defScope s_queues_for) (by decide +kernel)) (by decide) (fun _ _ _ _ _ => (pg_name (i := 5) sc_queues_for.nd rfl (by first | exact .inl rfl | exact .inr rfl))) (fun _ _ _ _ _ => pts_nil) (fun _ _ _ _ _ => (pi_range2 (by rfl) T.n_range (pa_cons pe_int (pa_cons (pe_op op_add (pv 1) pe_int) pa_nil)))) (fun _ _ _ _ _ => (pg_name (i := 6) sc_queues_for.nd rfl (by first | exact .inl rfl | exact .inr rfl))) (fun _ _ _ _ _ => pts_nil) (fun _ _ _ _ _ => (pe_op (show OpR _ (binaryOp .Add) (rCatA K) from op_catA) (pv 5) (pe_tup (pa_cons (pv 6) pa_nil)))))
      (pss_one (ps_setLc (i := 2) (own := [("queue", 5)]) (g := gName 5) rfl sc_queues_for.nd rfl rfl (sw_true rfl rfl rfl (by decide +kernel)) (pi_list (pv 2)) (blkOk_by (N := ["seen", "rows", "found", "place", "one", "queue", "row"]) (sc := defScope s_queues_for) (by decide +kernel)) (fun _ _ _ _ _ => (pg_name (i := 5) sc_queues_for.nd rfl (by first | exact .inl rfl | exact .inr rfl))) (fun _ _ _ _ _ => pts_one (pt_cmpR (show OpR _ (compareOp .In) (rIn K false) from op_in_seq) (pe_ix (show IxR _ (rIxL K) from ix_list) (pv 0) (pv 3) (fun _ _ => rfl)) (pe_tup (pa_cons pe_non (pa_cons (pe_ix (show IxR _ (rIxL K) from ix_list) (pe_call (E := E0) (ok_turns_of T) (hr.mono (by decide)) (by rfl) T.g_turns_of T.F_turns_of.kp T.b_turns_of .nil pass0 (pa_cons (pv 5) pa_nil)) (pv 3) (fun _ _ => rfl)) pa_nil))) rfl)) (fun _ _ _ _ _ => (pv 5))))))
    (pss_one (ps_ret (pe_tup (pa_cons (pe_callB call_len_seq (by rfl) T.n_len PySem.boot_len (pa_cons (pv 2) pa_nil)) (pa_cons (pe_ifExp (pt_cmpR (op_neD hr.units) (pv 2) (pe_lst pa_nil) (nomark _)) (pe_ix ix_list (pv 2) pe_int (fun _ _ => rfl)) pe_non) pa_nil)))))))))), ?_⟩
    refine ⟨v, rfl, _, _, _, _, _, rfl, .ty _, dp_ty hd, kit_list hd, listB d, rfl, ?_⟩
    cases d with
    | list ds =>
      cases hd with
      | @lst a xs _ hs ha =>
        have el := dps_length ha
        refine ⟨_, rfl, a, xs, rfl, .inl hs, _, _, rfl, rfl, _, rfl, ?_⟩
        refine ite2 (fun c => ?_) (fun c => ?_)
        · have c1 := of_decide_eq_true c
          exact q1 (by simp only [seenD]; rw [decide_eq_false (by omega)]; rfl) H (Same.refl _)
        · have c1 : ds.length ≤ 5 := by
            have := of_decide_eq_false (Bool.eq_false_iff.mpr c)
            omega
          refine ⟨_, rfl, a, rfl, ⟨_, hs⟩, fun D hD => lc_data (K := K) walk_list (fun i => xs.getD i .non) (fun i H x H' hi _ y => ⟨y.1, ?_⟩) (fun _ => true) (fun i => .bool (seenOne (ds.getD i .none))) (by omega) hD (fun H' s1 => s1.seq hs) (fun x => rfl) (fun i H' hi s1 Q q => q H' (Same.refl _)) (fun i H' hi _ s1 hD Q q => ?_) (fun H' ys s1 hy hds => ?_)⟩
          · rw [List.getD_eq_getElem?_getD, y.2]; rfl
          · obtain ⟨x, hx⟩ : ∃ x, xs[i]? = some x := ⟨xs[i], List.getElem?_eq_getElem hi⟩
            obtain ⟨d, hd, hdx⟩ := dps_at ha hx
            have ex : xs.getD i V.non = x := by rw [List.getD_eq_getElem?_getD, hx]; rfl
            have ed : ds.getD i PyData.none = d := by rw [List.getD_eq_getElem?_getD, hd]; rfl
            rw [ed] at q
            rw [ex]
            have hdx := s1.dp hdx
            refine ⟨x, rfl, rfl, _, rfl, ?_⟩
            cases d with
            | none => cases hdx; exact q _ H' (Same.refl _) (.bl _)
            | int j =>
              cases hdx
              exact ⟨_, rfl, _, _, rfl, .int j, true, rfl, _, rfl, _, _, rfl, rfl, q _ H' (Same.refl _) (.bl _)⟩
            | bool b => cases hdx; exact ⟨_, rfl, _, _, rfl, .bl b, false, rfl, q _ H' (Same.refl _) (.bl _)⟩
            | str b => cases hdx; exact ⟨_, rfl, _, _, rfl, .str b, false, rfl, q _ H' (Same.refl _) (.bl _)⟩
            | list b => cases hdx with | lst h1 h2 => exact ⟨_, rfl, _, _, rfl, .lst h1 h2, false, rfl, q _ H' (Same.refl _) (.bl _)⟩
            | tuple b => cases hdx with | tup h1 h2 => exact ⟨_, rfl, _, _, rfl, .tup h1 h2, false, rfl, q _ H' (Same.refl _) (.bl _)⟩
            | dict b => exact nomatch hdx
          · have eb : ys = (ds.map seenOne).map V.bl := by
              have e2 : ((List.range xs.length).filter fun _ => true).map (fun i => PyData.bool (seenOne (ds.getD i .none))) = (ds.map seenOne).map PyData.bool := by
                rw [List.filter_eq_self.mpr (by simp)]
                refine List.ext_getElem? fun i => ?_
                rw [List.getElem?_map, List.getElem?_map, List.getElem?_map, el]
                by_cases hi : i < ds.length
                · rw [List.getElem?_range hi, List.getElem?_eq_getElem hi]
                  simp [List.getD_eq_getElem?_getD, List.getElem?_eq_getElem hi]
                · rw [List.getElem?_eq_none (by simp; omega), List.getElem?_eq_none (by omega)]
                  rfl
              rw [e2] at hds
              exact dps_bools hds
            subst eb
            refine ⟨D, _, rfl, .of hy, _, rfl, ?_⟩
            have e3 : seenD (.list ds) = (ds.map seenOne).all id := by
              rw [List.all_map]
              simp only [seenD, c1, decide_true, Bool.true_and]
              rfl
            rw [← e3]
            refine ite2 (fun c => ?_) (fun c => ?_)
            · exact q1 (by simpa using c) H' s1
            · have c2 : seenD (.list ds) = true := by simpa using c
              have hd' : ds.all seenOne = true := by
                have := c2
                simp only [seenD, Bool.and_eq_true] at this
                exact this.2
              obtain ⟨os, rfl⟩ := seen_inv hd'
              have exs := dps_ov ha
              subst exs
              rw [List.length_map] at c1
              have hs1 := s1.seq hs
              have he1 := s1.dp he
              -- rows
              refine ⟨u, rfl, u, e, rfl, he1, wholeD e, rfl, ?_⟩
              cases e with
              | int j =>
                cases he
                refine ⟨_, rfl, _, _, rfl, rfl, _, rfl, ?_⟩
                refine ite2 (fun c3 => ?_) (fun c3 => ?_)
                · refine ⟨_, _, rfl, rfl, _, rfl, ?_⟩
                  refine ite2 (fun c4 => ?_) (fun c4 => ?_)
                  · refine q2 c2 ?_ H' s1
                    have c5 : decide (j ≤ 6) = false := by simpa using c4
                    simp only [rowsD, c5, Bool.and_false]
                  · have c5 : j ≤ 6 := by simpa using c4
                    have c6 : 1 ≤ j := of_decide_eq_true c3
                    obtain ⟨r, rfl⟩ := Int.eq_ofNat_of_zero_le (show 0 ≤ j by omega)
                    have hr6 : r ≤ 6 := by omega
                    have c7 : rowsD (.int (r : Int)) = true := by simp only [rowsD, Bool.and_eq_true, decide_eq_true_eq]; omega
                    clear c4 c3 c q1 q2 hy hds
                    -- found
                    refine ⟨Nat.zero_le _, fun t0 ht0 => ⟨(by show 1 ≤ sizeLine; decide), fun f0 hf0 => ?_⟩⟩
                    have s2 : Same H' (upd (upd H' t0 (.tup [])) f0 (.lst [.ref t0])) := (same_new ht0).trans (same_new hf0)
                    have hf0' : (upd (upd H' t0 (.tup [])) f0 (.lst [V.ref t0])) f0 = some (.lst [V.ref t0]) := upd_same
                    have ht0' : (upd (upd H' t0 (.tup [])) f0 (.lst [V.ref t0])) t0 = some (.tup []) := (same_new hf0) _ _ upd_same
                    generalize upd (upd H' t0 (.tup [])) f0 (.lst [V.ref t0]) = H2 at s2 hf0' ht0'
                    have s02 := s1.trans s2
                    have pw : ∀ p, p ≤ 5 → r ^ p ≤ 7776 := fun p hp => Nat.le_trans (Nat.pow_le_pow_left hr6 p) (Nat.le_trans (Nat.pow_le_pow_right (by omega) hp) (by decide))
                    refine ⟨_, rfl, a, _, rfl, .inl (s2.seq hs1), _, rfl, by omega, by rw [List.length_map]; omega, for_it walk_range (fun p σ H5 => ∃ (f : Addr) (ys : List V) (x3 x4 x5 x6 : Option V), σ = [some (.ref a), some (.int r), some (.ref f), x3, x4, x5, x6] ∧ Same H H5 ∧ H5 f = some (.lst ys) ∧ DpAll K H5 ys ((FQ os r p).map tupI))
                      ⟨f0, [.ref t0], _, _, _, _, rfl, s02, hf0', .cons (.tup (.of ht0') .nil) .nil⟩ (fun _ _ _ _ _ => True.intro) ?_ ?_⟩
                    · rintro p x σ H5 H5' hp ⟨f, ys, x3, x4, x5, x6, rfl, s5, hf, hys⟩ ⟨rfl, ex⟩
                      obtain rfl := ex.trans (congrArg V.int (Int.zero_add _))
                      have hp5 : p < 5 := by rw [List.length_map, Int.toNat_natCast] at hp; omega
                      have hp6 : p < os.length := by rw [List.length_map, Int.toNat_natCast] at hp; exact hp
                      have ly : ys.length = (FQ os r p).length := by have := dps_length hys; rw [List.length_map] at this; exact this
                      have lF := Nat.le_trans (FQ_length os r p) (pw p (by omega))
                      refine ⟨_, rfl, f, rfl, ⟨_, .of hf⟩, fun D hD => lc2_data (K := K) walk_list (fun i => ys.getD i .non) (fun i H x H' hi _ y => ⟨y.1, ?_⟩) 1 r (fun i k => tupI ((FQ os r p).getD i [] ++ [(1 : Int) + (k : Int)]))
                        (Nat.le_trans (Nat.mul_le_mul (show ys.length ≤ 7776 by omega) hr6) (by decide)) hD (fun H' s => .of (s _ _ hf)) (fun x => rfl) (fun i H6 hi s6 R kR => ?_) (fun x y => rfl) (fun i k H6 hi hk s6 hDz Q kq => ?_) (fun H6 zs s6 hz hzs => ?_)⟩
                      · rw [List.getD_eq_getElem?_getD, y.2]; rfl
                      · refine ⟨_, rfl, _, _, rfl, rfl, 1, _, rfl, ⟨by omega, by omega, by omega, by omega⟩, ?_⟩
                        rw [show ((r : Int) + 1 - 1).toNat = r by omega]
                        exact kR
                      · obtain ⟨zs, hzs⟩ := hDz
                        obtain ⟨x, hx⟩ : ∃ x, ys[i]? = some x := ⟨ys[i], List.getElem?_eq_getElem hi⟩
                        obtain ⟨d, hd, hdx⟩ := dps_at hys hx
                        have ex : ys.getD i V.non = x := by rw [List.getD_eq_getElem?_getD, hx]; rfl
                        obtain ⟨q, hq, rfl⟩ : ∃ q, (FQ os r p)[i]? = some q ∧ tupI q = d := by
                          rw [List.getElem?_map] at hd
                          cases e : (FQ os r p)[i]? with
                          | none => rw [e] at hd; cases hd
                          | some q => rw [e] at hd; exact ⟨q, rfl, Option.some.inj hd⟩
                        have eq' : (FQ os r p).getD i [] = q := by rw [List.getD_eq_getElem?_getD, hq]; rfl
                        rw [eq'] at kq
                        rw [ex]
                        obtain ⟨b, rfl, hb⟩ := sqT_of (s6.dp hdx)
                        refine ⟨_, rfl, _, rfl, (by show 1 ≤ sizeLine; decide), fun t ht => ?_⟩
                        have lq := (FQ_mem (List.mem_of_getElem? hq)).1
                        exact cat_go ((same_new ht).tup hb) (q' := [(1 : Int) + (k : Int)]) (.of upd_same) (by rw [lq]; show p + 1 ≤ 1000; omega) fun H7 u s7 hu => kq _ H7 ((same_new ht).trans s7) (dp_intsT (tup_hid ⟨zs, s7 _ _ ((same_new ht) _ _ hzs)⟩ hu))
                      · have en : ((List.range ys.length).flatMap fun i => (List.range r).map fun k : Nat => tupI ((FQ os r p).getD i [] ++ [(1 : Int) + (k : Int)])) = ((FQ os r p).flatMap (ext r)).map tupI := by
                          rw [ly]
                          have := range_flat (β := PyData) ([] : List Int) (fun q => (ext r q).map tupI) (FQ os r p)
                          rw [List.map_flatMap, ← this]
                          congr 1
                          funext i
                          rw [ext, List.map_map]
                          rfl
                        rw [en] at hzs
                        have lz : zs.length = ((FQ os r p).flatMap (ext r)).length := by have := dps_length hzs; rw [List.length_map] at this; exact this
                        have lz2 : ((FQ os r p).flatMap (ext r)).length ≤ 50000 := by
                          rw [flat_length (ext r) r _ fun q _ => ext_length r q]
                          exact Nat.le_trans (Nat.mul_le_mul lF hr6) (by decide)
                        refine ⟨_, rfl, D, rfl, ⟨_, .of hz⟩, fun D2 hD2 => lc_data (K := K) walk_list (fun i => zs.getD i .non) (fun i H x H' hi _ y => ⟨y.1, ?_⟩) (fun i => okj os (((FQ os r p).flatMap (ext r)).getD i []) p) (fun i => tupI (((FQ os r p).flatMap (ext r)).getD i []))
                          (by omega) hD2 (fun H' s => .of (s _ _ hz)) (fun x => rfl) (fun i H7 hi s7 Q kq => ?_) (fun i H7 hi _ s7 hDz2 Q kq => ?_) (fun H7 ws s7 hw hws => ?_)⟩
                        · rw [List.getD_eq_getElem?_getD, y.2]; rfl
                        · obtain ⟨x, hx⟩ : ∃ x, zs[i]? = some x := ⟨zs[i], List.getElem?_eq_getElem hi⟩
                          obtain ⟨d, hd, hdx⟩ := dps_at hzs hx
                          have ex : zs.getD i V.non = x := by rw [List.getD_eq_getElem?_getD, hx]; rfl
                          obtain ⟨q, hq, rfl⟩ : ∃ q, ((FQ os r p).flatMap (ext r))[i]? = some q ∧ tupI q = d := by
                            rw [List.getElem?_map] at hd
                            cases e : ((FQ os r p).flatMap (ext r))[i]? with
                            | none => rw [e] at hd; cases hd
                            | some q => rw [e] at hd; exact ⟨q, rfl, Option.some.inj hd⟩
                          have eq' : ((FQ os r p).flatMap (ext r)).getD i [] = q := by rw [List.getD_eq_getElem?_getD, hq]; rfl
                          rw [eq'] at kq
                          rw [ex]
                          obtain ⟨b, rfl, hb⟩ := sqT_of (s7.dp hdx)
                          obtain ⟨q0, hq0, hqe⟩ := List.mem_flatMap.mp (List.mem_of_getElem? hq)
                          obtain ⟨y, rfl, y1, y2⟩ := ext_mem hqe
                          obtain ⟨l0, r0⟩ := FQ_mem hq0
                          have rows : Rows (q0 ++ [y]) := fun z hz => by
                            rcases List.mem_append.mp hz with h | h
                            · have := r0 z h
                              omega
                            · have : z = y := by simpa using h
                              omega
                          have lq : (q0 ++ [y]).length = p + 1 := by simp [l0]
                          have s57 := (s5.trans s6).trans s7
                          obtain ⟨o, ho⟩ : ∃ o, os[p]? = some o := ⟨os[p], List.getElem?_eq_getElem hp6⟩
                          have g1 : atI (os.map ov) ((p : Nat) : Int) = some (ov o) := atI_nat (by rw [List.getElem?_map, ho]; rfl)
                          refine ⟨_, rfl, _, rfl, a, _, _, _, rfl, rfl, s57.seq hs, g1, _, rfl, b, q0 ++ [y], rfl, hb, ⟨by omega, rows⟩, fun H8 t s8 nt htt => ?_⟩
                          have g2 : atI ((TT (q0 ++ [y])).map V.int) ((p : Nat) : Int) = some (V.int (Tn (q0 ++ [y]) p : Int)) := atI_nat (by rw [List.getElem?_map, TT_at (by omega)]; rfl)
                          refine ⟨_, rfl, t, _, _, _, rfl, rfl, .of htt, g2, (by show 2 ≤ sizeLine; decide), fun u hu => ?_⟩
                          refine ⟨u, [.non, .int (Tn (q0 ++ [y]) p : Int)], rfl, .inr (.of upd_same), (by cases o <;> rfl), rfl, _, rfl, ?_⟩
                          rw [if_neg Bool.false_ne_true, in_seen]
                          have eo : seenT o (Tn (q0 ++ [y]) p : Int) = okj os (q0 ++ [y]) p := by
                            unfold okj
                            rw [List.getD_eq_getElem?_getD, ho]
                            rfl
                          rw [eo]
                          exact kq _ (s8.trans (same_new hu))
                        · obtain ⟨x, hx⟩ : ∃ x, zs[i]? = some x := ⟨zs[i], List.getElem?_eq_getElem hi⟩
                          obtain ⟨d, hd, hdx⟩ := dps_at hzs hx
                          have ex : zs.getD i V.non = x := by rw [List.getD_eq_getElem?_getD, hx]; rfl
                          have ed : tupI (((FQ os r p).flatMap (ext r)).getD i []) = d := by
                            rw [List.getElem?_map] at hd
                            cases e : ((FQ os r p).flatMap (ext r))[i]? with
                            | none => rw [e] at hd; cases hd
                            | some q => rw [e] at hd; rw [List.getD_eq_getElem?_getD, e]; exact Option.some.inj hd
                          rw [ex]
                          obtain ⟨b, rfl, hb⟩ := sqT_of (ns := ((FQ os r p).flatMap (ext r)).getD i []) (by rw [← ed] at hdx; exact s7.dp hdx)
                          exact ⟨_, rfl, kq _ H7 (Same.refl _) (dp_intsT (tup_hid hDz2 hb))⟩
                        · have ef : ((List.range zs.length).filter (fun i => okj os (((FQ os r p).flatMap (ext r)).getD i []) p)).map (fun i => tupI (((FQ os r p).flatMap (ext r)).getD i [])) = (FQ os r (p + 1)).map tupI := by
                            rw [lz, FQ_succ (by omega), ← range_filter [] (fun q => okj os q p), List.map_map]
                            rfl
                          rw [ef] at hws
                          exact ⟨D2, ws, _, _, _, _, rfl, (s5.trans s6).trans s7, hw, hws⟩
                    · rintro σ H5 ⟨f, ys, x3, x4, x5, x6, rfl, s5, hf, hys⟩
                      rw [List.length_map, Int.toNat_natCast] at hys
                      have ly : ys.length = (FQ os r os.length).length := by have := dps_length hys; rw [List.length_map] at this; exact this
                      refine ⟨_, rfl, f, ys, rfl, .inl (.of hf), ?_⟩
                      refine ⟨_, rfl, Nat.zero_le _, fun e0 he0 => ⟨_, _, .lst (.of ((same_new he0) _ _ hf)) ((same_new he0).dp' hys), .lst (.of upd_same) .nil, sh_tups _, sh_tups [], _, rfl, ?_⟩⟩
                      have s6 : Same H5 (upd H5 e0 (.lst [])) := same_new he0
                      generalize upd H5 e0 (.lst []) = H6 at s6
                      rw [eqv_nilL]
                      have hys6 := s6.dp' hys
                      have hf6 := s6 _ _ hf
                      refine ite2 (fun c => ?_) (fun c => ?_)
                      · cases eF : FQ os r os.length with
                        | nil => rw [eF] at c; simp at c
                        | cons q qs =>
                          rw [eF] at hys6
                          cases hys6 with
                          | @cons v vs _ _ h1 h2 =>
                            refine ⟨_, rfl, f, _, _, v, rfl, rfl, .of hf6, atI_nat (j := 0) rfl, (by show 2 ≤ sizeLine; decide), fun t ht => ?_⟩
                            refine q3 c2 c7 os r rfl c1 rfl hr6 _ t ((s5.trans s6).new ht) ?_
                            rw [eF]
                            have e1 : (v :: vs).length = (q :: qs).length := by rw [ly, eF]
                            rw [e1]
                            exact .tup (.of upd_same) (.cons (.int _) (.cons ((same_new ht).dp h1) .nil))
                      · have eF : FQ os r os.length = [] := by
                          cases eF : FQ os r os.length with
                          | nil => rfl
                          | cons q qs => rw [eF] at c; simp at c
                        refine ⟨(by show 2 ≤ sizeLine; decide), fun t ht => ?_⟩
                        refine q3 c2 c7 os r rfl c1 rfl hr6 _ t ((s5.trans s6).new ht) ?_
                        rw [ly, eF]
                        exact .tup (.of upd_same) (.cons (.int _) (.cons .non .nil))
                · refine ⟨_, rfl, q2 c2 ?_ H' s1⟩
                  have c5 := Bool.eq_false_iff.mpr c3
                  simp only [rowsD, c5, Bool.false_and]
              | _ => exact q2 c2 rfl H' s1
    | _ => exact q1 rfl H (Same.refl _)
end

end Ai
namespace Ai
open PySem PySem.Spec PyProof.Rows L2
/-! ### what a script's cells are drawn from -/
structure WellOk (c s p : Int) : Prop where
  c0 : 0 ≤ c
  s0 : 0 ≤ s
  s1 : s < 1099511627776
  p0 : 1 < p
  p1 : p < 4294967296
/-- the well that stands at w -/
def WellAt (H : Hp) (w : Addr) : Prop := ∃ c s p, WellOk c s p ∧ H w = some (.lst [.int c, .int s, .int p])
theorem well_same {H H' : Hp} {w : Addr} (e : Same H H') (h : WellAt H w) : WellAt H' w := by
  obtain ⟨c, s, p, ok, hw⟩ := h
  exact ⟨c, s, p, ok, e _ _ hw⟩
theorem well_ne {H : Hp} {w p : Addr} (h : WellAt H w) (hp : H p = none) : p ≠ w := by
  obtain ⟨c, s, z, ok, hw⟩ := h
  exact (ne_of_none hw hp).symm
/-- what stands beside a well: G at least, and the well itself at w -/
structure WS (w : Addr) (G H : Hp) : Prop where
  sub : Same G (hid H w)
  well : WellAt H w
theorem WS.up {w : Addr} {G H : Hp} (e : WS w G H) : Same G H := e.sub.trans (hid_same _ _)
theorem WS.grow {w : Addr} {G H H' : Hp} (e : WS w G H) (s : Same H H') : WS w G H' := ⟨e.sub.trans (hid_mono s w), well_same s e.well⟩
theorem WS.take {w : Addr} {G H H' : Hp} (e : WS w G H) (s : hid H' w = hid H w) (k : WellAt H' w) : WS w G H' := ⟨by rw [s]; exact e.sub, k⟩
theorem WS.mut {w : Addr} {G H : Hp} {p : Addr} {o : HO} (e : WS w G H) (h : G p = none) (hp : p ≠ w) : WS w G (upd H p o) := by
  refine ⟨fun b x k => ?_, ?_⟩
  · have h1 := e.sub b x k
    have hbw : b ≠ w := fun z => by rw [z, hid_at] at h1; cases h1
    rw [hid_ne hbw] at h1 ⊢
    rw [upd_ne (ne_of_none k h)]
    exact h1
  · obtain ⟨c, s, z, ok, hw⟩ := e.well
    exact ⟨c, s, z, ok, by rw [upd_ne (Ne.symm hp)]; exact hw⟩
theorem WS.ne {w : Addr} {G H : Hp} (e : WS w G H) {p : Addr} (hp : H p = none) : p ≠ w := well_ne e.well hp
/-- what stands beside the well stays there when a number is taken -/
theorem WS.get {w : Addr} {H H' : Hp} (s : hid H' w = hid H w) {p : Addr} {o : HO} (hp : p ≠ w) (h : H p = some o) : H' p = some o := by rw [hid_get s hp]; exact h
theorem WS.ofs {w : Addr} {G H : Hp} (h : WellAt H w) (s : Same G H) (hw : G w = none) : WS w G H := ⟨by have := hid_mono s w; rwa [hid_of hw] at this, h⟩
def sp_law_well (K : PySem.W.Frag) : Sp := fun vs H Q _ => ∃ (a : Addr) (k : Nat) (ns : List Int), vs = [.ref a, .int k] ∧ SqL K H a (ns.map V.int) ∧ k ≤ 1000 ∧ ∀ H' w, Same H H' → H w = none → WellAt H' w → Q (.ref w) H'
theorem fam_at {p : List Int} {j : Nat} (h : j < p.length) (lo hi : Int) (hp : ∀ x ∈ p, lo < x ∧ x < hi) : ∃ z, atI (p.map V.int) ((j : Nat) : Int) = some (V.int z) ∧ lo < z ∧ z < hi := by
  refine ⟨p[j], atI_nat (by rw [List.getElem?_map, List.getElem?_eq_getElem h]; rfl), hp _ (List.getElem_mem h)⟩
section
variable {P : Program} {w : World} {K : PySem.W.Frag} {mg : Str → Option Value} {base : Heap}
theorem ok_law_well (T : Fns K mg) : FnOk P w K mg base CX0 1 T.a_law_well T.d_law_well ["script", "k"] (sp_law_well K) := by
  refine T.F_law_well.ok sc_law_well (fun vs H Q E h => ?_) (fun cdv A outer s H vs Q E hr h => ?_)
  · obtain ⟨a, k, ns, rfl, _⟩ := h
    rfl
  · obtain ⟨a, k, ns, rfl, hS, hk, q⟩ := h
    refine ⟨_, (pss_cons (ps_set (i := 2) sc_law_well.nd rfl (.inl rfl) pe_int)
    (pss_cut (ps_if (pt_cmpR op_lt (pv 1) (pe_callB call_len_seq (by rfl) T.n_len PySem.boot_len (pa_cons (pv 0) pa_nil)) (nomark _)) (pss_one (ps_set (i := 2) sc_law_well.nd rfl (.inl rfl) (pe_ix ix_list (pv 0) (pv 1) (fun _ _ => rfl)))) pss_nil)
    (pss_cons (ps_set (i := 3) sc_law_well.nd rfl (.inl rfl) (pe_lst (pa_cons pe_int (pa_cons pe_int (pa_cons pe_int (pa_cons pe_int (pa_cons pe_int (pa_cons pe_int (pa_cons pe_int (pa_cons pe_int pa_nil))))))))))
    (pss_cons (ps_set (i := 4) sc_law_well.nd rfl (.inl rfl) (pe_op op_mod (pe_op op_mul (pe_op op_add (pe_op op_mod (pv 2) pe_int) pe_int) (pe_op op_add pe_int (pe_op op_mul pe_int (pv 1)))) pe_int))
    (pss_cons (ps_set (i := 4) sc_law_well.nd rfl (.inl rfl) (pe_op op_add (pe_op op_add (pe_op op_mod (pe_op op_mul (pv 4) (pv 4)) pe_int) (pv 1)) pe_int))
    (pss_cons (ps_if (pt_cmpR op_ge (pv 2) (pe_op op_pow pe_int pe_int) (nomark _)) (pss_one (ps_ret (pe_lst (pa_cons (pv 2) (pa_cons (pv 4) (pa_cons (pe_ix ix_list (pv 3) (pe_op op_mod (pv 1) pe_int) (fun _ _ => rfl)) pa_nil)))))) pss_nil)
    (pss_one (ps_ret (pe_lst (pa_cons pe_int (pa_cons (pv 4) (pa_cons (pe_ix ix_list (pv 3) (pe_op op_mod (pv 1) pe_int) (fun _ _ => rfl)) pa_nil)))))))))))), ?_⟩
    have hns : k < ns.length → ∃ z, atI (ns.map V.int) ((k : Nat) : Int) = some (V.int z) := fun h => ⟨ns[k], atI_nat (by rw [List.getElem?_map, List.getElem?_eq_getElem h]; rfl)⟩
    refine ⟨fun σ H' => ∃ cell : Int, σ = [some (.ref a), some (.int k), some (.int cell), none, none] ∧ H' = H, ?_, ?_⟩
    · refine ⟨_, rfl, _, rfl, a, _, rfl, .inl hS, _, _, rfl, rfl, _, rfl, ?_⟩
      refine ite2 (fun c => ?_) (fun c => ?_)
      · have c1 : k < ns.length := by
          have := of_decide_eq_true c
          rw [List.length_map] at this
          omega
        obtain ⟨z, hz⟩ := hns c1
        exact ⟨_, rfl, _, rfl, a, _, _, _, rfl, rfl, hS, hz, z, rfl, rfl⟩
      · exact ⟨0, rfl, rfl⟩
    · rintro σ H' ⟨cell, rfl, rfl⟩
      refine ⟨(by show 8 ≤ sizeLine; decide), fun l hl => ?_⟩
      have s1 : Same H' (upd H' l (.lst ([2147483647, 2147483629, 2147483587, 2147483579, 2147483563, 2147483549, 2147483543, 2147483497].map V.int))) := same_new hl
      have m1 : ∀ x : Int, 0 ≤ x % 2147483489 ∧ x % 2147483489 < 2147483489 := fun x => ⟨Int.emod_nonneg _ (by decide), Int.emod_lt_of_pos _ (by decide)⟩
      have m3 : ∀ x : Int, 0 ≤ x % 2147483477 ∧ x % 2147483477 < 2147483477 := fun x => ⟨Int.emod_nonneg _ (by decide), Int.emod_lt_of_pos _ (by decide)⟩
      have b1 : ∀ x : Int, -(2 ^ 64) < x % 2147483489 + 1 ∧ x % 2147483489 + 1 < 2 ^ 64 := fun x => by have := m1 x; omega
      have b2 : ∀ x : Int, -(2 ^ 64) < x % 2147483489 ∧ x % 2147483489 < 2 ^ 64 := fun x => by have := m1 x; omega
      have b3 : ∀ x : Int, 0 ≤ x % 2147483477 + (k : Int) + 1 ∧ x % 2147483477 + (k : Int) + 1 < 1099511627776 := fun x => by have := m3 x; omega
      have hk8 : (k : Int) % 8 = ((k % 8 : Nat) : Int) := by omega
      obtain ⟨pz, hz, z1, z2⟩ := fam_at (p := [2147483647, 2147483629, 2147483587, 2147483579, 2147483563, 2147483549, 2147483543, 2147483497]) (j := k % 8) (by show k % 8 < 8; omega) 1 4294967296 (by decide)
      rw [← hk8] at hz
      refine ⟨_, rfl, _, _, rfl, rfl, (by show (0 : Int) < 2147483489; decide), _, _, rfl, rfl, _, rfl, _, _, rfl, rfl, .inl ⟨by decide, by decide⟩, _, _, rfl, rfl, _, _, rfl, rfl, .inl (b1 _), _, _, rfl, rfl, (by show (0 : Int) < 2147483489; decide), ?_⟩
      refine ⟨_, rfl, _, rfl, _, _, rfl, rfl, .inl (b2 _), _, _, rfl, rfl, (by show (0 : Int) < 2147483477; decide), _, rfl, _, _, rfl, rfl, _, _, rfl, rfl, ?_⟩
      refine ⟨_, rfl, _, _, rfl, rfl, ⟨by decide, by decide, by decide⟩, _, _, rfl, rfl, _, rfl, ?_⟩
      refine ite2 (fun c => ?_) (fun c => ?_)
      · have c1 : 10 ^ (18 : Int).toNat ≤ cell := of_decide_eq_true c
        have e10 : (10 : Int) ^ (18 : Int).toNat = 1000000000000000000 := by decide
        refine ⟨_, rfl, _, rfl, _, rfl, _, rfl, _, _, rfl, rfl, (by show (0 : Int) < 8; decide), l, _, _, _, rfl, rfl, .of upd_same, hz, (by show 3 ≤ sizeLine; decide), fun o no => ?_⟩
        exact q _ o (s1.new no) (s1.free no) ⟨_, _, _, ⟨(by omega : 0 ≤ cell), (b3 _).1, (b3 _).2, z1, z2⟩, upd_same⟩
      · refine ⟨_, rfl, _, rfl, _, rfl, _, _, rfl, rfl, (by show (0 : Int) < 8; decide), l, _, _, _, rfl, rfl, .of upd_same, hz, (by show 3 ≤ sizeLine; decide), fun o no => ?_⟩
        exact q _ o (s1.new no) (s1.free no) ⟨_, _, _, ⟨(by omega : (0 : Int) ≤ 0), (b3 _).1, (b3 _).2, z1, z2⟩, upd_same⟩
end
end Ai
namespace Ai
open PySem PySem.Spec PyProof.Rows L2
def sp_law_take (K : PySem.W.Frag) : Sp := fun vs H Q _ => ∃ (w : Addr) (m : Int), vs = [.ref w, .int m] ∧ WellAt H w ∧ 0 < m ∧ m < 1073741824 ∧
  ∀ H' r, hid H' w = hid H w → WellAt H' w → 0 ≤ r → r < m → Q (.int r) H'
section
variable {P : Program} {w : World} {K : PySem.W.Frag} {mg : Str → Option Value} {base : Heap}
theorem ok_law_take (T : Fns K mg) : FnOk P w K mg base CX0 1 T.a_law_take T.d_law_take ["well", "many"] (sp_law_take K) := by
  refine T.F_law_take.ok sc_law_take (fun vs H Q E h => ?_) (fun cdv A outer s H vs Q E hr h => ?_)
  · obtain ⟨a, m, rfl, _⟩ := h
    rfl
  · obtain ⟨a, m, rfl, ⟨c, s0, p, ok, hw⟩, m0, m1, q⟩ := h
    obtain ⟨k0, k1, k2, k3, k4⟩ := ok
    refine ⟨_, (pss_cons (ps_if (pt_cmpR op_gt (pe_ix ix_list (pv 0) pe_int (fun _ _ => rfl)) pe_int (nomark _)) (pss_cons (ps_set (i := 2) sc_law_take.nd rfl (.inl rfl) (pe_op op_mod (pe_ix ix_list (pv 0) pe_int (fun _ _ => rfl)) (pv 1)))
      (pss_cons (ps_asg (pe_op op_fdiv (pe_ix ix_list (pv 0) pe_int (fun _ _ => rfl)) (pv 1)) (pg_sub (pv 0) pe_int set_list))
      (pss_one (ps_ret (pv 2))))) pss_nil)
    (pss_cons (ps_asg (pe_op op_add (pe_op op_mod (pe_op op_mul (pe_ix ix_list (pv 0) pe_int (fun _ _ => rfl)) pe_int) (pe_ix ix_list (pv 0) pe_int (fun _ _ => rfl))) pe_int) (pg_sub (pv 0) pe_int set_list))
    (pss_one (ps_ret (pe_op op_mod (pe_op op_fdiv (pe_op op_mod (pe_op op_mul (pe_ix ix_list (pv 0) pe_int (fun _ _ => rfl)) (pe_ix ix_list (pv 0) pe_int (fun _ _ => rfl))) pe_int) pe_int) (pv 1)))))), ?_⟩
    have g0 : atI [V.int c, V.int s0, V.int p] 0 = some (.int c) := rfl
    have g1 : atI [V.int c, V.int s0, V.int p] 1 = some (.int s0) := rfl
    have g2 : atI [V.int c, V.int s0, V.int p] 2 = some (.int p) := rfl
    refine ⟨_, rfl, a, _, _, _, rfl, rfl, .of hw, g0, _, _, rfl, rfl, _, rfl, ?_⟩
    refine ite2 (fun c1 => ?_) (fun c1 => ?_)
    · have c2 : 0 < c := of_decide_eq_true c1
      refine ⟨_, rfl, a, _, _, _, rfl, rfl, .of hw, g0, _, rfl, _, _, rfl, rfl, m0, ?_⟩
      refine ⟨_, rfl, a, _, _, _, rfl, rfl, .of hw, g0, _, rfl, _, _, rfl, rfl, ⟨m0, m1⟩, _, rfl, a, _, _, 0, rfl, rfl, hw, rfl, ?_⟩
      exact ⟨_, rfl, q _ _ (hid_upd _ _ _) ⟨c / m, s0, p, ⟨Int.ediv_nonneg k0 (Int.le_of_lt m0), k1, k2, k3, k4⟩, upd_same⟩ (Int.emod_nonneg _ (by omega)) (Int.emod_lt_of_pos _ m0)⟩
    · refine ⟨_, rfl, a, _, _, _, rfl, rfl, .of hw, g1, _, _, rfl, rfl, .inl ⟨by omega, by omega⟩, _, rfl, a, _, _, _, rfl, rfl, .of hw, g2, _, _, rfl, rfl, (by show (0 : Int) < p; omega), _, _, rfl, rfl, _, rfl, a, _, _, 1, rfl, rfl, hw, rfl, ?_⟩
      have b0 : 0 ≤ s0 * 48271 % p := Int.emod_nonneg _ (by omega)
      have b1 : s0 * 48271 % p < p := Int.emod_lt_of_pos _ (by omega)
      generalize s0 * 48271 % p = z at b0 b1
      have hw2 : (upd H a (.lst ([V.int c, V.int s0, V.int p].set 1 (.int (z + 1))))) a = some (.lst [.int c, .int (z + 1), .int p]) := upd_same
      have g3 : atI [V.int c, V.int (z + 1), V.int p] 1 = some (.int (z + 1)) := rfl
      refine ⟨_, rfl, a, _, _, _, rfl, rfl, .of hw2, g3, _, rfl, a, _, _, _, rfl, rfl, .of hw2, g3, _, _, rfl, rfl, .inl ⟨by omega, by omega⟩, _, _, rfl, rfl, (by show (0 : Int) < 2147483423; decide), _, _, rfl, rfl, ⟨by decide, by decide⟩, _, rfl, _, _, rfl, rfl, m0, ?_⟩
      exact q _ _ (hid_upd _ _ _) ⟨c, z + 1, p, ⟨k0, by omega, by omega, k3, k4⟩, upd_same⟩ (Int.emod_nonneg _ (by omega)) (Int.emod_lt_of_pos _ m0)
end
end Ai
namespace Ai
open PySem PySem.Spec PyProof.Rows L2
/-- the dict that tells where folk stand -/
def dkv : Int → List Pr → List (Key × V)
  | _, [] => []
  | a, (p, r) :: P => (Sum.inl (p : Int), V.int (put a r)) :: dkv (put a r) P
theorem dkv_keys : ∀ (P : List Pr) (a : Int), (dkv a P).map Prod.fst = P.map fun x => (Sum.inl (x.1 : Int) : Key)
  | [], _ => rfl
  | (p, r) :: P, a => by simp [dkv, dkv_keys P]
theorem dkv_length (P : List Pr) (a : Int) : (dkv a P).length = P.length := by
  have := congrArg List.length (dkv_keys P a)
  simpa using this
theorem valV_out {kvs : List (Key × V)} {k : Key} (h : k ∉ kvs.map Prod.fst) : valV kvs k = none := by
  induction kvs with
  | nil => rfl
  | cons x kvs ih =>
    rw [List.map_cons, List.mem_cons, not_or] at h
    rw [valV_neg (fun z => h.1 z.symm)]
    exact ih h.2
theorem dkv_at : ∀ {P : List Pr} {a : Int} {p : Nat} {r : Int}, (P.map Prod.fst).Nodup → (p, r) ∈ P → ∃ l, valV (dkv a P) (Sum.inl (p : Int)) = some (.int l) ∧ (l < r ↔ p ∈ (stay a P).map Prod.fst)
  | [], _, _, _, _, h => nomatch h
  | (p0, r0) :: P, a, p, r, nd, h => by
    rw [List.map_cons, List.nodup_cons] at nd
    have out : ∀ c, p0 ∉ (stay c P).map Prod.fst := fun c z => nd.1 (((stay_sub P c).map Prod.fst).subset z)
    by_cases e : p = p0
    · subst e
      have er : r = r0 := by
        rcases List.mem_cons.mp h with h | h
        · exact (Prod.mk.inj h).2
        · exact absurd (List.mem_map.mpr ⟨_, h, rfl⟩) nd.1
      subst er
      refine ⟨put a r, valV_pos rfl, ?_⟩
      rw [put_lt]
      simp only [stay]
      by_cases c : r < a
      · rw [if_pos c]
        exact ⟨fun z => absurd c z, fun z => absurd z (out r)⟩
      · rw [if_neg c]
        simp [c]
    · have hm : (p, r) ∈ P := by
        rcases List.mem_cons.mp h with h | h
        · exact absurd (Prod.mk.inj h).1 e
        · exact h
      obtain ⟨l, h1, h2⟩ := dkv_at (a := put a r0) nd.2 hm
      refine ⟨l, ?_, ?_⟩
      · have ne : ¬ (Sum.inl (p0 : Int) : Key) = Sum.inl (p : Int) := fun z => e (by have := Sum.inl.inj z; omega)
        show valV ((Sum.inl (p0 : Int), V.int (put a r0)) :: dkv (put a r0) P) _ = _
        rw [valV_neg (p := (Sum.inl (p0 : Int), V.int (put a r0))) ne]
        exact h1
      · rw [h2]
        simp only [stay]
        by_cases c : r0 < a
        · rw [if_pos c, put_sit c]
        · rw [if_neg c, put_wait c]
          simp [e]
theorem dkv_in (P : List Pr) (a : Int) (p : Nat) : (valV (dkv a P) (Sum.inl (p : Int))).isSome = decide (p ∈ P.map Prod.fst) := by
  rw [← valV_any]
  induction P generalizing a with
  | nil => rfl
  | cons x P ih =>
    obtain ⟨p0, r0⟩ := x
    simp only [dkv, List.any_cons, ih, List.map_cons]
    by_cases e : p0 = p
    · subst e; simp
    · have ne : ¬ ((Sum.inl (p0 : Int) : Key) = Sum.inl (p : Int)) := fun z => e (by have := Sum.inl.inj z; omega)
      have e' : ¬ p = p0 := fun z => e z.symm
      simp [ne, e']
/-- the places of folk, as ints -/
def keysI (P : List Pr) : List Int := P.map fun x => (x.1 : Int)
def sp_law_spots (K : PySem.W.Frag) : Sp := fun vs H Q _ => ∃ (a b : Addr) (q : List Int) (P : List Pr), vs = [.ref a, .ref b] ∧ SqT K H a (q.map V.int) ∧ SqL K H b ((keysI P).map V.int) ∧ P.length ≤ 1000 ∧ (P.map Prod.fst).Nodup ∧
  (∀ x ∈ P, q[x.1]? = some x.2) ∧ ∀ H' d, Same H H' → H d = none → H' d = some (.dK (dkv 1000 P)) → Q (.ref d) H'
section
variable {P : Program} {w : World} {K : PySem.W.Frag} {mg : Str → Option Value} {base : Heap}
theorem ok_law_spots (T : Fns K mg) : FnOk P w K mg base CX0 1 T.a_law_spots T.d_law_spots ["queue", "there"] (sp_law_spots K) := by
  refine T.F_law_spots.ok sc_law_spots (fun vs H Q E h => ?_) (fun cdv A outer s H vs Q E hr h => ?_)
  · obtain ⟨a, b, q, P, rfl, _⟩ := h
    rfl
  · obtain ⟨a, b, q, P, rfl, hq, hb, hlen, nd, hP, k⟩ := h
    refine ⟨_, (pss_cons (ps_par rfl sc_law_spots.nd (i := 3) (j := 4) rfl rfl (by decide) rfl rfl (pa_cons pe_dnewK (pa_cons pe_int pa_nil)) (by rfl))
    (pss_cons (ps_for PassesOwn.never rfl (pi_list (pv 1)) (pg_name (i := 2) sc_law_spots.nd rfl (.inl rfl))
      (pss_cons (ps_set (i := 4) sc_law_spots.nd rfl (.inl rfl) (pe_callB (call_min2 rfl) (by rfl) T.n_min (by decide +kernel) (pa_cons (pe_ix ix_tup (pv 0) (pv 2) (fun _ _ => rfl)) (pa_cons (pe_op op_sub (pv 4) pe_int) pa_nil))))
      (pss_one (ps_dput (hu_of hr) (pv 3) (pv 2) (pv 4) rfl))))
    (pss_one (ps_ret (pv 3))))), ?_⟩
    refine fun d hd => ⟨_, _, rfl, ?_⟩
    have s1 : ∀ u, Same H (upd H d u) := fun u => same_new hd
    refine ⟨_, rfl, b, rfl, ⟨_, (s1 _).seq hb⟩, for_it (walk_list (K := K)) (fun i σ H' => ∃ (last : Int) (acc : List (Key × V)) (x2 : Option V), σ = [some (.ref a), some (.ref b), x2, some (.ref d), some (.int last)] ∧ H' = upd H d (.dK acc) ∧
        acc.map Prod.fst = (P.take i).map (fun x => (Sum.inl (x.1 : Int) : Key)) ∧ acc ++ dkv last (P.drop i) = dkv 1000 P)
      ⟨1000, [], none, rfl, rfl, rfl, rfl⟩ (fun i σ H' _ ⟨_, _, _, _, e, _⟩ => by rw [e]; exact (s1 _).seq hb) ?_ ?_⟩
    · rintro i x σ H1 H2 hi ⟨last, acc, x2, rfl, rfl, hk, he⟩ ⟨rfl, hx⟩
      unfold keysI at hx
      rw [List.map_map, List.getElem?_map] at hx
      obtain ⟨y, hy, rfl⟩ : ∃ y, P[i]? = some y ∧ x = V.int (y.1 : Int) := by
        cases e : P[i]? with
        | none => rw [e] at hx; cases hx
        | some y => rw [e] at hx; exact ⟨y, rfl, (Option.some.inj hx).symm⟩
      obtain ⟨p, r⟩ := y
      have hr1 : q[p]? = some r := hP _ (List.mem_of_getElem? hy)
      have hdr : P.drop i = (p, r) :: P.drop (i + 1) := by
        obtain ⟨h1, h2⟩ := List.getElem?_eq_some_iff.mp hy
        rw [← h2]
        exact List.drop_eq_getElem_cons h1
      rw [hdr] at he
      simp only [dkv] at he
      have g1 : atI (q.map V.int) ((p : Nat) : Int) = some (V.int r) := atI_nat (by rw [List.getElem?_map, hr1]; rfl)
      have hlt : i < P.length := (List.getElem?_eq_some_iff.mp hy).1
      have la : acc.length = i := by
        have := congrArg List.length hk
        simp at this
        omega
      have hnew : valV acc (Sum.inl (p : Int)) = none := by
        refine valV_out ?_
        rw [hk]
        intro z
        obtain ⟨u, hu, eu⟩ := List.mem_map.mp z
        have e1 : u.1 = p := by have := Sum.inl.inj eu; omega
        have h2 : P = P.take i ++ P.drop i := (List.take_append_drop i P).symm
        rw [h2, hdr, List.map_append, List.nodup_append] at nd
        exact nd.2.2 _ (List.mem_map.mpr ⟨u, hu, rfl⟩) p (by simp) e1
      refine ⟨_, rfl, _, rfl, a, _, _, _, rfl, rfl, (s1 _).tup hq, g1, _, rfl, _, _, rfl, rfl, _, _, rfl, ?_⟩
      refine ⟨_, rfl, _, rfl, _, rfl, d, _, rfl, DPut.k (k := Sum.inl (p : Int)) upd_same (small1000 (by omega)), ?_⟩
      refine ⟨put last r, acc ++ [(Sum.inl (p : Int), V.int (put last r))], _, rfl, ?_, ?_, ?_⟩
      · rw [upd_upd, putK_new _ hnew]
        rfl
      · rw [List.map_append, hk, take_succ_of hy, List.map_append]
        rfl
      · simpa using he
    · rintro σ H1 ⟨last, acc, x2, rfl, rfl, hk, he⟩
      rw [List.drop_eq_nil_of_le (by simp [keysI])] at he
      simp only [dkv, List.append_nil] at he
      exact ⟨_, rfl, k _ d (s1 _) hd (by rw [upd_same, he])⟩
end
end Ai
namespace Ai
open PySem PySem.Spec PyProof.Rows L2
/-- the list of dicts, one for each turn -/
def WalkL (H : Hp) (q : List Int) (ds : List Addr) : Prop := ∀ t d, ds[t]? = some d → H d = some (.dK (dkv 1000 (S q t)))
theorem walkL_same {H H' : Hp} {q : List Int} {ds : List Addr} (e : Same H H') (h : WalkL H q ds) : WalkL H' q ds := fun t d z => e _ _ (h t d z)
def sp_law_walk (K : PySem.W.Frag) : Sp := fun vs H Q _ => ∃ (a : Addr) (q : List Int), vs = [.ref a] ∧ SqT K H a (q.map V.int) ∧ q.length ≤ 1000 ∧ Rows q ∧
  ∀ H' p ds, Same H H' → H p = none → H' p = some (.lst (ds.map V.ref)) → ds.length = LL q → WalkL H' q ds → Q (.ref p) H'
section
variable {P : Program} {w : World} {K : PySem.W.Frag} {mg : Str → Option Value} {base : Heap}
theorem ok_law_walk (T : Fns K mg) : FnOk P w K mg base CX0 2 T.a_law_walk T.d_law_walk ["queue"] (sp_law_walk K) := by
  refine T.F_law_walk.ok sc_law_walk (fun vs H Q E h => ?_) (fun cdv A outer s H vs Q E hr h => ?_)
  · obtain ⟨a, q, rfl, _⟩ := h
    rfl
  · obtain ⟨a, q, rfl, hq, hlen, rows, k⟩ := h
    have hLL := LL_le q
    refine ⟨_, (pss_cons (ps_par rfl sc_law_walk.nd (i := 1) (j := 2) rfl rfl (by decide) rfl rfl (pa_cons (pe_lst pa_nil) (pa_cons (pe_listRg rfl (by rfl) T.n_list (prg_1 (by rfl) T.n_range (pe_callB call_len_seq (by rfl) T.n_len PySem.boot_len (pa_cons (pv 0) pa_nil)))) pa_nil)) (by rfl))
    (pss_cons (ps_while PassesOwn.never (pt_cmpR (op_neD hr.units) (pv 2) (pe_lst pa_nil) (nomark _)) (pss_cons (ps_set (i := 3) sc_law_walk.nd rfl (.inr rfl) (pe_call (E := E0) (ok_law_spots T) (hr.mono (by decide)) (by rfl) T.g_law_spots T.F_law_spots.kp T.b_law_spots .nil pass0 (pa_cons (pv 0) (pa_cons (pv 2) pa_nil))))
      (pss_cons (ps_expr (pe_bm PySem.F.plainAttrs_list PySem.F.slot_list_append PySem.F.type_list_append mt_append (pv 1) (pa_cons (pv 3) pa_nil)))
      (pss_one (ps_setLc (i := 2) (own := [("place", 4)]) (g := gName 4) rfl sc_law_walk.nd rfl rfl (sw_true rfl rfl rfl (by decide +kernel)) (pi_list (pv 2)) (blkOk_by (N := ["queue", "found", "there", "spots", "place"]) (sc := defScope s_law_walk) (by decide +kernel)) (fun _ _ _ _ _ => (pg_name (i := 4) sc_law_walk.nd rfl (by first | exact .inl rfl | exact .inr rfl))) (fun _ _ _ _ _ => pts_one (pt_cmpR op_lt (pe_dget (hu_of hr) (pv 3) (pv 4) (fun _ _ => rfl)) (pe_ix (show IxR _ (rIxT K) from ix_tup) (pv 0) (pv 4) (fun _ _ => rfl)) (nomark _))) (fun _ _ _ _ _ => (pv 4)))))))
    (pss_one (ps_ret (pv 1))))), ?_⟩
    refine ⟨Nat.zero_le _, fun f hf => ?_⟩
    have s1 : Same H (upd H f (.lst [])) := same_new hf
    refine ⟨_, rfl, a, _, rfl, .inr (s1.tup hq), _, rfl, RgOk.of_le (by omega) (by rw [List.length_map]; omega) (by omega) (by omega), fun l hl => ⟨_, _, rfl, ?_⟩⟩
    have el : rgV 0 (((q.map V.int).length : Nat) : Int) = (pls q 0).map V.int := by rw [List.length_map, rgV_eq, pls_zero]
    rw [el]
    have nfl : f ≠ l := fun e => by rw [← e, upd_same] at hl; cases hl
    refine ⟨fun m σ H' => ∃ (t : Nat) (l : Addr) (ds : List Addr) (x3 x4 : Option V), t + m = LL q ∧ σ = [some (.ref a), some (.ref f), some (.ref l), x3, x4] ∧ Same H H' ∧ f ≠ l ∧ H' l = some (.lst ((pls q t).map V.int)) ∧ H' f = some (.lst (ds.map V.ref)) ∧ ds.length = t ∧ WalkL H' q ds,
      ⟨LL q, 0, l, [], none, none, by omega, rfl, s1.new hl, nfl, upd_same, by rw [upd_ne nfl]; exact upd_same, rfl, fun t d z => by simp at z⟩, ?_⟩
    rintro m σ H4 ⟨t, l, ds, x3, x4, em, rfl, s4, nfl, hl4, hf4, lds, hw4⟩
    refine ⟨_, rfl, Nat.zero_le _, fun e he => ⟨_, _, dp_intsL (.of ((same_new he) _ _ hl4)), dp_intsL (ns := []) (.of upd_same), sh_ints _, sh_ints [], _, rfl, ?_⟩⟩
    have s5 : Same H4 (upd H4 e (.lst [])) := same_new he
    have ev : PyData.eqv (.list ((pls q t).map PyData.int)) (.list (([] : List Int).map PyData.int)) = decide (pls q t = []) := eqv_ints _ []
    rw [ev]
    generalize upd H4 e (.lst []) = H5 at s5
    have hf5 := s5 _ _ hf4
    have hl5 := s5 _ _ hl4
    have hw5 := walkL_same s5 hw4
    refine ite2 (fun c => ?_) (fun c => ?_)
    · have c1 : pls q t ≠ [] := by simpa using c
      have ht : t < LL q := Decidable.byContradiction fun z => c1 ((pls_nil rows).mpr z)
      refine ⟨_, fun σ' H' z => ⟨m - 1, by omega, z⟩, ?_⟩
      -- spots
      have lS : (S q t).length ≤ q.length := Nat.le_trans ((S_sub0 q t).length_le) (Nat.le_of_eq (en_length q 0))
      refine ⟨_, rfl, _, rfl, a, l, q, S q t, rfl, s5.tup (s4.tup hq), .of hl5, by omega, S_nodup q t, fun x hx => (S_mem (p := x.1) (r := x.2) hx).2, fun H6 d s6 nd hd => ?_⟩
      have hf6 := s6 _ _ hf5
      have hl6 := s6 _ _ hl5
      have hq6 : SqT K H6 a (q.map V.int) := s6.tup (s5.tup (s4.tup hq))
      have nfd : d ≠ f := (ne_of_none hf5 nd).symm
      -- found.append(spots)
      refine ⟨_, rfl, .inl ⟨rfl, _, .of hf6⟩, _, rfl, f, _, _, rfl, rfl, hf6, (by rw [List.length_map]; exact small1000 (by omega)), ?_⟩
      have e7 : ds.map V.ref ++ [V.ref d] = (ds ++ [d]).map V.ref := by rw [List.map_append]; rfl
      rw [e7]
      have s7 : Same H (upd H6 f (.lst ((ds ++ [d]).map V.ref))) := ((s4.trans s5).trans s6).mut hf
      have hl7 : (upd H6 f (.lst ((ds ++ [d]).map V.ref))) l = some (.lst ((pls q t).map V.int)) := by rw [upd_ne nfl.symm]; exact hl6
      have hd7 : (upd H6 f (.lst ((ds ++ [d]).map V.ref))) d = some (.dK (dkv 1000 (S q t))) := by rw [upd_ne nfd]; exact hd
      have hf7 : (upd H6 f (.lst ((ds ++ [d]).map V.ref))) f = some (.lst ((ds ++ [d]).map V.ref)) := upd_same
      have hw7 : WalkL (upd H6 f (.lst ((ds ++ [d]).map V.ref))) q (ds ++ [d]) := by
        intro i x hx
        by_cases c : i < ds.length
        · rw [List.getElem?_append_left c] at hx
          have := s6 _ _ (hw5 i x hx)
          rw [upd_ne (ne_of this hf6 (by intro z; cases z))]
          exact this
        · rw [List.getElem?_append_right (by omega)] at hx
          have ei : i - ds.length = 0 := by
            have := (List.getElem?_eq_some_iff.mp hx).1
            simp at this
            omega
          rw [ei] at hx
          have ex : d = x := Option.some.inj hx
          subst ex
          have et : i = t := by omega
          subst et
          exact hd7
      generalize upd H6 f (.lst ((ds ++ [d]).map V.ref)) = H7 at s7 hl7 hd7 hf7 hw7
      refine ⟨_, rfl, l, rfl, ⟨_, .of hl7⟩, fun D hD => lc_data (K := K) walk_list (fun i => ((pls q t).map V.int).getD i .non) (fun i H x H' hi _ y => ⟨y.1, ?_⟩)
          (fun i => decide (t + 1 < Tn q ((pls q t).getD i 0).toNat)) (fun i => .int ((pls q t).getD i 0)) ?_ hD (fun H' s1 => .of (s1 _ _ hl7)) (fun x => rfl) (fun i H' hi s9 Q kq => ?_) (fun i H' hi _ s9 hD Q kq => ?_) (fun H' ys s9 hy hds => ?_)⟩
      · rw [List.getD_eq_getElem?_getD, y.2]; rfl
      · rw [List.length_map]
        have e1 : (pls q t).length = (S q t).length := by unfold pls; rw [List.length_map]
        omega
      · rw [List.length_map] at hi
        obtain ⟨px, hpx⟩ : ∃ px, (pls q t)[i]? = some px := ⟨_, List.getElem?_eq_getElem hi⟩
        obtain ⟨pn, r, rfl, hpn, hr, hS⟩ := pls_at hpx
        have e1 : ((pls q t).map V.int).getD i .non = .int pn := by rw [List.getD_eq_getElem?_getD, List.getElem?_map, hpx]; rfl
        have e2 : (pls q t).getD i 0 = pn := by rw [List.getD_eq_getElem?_getD, hpx]; rfl
        obtain ⟨z, z1, z2⟩ := dkv_at (a := 1000) (S_nodup q t) hS
        have g1 : atI (q.map V.int) ((pn : Nat) : Int) = some (V.int r) := atI_nat (by rw [List.getElem?_map, hr]; rfl)
        rw [e1]
        rw [e2] at kq
        have gd : DGet H' d (.int pn) (some (.int z)) := by
          rw [← z1]
          exact DGet.k (k := Sum.inl (pn : Int)) (s9 _ _ hd7)
        refine ⟨_, rfl, _, rfl, d, .int z, rfl, gd, _, rfl, _, rfl, a, _, _, _, rfl, rfl, s9.tup (s7.tup hq), g1, _, _, rfl, rfl, _, rfl, ?_⟩
        · have e3 : decide (z < r) = decide (t + 1 < Tn q ((pn : Int)).toNat) := by
            rw [Int.toNat_natCast, decide_eq_decide, z2, stay_from (S_lt' rows) (S_lt rows)]
            exact mem_iff rows (t := t + 1)
          rw [e3]
          exact kq H' (Same.refl _)
      · rw [List.length_map] at hi
        have e1 : ((pls q t).map V.int).getD i .non = .int ((pls q t).getD i 0) := by rw [List.getD_eq_getElem?_getD, List.getElem?_map, List.getElem?_eq_getElem hi, List.getD_eq_getElem?_getD, List.getElem?_eq_getElem hi]; rfl
        rw [e1]
        exact ⟨_, rfl, kq _ H' (Same.refl _) (.int _)⟩
      · have e1 : ((List.range ((pls q t).map V.int).length).filter (fun i => decide (t + 1 < Tn q ((pls q t).getD i 0).toNat))).map (fun i => PyData.int ((pls q t).getD i 0)) = (pls q (t + 1)).map PyData.int := by
          rw [List.length_map, ← pls_next rows t, List.map_map]
          rfl
        rw [e1] at hds
        have e2 := dps_inv hds
        subst e2
        exact ⟨t + 1, D, ds ++ [d], _, _, by omega, rfl, s7.trans s9, ne_of_none hf7 hD, hy, s9 _ _ hf7, by simp [lds], walkL_same s9 hw7⟩
    · have c1 : pls q t = [] := by simpa using c
      have ht : LL q ≤ t := Nat.le_of_not_lt ((pls_nil rows).mp c1)
      exact ⟨_, rfl, k H5 f ds (s4.trans s5) hf hf5 (by omega) hw5⟩
end
end Ai
namespace Ai
open PySem PySem.Spec PyProof.Rows L2
def sp_law_turns (K : PySem.W.Frag) : Sp := fun vs H Q _ => ∃ (a : Addr) (q : List Int), vs = [.ref a] ∧ SqT K H a (q.map V.int) ∧ q.length ≤ 1000 ∧ Rows q ∧
  ∀ H' p, Same H H' → H p = none → H' p = some (.lst ((TT q).map V.int)) → Q (.ref p) H'
section
variable {P : Program} {w : World} {K : PySem.W.Frag} {mg : Str → Option Value} {base : Heap}
theorem ok_law_turns (T : Fns K mg) : FnOk P w K mg base CX0 3 T.a_law_turns T.d_law_turns ["queue"] (sp_law_turns K) := by
  refine T.F_law_turns.ok sc_law_turns (fun vs H Q E h => ?_) (fun cdv A outer s H vs Q E hr h => ?_)
  · obtain ⟨a, q, rfl, _⟩ := h
    rfl
  · obtain ⟨a, q, rfl, hq, hlen, rows, k⟩ := h
    have hLL := LL_le q
    refine ⟨_, (pss_cons (ps_set (i := 1) sc_law_turns.nd rfl (.inr rfl) (pe_call (E := E0) (ok_law_walk T) (hr.mono (by decide)) (by rfl) T.g_law_walk T.F_law_walk.kp T.b_law_walk .nil pass0 (pa_cons (pv 0) pa_nil)))
    (pss_one (ps_ret (pe_lc (own := [("place", 2)]) (g := gName 2) (tt := tYes) rfl sc_law_turns.nd (pi_range1 (by rfl) T.n_range (pa_cons (pe_callB call_len_seq (by rfl) T.n_len PySem.boot_len (pa_cons (pv 0) pa_nil)) pa_nil)) (blkOk_by (N := ["queue", "walk", "place", "spots"]) (sc := defScope s_law_turns) (by decide +kernel)) (fun _ _ _ _ _ => (pg_name (i := 2) sc_law_turns.nd rfl (by first | exact .inl rfl | exact .inr rfl))) (fun _ _ _ _ _ => pts_nil) (fun _ _ _ _ _ => (pe_callB (show CallR _ (.builtin "len") (rLenK K) from call_len_seq) (by rfl) T.n_len PySem.boot_len (pa_cons (pe_lc (own := [("spots", 3)]) (g := gName 3) rfl sc_law_turns.nd (show PI _ _ _ (iList K _) from pi_list (pv 1)) (blkOk_by (N := ["queue", "walk", "place", "spots"]) (sc := relS _ (defScope s_law_turns)) (by decide +kernel)) (fun _ _ _ _ _ => (pg_name (i := 3) sc_law_turns.nd rfl (by first | exact .inl rfl | exact .inr rfl))) (fun _ _ _ _ _ => pts_one (pt_cmp (pc_din (hu_of hr) (pv 2) (pv 3)))) (fun _ _ _ _ _ => pe_int)) pa_nil))))))), ?_⟩
    refine ⟨_, rfl, a, q, rfl, hq, hlen, rows, fun H1 p ds s1 np hp lds hw => ?_⟩
    refine ⟨_, rfl, a, _, rfl, .inr (s1.tup hq), _, rfl, (by omega), (by rw [List.length_map]; omega), fun D hD => lc_data (K := K) walk_range (fun i => .int (0 + (i : Int))) (fun i H x H' hi _ y => y)
      (fun _ => true) (fun i => .int (Tn q i : Int)) (by rw [List.length_map, Int.toNat_natCast]; omega) hD (fun _ _ => True.intro) (fun x => rfl) (fun i H' hi s3 Q kq => kq H' (Same.refl _)) (fun i H2 hi _ s3 hD2 Q kq => ?_) (fun H' ys s3 hy hds => ?_)⟩
    · rw [Int.zero_add]
      have hp2 := s3 _ _ hp
      have hw2 := walkL_same s3 hw
      refine ⟨_, rfl, p, rfl, ⟨_, .of hp2⟩, fun D2 hD3 => lc_data (K := K) walk_list (fun j => (ds.map V.ref).getD j .non) (fun j H x H' hj _ y => ⟨y.1, ?_⟩)
        (inS q i) (fun _ => .int 1) (by rw [List.length_map]; omega) hD3 (fun H' s => .of (s _ _ hp2)) (fun x => rfl) (fun j H' hj s4 Q kq => ?_) (fun j H' hj _ s4 _ Q kq => ?_) (fun H' ys s4 hy hds => ?_)⟩
      · rw [List.getD_eq_getElem?_getD, y.2]; rfl
      · rw [List.length_map] at hj
        obtain ⟨d, hd⟩ : ∃ d, ds[j]? = some d := ⟨_, List.getElem?_eq_getElem hj⟩
        have e1 : (ds.map V.ref).getD j .non = .ref d := by rw [List.getD_eq_getElem?_getD, List.getElem?_map, hd]; rfl
        rw [e1]
        refine ⟨_, rfl, _, rfl, d, _, rfl, DGet.k (k := Sum.inl (i : Int)) (s4 _ _ (hw2 j d hd)), _, rfl, ?_⟩
        rw [dkv_in]
        exact kq H' (Same.refl _)
      · exact kq _ H' (Same.refl _) (.int _)
      · rw [List.length_map, lds] at hds
        have l1 := dps_length hds
        rw [List.length_map, T_LL rows] at l1
        refine ⟨D2, ys, rfl, .inl (.of hy), ?_⟩
        rw [l1]
        exact kq _ H' s4 (.int _)
    · rw [List.length_map, Int.toNat_natCast, List.filter_eq_self.mpr (by simp)] at hds
      have e3 : (List.range q.length).map (fun i : Nat => PyData.int (Tn q i : Int)) = (TT q).map PyData.int := by unfold TT; rw [List.map_map]; rfl
      rw [e3] at hds
      have e4 := dps_inv hds
      subst e4
      exact k H' D (s1.trans s3) (s1.free hD) hy
end
end Ai
namespace Ai
open PySem PySem.Spec PyProof.Rows L2
/-! ### the word of a refusal -/
def wordN : Nat → Str
  | 0 => "queue"
  | 1 => "turn"
  | 2 => "folk"
  | 3 => "seen"
  | 4 => "row"
  | 5 => "place"
  | 6 => "full"
  | 7 => "left"
  | 8 => "own"
  | _ => "value"
theorem dps_strs {K : PySem.W.Frag} {H : Hp} (ws : List Str) : DpAll K H (ws.map V.str) (ws.map PyData.str) := dps_of (fun x => .str x) ws
theorem dps_invS {K : PySem.W.Frag} {H : Hp} : ∀ {ws : List Str} {vs : List V}, DpAll K H vs (ws.map PyData.str) → vs = ws.map V.str
  | [], _, h => by cases h; rfl
  | n :: ws, _, h => by
    cases h with
    | cons h1 h2 =>
      cases h1
      rw [dps_invS h2]
      rfl
theorem three : ∀ i, i < 8 → (List.range 10).filter (fun j => decide (i = j) || decide (8 ≤ j)) = [i, 8, 9] := by decide
theorem words10 : Txt.split ("queue turn folk seen row place full left own value" : Str) (" " : Str) = (List.range 10).map wordN := by decide +kernel
abbrev csL {K : PySem.W.Frag} {mg : Str → Option Value} (T : Fns K mg) : List Addr := [T.a_NoQueue, T.a_NoTurn, T.a_NoFolk, T.a_NoSeen, T.a_NoRow, T.a_NoPlace, T.a_Full, T.a_NothingLeft]
def sp_law_kinds {K : PySem.W.Frag} {mg : Str → Option Value} (T : Fns K mg) : Addr → Value → Option Addr → Sp := fun a c d vs H Q _ => vs = [.ref a] ∧ d = none ∧ ∃ D i, c = .ref D ∧ KnD K (csL T) T.a_AisleError D i ∧ i < 8 ∧
  ∀ H' p, Same H H' → H p = none → H' p = some (.lst ([wordN i, wordN 8, wordN 9].map V.str)) → Q (.ref p) H'
section
variable {P : Program} {w : World} {K : PySem.W.Frag} {mg : Str → Option Value} {base : Heap}
theorem ok_law_kinds (T : Fns K mg) : FnZ P w K mg base CX0 1 T.a_law_kinds T.d_law_kinds ["e"] (sp_law_kinds T) := by
  refine T.F_law_kinds.okZ sc_law_kinds (fun a c d vs H Q E h => ?_) (fun cdv A outer s H vs Q E p c d hot hz hr h => ?_)
  · obtain ⟨rfl, _⟩ := h
    rfl
  · obtain ⟨rfl, rfl, D, i, rfl, kn, hi, q⟩ := h
    have hfs : ∃ vs, p.2.data = .fields vs := let ⟨vs, h, _⟩ := hot.2; ⟨vs, h⟩
    refine ⟨_, (pss_cons (ps_set (i := 1) sc_law_kinds.nd rfl (.inl rfl) (pe_lst (pa_cons (pe_callB (call_isH List.mem_cons_self kn.ec hz hfs) (by rfl) T.n_isinstance (by decide +kernel) (pa_cons (pv 0) (pa_cons (pe_glob (v := .ref T.a_NoQueue) (by rfl) T.g_NoQueue rfl) pa_nil))) (pa_cons (pe_callB (call_isH List.mem_cons_self kn.ec hz hfs) (by rfl) T.n_isinstance (by decide +kernel) (pa_cons (pv 0) (pa_cons (pe_glob (v := .ref T.a_NoTurn) (by rfl) T.g_NoTurn rfl) pa_nil))) (pa_cons (pe_callB (call_isH List.mem_cons_self kn.ec hz hfs) (by rfl) T.n_isinstance (by decide +kernel) (pa_cons (pv 0) (pa_cons (pe_glob (v := .ref T.a_NoFolk) (by rfl) T.g_NoFolk rfl) pa_nil))) (pa_cons (pe_callB (call_isH List.mem_cons_self kn.ec hz hfs) (by rfl) T.n_isinstance (by decide +kernel) (pa_cons (pv 0) (pa_cons (pe_glob (v := .ref T.a_NoSeen) (by rfl) T.g_NoSeen rfl) pa_nil))) pa_nil))))))
    (pss_cons (ps_set (i := 1) sc_law_kinds.nd rfl (.inl rfl) (pe_op op_cat (pv 1) (pe_lst (pa_cons (pe_callB (call_isH List.mem_cons_self kn.ec hz hfs) (by rfl) T.n_isinstance (by decide +kernel) (pa_cons (pv 0) (pa_cons (pe_glob (v := .ref T.a_NoRow) (by rfl) T.g_NoRow rfl) pa_nil))) (pa_cons (pe_callB (call_isH List.mem_cons_self kn.ec hz hfs) (by rfl) T.n_isinstance (by decide +kernel) (pa_cons (pv 0) (pa_cons (pe_glob (v := .ref T.a_NoPlace) (by rfl) T.g_NoPlace rfl) pa_nil))) (pa_cons (pe_callB (call_isH List.mem_cons_self kn.ec hz hfs) (by rfl) T.n_isinstance (by decide +kernel) (pa_cons (pv 0) (pa_cons (pe_glob (v := .ref T.a_Full) (by rfl) T.g_Full rfl) pa_nil))) (pa_cons (pe_callB (call_isH List.mem_cons_self kn.ec hz hfs) (by rfl) T.n_isinstance (by decide +kernel) (pa_cons (pv 0) (pa_cons (pe_glob (v := .ref T.a_NothingLeft) (by rfl) T.g_NothingLeft rfl) pa_nil))) pa_nil)))))))
    (pss_cons (ps_set (i := 1) sc_law_kinds.nd rfl (.inl rfl) (pe_op op_cat (pv 1) (pe_lst (pa_cons (pe_callB (call_isH List.mem_cons_self kn.ec hz hfs) (by rfl) T.n_isinstance (by decide +kernel) (pa_cons (pv 0) (pa_cons (pe_glob (v := .ref T.a_AisleError) (by rfl) T.g_AisleError rfl) pa_nil))) (pa_cons (pe_callB (call_isH List.mem_cons_self kn.ec hz hfs) (by rfl) T.n_isinstance (by decide +kernel) (pa_cons (pv 0) (pa_cons (pe_bltn (v := .ty "ValueError") (by rfl) T.n_ValueError (by decide +kernel) rfl) pa_nil))) pa_nil)))))
    (pss_cons (ps_set (i := 2) sc_law_kinds.nd rfl (.inl rfl) pe_str)
    (pss_one (ps_ret (pe_lcH (own := [("word", 3), ("good", 4)]) (g := gTup K 2 (gCons (gName 3) (gCons (gName 4) gNil))) ⟨p, hot, List.mem_cons_self⟩ sc_law_kinds.nd (pi_zipH (by rfl) T.n_zip (pa_cons (pe_m1 PySem.F.slot_str_split PySem.F.type_str_split mt_split (pv 2) pe_str) (pa_cons (pv 1) pa_nil))) (blkOk_by (N := ["e", "some", "words", "word", "good"]) (sc := defScope s_law_kinds) (by decide +kernel)) (fun _ _ _ _ _ => (pg_tupH ⟨p, hot, List.mem_cons_self⟩ (pgs_cons (pg_name (i := 3) sc_law_kinds.nd rfl (by first | exact .inl rfl | exact .inr rfl)) (pgs_cons (pg_name (i := 4) sc_law_kinds.nd rfl (by first | exact .inl rfl | exact .inr rfl)) pgs_nil)))) (fun _ _ _ _ _ => pts_one (pt_val (pv 4))) (fun _ _ _ _ _ => (pv 3))))))))), ?_⟩
    refine ⟨_, rfl, _, _, _, rfl, fun u h => h, kn.ki 0 _ rfl, _, rfl, _, _, _, rfl, fun u h => h, kn.ki 1 _ rfl, _, rfl, _, _, _, rfl, fun u h => h, kn.ki 2 _ rfl, _, rfl, _, _, _, rfl, fun u h => h, kn.ki 3 _ rfl, (by show 4 ≤ sizeLine; decide), fun l1 hl1 => ?_⟩
    refine ⟨_, rfl, _, rfl, _, _, _, rfl, fun u h => h, kn.ki 4 _ rfl, _, rfl, _, _, _, rfl, fun u h => h, kn.ki 5 _ rfl, _, rfl, _, _, _, rfl, fun u h => h, kn.ki 6 _ rfl, _, rfl, _, _, _, rfl, fun u h => h, kn.ki 7 _ rfl, (by show 4 ≤ sizeLine; decide), fun l2 hl2 => ⟨l1, l2, _, _, rfl, rfl, (same_new hl2) _ _ upd_same, upd_same, (by show 8 ≤ sizeLine; decide), fun l3 hl3 => ?_⟩⟩
    refine ⟨_, rfl, _, rfl, _, _, _, rfl, fun u h => h, kn.ka, _, rfl, _, _, _, rfl, fun u h => h, kn.kv, (by show 2 ≤ sizeLine; decide), fun l4 hl4 => ⟨l3, l4, _, _, rfl, rfl, (same_new hl4) _ _ upd_same, upd_same, (by show 10 ≤ sizeLine; decide), fun l5 hl5 => ?_⟩⟩
    have s0 := ((((same_new (o := .lst [V.bl (decide (i = 0)), V.bl (decide (i = 1)), V.bl (decide (i = 2)), V.bl (decide (i = 3))]) hl1).new (o := .lst [V.bl (decide (i = 4)), V.bl (decide (i = 5)), V.bl (decide (i = 6)), V.bl (decide (i = 7))]) hl2).new (o := .lst ([V.bl (decide (i = 0)), V.bl (decide (i = 1)), V.bl (decide (i = 2)), V.bl (decide (i = 3))] ++ [V.bl (decide (i = 4)), V.bl (decide (i = 5)), V.bl (decide (i = 6)), V.bl (decide (i = 7))])) hl3).new (o := .lst [V.bl true, V.bl true]) hl4).new (o := .lst (([V.bl (decide (i = 0)), V.bl (decide (i = 1)), V.bl (decide (i = 2)), V.bl (decide (i = 3))] ++ [V.bl (decide (i = 4)), V.bl (decide (i = 5)), V.bl (decide (i = 6)), V.bl (decide (i = 7))]) ++ [V.bl true, V.bl true])) hl5
    have h5 := upd_same (H := upd (upd (upd (upd H l1 (.lst [V.bl (decide (i = 0)), V.bl (decide (i = 1)), V.bl (decide (i = 2)), V.bl (decide (i = 3))])) l2 (.lst [V.bl (decide (i = 4)), V.bl (decide (i = 5)), V.bl (decide (i = 6)), V.bl (decide (i = 7))])) l3 (.lst ([V.bl (decide (i = 0)), V.bl (decide (i = 1)), V.bl (decide (i = 2)), V.bl (decide (i = 3))] ++ [V.bl (decide (i = 4)), V.bl (decide (i = 5)), V.bl (decide (i = 6)), V.bl (decide (i = 7))]))) l4 (.lst [V.bl true, V.bl true]))
      (a := l5) (o := .lst (([V.bl (decide (i = 0)), V.bl (decide (i = 1)), V.bl (decide (i = 2)), V.bl (decide (i = 3))] ++ [V.bl (decide (i = 4)), V.bl (decide (i = 5)), V.bl (decide (i = 6)), V.bl (decide (i = 7))]) ++ [V.bl true, V.bl true]))
    have es : (([V.bl (decide (i = 0)), V.bl (decide (i = 1)), V.bl (decide (i = 2)), V.bl (decide (i = 3))] ++ [V.bl (decide (i = 4)), V.bl (decide (i = 5)), V.bl (decide (i = 6)), V.bl (decide (i = 7))]) ++ [V.bl true, V.bl true]) = (List.range 10).map fun j => V.bl (decide (i = j) || decide (8 ≤ j)) := by
      simp [List.range_succ]
    rw [es] at h5
    rw [es] at s0 ⊢
    generalize upd (upd (upd (upd (upd H l1 (.lst [V.bl (decide (i = 0)), V.bl (decide (i = 1)), V.bl (decide (i = 2)), V.bl (decide (i = 3))])) l2 (.lst [V.bl (decide (i = 4)), V.bl (decide (i = 5)), V.bl (decide (i = 6)), V.bl (decide (i = 7))])) l3 (.lst ([V.bl (decide (i = 0)), V.bl (decide (i = 1)), V.bl (decide (i = 2)), V.bl (decide (i = 3))] ++ [V.bl (decide (i = 4)), V.bl (decide (i = 5)), V.bl (decide (i = 6)), V.bl (decide (i = 7))]))) l4 (.lst [V.bl true, V.bl true])) l5 (.lst ((List.range 10).map fun j => V.bl (decide (i = j) || decide (8 ≤ j)))) = H5 at h5 s0 ⊢
    refine ⟨_, rfl, ⟨_, rfl⟩, _, _, rfl, rfl, (by decide +kernel), (by decide +kernel), fun w1 hw1 => ⟨_, rfl, w1, l5, _, _, rfl, .of upd_same, .of ((same_new hw1) _ _ h5), fun D hD => ?_⟩⟩
    have s6 : Same H5 (upd H5 w1 (.lst ((Txt.split ("queue turn folk seen row place full left own value" : Str) (" " : Str)).map V.str))) := same_new hw1
    have h6 := upd_same (H := H5) (a := w1) (o := .lst ((Txt.split ("queue turn folk seen row place full left own value" : Str) (" " : Str)).map V.str))
    have h56 := s6 _ _ h5
    rw [words10] at hD s6 h6 h56 ⊢
    generalize upd H5 w1 (.lst (((List.range 10).map wordN).map V.str)) = H6 at hD s6 h6 h56 ⊢
    have en : min (((List.range 10).map wordN).map V.str).length ((List.range 10).map fun j => V.bl (decide (i = j) || decide (8 ≤ j))).length = 10 := by simp
    rw [en]
    refine lc_data2 (K := K) (walk_zipH (xs := ((List.range 10).map wordN).map V.str) (ys := (List.range 10).map fun j => V.bl (decide (i = j) || decide (8 ≤ j))) (by simp)) (fun j => .str (wordN j)) (fun j => .bl (decide (i = j) || decide (8 ≤ j)))
      (fun j hj => by rw [List.getElem?_map, List.getElem?_map, List.getElem?_range hj]; rfl) (fun j hj => by rw [List.getElem?_map, List.getElem?_range hj]; rfl)
      (fun j => decide (i = j) || decide (8 ≤ j)) (fun j => .str (wordN j)) (by omega) hD (fun H' s7 => ⟨.of (s7 _ _ h6), .of (s7 _ _ h56)⟩) (fun x y => rfl) (fun j H' hj s7 Q kq => ?_) (fun j H' hj _ s7 _ Q kq => ?_) (fun H' ys s7 hy hds => ?_)
    · exact ⟨_, rfl, _, rfl, kq H' (Same.refl _)⟩
    · exact ⟨_, rfl, kq _ H' (Same.refl _) (.str _)⟩
    · rw [three i hi] at hds
      have e4 := dps_invS (ws := [wordN i, wordN 8, wordN 9]) hds
      subst e4
      exact q H' D ((s0.trans s6).trans s7) ((s0.trans s6).free hD) hy
end
end Ai
namespace Ai
open PySem PySem.Spec PyProof.Rows L2
def sp_law_refusal {K : PySem.W.Frag} {mg : Str → Option Value} (T : Fns K mg) : Addr → Value → Option Addr → Sp := fun a c d vs H Q _ => vs = [.ref a] ∧ d = none ∧ ∃ D i, c = .ref D ∧ KnD K (csL T) T.a_AisleError D i ∧ i < 8 ∧ ∀ H', Same H H' → Q (.str (wordN i)) H'
section
variable {P : Program} {w : World} {K : PySem.W.Frag} {mg : Str → Option Value} {base : Heap}
theorem ok_law_refusal (T : Fns K mg) : FnZ P w K mg base CX0 2 T.a_law_refusal T.d_law_refusal ["e"] (sp_law_refusal T) := by
  refine T.F_law_refusal.okZ sc_law_refusal (fun a c d vs H Q E h => ?_) (fun cdv A outer s H vs Q E p c d hot hz hr h => ?_)
  · obtain ⟨rfl, _⟩ := h
    rfl
  · obtain ⟨rfl, rfl, D, i, rfl, kn, hi, q⟩ := h
    refine ⟨_, (pss_cons (ps_set (i := 1) sc_law_refusal.nd rfl (.inl rfl) (pe_callZ (ok_law_kinds T) (hr.mono (by decide)) hot List.mem_cons_self hz (by rfl) T.g_law_kinds T.F_law_kinds.kp T.b_law_kinds (pa_cons (pv 0) pa_nil)))
    (pss_one (ps_ret (pe_ifExp (pt_cmpR (op_eqD hr.units) (pe_slice sl_list (pv 1) (po_some pe_int) po_none) (pe_lst (pa_cons pe_str (pa_cons pe_str pa_nil))) (nomark _)) (pe_ix ix_list (pv 1) pe_int (fun _ _ => rfl)) pe_str)))), ?_⟩
    refine ⟨_, rfl, rfl, rfl, D, i, rfl, kn, hi, fun H1 l s1 nl hl => ?_⟩
    refine ⟨_, rfl, 1, rfl, l, _, rfl, .of hl, fun u hu => ⟨(by show 2 ≤ sizeLine; decide), fun v hv => ?_⟩⟩
    have hu1 := (same_new (o := .lst ([wordN 8, wordN 9].map V.str)) hv) _ _ (upd_same (H := H1) (a := u) (o := .lst ([wordN 8, wordN 9].map V.str)))
    refine ⟨.list ([wordN 8, wordN 9].map PyData.str), .list ([wordN 8, wordN 9].map PyData.str), .lst (.of hu1) (dps_strs [wordN 8, wordN 9]), .lst (.of upd_same) (dps_strs [wordN 8, wordN 9]), (by decide +kernel), (by decide +kernel), true, (by decide +kernel), ?_⟩
    refine ite2 (fun _ => ?_) (fun c => absurd rfl c)
    have hl2 := ((same_new (o := .lst ([wordN 8, wordN 9].map V.str)) hu).new (o := .lst ([wordN 8, wordN 9].map V.str)) hv) _ _ hl
    exact ⟨_, rfl, l, _, _, _, rfl, rfl, .of hl2, rfl, q _ (s1.trans ((same_new hu).new hv))⟩
end

end Ai
namespace Ai
open PySem PySem.Spec PyProof.Rows L2
theorem dps_append {K : PySem.W.Frag} {H : Hp} : ∀ {xs ys : List V} {ds es : List PyData}, DpAll K H xs ds → DpAll K H ys es → DpAll K H (xs ++ ys) (ds ++ es)
  | [], ys, _, es, h, h2 => by cases h; exact h2
  | x :: xs, ys, _, es, h, h2 => by
    cases h with
    | cons a b => exact .cons a (dps_append b h2)
theorem small100k {n : Nat} (h : n ≤ 100000) : n < sizeLine := by
  have : (100000 : Nat) < sizeLine := by decide
  omega
def sp_law_all_queues (K : PySem.W.Frag) : Sp := fun vs H Q _ => ∃ (n r : Nat), vs = [.int n, .int r] ∧ n ≤ 5 ∧ r ≤ 5 ∧ ∀ H' p ys, Same H H' → H' p = some (.lst ys) → DpAll K H' ys ((allQ r n).map tupI) → Q (.ref p) H'
section
variable {P : Program} {w : World} {K : PySem.W.Frag} {mg : Str → Option Value} {base : Heap}
theorem ok_law_all_queues (T : Fns K mg) : FnOk P w K mg base CX0 1 T.a_law_all_queues T.d_law_all_queues ["many", "rows"] (sp_law_all_queues K) := by
  refine T.F_law_all_queues.ok sc_law_all_queues (fun vs H Q E h => ?_) (fun cdv A outer s H vs Q E hr h => ?_)
  · obtain ⟨n, r, rfl, _⟩ := h
    rfl
  · obtain ⟨n, r, rfl, hn, hr5, k⟩ := h
    refine ⟨_, (pss_cons (ps_set (i := 2) sc_law_all_queues.nd rfl (.inl rfl) (pe_lst (pa_cons (pe_tup pa_nil) pa_nil)))
    (pss_cons (ps_for PassesOwn.never rfl (pi_range1 (by rfl) T.n_range (pa_cons (pv 0) pa_nil)) (pg_name (i := 3) sc_law_all_queues.nd rfl (.inl rfl))
      (pss_cons (ps_set (i := 4) sc_law_all_queues.nd rfl (.inl rfl) (pe_lst pa_nil))
      (pss_cons (ps_for PassesOwn.never rfl (pi_list (pv 2)) (pg_name (i := 5) sc_law_all_queues.nd rfl (by first | exact .inl rfl | exact .inr rfl))
        (pss_one (ps_set (i := 4) sc_law_all_queues.nd rfl (.inl rfl) (pe_op op_cat (pv 4) (pe_lc (own := [("row", 6)]) (g := gName 6) (tt := tYes) rfl sc_law_all_queues.nd (pi_range2 (by rfl) T.n_range (pa_cons pe_int (pa_cons (pe_op op_add (pv 1) pe_int) pa_nil))) (blkOk_by (N := ["many", "rows", "found", "turn", "longer", "queue", "row"]) (sc := defScope s_law_all_queues) (by decide +kernel)) (fun _ _ _ _ _ => (pg_name (i := 6) sc_law_all_queues.nd rfl (by first | exact .inl rfl | exact .inr rfl))) (fun _ _ _ _ _ => pts_nil) (fun _ _ _ _ _ => (pe_op (show OpR _ (binaryOp .Add) (rCatA K) from op_catA) (pv 5) (pe_tup (pa_cons (pv 6) pa_nil)))))))))
      (pss_one (ps_set (i := 2) sc_law_all_queues.nd rfl (.inl rfl) (pv 4))))))
    (pss_one (ps_ret (pv 2))))), ?_⟩
    refine ⟨Nat.zero_le _, fun t0 ht0 => ⟨(by show 1 ≤ sizeLine; decide), fun f0 hf0 => ?_⟩⟩
    have s2 : Same H (upd (upd H t0 (.tup [])) f0 (.lst [.ref t0])) := (same_new ht0).trans (same_new hf0)
    have hf0' : (upd (upd H t0 (.tup [])) f0 (.lst [V.ref t0])) f0 = some (.lst [V.ref t0]) := upd_same
    have ht0' : (upd (upd H t0 (.tup [])) f0 (.lst [V.ref t0])) t0 = some (.tup []) := (same_new hf0) _ _ upd_same
    generalize upd (upd H t0 (.tup [])) f0 (.lst [V.ref t0]) = H2 at s2 hf0' ht0'
    have pw : ∀ p, p ≤ 5 → r ^ p ≤ 3125 := fun p hp => Nat.le_trans (Nat.pow_le_pow_left hr5 p) (Nat.le_trans (Nat.pow_le_pow_right (by omega) hp) (by decide))
    refine ⟨_, rfl, _, rfl, by omega, by omega, for_it walk_range (fun i σ H5 => ∃ (f : Addr) (ys : List V) (x3 x4 x5 x6 : Option V), σ = [some (.int n), some (.int r), some (.ref f), x3, x4, x5, x6] ∧ Same H H5 ∧ H5 f = some (.lst ys) ∧ DpAll K H5 ys ((allQ r i).map tupI))
      ⟨f0, [.ref t0], _, _, _, _, rfl, s2, hf0', .cons (.tup (.of ht0') .nil) .nil⟩ (fun _ _ _ _ _ => True.intro) ?_ ?_⟩
    · rintro i x σ H5 H5' hi ⟨f, ys, x3, x4, x5, x6, rfl, s5, hf, hys⟩ ⟨rfl, ex⟩
      have hi5 : i < 5 := by rw [Int.toNat_natCast] at hi; omega
      have ly : ys.length = (allQ r i).length := by have := dps_length hys; rw [List.length_map] at this; exact this
      have lA : (allQ r i).length ≤ 3125 := by rw [allQ_length]; exact pw i (by omega)
      refine ⟨Nat.zero_le _, fun l0 hl0 => ?_⟩
      have s6 : Same H5' (upd H5' l0 (.lst [])) := same_new hl0
      refine ⟨_, rfl, f, rfl, ⟨_, .of (s6 _ _ hf)⟩, for_it (walk_list (K := K)) (fun j σ H6 => ∃ (l : Addr) (zs : List V) (x5 x6 : Option V), σ = [some (.int n), some (.int r), some (.ref f), some x, some (.ref l), x5, x6] ∧ Same H5' H6 ∧ H6 l = some (.lst zs) ∧ DpAll K H6 zs ((((allQ r i).take j).flatMap (ext r)).map tupI))
        ⟨l0, [], _, _, rfl, s6, upd_same, .nil⟩ (fun j σ H6 _ ⟨_, _, _, _, _, s7, _⟩ => .of (s7 _ _ hf)) ?_ ?_⟩
      · rintro j y σ H6 H6' hj ⟨l, zs, x5, x6, rfl, s7, hl, hzs⟩ ⟨rfl, ey⟩
        obtain ⟨d, hd, hdx⟩ := dps_at hys ey
        obtain ⟨q, hq, rfl⟩ : ∃ q, (allQ r i)[j]? = some q ∧ tupI q = d := by
          rw [List.getElem?_map] at hd
          cases e : (allQ r i)[j]? with
          | none => rw [e] at hd; cases hd
          | some q => rw [e] at hd; exact ⟨q, rfl, Option.some.inj hd⟩
        have lq := (allQ_mem (List.mem_of_getElem? hq)).1
        obtain ⟨b, rfl, hb⟩ := sqT_of (s7.dp hdx)
        refine ⟨_, rfl, _, rfl, _, _, rfl, rfl, 1, _, rfl, ⟨by omega, by omega, by omega, by omega⟩, fun D hD => ?_⟩
        rw [show ((r : Int) + 1 - 1).toNat = r by omega]
        refine lc_data (K := K) walk_range (fun k => .int (1 + (k : Int))) (fun k H x H' hk _ y => y) (fun _ => true) (fun k => tupI (q ++ [(1 : Int) + (k : Int)])) (by omega) hD (fun _ _ => True.intro) (fun x => rfl) (fun k H' hk s8 Q kq => kq H' (Same.refl _)) (fun k H7 hk _ s8 hDz Q kq => ?_) (fun H7 ws s8 hw hws => ?_)
        · obtain ⟨us, hus⟩ := hDz
          refine ⟨_, rfl, _, rfl, (by show 1 ≤ sizeLine; decide), fun t ht => ?_⟩
          exact cat_go ((same_new ht).tup (s8.tup hb)) (q' := [(1 : Int) + (k : Int)]) (.of upd_same) (by rw [lq]; show i + 1 ≤ 1000; omega) fun H8 u s9 hu => kq _ H8 ((same_new ht).trans s9) (dp_intsT (tup_hid ⟨us, s9 _ _ ((same_new ht) _ _ hus)⟩ hu))
        · have ew : ((List.range r).filter fun _ => true).map (fun k : Nat => tupI (q ++ [(1 : Int) + (k : Int)])) = (ext r q).map tupI := by
            rw [List.filter_eq_self.mpr (by simp), ext, List.map_map]
            rfl
          rw [ew] at hws
          have lw : ws.length = r := by have := dps_length hws; rw [List.length_map, ext_length] at this; exact this
          have lz : zs.length ≤ 15625 := by
            have := dps_length hzs
            rw [List.length_map, flat_length (ext r) r _ fun q _ => ext_length r q] at this
            rw [this]
            exact Nat.mul_le_mul (show ((allQ r i).take j).length ≤ 3125 by rw [List.length_take]; omega) hr5
          refine ⟨l, D, zs, ws, rfl, rfl, s8 _ _ hl, hw, Nat.le_of_lt (small100k (by omega)), fun u hu => ?_⟩
          refine ⟨u, zs ++ ws, _, _, rfl, (s7.trans s8).new hu, upd_same, ?_⟩
          rw [take_succ_of hq, List.flatMap_append, List.map_append]
          have := dps_append ((s8.new hu).dp' hzs) ((same_new (o := .lst (zs ++ ws)) hu).dp' hws)
          simpa using this
      · rintro σ H6 ⟨l, zs, x5, x6, rfl, s7, hl, hzs⟩
        rw [List.take_of_length_le (by omega)] at hzs
        exact ⟨_, rfl, l, zs, _, _, _, _, rfl, s5.trans s7, hl, hzs⟩
    · rintro σ H5 ⟨f, ys, x3, x4, x5, x6, rfl, s5, hf, hys⟩
      rw [Int.toNat_natCast] at hys
      exact ⟨_, rfl, k H5 f ys s5 hf hys⟩
end
end Ai
namespace Ai
open PySem PySem.Spec PyProof.Rows L2
def sp_law_word (K : PySem.W.Frag) : Sp := fun vs H Q _ => ∃ v d u e, vs = [v, u] ∧ Dp K H v d ∧ Dp K H u e ∧ ((seenD d = false ∧ ∀ H', Same H H' → Q (.str (wordN 3)) H') ∨ (seenD d = true ∧ rowsD e = false ∧ ∀ H', Same H H' → Q (.str (wordN 4)) H'))
section
variable {P : Program} {w : World} {K : PySem.W.Frag} {mg : Str → Option Value} {base : Heap}
theorem ok_law_word (T : Fns K mg) : FnOk P w K mg base CX0 4 T.a_law_word T.d_law_word ["seen", "rows"] (sp_law_word K) := by
  refine T.F_law_word.ok sc_law_word (fun vs H Q E h => ?_) (fun cdv A outer s H vs Q E hr h => ?_)
  · obtain ⟨v, d, u, e, rfl, _⟩ := h
    rfl
  · obtain ⟨v, d, u, e, rfl, hd, he, q⟩ := h
    refine ⟨_, (pss_cons (L2N.ps_try_as rfl rfl sc_law_word.nd (i := 2) rfl rfl ⟨by rfl, by decide, .inl T.g_AisleError⟩ takesN0 (fun W pn xe tk hp =>
      (pss_one (ps_expr (pe_callS (ok_queues_for T) (hr.mono (by decide)) (by rfl) T.g_queues_for T.F_queues_for.kp T.b_queues_for (fun σ => L2N.passAt tk σ) (pa_cons (pv 0) (pa_cons (pv 1) pa_nil)))))) (fun a oe cls d pn hz hf =>
      (pss_one (ps_ret (pe_callZS (ok_law_refusal T) (roomH_mark (hr.mono (by decide))) (hot_suite hz hf) List.mem_cons_self hz.zc (by rfl) T.g_law_refusal T.F_law_refusal.kp T.b_law_refusal (pa_cons (pv 2) pa_nil))))))
    (pss_one (ps_ret pe_str))), ?_⟩
    refine ⟨_, rfl, _, rfl, v, d, u, e, rfl, hd, he, fun e1 H1 s1 => ?_, fun e1 e2 H1 s1 => ?_, fun c1 c2 os r e1 hl e2 hr6 => ?_⟩
    · refine ⟨true, T.kn_NoSeen.ex, fun _ a na => ?_, fun z => nomatch z⟩
      rcases q with ⟨_, q⟩ | ⟨z, _⟩
      · exact ⟨_, rfl, rfl, rfl, _, 3, rfl, T.kn_NoSeen, by decide, fun H2 s2 => q H2 (s1.trans s2)⟩
      · exact nomatch z.symm.trans e1
    · refine ⟨true, T.kn_NoRow.ex, fun _ a na => ?_, fun z => nomatch z⟩
      rcases q with ⟨z, _⟩ | ⟨_, _, q⟩
      · exact nomatch z.symm.trans e1
      · exact ⟨_, rfl, rfl, rfl, _, 4, rfl, T.kn_NoRow, by decide, fun H2 s2 => q H2 (s1.trans s2)⟩
    · rcases q with ⟨z, _⟩ | ⟨_, z, _⟩
      · exact nomatch z.symm.trans c1
      · exact nomatch z.symm.trans c2
end
end Ai
namespace Ai
open PySem PySem.Spec PyProof.Rows L2
def evD (q : List Int) : PyData := .tuple [tupI q, .list ((TT q).map PyData.int)]
theorem olist_inj {os os' : List (Option Int)} (h : PyData.list (os.map od) = .list (os'.map od)) : os = os' := by
  have h1 := PyData.list.inj h
  have e := eqv_oints os os'
  have e2 := eqv_oints os os
  rw [← h1, e2] at e
  simpa using e.symm
theorem eqv_res (l : List (List Int)) : PyData.eqv (resD l) (resD l) = true := by
  cases l with
  | nil => rfl
  | cons q l =>
    show ((((q :: l).length : Int) == ((q :: l).length : Int)) && (PyData.eqvAll (q.map PyData.int) (q.map PyData.int) && true)) = true
    rw [eqv_ints]
    simp
theorem sh_res (l : List (List Int)) : SeqAt.shaped (resD l) = true := by
  refine shaped_tuple (n := 1) (fun d h => ?_) (fun d h => ?_) (by omega)
  · have h' : d = .int l.length ∨ d = firstD l := by simpa using h
    rcases h' with rfl | rfl
    · rfl
    · cases l with
      | nil => rfl
      | cons q l =>
        show PyData.canLay0 (.tuple (q.map PyData.int)) = true
        rw [PyData.canLay0]
        exact lay_of fun d h => by obtain ⟨i, _, rfl⟩ := List.mem_map.mp h; rfl
  · have h' : d = .int l.length ∨ d = firstD l := by simpa using h
    rcases h' with rfl | rfl
    · exact Nat.zero_le _
    · cases l with
      | nil => exact Nat.zero_le _
      | cons q l =>
        show PyData.depth (.tuple (q.map PyData.int)) ≤ 1
        rw [PyData.depth]
        have := depth_of (ds := q.map PyData.int) (n := 0) fun d h => by obtain ⟨i, _, rfl⟩ := List.mem_map.mp h; exact Nat.le_refl _
        omega
theorem sh_ones (l : List Nat) : SeqAt.shaped (.list (l.map fun _ => PyData.int 1)) = true := by
  refine shaped_list (n := 0) (fun d h => ?_) (fun d h => ?_) (by omega)
  · obtain ⟨i, _, rfl⟩ := List.mem_map.mp h; rfl
  · obtain ⟨i, _, rfl⟩ := List.mem_map.mp h; exact Nat.le_refl _
theorem bad_nil (os : List (Option Int)) (q : List Int) (n : Nat) : decide (((List.range n).filter (fun i => !okj os q i)).map (fun _ => PyData.int 1) = []) = okU os n q := by
  unfold okU
  rw [Bool.eq_iff_iff, decide_eq_true_iff, List.map_eq_nil_iff, List.filter_eq_nil_iff, List.all_eq_true]
  refine ⟨fun h j hj => ?_, fun h j hj => ?_⟩
  · have := h j hj
    simpa using this
  · rw [h j hj]
    simp
theorem seen_ok {os : List (Option Int)} {n : Nat} (hl : os.length = n) (hn : n ≤ 5) (h : ∀ o ∈ os, ∀ t : Int, o = some t → 1 ≤ t) : seenD (.list (os.map od)) = true := by
  simp only [seenD, Bool.and_eq_true, decide_eq_true_eq, List.length_map]
  refine ⟨by omega, List.all_eq_true.mpr fun d hd => ?_⟩
  obtain ⟨o, ho, rfl⟩ := List.mem_map.mp hd
  cases o with
  | none => rfl
  | some t => exact decide_eq_true (h _ ho t rfl)
theorem WS.fr {w : Addr} {G H : Hp} (e : WS w G H) {p : Addr} (hp : H p = none) : G p = none := by
  refine e.sub.free ?_
  rw [hid_ne (e.ne hp)]
  exact hp
def sp_law (K : PySem.W.Frag) : Sp := fun vs H Q _ => ∃ (a : Addr) (ns : List Int), vs = [.ref a] ∧ SqL K H a (ns.map V.int) ∧ ns.length ≤ 63 ∧ ∀ H', Q (.bl true) H'
section
variable {P : Program} {w : World} {K : PySem.W.Frag} {mg : Str → Option Value} {base : Heap}
theorem ok_law (T : Fns K mg) : FnOk P w K mg base CX0 5 T.a_law T.d_law ["script"] (sp_law K) := by
  refine T.F_law.ok sc_law (fun vs H Q E h => ?_) (fun cdv A outer s H vs Q E hr h => ?_)
  · obtain ⟨a, ns, rfl, _⟩ := h
    rfl
  · obtain ⟨a, ns, rfl, hS, hns, k⟩ := h
    refine ⟨_, (pss_cons (ps_for PassesOwn.never rfl (pi_range1 (by rfl) T.n_range (pa_cons (pe_callB (call_max2 rfl) (by rfl) T.n_max (by decide +kernel) (pa_cons pe_int (pa_cons (pe_callB (call_min2 rfl) (by rfl) T.n_min (by decide +kernel) (pa_cons pe_int (pa_cons (pe_callB call_len_seq (by rfl) T.n_len PySem.boot_len (pa_cons (pv 0) pa_nil)) pa_nil))) pa_nil))) pa_nil)) (pg_name (i := 1) sc_law.nd rfl (.inl rfl))
      (pss_cons (ps_set (i := 2) sc_law.nd rfl (.inl rfl) (pe_call (E := E0) (ok_law_well T) (hr.mono (by decide)) (by rfl) T.g_law_well T.F_law_well.kp T.b_law_well .nil pass0 (pa_cons (pv 0) (pa_cons (pv 1) pa_nil))))
      (pss_cons (ps_par rfl sc_law.nd (i := 6) (j := 7) rfl rfl (by decide) rfl rfl (pa_cons (pe_call (E := E0) (ok_law_take T) (hr.mono (by decide)) (by rfl) T.g_law_take T.F_law_take.kp T.b_law_take .nil pass0 (pa_cons (pv 2) (pa_cons pe_int pa_nil))) (pa_cons (pe_op op_add pe_int (pe_call (E := E0) (ok_law_take T) (hr.mono (by decide)) (by rfl) T.g_law_take T.F_law_take.kp T.b_law_take .nil pass0 (pa_cons (pv 2) (pa_cons pe_int pa_nil)))) pa_nil)) (by rfl))
      (pss_cut (ps_if (pt_cmpR op_gt (pe_op op_mul (pe_op op_pow (pv 7) pe_int) (pv 6)) pe_int (nomark _)) (pss_one (ps_set (i := 6) sc_law.nd rfl (.inl rfl) pe_int)) pss_nil)
      (pss_cons (ps_setLc (i := 3) (own := [("queue", 11)]) (g := gName 11) (tt := tYes) rfl sc_law.nd rfl rfl (sw_true rfl rfl rfl (by decide +kernel)) (pi_list (pe_call (E := E0) (ok_law_all_queues T) (hr.mono (by decide)) (by rfl) T.g_law_all_queues T.F_law_all_queues.kp T.b_law_all_queues .nil pass0 (pa_cons (pv 6) (pa_cons (pv 7) pa_nil)))) (blkOk_by (N := ["script", "k", "well", "every", "turn", "odd", "many", "rows", "seen", "at", "good", "queue", "stowed", "one", "due"]) (sc := defScope s_law) (by decide +kernel)) (fun _ _ _ _ _ => (pg_name (i := 11) sc_law.nd rfl (by first | exact .inl rfl | exact .inr rfl))) (fun _ _ _ _ _ => pts_nil) (fun _ _ _ _ _ => (pe_tup (pa_cons (pv 11) (pa_cons (pe_call (E := E0) (ok_law_turns T) (hr.mono (by decide)) (by rfl) T.g_law_turns T.F_law_turns.kp T.b_law_turns .nil pass0 (pa_cons (pv 11) pa_nil)) pa_nil)))))
      (pss_cons (ps_for PassesOwn.never rfl (pi_range1 (by rfl) T.n_range (pa_cons pe_int pa_nil)) (pg_name (i := 4) sc_law.nd rfl (.inl rfl))
        (pss_cons (ps_set (i := 8) sc_law.nd rfl (.inl rfl) (pe_callTy call_list_of (by rfl) T.n_list (by decide +kernel) (pa_cons (pe_ix ix_tup (pe_ix ix_list (pv 3) (pe_call (E := E0) (ok_law_take T) (hr.mono (by decide)) (by rfl) T.g_law_take T.F_law_take.kp T.b_law_take .nil pass0 (pa_cons (pv 2) (pa_cons (pe_callB call_len_seq (by rfl) T.n_len PySem.boot_len (pa_cons (pv 3) pa_nil)) pa_nil))) (fun _ _ => rfl)) pe_int (fun _ _ => rfl)) pa_nil)))
        (pss_cons (ps_for PassesOwn.never rfl (pi_range1 (by rfl) T.n_range (pa_cons (pv 6) pa_nil)) (pg_name (i := 9) sc_law.nd rfl (.inl rfl))
          (pss_one (ps_if (pt_cmpR op_eq (pe_call (E := E0) (ok_law_take T) (hr.mono (by decide)) (by rfl) T.g_law_take T.F_law_take.kp T.b_law_take .nil pass0 (pa_cons (pv 2) (pa_cons pe_int pa_nil))) pe_int (nomark _)) (pss_one (ps_asg (pe_ix ix_list (pe_lst (pa_cons pe_non (pa_cons pe_non (pa_cons (pe_op op_add pe_int (pe_call (E := E0) (ok_law_take T) (hr.mono (by decide)) (by rfl) T.g_law_take T.F_law_take.kp T.b_law_take .nil pass0 (pa_cons (pv 2) (pa_cons pe_int pa_nil)))) pa_nil)))) (pe_call (E := E0) (ok_law_take T) (hr.mono (by decide)) (by rfl) T.g_law_take T.F_law_take.kp T.b_law_take .nil pass0 (pa_cons (pv 2) (pa_cons pe_int pa_nil))) (fun _ _ => rfl)) (pg_sub (pv 8) (pv 9) set_list))) pss_nil)))
        (pss_cons (ps_set (i := 10) sc_law.nd rfl (.inl rfl) (pe_lst pa_nil))
        (pss_cons (ps_for PassesOwn.never rfl (pi_list (pv 3)) (pg_tup rfl (pgs_cons (pg_name (i := 11) sc_law.nd rfl (.inl rfl)) (pgs_cons (pg_name (i := 12) sc_law.nd rfl (.inl rfl)) pgs_nil)))
          (pss_one (ps_if (pt_cmpR (op_eqD hr.units) (pe_lc (own := [("one", 13), ("due", 14)]) (g := gTup K 2 (gCons (gName 13) (gCons (gName 14) gNil))) rfl sc_law.nd (pi_zip (by rfl) T.n_zip (pa_cons (pv 12) (pa_cons (pv 8) pa_nil))) (blkOk_by (N := ["script", "k", "well", "every", "turn", "odd", "many", "rows", "seen", "at", "good", "queue", "stowed", "one", "due"]) (sc := defScope s_law) (by decide +kernel)) (fun _ _ _ _ _ => (pg_tup rfl (pgs_cons (pg_name (i := 13) sc_law.nd rfl (by first | exact .inl rfl | exact .inr rfl)) (pgs_cons (pg_name (i := 14) sc_law.nd rfl (by first | exact .inl rfl | exact .inr rfl)) pgs_nil)))) (fun _ _ _ _ _ => pts_one (PW.pt (pw_and (pt_cmpR op_notN (pv 14) pe_non (nomark _)) (pw_and1 (pt_cmpR op_ne (pv 14) (pv 13) (nomark _)))))) (fun _ _ _ _ _ => pe_int)) (pe_lst pa_nil) (nomark _)) (pss_one (ps_expr (pe_bm PySem.F.plainAttrs_list PySem.F.slot_list_append PySem.F.type_list_append mt_append (pv 10) (pa_cons (pv 11) pa_nil)))) pss_nil)))
        (pss_one (ps_if (pt_cmpR (op_neD hr.units) (pe_call (E := E0) (ok_queues_for T) (hr.mono (by decide)) (by rfl) T.g_queues_for T.F_queues_for.kp T.b_queues_for .nil passN (pa_cons (pv 8) (pa_cons (pv 7) pa_nil))) (pe_tup (pa_cons (pe_callB call_len_seq (by rfl) T.n_len PySem.boot_len (pa_cons (pv 10) pa_nil)) (pa_cons (pe_ifExp (pt_cmpR (op_neD hr.units) (pv 10) (pe_lst pa_nil) (nomark _)) (pe_ix ix_list (pv 10) pe_int (fun _ _ => rfl)) pe_non) pa_nil))) (nomark _)) (pss_one (ps_ret pe_bl)) pss_nil)))))))
      (pss_cons (ps_for PassesOwn.never rfl (pi_list (pe_lst (pa_cons pe_non (pa_cons (pe_tup pa_nil) (pa_cons (pe_lst (pa_cons pe_int pa_nil)) (pa_cons (pe_lst (pa_cons pe_bl pa_nil)) (pa_cons (pe_op op_rep (pe_lst (pa_cons pe_int pa_nil)) pe_int) (pa_cons pe_str (pa_cons (pe_lst (pa_cons pe_non (pa_cons pe_str pa_nil))) pa_nil))))))))) (pg_name (i := 5) sc_law.nd rfl (.inl rfl))
        (pss_one (ps_if (pt_cmpR op_ne (pe_call (E := E0) (ok_law_word T) (hr.mono (by decide)) (by rfl) T.g_law_word T.F_law_word.kp T.b_law_word .nil pass0 (pa_cons (pv 5) (pa_cons pe_non pa_nil))) pe_str (nomark _)) (pss_one (ps_ret pe_bl)) pss_nil)))
      (pss_one (ps_if (pt_cmpR (op_neD hr.units) (pe_lc (own := [("odd", 5)]) (g := gName 5) rfl sc_law.nd (pi_list (pe_lst (pa_cons pe_int (pa_cons pe_int (pa_cons pe_non (pa_cons pe_bl pa_nil)))))) (blkOk_by (N := ["script", "k", "well", "every", "turn", "odd", "many", "rows", "seen", "at", "good", "queue", "stowed", "one", "due"]) (sc := defScope s_law) (by decide +kernel)) (fun _ _ _ _ _ => (pg_name (i := 5) sc_law.nd rfl (by first | exact .inl rfl | exact .inr rfl))) (fun _ _ _ _ _ => pts_one (pt_cmpR op_ne (pe_call (E := E0) (ok_law_word T) (hr.mono (by decide)) (by rfl) T.g_law_word T.F_law_word.kp T.b_law_word .nil pass0 (pa_cons (pe_lst (pa_cons pe_int pa_nil)) (pa_cons (pv 5) pa_nil))) pe_str (nomark _))) (fun _ _ _ _ _ => (pv 5))) (pe_lst pa_nil) (nomark _)) (pss_one (ps_ret pe_bl)) pss_nil)))))))))
    (pss_one (ps_ret (pe_and (pe_cmpR (op_eqD hr.units) (pe_call (E := E0) (ok_queues_for T) (hr.mono (by decide)) (by rfl) T.g_queues_for T.F_queues_for.kp T.b_queues_for .nil passN (pa_cons (pe_lst (pa_cons pe_int (pa_cons pe_int pa_nil))) (pa_cons pe_int pa_nil))) (pe_tup (pa_cons pe_int (pa_cons (pe_tup (pa_cons pe_int (pa_cons pe_int pa_nil))) pa_nil))) (nomark _)) (pe_and (pe_cmpR (op_eqD hr.units) (pe_call (E := E0) (ok_queues_for T) (hr.mono (by decide)) (by rfl) T.g_queues_for T.F_queues_for.kp T.b_queues_for .nil passN (pa_cons (pe_lst pa_nil) (pa_cons pe_int pa_nil))) (pe_tup (pa_cons pe_int (pa_cons (pe_tup pa_nil) pa_nil))) (nomark _)) (pe_one (pe_cmpR (op_eqD hr.units) (pe_call (E := E0) (ok_queues_for T) (hr.mono (by decide)) (by rfl) T.g_queues_for T.F_queues_for.kp T.b_queues_for .nil passN (pa_cons (pe_lst (pa_cons pe_int pa_nil)) (pa_cons pe_int pa_nil))) (pe_tup (pa_cons pe_int (pa_cons pe_non pa_nil))) (nomark _)))))))), ?_⟩
    obtain ⟨m, hm, hm63⟩ : ∃ m : Nat, (if (if ((ns.map V.int).length : Int) < 10 then ((ns.map V.int).length : Int) else 10) > 3 then (if ((ns.map V.int).length : Int) < 10 then ((ns.map V.int).length : Int) else 10) else 3) = (m : Int) ∧ m ≤ 63 := by
      rw [List.length_map]
      refine ⟨(if (if (ns.length : Int) < 10 then (ns.length : Int) else 10) > 3 then (if (ns.length : Int) < 10 then (ns.length : Int) else 10) else 3).toNat, ?_, ?_⟩ <;> split <;> split <;> omega
    refine ⟨_, rfl, a, _, rfl, .inl hS, _, _, rfl, _, _, rfl, ?_⟩
    rw [hm]
    refine ⟨_, rfl, by omega, by omega, for_it walk_range (fun i σ H' => ∃ x1 x2 x3 x4 x5 x6 x7 x8 x9 x10 x11 x12 x13 x14 : Option V, σ = [some (.ref a), x1, x2, x3, x4, x5, x6, x7, x8, x9, x10, x11, x12, x13, x14] ∧ Same H H')
      ⟨_, _, _, _, _, _, _, _, _, _, _, _, _, _, rfl, Same.refl _⟩ (fun _ _ _ _ _ => True.intro) ?_ ?_⟩
    · rintro i x σ H0 H0' hi ⟨x1, x2, x3, x4, x5, x6, x7, x8, x9, x10, x11, x12, x13, x14, rfl, s0⟩ ⟨rfl, ex⟩
      obtain rfl := ex.trans (congrArg V.int (Int.zero_add _))
      -- well
      refine ⟨_, rfl, _, rfl, a, i, ns, rfl, s0.seq hS, (by rw [Int.toNat_natCast] at hi; omega), fun H1 wl s1 nw hw => ?_⟩
      have W1 : WS wl H H1 := .ofs hw (s0.trans s1) (s0.free nw)
      -- many, rows
      refine ⟨_, rfl, wl, 6, rfl, hw, by decide, by decide, fun H2 m0 e2 ok2 a0 a1 => ?_⟩
      refine ⟨_, rfl, wl, 5, rfl, ok2, by decide, by decide, fun H3 r0 e3 ok3 b0 b1 => ?_⟩
      have W3 := (W1.take e2 ok2).take e3 ok3
      obtain ⟨m1, rfl⟩ := Int.eq_ofNat_of_zero_le a0
      obtain ⟨r, hr1⟩ := Int.eq_ofNat_of_zero_le (show 0 ≤ 1 + r0 by omega)
      refine ⟨_, _, rfl, rfl, .int m1, .int r, (by show [V.int _, V.int (1 + r0)] = _; rw [hr1]), ?_⟩
      have hr5 : r ≤ 5 := by omega
      have hr0 : 0 < r := by omega
      clear hr1 b0 b1
      refine ⟨fun σ' H' => ∃ n : Nat, n ≤ 5 ∧ σ' = [some (.ref a), some (.int i), some (.ref wl), x3, x4, x5, some (.int n), some (.int r), x8, x9, x10, x11, x12, x13, x14] ∧ H' = H3, ?_, ?_⟩
      · refine ⟨_, rfl, _, _, rfl, rfl, ⟨by decide, by decide, by omega⟩, _, rfl, _, _, rfl, rfl, .inr ⟨by omega, by omega⟩, _, _, rfl, rfl, _, rfl, ?_⟩
        refine ite2 (fun _ => ?_) (fun _ => ?_)
        · exact ⟨4, by decide, rfl, rfl⟩
        · exact ⟨m1, by omega, rfl, rfl⟩
      rintro σ' H' ⟨n, hn5, rfl, rfl⟩
      clear e2 e3 a0 a1
      have lAll : (allQ r n).length ≤ 3125 := by
        rw [allQ_length]
        exact Nat.le_trans (Nat.pow_le_pow_left hr5 n) (Nat.le_trans (Nat.pow_le_pow_right (by omega) hn5) (by decide))
      have lAll0 : 0 < (allQ r n).length := by rw [allQ_length]; exact Nat.pow_pos hr0
      -- every
      refine ⟨_, rfl, _, rfl, n, r, rfl, hn5, hr5, fun H4 pq ys s4 hq hys => ?_⟩
      have ly : ys.length = (allQ r n).length := by have := dps_length hys; rw [List.length_map] at this; exact this
      refine ⟨pq, rfl, ⟨_, .of hq⟩, fun D hD => lc_dataW (K := K) wl walk_list (fun i => ys.getD i .non) (fun i H x H' hi _ y => ⟨y.1, ?_⟩) (fun _ => true) (fun i => evD ((allQ r n).getD i []))
        (by omega) hD (fun H' s => .of (s _ _ hq)) (fun x => rfl) (fun i H7 hi s7 Q kq => kq H7 (Same.refl _)) (fun i H7 hi _ s7 hDz Q kq => ?_) (fun H5 es s5 hev hes => ?_)⟩
      · rw [List.getD_eq_getElem?_getD, y.2]; rfl
      · obtain ⟨us, hus⟩ := hDz
        obtain ⟨x, hx⟩ : ∃ x, ys[i]? = some x := ⟨ys[i], List.getElem?_eq_getElem hi⟩
        obtain ⟨d, hd, hdx⟩ := dps_at hys hx
        have ex : ys.getD i V.non = x := by rw [List.getD_eq_getElem?_getD, hx]; rfl
        obtain ⟨q, hq, rfl⟩ : ∃ q, (allQ r n)[i]? = some q ∧ tupI q = d := by
          rw [List.getElem?_map] at hd
          cases e : (allQ r n)[i]? with
          | none => rw [e] at hd; cases hd
          | some q => rw [e] at hd; exact ⟨q, rfl, Option.some.inj hd⟩
        have eq' : (allQ r n).getD i [] = q := by rw [List.getD_eq_getElem?_getD, hq]; rfl
        rw [eq'] at kq
        rw [ex]
        have hqm := List.mem_of_getElem? hq
        have lq := (allQ_mem hqm).1
        obtain ⟨b, rfl, hb⟩ := sqT_of (s7.dp hdx)
        refine ⟨_, rfl, _, rfl, b, q, rfl, hb, by omega, allQ_rows (by omega) hqm, fun H8 t s8 nt ht => ⟨(by show 2 ≤ sizeLine; decide), fun u hu => ?_⟩⟩
        have s9 : Same H8 (upd H8 u (.tup [.ref b, .ref t])) := same_new hu
        have hus9 := s9 _ _ (s8 _ _ hus)
        have ntD : t ≠ D := (ne_of_none hus nt).symm
        have W9 := (((W3.grow s4).grow s7).grow s8).grow s9
        have hwl : ∀ H' : Hp, WellAt H' wl → D ≠ wl → ∃ ys, hid H' D wl = some (.lst ys) := fun H' ⟨c, s, p, _, hw⟩ ne => ⟨_, hid_some hw (Ne.symm ne)⟩
        have nD : D ≠ wl := (W3.grow s4).ne hD
        have hw9 := hwl _ W9.well nD
        have nt' : t ≠ wl := ((W3.grow s4).grow s7).ne nt
        exact kq _ _ (s8.trans s9) (.tup (tup_hid hw9 (tup_hid ⟨us, hus9⟩ (.of upd_same))) (.cons (dp_intsT (tup_hid hw9 (tup_hid ⟨us, hus9⟩ (s9.tup (s8.tup hb))))) (.cons (dp_intsL (.of (hid_some (hid_some (s9 _ _ ht) ntD) nt'))) .nil)))
      · rw [ly, range_getD [] evD] at hes
        have le : es.length = (allQ r n).length := by have := dps_length hes; rw [List.length_map] at this; exact this
        have W5 := (W3.grow s4).grow s5
        have nD : D ≠ wl := (W3.grow s4).ne hD
        have hDG : hid H5 wl D = some (.lst es) := hid_some hev nD
        have WG : WS wl (hid H5 wl) H5 := ⟨Same.refl _, W5.well⟩
        have hHG : Same H (hid H5 wl) := W5.sub
        generalize hG : hid H5 wl = G at hDG WG hHG hes
        clear hev hG W5 W3 s4 hq hys hD s5 W1
        have pick : ∀ (j : Nat) (x : V), es[j]? = some x → ∃ (u b t : Addr) (q : List Int), (allQ r n)[j]? = some q ∧ x = .ref u ∧ SqT K G u [.ref b, .ref t] ∧ SqT K G b (q.map V.int) ∧ SqL K G t ((TT q).map V.int) := by
          intro j x hx
          obtain ⟨d, hd, hdx⟩ := dps_at hes hx
          rw [List.getElem?_map] at hd
          cases e : (allQ r n)[j]? with
          | none => rw [e] at hd; cases hd
          | some q =>
            rw [e] at hd
            obtain rfl := Option.some.inj hd
            cases hdx with
            | @tup u xs _ hu hxs =>
              cases hxs with
              | cons h1 h2 =>
                cases h2 with
                | cons h2 h3 =>
                  cases h3
                  obtain ⟨b, rfl, hb⟩ := sqT_of h1
                  obtain ⟨t, rfl, ht⟩ := sqL_of h2
                  exact ⟨u, b, t, q, rfl, rfl, hu, hb, ht⟩
        -- for turn in range(4)
        refine ⟨_, rfl, by decide, by decide, for_it walk_range (fun j σ H' => ∃ x4 x5 x8 x9 x10 x11 x12 x13 x14 : Option V, σ = [some (.ref a), some (.int i), some (.ref wl), some (.ref D), x4, x5, some (.int n), some (.int r), x8, x9, x10, x11, x12, x13, x14] ∧ WS wl G H')
          ⟨_, _, _, _, _, _, _, _, _, rfl, WG⟩ (fun _ _ _ _ _ => True.intro) ?_ ?_⟩
        · rintro j x σ H6 H6' hj ⟨x4, x5, x8, x9, x10, x11, x12, x13, x14, rfl, W6⟩ ⟨rfl, ex⟩
          obtain rfl := ex.trans (congrArg V.int (Int.zero_add _))
          have hD6 := W6.up _ _ hDG
          refine ⟨_, rfl, _, rfl, _, rfl, D, es, rfl, .inl (.of hD6), wl, es.length, rfl, W6.well, by omega, by omega, fun H7 j7 e7 ok7 j0 j1 => ?_⟩
          have W7 := W6.take e7 ok7
          obtain ⟨jn, rfl⟩ := Int.eq_ofNat_of_zero_le j0
          have hjn : jn < es.length := by omega
          obtain ⟨u, b, t, q, hq, hx, hu, hb, ht⟩ := pick jn es[jn] (List.getElem?_eq_getElem hjn)
          have g1 : atI es ((jn : Nat) : Int) = some (V.ref u) := atI_nat (by rw [List.getElem?_eq_getElem hjn, hx])
          have hqm := List.mem_of_getElem? hq
          have lq := (allQ_mem hqm).1
          refine ⟨D, es, _, _, rfl, rfl, .of (W7.up _ _ hDG), g1, u, _, _, _, rfl, rfl, W7.up.tup hu, (atI_nat (j := 1) rfl), t, _, rfl, .inl (W7.up.seq ht), fun s hs => ?_⟩
          have W8 := W7.grow (same_new (o := .lst ((TT q).map V.int)) hs)
          have nsw : s ≠ wl := W7.ne hs
          have hGs : G s = none := W7.fr hs
          have hs8 : (upd H7 s (.lst ((TT q).map V.int))) s = some (.lst (((TT q).map some).map ov)) := by
            rw [upd_same, List.map_map]
            rfl
          have hos : ∀ o ∈ (TT q).map some, ∀ t : Int, o = some t → 1 ≤ t := by
            intro o ho t ht
            obtain ⟨x, hx, rfl⟩ := List.mem_map.mp ho
            obtain ⟨p, hp, rfl⟩ := List.mem_map.mp hx
            have := T_pos (allQ_rows (by omega) hqm) (List.mem_range.mp hp)
            have := Option.some.inj ht
            omega
          generalize upd H7 s (.lst ((TT q).map V.int)) = H8 at W8 hs8
          -- for at in range(many)
          refine ⟨_, rfl, _, rfl, by omega, by omega, for_it walk_range (fun l σ H' => ∃ (os : List (Option Int)) (x9 : Option V), σ = [some (.ref a), some (.int i), some (.ref wl), some (.ref D), some (.int j), x5, some (.int n), some (.int r), some (.ref s), x9, x10, x11, x12, x13, x14] ∧ H' s = some (.lst (os.map ov)) ∧ os.length = n ∧ (∀ o ∈ os, ∀ t : Int, o = some t → 1 ≤ t) ∧ WS wl G H')
            ⟨_, _, rfl, hs8, by rw [List.length_map, TT_length, lq], hos, W8⟩ (fun _ _ _ _ _ => True.intro) ?_ ?_⟩
          · rintro l y σ H9 H9' hl ⟨os, x9, rfl, hs9, los, hos9, W9⟩ ⟨rfl, ey⟩
            obtain rfl := ey.trans (congrArg V.int (Int.zero_add _))
            have hln : l < n := by rw [Int.toNat_natCast] at hl; exact hl
            refine ⟨_, rfl, wl, 3, rfl, W9.well, by decide, by decide, fun H10 z e10 ok10 z0 z1 => ⟨rfl, _, rfl, ?_⟩⟩
            have W10 := W9.take e10 ok10
            have hs10 := WS.get e10 nsw hs9
            refine ite2 (fun _ => ?_) (fun _ => ?_)
            · refine ⟨_, rfl, wl, 5, rfl, ok10, by decide, by decide, fun H11 y1 e11 ok11 y0 y5 => ⟨_, _, rfl, rfl, (by show 3 ≤ sizeLine; decide), fun g hg => ?_⟩⟩
              have W11 := W10.take e11 ok11
              have hs11 := WS.get e11 nsw hs10
              have W12 := W11.grow (same_new (o := .lst [.non, .non, .int (1 + y1)]) hg)
              have ngw : g ≠ wl := W11.ne hg
              have hs12 := (same_new (o := .lst [.non, .non, .int (1 + y1)]) hg) _ _ hs11
              refine ⟨_, rfl, wl, 3, rfl, W12.well, by decide, by decide, fun H13 w1 e13 ok13 w0 w3 => ?_⟩
              have W13 := W12.take e13 ok13
              have hg13 := WS.get e13 ngw (upd_same (H := H11) (a := g) (o := .lst [.non, .non, .int (1 + y1)]))
              have hs13 := WS.get e13 nsw hs12
              obtain ⟨o, ho, hot⟩ : ∃ o : Option Int, atI [V.non, V.non, V.int (1 + y1)] w1 = some (ov o) ∧ ∀ t : Int, o = some t → 1 ≤ t := by
                obtain ⟨wn, rfl⟩ := Int.eq_ofNat_of_zero_le w0
                have : wn = 0 ∨ wn = 1 ∨ wn = 2 := by omega
                rcases this with rfl | rfl | rfl
                · exact ⟨none, rfl, fun t h => nomatch h⟩
                · exact ⟨none, rfl, fun t h => nomatch h⟩
                · exact ⟨some (1 + y1), rfl, fun t h => by have := Option.some.inj h; omega⟩
              refine ⟨g, _, _, _, rfl, rfl, .of hg13, ho, _, rfl, _, rfl, s, _, _, l, rfl, rfl, hs13, ixN_of (by rw [List.length_map, los]; exact hln), ?_⟩
              rw [← List.map_set]
              refine ⟨os.set l o, _, rfl, upd_same, by rw [List.length_set, los], fun o' ho' t ht => ?_, W13.mut hGs nsw⟩
              rcases List.mem_or_eq_of_mem_set ho' with h | h
              · exact hos9 o' h t ht
              · subst h
                exact hot t ht
            · exact ⟨os, _, rfl, hs10, los, hos9, W10⟩
          · rintro σ H9 ⟨os, x9, rfl, hs9, los, hos9, W9⟩
            -- good
            refine ⟨Nat.zero_le _, fun g hg => ?_⟩
            have ngw : g ≠ wl := W9.ne hg
            have hGg : G g = none := W9.fr hg
            have ngs : s ≠ g := ne_of_none hs9 hg
            have W10 := W9.grow (same_new (o := .lst []) hg)
            have hs10 := (same_new (o := .lst []) hg) _ _ hs9
            refine ⟨_, rfl, D, rfl, ⟨_, .of (W10.up _ _ hDG)⟩, for_it (walk_list (K := K)) (g := gTup K 2 (gCons (gName 11) (gCons (gName 12) gNil))) (fun l σ H' => ∃ (zs : List V) (x11 x12 x13 x14 : Option V), σ = [some (.ref a), some (.int i), some (.ref wl), some (.ref D), some (.int j), x5, some (.int n), some (.int r), some (.ref s), x9, some (.ref g), x11, x12, x13, x14] ∧ H' s = some (.lst (os.map ov)) ∧ H' g = some (.lst zs) ∧ DpAll K G zs ((((allQ r n).take l).filter (okU os n)).map tupI) ∧ WS wl G H')
              ⟨[], _, _, _, _, rfl, hs10, upd_same, .nil, W10⟩ (fun l σ H' _ ⟨_, _, _, _, _, _, _, _, _, z⟩ => .of (z.up _ _ hDG)) ?_ ?_⟩
            · rintro l y σ H11 H11' hl ⟨zs, x11, x12, x13, x14, rfl, hs11, hg11, hzs, W11⟩ ⟨rfl, hy⟩
              obtain ⟨u, b, t, q, hq, rfl, hu, hb, ht⟩ := pick l y hy
              have hqm := List.mem_of_getElem? hq
              have lq := (allQ_mem hqm).1
              refine ⟨u, [.ref b, .ref t], rfl, W11.up.tup hu, rfl, _, _, rfl, _, _, rfl, rfl, ?_⟩
              refine ⟨_, rfl, _, rfl, t, s, _, _, rfl, W11.up.seq ht, .of hs11, fun E hE => ?_⟩
              refine lc_data2 (K := K) (walk_zip (xs := (TT q).map V.int) (ys := os.map ov) (n := n) (by rw [List.length_map, List.length_map, TT_length, lq, los, Nat.min_self])) (fun m => .int (Tn q m : Int)) (fun m => ov (os.getD m none))
                (fun m hm => by rw [List.getElem?_map, TT_at (by omega)]; rfl) (fun m hm => by rw [List.getElem?_map, List.getD_eq_getElem?_getD, List.getElem?_eq_getElem (by omega)]; rfl)
                (fun m => !okj os q m) (fun _ => .int 1) (by omega) hE (fun H' s12 => ⟨s12.seq (W11.up.seq ht), .of (s12 _ _ hs11)⟩) (fun x y => rfl) (fun m H12 hm s12 Q kq => ?_) (fun m H12 hm _ s12 _ Q kq => ?_) (fun H12 ws s12 hw hws => ?_)
              · refine ⟨_, rfl, rfl, _, rfl, ?_⟩
                have hov : ∀ o : Option Int, os.getD m none = o → (if (!decide (ov o = V.non)) = true then (tTest (tOp rNe (tVar 14) (tVar 13))) (((wipe [some (.ref a), some (.int i), some (.ref wl), some (.ref D), some (.int j), x5, some (.int n), some (.int r), some (.ref s), x9, some (.ref g), some (.ref b), some (.ref t), x13, x14] [13, 14]).set 13 (some (.int (Tn q m : Int)))).set 14 (some (ov o))) H12 Q else Q false H12) := by
                  intro o eo
                  have ek : okj os q m = seenT o (Tn q m : Int) := by unfold okj; rw [eo]
                  cases o with
                  | none =>
                    rw [ek] at kq
                    exact kq H12 (Same.refl _)
                  | some x =>
                    rw [if_pos (by rfl)]
                    refine ⟨_, rfl, _, rfl, rfl, _, rfl, ?_⟩
                    have e1 : (!decide (V.int x = V.int (Tn q m : Int))) = !okj os q m := by
                      rw [ek]
                      show _ = !decide (x = (Tn q m : Int))
                      congr 1
                      exact decide_eq_decide.mpr ⟨fun z => V.int.inj z, fun z => by rw [z]⟩
                    show Q (!decide (V.int x = V.int (Tn q m : Int))) H12
                    rw [e1]
                    exact kq H12 (Same.refl _)
                exact hov _ rfl
              · exact kq _ H12 (Same.refl _) (.int _)
              · have W12 := W11.grow s12
                refine ⟨Nat.zero_le _, fun e0 he0 => ⟨_, _, .lst (.of ((same_new he0) _ _ hw)) ((same_new he0).dp' hws), .lst (.of upd_same) .nil, sh_ones _, sh_tups [], _, rfl, ?_⟩⟩
                have W13 := W12.grow (same_new (o := .lst []) he0)
                have hs13 := (same_new (o := .lst []) he0) _ _ (s12 _ _ hs11)
                have hg13 := (same_new (o := .lst []) he0) _ _ (s12 _ _ hg11)
                generalize upd H12 e0 (.lst []) = H13 at W13 hs13 hg13
                rw [eqv_nilL, bad_nil]
                have lzs : zs.length ≤ 3125 := by
                  have := dps_length hzs
                  rw [List.length_map] at this
                  rw [this]
                  have h1 := List.length_filter_le (okU os n) ((allQ r n).take l)
                  rw [List.length_take] at h1
                  omega
                refine ite2 (fun c => ?_) (fun c => ?_)
                · refine ⟨_, rfl, .inl ⟨rfl, _, .of hg13⟩, _, rfl, g, _, _, rfl, rfl, hg13, small100k (by omega), ?_⟩
                  refine ⟨zs ++ [.ref b], _, _, _, _, rfl, by rw [upd_ne ngs]; exact hs13, upd_same, ?_, W13.mut hGg ngw⟩
                  rw [take_succ_of hq, List.filter_append, List.map_append, List.filter_cons, if_pos c]
                  exact dps_append hzs (.cons (dp_intsT hb) .nil)
                · refine ⟨zs, _, _, _, _, rfl, hs13, hg13, ?_, W13⟩
                  rw [take_succ_of hq, List.filter_append, List.map_append, List.filter_cons, if_neg c]
                  simpa using hzs
            · rintro σ H11 ⟨zs, x11, x12, x13, x14, rfl, hs11, hg11, hzs, W11⟩
              rw [List.take_of_length_le (by omega)] at hzs
              have hzs : DpAll K G zs ((FQ os r n).map tupI) := hzs
              have lzs : zs.length = (FQ os r n).length := by have := dps_length hzs; rw [List.length_map] at this; exact this
              have cs := seen_ok los hn5 hos9
              have cr : rowsD (.int (r : Int)) = true := by simp only [rowsD, Bool.and_eq_true, decide_eq_true_eq]; omega
              refine ⟨_, rfl, _, rfl, .ref s, .list (os.map od), .int r, _, rfl, dp_ointsL (.of hs11), .int _, fun z => (nomatch z.symm.trans cs), fun _ z => (nomatch z.symm.trans cr), fun _ _ os' r' e1 l1 e2 l2 H12 p s12 hp => ?_⟩
              have eo := olist_inj e1
              subst eo
              obtain rfl : r = r' := by have := PyData.int.inj e2; omega
              rw [los] at hp
              have W12 := W11.grow s12
              have hg12 := s12 _ _ hg11
              have hz12 := W12.up.dp' hzs
              refine ⟨_, rfl, g, zs, rfl, .inl (.of hg12), ?_⟩
              refine ⟨_, rfl, Nat.zero_le _, fun e0 he0 => ⟨_, _, .lst (.of ((same_new he0) _ _ hg12)) ((same_new he0).dp' hz12), .lst (.of upd_same) .nil, sh_tups _, sh_tups [], _, rfl, ?_⟩⟩
              have s13 : Same H12 (upd H12 e0 (.lst [])) := same_new he0
              generalize upd H12 e0 (.lst []) = H13 at s13
              rw [eqv_nilL]
              have hz13 := s13.dp' hz12
              have hg13 := s13 _ _ hg12
              have fin : ∀ (v : V), Dp K H13 v (firstD (FQ os r n)) → ∀ t, H13 t = none → ∃ d e, Dp K (upd H13 t (.tup [.int zs.length, v])) (.ref p) d ∧ Dp K (upd H13 t (.tup [.int zs.length, v])) (.ref t) e ∧ SeqAt.shaped d = true ∧ SeqAt.shaped e = true ∧ PyData.eqv d e = true := fun v hv t ht =>
                ⟨_, resD (FQ os r n), (s13.new ht).dp hp, .tup (.of upd_same) (.cons (by rw [lzs]; exact .int _) (.cons ((same_new ht).dp hv) .nil)), sh_res _, sh_res _, eqv_res _⟩
              refine ite2 (fun c => ?_) (fun c => ?_)
              · cases eF : FQ os r n with
                | nil => rw [eF] at c; simp at c
                | cons q qs =>
                  rw [eF] at hz13
                  cases hz13 with
                  | @cons v vs _ _ h1 h2 =>
                    refine ⟨_, rfl, g, _, _, v, rfl, rfl, .of hg13, atI_nat (j := 0) rfl, (by show 2 ≤ sizeLine; decide), fun t ht => ?_⟩
                    obtain ⟨d, e, f1, f2, f3, f4, f5⟩ := fin v (by rw [eF]; exact h1) t ht
                    refine ⟨d, e, f1, f2, f3, f4, _, rfl, ?_⟩
                    rw [f5]
                    refine ite2 (fun c => nomatch c) (fun _ => ?_)
                    exact ⟨_, _, _, _, _, _, _, _, _, rfl, (W12.grow s13).grow (same_new ht)⟩
              · have eF : FQ os r n = [] := by
                  cases eF : FQ os r n with
                  | nil => rfl
                  | cons q qs => rw [eF] at c; simp at c
                refine ⟨(by show 2 ≤ sizeLine; decide), fun t ht => ?_⟩
                obtain ⟨d, e, f1, f2, f3, f4, f5⟩ := fin .non (by rw [eF]; exact .non) t ht
                refine ⟨d, e, f1, f2, f3, f4, _, rfl, ?_⟩
                rw [f5]
                refine ite2 (fun c => nomatch c) (fun _ => ?_)
                exact ⟨_, _, _, _, _, _, _, _, _, rfl, (W12.grow s13).grow (same_new ht)⟩
        · rintro σ H6 ⟨x4, x5, x8, x9, x10, x11, x12, x13, x14, rfl, W6⟩
          -- odd things
          refine ⟨Nat.zero_le _, fun b1 hb1 => ⟨(by show 1 ≤ sizeLine; decide), fun b2 hb2 => ⟨(by show 1 ≤ sizeLine; decide), fun b3 hb3 => ⟨(by show 1 ≤ sizeLine; decide), fun b4 hb4 => ⟨b4, _, _, rfl, rfl, upd_same, by decide, by decide, by decide, fun b5 hb5 => ⟨(by show 2 ≤ sizeLine; decide), fun b6 hb6 => ⟨(by show 7 ≤ sizeLine; decide), fun L hL => ?_⟩⟩⟩⟩⟩⟩⟩
          have t1 := upd_same (H := H6) (a := b1) (o := .tup [])
          have u1 := same_new (o := .tup []) hb1
          generalize upd H6 b1 (.tup []) = K1 at *
          have t2 := upd_same (H := K1) (a := b2) (o := .lst [.int 0])
          have u2 := same_new (o := .lst [.int 0]) hb2
          generalize upd K1 b2 (.lst [V.int 0]) = K2 at *
          have t3 := upd_same (H := K2) (a := b3) (o := .lst [.bl true])
          have u3 := same_new (o := .lst [.bl true]) hb3
          generalize upd K2 b3 (.lst [V.bl true]) = K3 at *
          have u4 := same_new (o := .lst [.int 1]) hb4
          generalize upd K3 b4 (.lst [V.int 1]) = K4 at *
          have t5 := upd_same (H := K4) (a := b5) (o := .lst (List.replicate (6 : Int).toNat [V.int 1]).flatten)
          have u5 := same_new (o := .lst (List.replicate (6 : Int).toNat [V.int 1]).flatten) hb5
          generalize upd K4 b5 (.lst (List.replicate (6 : Int).toNat [V.int 1]).flatten) = K5 at *
          have t6 := upd_same (H := K5) (a := b6) (o := .lst [.non, .str "1"])
          have u6 := same_new (o := .lst [.non, .str "1"]) hb6
          generalize upd K5 b6 (.lst [V.non, V.str "1"]) = K6 at *
          have tL := upd_same (H := K6) (a := L) (o := .lst [.non, .ref b1, .ref b2, .ref b3, .ref b5, .str "1", .ref b6])
          have uL := same_new (o := .lst [.non, .ref b1, .ref b2, .ref b3, .ref b5, .str "1", .ref b6]) hL
          generalize upd K6 L (.lst [V.non, V.ref b1, V.ref b2, V.ref b3, V.ref b5, V.str "1", V.ref b6]) = KL at *
          have hds : DpAll K KL [V.non, V.ref b1, V.ref b2, V.ref b3, V.ref b5, V.str "1", V.ref b6] [.none, .tuple [], .list [.int 0], .list [.bool true], .list ((List.replicate 6 (1 : Int)).map PyData.int), .str "1", .list [.none, .str "1"]] :=
            .cons .non (.cons (.tup (.of ((((((u2.trans u3).trans u4).trans u5).trans u6).trans uL) _ _ t1)) .nil) (.cons (.lst (.of (((((u3.trans u4).trans u5).trans u6).trans uL) _ _ t2)) (.cons (.int _) .nil)) (.cons (.lst (.of ((((u4.trans u5).trans u6).trans uL) _ _ t3)) (.cons (.bl _) .nil))
              (.cons (dp_intsL (ns := List.replicate 6 1) (.of ((u6.trans uL) _ _ t5))) (.cons (.str _) (.cons (.lst (.of (uL _ _ t6)) (.cons .non (.cons (.str _) .nil))) .nil))))))
          have WL := W6.grow ((((((u1.trans u2).trans u3).trans u4).trans u5).trans u6).trans uL)
          have sd : ∀ d ∈ ([.none, .tuple [], .list [.int 0], .list [.bool true], .list ((List.replicate 6 (1 : Int)).map PyData.int), .str "1", .list [.none, .str "1"]] : List PyData), seenD d = false := by
            intro d hd
            simp only [List.mem_cons, List.not_mem_nil, or_false] at hd
            rcases hd with rfl | rfl | rfl | rfl | rfl | rfl | rfl <;> rfl
          clear u1 u2 u3 u4 u5 u6 uL t1 t2 t3 t5 t6 hb1 hb2 hb3 hb4 hb5 hb6 hL
          refine ⟨L, rfl, ⟨_, .of tL⟩, for_it (walk_list (K := K)) (fun j σ H' => ∃ x5 : Option V, σ = [some (.ref a), some (.int i), some (.ref wl), some (.ref D), x4, x5, some (.int n), some (.int r), x8, x9, x10, x11, x12, x13, x14] ∧ Same KL H')
            ⟨_, rfl, Same.refl _⟩ (fun _ _ _ _ ⟨_, _, z⟩ => .of (z _ _ tL)) ?_ ?_⟩
          · rintro j y σ H7 H7' hj ⟨x5, rfl, s7⟩ ⟨rfl, hy⟩
            obtain ⟨d, hd, hdy⟩ := dps_at hds hy
            refine ⟨_, rfl, y, d, .non, .none, rfl, s7.dp hdy, .non, .inl ⟨sd d (List.mem_of_getElem? hd), fun H8 s8 => ⟨rfl, _, rfl, ?_⟩⟩⟩
            rw [same_str (show wordN 3 = "seen" from rfl)]
            refine ite2 (fun c => nomatch c) (fun _ => ?_)
            exact ⟨_, rfl, s7.trans s8⟩
          · rintro σ H7 ⟨x5, rfl, s7⟩
            have W7 := WL.grow s7
            refine ⟨(by show 4 ≤ sizeLine; decide), fun L2 hL2 => ?_⟩
            have W8 := W7.grow (same_new (o := .lst [.int 0, .int 7, .non, .bl true]) hL2)
            have tL2 := upd_same (H := H7) (a := L2) (o := .lst [.int 0, .int 7, .non, .bl true])
            generalize upd H7 L2 (.lst [V.int 0, V.int 7, V.non, V.bl true]) = H8 at W8 tL2 ⊢
            refine ⟨L2, rfl, ⟨_, .of tL2⟩, fun E hE => lc_data (K := K) walk_list (fun j => [V.int 0, V.int 7, V.non, V.bl true].getD j .non) (fun j H x H' hj _ y => ⟨y.1, ?_⟩) (fun _ => false) (fun _ => .none)
              (by decide) hE (fun H' s => .of (s _ _ tL2)) (fun x => rfl) (fun j H9 hj s9 Q kq => ?_) (fun j H9 hj c s9 _ Q kq => nomatch c) (fun H9 ws s9 hw hws => ?_)⟩
            · rw [List.getD_eq_getElem?_getD, y.2]; rfl
            · obtain ⟨e, he, hde⟩ : ∃ e, rowsD e = false ∧ Dp K (upd H9 0 (.lst [])) ([V.int 0, V.int 7, V.non, V.bl true].getD j .non) e := by
                have : j = 0 ∨ j = 1 ∨ j = 2 ∨ j = 3 := by
                  have : j < 4 := hj
                  omega
                rcases this with rfl | rfl | rfl | rfl
                · exact ⟨.int 0, rfl, .int _⟩
                · exact ⟨.int 7, rfl, .int _⟩
                · exact ⟨.none, rfl, .non⟩
                · exact ⟨.bool true, rfl, .bl _⟩
              have hde' : ∀ H', Dp K H' ([V.int 0, V.int 7, V.non, V.bl true].getD j .non) e := by
                intro H'
                have : j = 0 ∨ j = 1 ∨ j = 2 ∨ j = 3 := by
                  have : j < 4 := hj
                  omega
                rcases this with rfl | rfl | rfl | rfl
                · cases hde; exact .int _
                · cases hde; exact .int _
                · cases hde; exact .non
                · cases hde; exact .bl _
              refine ⟨(by show 1 ≤ sizeLine; decide), fun t ht => ⟨_, rfl, .ref t, .list ([1].map PyData.int), _, e, rfl, dp_intsL (ns := [1]) (.of upd_same), hde' _, .inr ⟨rfl, he, fun H' s' => ⟨rfl, _, rfl, ?_⟩⟩⟩⟩
              rw [same_str (show wordN 4 = "row" from rfl)]
              exact kq H' ((same_new ht).trans s')
            · have ew : ((List.range [V.int 0, V.int 7, V.non, V.bl true].length).filter fun _ => false).map (fun _ => PyData.none) = [] := by rw [List.filter_eq_nil_iff.mpr (by simp)]; rfl
              rw [ew] at hws
              refine ⟨Nat.zero_le _, fun e0 he0 => ⟨_, _, .lst (.of ((same_new he0) _ _ hw)) ((same_new he0).dp' hws), .lst (.of upd_same) .nil, sh_tups [], sh_tups [], _, rfl, ?_⟩⟩
              refine ite2 (fun c => nomatch c) (fun _ => ?_)
              exact ⟨_, _, _, _, _, _, _, _, _, _, _, _, _, _, rfl, hHG.trans ((W8.grow s9).grow (same_new he0)).up⟩
    · rintro σ H1 ⟨x1, x2, x3, x4, x5, x6, x7, x8, x9, x10, x11, x12, x13, x14, rfl, s0⟩
      have c1 : seenD (.list ([some 1, some 2].map od)) = true := by decide
      have c2 : seenD (.list ([].map od)) = true := by decide
      have c3 : seenD (.list ([some 2].map od)) = true := by decide
      have d1 : FQ [some 1, some 2] 3 2 = [[1, 1], [1, 2], [1, 3], [2, 2], [2, 3], [3, 3]] := by decide +kernel
      have d2 : FQ [] 2 0 = [[]] := by decide +kernel
      have d3 : FQ [some 2] 6 1 = [] := by decide +kernel
      refine ⟨(by show 2 ≤ sizeLine; decide), fun t ht => ⟨.ref t, .list ([some 1, some 2].map od), .int 3, _, rfl, dp_ointsL (.of upd_same), .int _, fun z => (nomatch z.symm.trans c1), fun _ z => (nomatch z.symm.trans (by decide : rowsD (.int 3) = true)), fun _ _ os' r' e1 l1 e2 l2 H2 p s2 hp => ?_⟩⟩
      have eo := olist_inj e1
      subst eo
      obtain rfl : r' = 3 := by have := PyData.int.inj e2; omega
      rw [show ([some 1, some 2] : List (Option Int)).length = 2 from rfl, d1] at hp
      refine ⟨(by show 2 ≤ sizeLine; decide), fun u hu => ⟨(by show 2 ≤ sizeLine; decide), fun v hv => ?_⟩⟩
      have s3 : Same H2 (upd H2 u (.tup [.int 1, .int 1])) := same_new hu
      refine ⟨_, resD [[1, 1], [1, 2], [1, 3], [2, 2], [2, 3], [3, 3]], (s3.new hv).dp hp, .tup (.of upd_same) (.cons (.int _) (.cons (dp_intsT (ns := [1, 1]) (.of ((same_new hv) _ _ upd_same))) .nil)), sh_res _, sh_res _, true, by rw [eqv_res], ?_⟩
      refine ite2 (fun _ => ?_) (fun c => absurd rfl c)
      refine ⟨Nat.zero_le _, fun t ht => ⟨.ref t, .list (([] : List (Option Int)).map od), .int 2, _, rfl, dp_ointsL (os := []) (.of upd_same), .int _, fun z => (nomatch z.symm.trans c2), fun _ z => (nomatch z.symm.trans (by decide : rowsD (.int 2) = true)), fun _ _ os' r' e1 l1 e2 l2 H3 p s3 hp => ?_⟩⟩
      have eo := olist_inj e1
      subst eo
      obtain rfl : r' = 2 := by have := PyData.int.inj e2; omega
      rw [show ([] : List (Option Int)).length = 0 from rfl, d2] at hp
      refine ⟨Nat.zero_le _, fun u hu => ⟨(by show 2 ≤ sizeLine; decide), fun v hv => ?_⟩⟩
      have s4 : Same H3 (upd H3 u (.tup [])) := same_new hu
      refine ⟨_, resD [[]], (s4.new hv).dp hp, .tup (.of upd_same) (.cons (.int _) (.cons (dp_intsT (ns := []) (.of ((same_new hv) _ _ upd_same))) .nil)), sh_res _, sh_res _, true, by rw [eqv_res], ?_⟩
      refine ite2 (fun _ => ?_) (fun c => absurd rfl c)
      refine ⟨(by show 1 ≤ sizeLine; decide), fun t ht => ⟨.ref t, .list ([some 2].map od), .int 6, _, rfl, dp_ointsL (.of upd_same), .int _, fun z => (nomatch z.symm.trans c3), fun _ z => (nomatch z.symm.trans (by decide : rowsD (.int 6) = true)), fun _ _ os' r' e1 l1 e2 l2 H4 p s5 hp => ?_⟩⟩
      have eo := olist_inj e1
      subst eo
      obtain rfl : r' = 6 := by have := PyData.int.inj e2; omega
      rw [show ([some 2] : List (Option Int)).length = 1 from rfl, d3] at hp
      refine ⟨(by show 2 ≤ sizeLine; decide), fun v hv => ?_⟩
      refine ⟨_, resD [], (same_new hv).dp hp, .tup (.of upd_same) (.cons (.int _) (.cons .non .nil)), sh_res _, sh_res _, ?_⟩
      rw [eqv_res]
      exact k _
end

end Ai
namespace Ai
open PySem PySem.Spec PyProof.Rows L2
theorem all_mk {P : Program} {w : World} {K : PySem.W.Frag} {h : Heap} {mg : Str → Option Value} {fa : Addr} (X : K.In h) (G : h.Ns mainGlobals mg) (hfa : mg "law" = some (.ref fa))
    {tk_MOST_ROW : Tok}
    {tk_MOST_SEEN : Tok}
    {tk_MOST_ROWS : Tok}
    {f_is_whole : Addr} {od_is_whole an_is_whole : Option Addr} {sl_is_whole : Array (Option Value)} {oc_is_whole kV_is_whole dc_is_whole pm_is_whole cd_is_whole ct_is_whole : Value}
    {f_stands : Addr} {od_stands an_stands : Option Addr} {sl_stands : Array (Option Value)} {oc_stands kV_stands dc_stands pm_stands cd_stands ct_stands : Value}
    {f_turns_of : Addr} {od_turns_of an_turns_of : Option Addr} {sl_turns_of : Array (Option Value)} {oc_turns_of kV_turns_of dc_turns_of pm_turns_of cd_turns_of ct_turns_of : Value}
    {f_queues_for : Addr} {od_queues_for an_queues_for : Option Addr} {sl_queues_for : Array (Option Value)} {oc_queues_for kV_queues_for dc_queues_for pm_queues_for cd_queues_for ct_queues_for : Value}
    {f_law_well : Addr} {od_law_well an_law_well : Option Addr} {sl_law_well : Array (Option Value)} {oc_law_well kV_law_well dc_law_well pm_law_well cd_law_well ct_law_well : Value}
    {f_law_take : Addr} {od_law_take an_law_take : Option Addr} {sl_law_take : Array (Option Value)} {oc_law_take kV_law_take dc_law_take pm_law_take cd_law_take ct_law_take : Value}
    {f_law_kinds : Addr} {od_law_kinds an_law_kinds : Option Addr} {sl_law_kinds : Array (Option Value)} {oc_law_kinds kV_law_kinds dc_law_kinds pm_law_kinds cd_law_kinds ct_law_kinds : Value}
    {f_law_refusal : Addr} {od_law_refusal an_law_refusal : Option Addr} {sl_law_refusal : Array (Option Value)} {oc_law_refusal kV_law_refusal dc_law_refusal pm_law_refusal cd_law_refusal ct_law_refusal : Value}
    {f_law_spots : Addr} {od_law_spots an_law_spots : Option Addr} {sl_law_spots : Array (Option Value)} {oc_law_spots kV_law_spots dc_law_spots pm_law_spots cd_law_spots ct_law_spots : Value}
    {f_law_walk : Addr} {od_law_walk an_law_walk : Option Addr} {sl_law_walk : Array (Option Value)} {oc_law_walk kV_law_walk dc_law_walk pm_law_walk cd_law_walk ct_law_walk : Value}
    {f_law_turns : Addr} {od_law_turns an_law_turns : Option Addr} {sl_law_turns : Array (Option Value)} {oc_law_turns kV_law_turns dc_law_turns pm_law_turns cd_law_turns ct_law_turns : Value}
    {f_law_all_queues : Addr} {od_law_all_queues an_law_all_queues : Option Addr} {sl_law_all_queues : Array (Option Value)} {oc_law_all_queues kV_law_all_queues dc_law_all_queues pm_law_all_queues cd_law_all_queues ct_law_all_queues : Value}
    {f_law_word : Addr} {od_law_word an_law_word : Option Addr} {sl_law_word : Array (Option Value)} {oc_law_word kV_law_word dc_law_word pm_law_word cd_law_word ct_law_word : Value}
    {f_law : Addr} {od_law an_law : Option Addr} {sl_law : Array (Option Value)} {oc_law kV_law dc_law pm_law cd_law ct_law : Value}
    {e_AisleError : Addr}
    {e_NoQueue : Addr}
    {e_NoTurn : Addr}
    {e_NoFolk : Addr}
    {e_NoSeen : Addr}
    {e_NoRow : Addr}
    {e_NoPlace : Addr}
    {e_Full : Addr}
    {e_NothingLeft : Addr}
    (z_ValueError : PySem.W.nsIn K mainGlobals "ValueError" = some none)
    (z_all : PySem.W.nsIn K mainGlobals "all" = some none)
    (z_bool : PySem.W.nsIn K mainGlobals "bool" = some none)
    (z_enumerate : PySem.W.nsIn K mainGlobals "enumerate" = some none)
    (z_int : PySem.W.nsIn K mainGlobals "int" = some none)
    (z_isinstance : PySem.W.nsIn K mainGlobals "isinstance" = some none)
    (z_len : PySem.W.nsIn K mainGlobals "len" = some none)
    (z_list : PySem.W.nsIn K mainGlobals "list" = some none)
    (z_max : PySem.W.nsIn K mainGlobals "max" = some none)
    (z_min : PySem.W.nsIn K mainGlobals "min" = some none)
    (z_range : PySem.W.nsIn K mainGlobals "range" = some none)
    (z_zip : PySem.W.nsIn K mainGlobals "zip" = some none)
    (k_MOST_ROW : PySem.W.nsIn K mainGlobals "MOST_ROW" = some (some (.int 99 tk_MOST_ROW)))
    (k_MOST_SEEN : PySem.W.nsIn K mainGlobals "MOST_SEEN" = some (some (.int 5 tk_MOST_SEEN)))
    (k_MOST_ROWS : PySem.W.nsIn K mainGlobals "MOST_ROWS" = some (some (.int 6 tk_MOST_ROWS)))
    (a_is_whole : PySem.W.nsIn K mainGlobals "is_whole" = some (some (.ref f_is_whole)))
    (l_is_whole : K.lookup f_is_whole = some ⟨oc_is_whole, od_is_whole, .func (PySem.W.fnOf "is_whole" "is_whole" (defArgs s_is_whole) (defBody s_is_whole) (defScope s_is_whole) .none kV_is_whole dc_is_whole pm_is_whole an_is_whole cd_is_whole ct_is_whole), sl_is_whole⟩)
    (c_is_whole : PySem.W.codeIn K cd_is_whole "is_whole" = true)
    (k_is_whole : PySem.W.keepIn K (.ref f_is_whole) = true)
    (a_stands : PySem.W.nsIn K mainGlobals "stands" = some (some (.ref f_stands)))
    (l_stands : K.lookup f_stands = some ⟨oc_stands, od_stands, .func (PySem.W.fnOf "stands" "stands" (defArgs s_stands) (defBody s_stands) (defScope s_stands) .none kV_stands dc_stands pm_stands an_stands cd_stands ct_stands), sl_stands⟩)
    (c_stands : PySem.W.codeIn K cd_stands "stands" = true)
    (k_stands : PySem.W.keepIn K (.ref f_stands) = true)
    (a_turns_of : PySem.W.nsIn K mainGlobals "turns_of" = some (some (.ref f_turns_of)))
    (l_turns_of : K.lookup f_turns_of = some ⟨oc_turns_of, od_turns_of, .func (PySem.W.fnOf "turns_of" "turns_of" (defArgs s_turns_of) (defBody s_turns_of) (defScope s_turns_of) .none kV_turns_of dc_turns_of pm_turns_of an_turns_of cd_turns_of ct_turns_of), sl_turns_of⟩)
    (c_turns_of : PySem.W.codeIn K cd_turns_of "turns_of" = true)
    (k_turns_of : PySem.W.keepIn K (.ref f_turns_of) = true)
    (a_queues_for : PySem.W.nsIn K mainGlobals "queues_for" = some (some (.ref f_queues_for)))
    (l_queues_for : K.lookup f_queues_for = some ⟨oc_queues_for, od_queues_for, .func (PySem.W.fnOf "queues_for" "queues_for" (defArgs s_queues_for) (defBody s_queues_for) (defScope s_queues_for) .none kV_queues_for dc_queues_for pm_queues_for an_queues_for cd_queues_for ct_queues_for), sl_queues_for⟩)
    (c_queues_for : PySem.W.codeIn K cd_queues_for "queues_for" = true)
    (k_queues_for : PySem.W.keepIn K (.ref f_queues_for) = true)
    (a_law_well : PySem.W.nsIn K mainGlobals "_law_well" = some (some (.ref f_law_well)))
    (l_law_well : K.lookup f_law_well = some ⟨oc_law_well, od_law_well, .func (PySem.W.fnOf "_law_well" "_law_well" (defArgs s_law_well) (defBody s_law_well) (defScope s_law_well) .none kV_law_well dc_law_well pm_law_well an_law_well cd_law_well ct_law_well), sl_law_well⟩)
    (c_law_well : PySem.W.codeIn K cd_law_well "_law_well" = true)
    (k_law_well : PySem.W.keepIn K (.ref f_law_well) = true)
    (a_law_take : PySem.W.nsIn K mainGlobals "_law_take" = some (some (.ref f_law_take)))
    (l_law_take : K.lookup f_law_take = some ⟨oc_law_take, od_law_take, .func (PySem.W.fnOf "_law_take" "_law_take" (defArgs s_law_take) (defBody s_law_take) (defScope s_law_take) .none kV_law_take dc_law_take pm_law_take an_law_take cd_law_take ct_law_take), sl_law_take⟩)
    (c_law_take : PySem.W.codeIn K cd_law_take "_law_take" = true)
    (k_law_take : PySem.W.keepIn K (.ref f_law_take) = true)
    (a_law_kinds : PySem.W.nsIn K mainGlobals "_law_kinds" = some (some (.ref f_law_kinds)))
    (l_law_kinds : K.lookup f_law_kinds = some ⟨oc_law_kinds, od_law_kinds, .func (PySem.W.fnOf "_law_kinds" "_law_kinds" (defArgs s_law_kinds) (defBody s_law_kinds) (defScope s_law_kinds) .none kV_law_kinds dc_law_kinds pm_law_kinds an_law_kinds cd_law_kinds ct_law_kinds), sl_law_kinds⟩)
    (c_law_kinds : PySem.W.codeIn K cd_law_kinds "_law_kinds" = true)
    (k_law_kinds : PySem.W.keepIn K (.ref f_law_kinds) = true)
    (a_law_refusal : PySem.W.nsIn K mainGlobals "_law_refusal" = some (some (.ref f_law_refusal)))
    (l_law_refusal : K.lookup f_law_refusal = some ⟨oc_law_refusal, od_law_refusal, .func (PySem.W.fnOf "_law_refusal" "_law_refusal" (defArgs s_law_refusal) (defBody s_law_refusal) (defScope s_law_refusal) .none kV_law_refusal dc_law_refusal pm_law_refusal an_law_refusal cd_law_refusal ct_law_refusal), sl_law_refusal⟩)
    (c_law_refusal : PySem.W.codeIn K cd_law_refusal "_law_refusal" = true)
    (k_law_refusal : PySem.W.keepIn K (.ref f_law_refusal) = true)
    (a_law_spots : PySem.W.nsIn K mainGlobals "_law_spots" = some (some (.ref f_law_spots)))
    (l_law_spots : K.lookup f_law_spots = some ⟨oc_law_spots, od_law_spots, .func (PySem.W.fnOf "_law_spots" "_law_spots" (defArgs s_law_spots) (defBody s_law_spots) (defScope s_law_spots) .none kV_law_spots dc_law_spots pm_law_spots an_law_spots cd_law_spots ct_law_spots), sl_law_spots⟩)
    (c_law_spots : PySem.W.codeIn K cd_law_spots "_law_spots" = true)
    (k_law_spots : PySem.W.keepIn K (.ref f_law_spots) = true)
    (a_law_walk : PySem.W.nsIn K mainGlobals "_law_walk" = some (some (.ref f_law_walk)))
    (l_law_walk : K.lookup f_law_walk = some ⟨oc_law_walk, od_law_walk, .func (PySem.W.fnOf "_law_walk" "_law_walk" (defArgs s_law_walk) (defBody s_law_walk) (defScope s_law_walk) .none kV_law_walk dc_law_walk pm_law_walk an_law_walk cd_law_walk ct_law_walk), sl_law_walk⟩)
    (c_law_walk : PySem.W.codeIn K cd_law_walk "_law_walk" = true)
    (k_law_walk : PySem.W.keepIn K (.ref f_law_walk) = true)
    (a_law_turns : PySem.W.nsIn K mainGlobals "_law_turns" = some (some (.ref f_law_turns)))
    (l_law_turns : K.lookup f_law_turns = some ⟨oc_law_turns, od_law_turns, .func (PySem.W.fnOf "_law_turns" "_law_turns" (defArgs s_law_turns) (defBody s_law_turns) (defScope s_law_turns) .none kV_law_turns dc_law_turns pm_law_turns an_law_turns cd_law_turns ct_law_turns), sl_law_turns⟩)
    (c_law_turns : PySem.W.codeIn K cd_law_turns "_law_turns" = true)
    (k_law_turns : PySem.W.keepIn K (.ref f_law_turns) = true)
    (a_law_all_queues : PySem.W.nsIn K mainGlobals "_law_all_queues" = some (some (.ref f_law_all_queues)))
    (l_law_all_queues : K.lookup f_law_all_queues = some ⟨oc_law_all_queues, od_law_all_queues, .func (PySem.W.fnOf "_law_all_queues" "_law_all_queues" (defArgs s_law_all_queues) (defBody s_law_all_queues) (defScope s_law_all_queues) .none kV_law_all_queues dc_law_all_queues pm_law_all_queues an_law_all_queues cd_law_all_queues ct_law_all_queues), sl_law_all_queues⟩)
    (c_law_all_queues : PySem.W.codeIn K cd_law_all_queues "_law_all_queues" = true)
    (k_law_all_queues : PySem.W.keepIn K (.ref f_law_all_queues) = true)
    (a_law_word : PySem.W.nsIn K mainGlobals "_law_word" = some (some (.ref f_law_word)))
    (l_law_word : K.lookup f_law_word = some ⟨oc_law_word, od_law_word, .func (PySem.W.fnOf "_law_word" "_law_word" (defArgs s_law_word) (defBody s_law_word) (defScope s_law_word) .none kV_law_word dc_law_word pm_law_word an_law_word cd_law_word ct_law_word), sl_law_word⟩)
    (c_law_word : PySem.W.codeIn K cd_law_word "_law_word" = true)
    (k_law_word : PySem.W.keepIn K (.ref f_law_word) = true)
    (a_law : PySem.W.nsIn K mainGlobals "law" = some (some (.ref f_law)))
    (l_law : K.lookup f_law = some ⟨oc_law, od_law, .func (PySem.W.fnOf "law" "law" (defArgs s_law) (defBody s_law) (defScope s_law) .none kV_law dc_law pm_law an_law cd_law ct_law), sl_law⟩)
    (c_law : PySem.W.codeIn K cd_law "law" = true)
    (k_law : PySem.W.keepIn K (.ref f_law) = true)
    (h_AisleError : PySem.W.nsIn K mainGlobals "AisleError" = some (some (.ref e_AisleError)))
    (p_AisleError : PySem.W.keepIn K (.ref e_AisleError) = true)
    (x_AisleError : PySem.W.excIn K e_AisleError [.type "ValueError", .type "Exception", .type "BaseException", .type "object"] "ValueError.__new__" = true)
    (s_AisleError : PySem.W.subIn K (.ref e_AisleError) (.type "BaseException") = some true)
    (t_AisleError : PySem.W.typeIn K (.ref e_AisleError) = some (.type "type"))
    (h_NoQueue : PySem.W.nsIn K mainGlobals "NoQueue" = some (some (.ref e_NoQueue)))
    (p_NoQueue : PySem.W.keepIn K (.ref e_NoQueue) = true)
    (x_NoQueue : PySem.W.excIn K e_NoQueue [.type "ValueError", .type "Exception", .type "BaseException", .type "object"] "ValueError.__new__" = true)
    (s_NoQueue : PySem.W.subIn K (.ref e_NoQueue) (.type "BaseException") = some true)
    (t_NoQueue : PySem.W.typeIn K (.ref e_NoQueue) = some (.type "type"))
    (h_NoTurn : PySem.W.nsIn K mainGlobals "NoTurn" = some (some (.ref e_NoTurn)))
    (p_NoTurn : PySem.W.keepIn K (.ref e_NoTurn) = true)
    (x_NoTurn : PySem.W.excIn K e_NoTurn [.type "ValueError", .type "Exception", .type "BaseException", .type "object"] "ValueError.__new__" = true)
    (s_NoTurn : PySem.W.subIn K (.ref e_NoTurn) (.type "BaseException") = some true)
    (t_NoTurn : PySem.W.typeIn K (.ref e_NoTurn) = some (.type "type"))
    (h_NoFolk : PySem.W.nsIn K mainGlobals "NoFolk" = some (some (.ref e_NoFolk)))
    (p_NoFolk : PySem.W.keepIn K (.ref e_NoFolk) = true)
    (x_NoFolk : PySem.W.excIn K e_NoFolk [.type "ValueError", .type "Exception", .type "BaseException", .type "object"] "ValueError.__new__" = true)
    (s_NoFolk : PySem.W.subIn K (.ref e_NoFolk) (.type "BaseException") = some true)
    (t_NoFolk : PySem.W.typeIn K (.ref e_NoFolk) = some (.type "type"))
    (h_NoSeen : PySem.W.nsIn K mainGlobals "NoSeen" = some (some (.ref e_NoSeen)))
    (p_NoSeen : PySem.W.keepIn K (.ref e_NoSeen) = true)
    (x_NoSeen : PySem.W.excIn K e_NoSeen [.type "ValueError", .type "Exception", .type "BaseException", .type "object"] "ValueError.__new__" = true)
    (s_NoSeen : PySem.W.subIn K (.ref e_NoSeen) (.type "BaseException") = some true)
    (t_NoSeen : PySem.W.typeIn K (.ref e_NoSeen) = some (.type "type"))
    (h_NoRow : PySem.W.nsIn K mainGlobals "NoRow" = some (some (.ref e_NoRow)))
    (p_NoRow : PySem.W.keepIn K (.ref e_NoRow) = true)
    (x_NoRow : PySem.W.excIn K e_NoRow [.type "ValueError", .type "Exception", .type "BaseException", .type "object"] "ValueError.__new__" = true)
    (s_NoRow : PySem.W.subIn K (.ref e_NoRow) (.type "BaseException") = some true)
    (t_NoRow : PySem.W.typeIn K (.ref e_NoRow) = some (.type "type"))
    (h_NoPlace : PySem.W.nsIn K mainGlobals "NoPlace" = some (some (.ref e_NoPlace)))
    (p_NoPlace : PySem.W.keepIn K (.ref e_NoPlace) = true)
    (x_NoPlace : PySem.W.excIn K e_NoPlace [.type "ValueError", .type "Exception", .type "BaseException", .type "object"] "ValueError.__new__" = true)
    (s_NoPlace : PySem.W.subIn K (.ref e_NoPlace) (.type "BaseException") = some true)
    (t_NoPlace : PySem.W.typeIn K (.ref e_NoPlace) = some (.type "type"))
    (h_Full : PySem.W.nsIn K mainGlobals "Full" = some (some (.ref e_Full)))
    (p_Full : PySem.W.keepIn K (.ref e_Full) = true)
    (x_Full : PySem.W.excIn K e_Full [.type "ValueError", .type "Exception", .type "BaseException", .type "object"] "ValueError.__new__" = true)
    (s_Full : PySem.W.subIn K (.ref e_Full) (.type "BaseException") = some true)
    (t_Full : PySem.W.typeIn K (.ref e_Full) = some (.type "type"))
    (h_NothingLeft : PySem.W.nsIn K mainGlobals "NothingLeft" = some (some (.ref e_NothingLeft)))
    (p_NothingLeft : PySem.W.keepIn K (.ref e_NothingLeft) = true)
    (x_NothingLeft : PySem.W.excIn K e_NothingLeft [.type "ValueError", .type "Exception", .type "BaseException", .type "object"] "ValueError.__new__" = true)
    (s_NothingLeft : PySem.W.subIn K (.ref e_NothingLeft) (.type "BaseException") = some true)
    (t_NothingLeft : PySem.W.typeIn K (.ref e_NothingLeft) = some (.type "type"))
    (w_NoSeen : KnD K [e_NoQueue, e_NoTurn, e_NoFolk, e_NoSeen, e_NoRow, e_NoPlace, e_Full, e_NothingLeft] e_AisleError e_NoSeen 3)
    (w_NoRow : KnD K [e_NoQueue, e_NoTurn, e_NoFolk, e_NoSeen, e_NoRow, e_NoPlace, e_Full, e_NothingLeft] e_AisleError e_NoRow 4)
    : ∃ fd : FuncData, (∀ (s : Shared) (v : Value), BindsTo s fd ⟨[v], []⟩ [("script", v)]) ∧ ∀ base : Heap, K.In base → base.Ns mainGlobals mg → FnOk P w K mg base CX0 5 fa fd ["script"] (sp_law K) := by
  have e := hfa.symm.trans (PySem.W.mg_of X G a_law)
  cases e
  let T : Fns K mg := {
    n_ValueError := PySem.W.mg_none_of X G z_ValueError,
    n_all := PySem.W.mg_none_of X G z_all,
    n_bool := PySem.W.mg_none_of X G z_bool,
    n_enumerate := PySem.W.mg_none_of X G z_enumerate,
    n_int := PySem.W.mg_none_of X G z_int,
    n_isinstance := PySem.W.mg_none_of X G z_isinstance,
    n_len := PySem.W.mg_none_of X G z_len,
    n_list := PySem.W.mg_none_of X G z_list,
    n_max := PySem.W.mg_none_of X G z_max,
    n_min := PySem.W.mg_none_of X G z_min,
    n_range := PySem.W.mg_none_of X G z_range,
    n_zip := PySem.W.mg_none_of X G z_zip,
    tk_MOST_ROW := tk_MOST_ROW,
    c_MOST_ROW := PySem.W.mg_of X G k_MOST_ROW,
    tk_MOST_SEEN := tk_MOST_SEEN,
    c_MOST_SEEN := PySem.W.mg_of X G k_MOST_SEEN,
    tk_MOST_ROWS := tk_MOST_ROWS,
    c_MOST_ROWS := PySem.W.mg_of X G k_MOST_ROWS,
    a_is_whole := f_is_whole,
    d_is_whole := _,
    F_is_whole := fun_mk (st := s_is_whole) l_is_whole c_is_whole k_is_whole,
    b_is_whole := (fun_mk (st := s_is_whole) l_is_whole c_is_whole k_is_whole).binds (ps := ["thing"]) fun _ _ _ _ _ _ us hl => match us, hl with | [_], _ => rfl,
    g_is_whole := PySem.W.mg_of X G a_is_whole,
    a_stands := f_stands,
    d_stands := _,
    F_stands := fun_mk (st := s_stands) l_stands c_stands k_stands,
    b_stands := (fun_mk (st := s_stands) l_stands c_stands k_stands).binds (ps := ["queue", "there"]) fun _ _ _ _ _ _ us hl => match us, hl with | [_, _], _ => rfl,
    g_stands := PySem.W.mg_of X G a_stands,
    a_turns_of := f_turns_of,
    d_turns_of := _,
    F_turns_of := fun_mk (st := s_turns_of) l_turns_of c_turns_of k_turns_of,
    b_turns_of := (fun_mk (st := s_turns_of) l_turns_of c_turns_of k_turns_of).binds (ps := ["queue"]) fun _ _ _ _ _ _ us hl => match us, hl with | [_], _ => rfl,
    g_turns_of := PySem.W.mg_of X G a_turns_of,
    a_queues_for := f_queues_for,
    d_queues_for := _,
    F_queues_for := fun_mk (st := s_queues_for) l_queues_for c_queues_for k_queues_for,
    b_queues_for := (fun_mk (st := s_queues_for) l_queues_for c_queues_for k_queues_for).binds (ps := ["seen", "rows"]) fun _ _ _ _ _ _ us hl => match us, hl with | [_, _], _ => rfl,
    g_queues_for := PySem.W.mg_of X G a_queues_for,
    a_law_well := f_law_well,
    d_law_well := _,
    F_law_well := fun_mk (st := s_law_well) l_law_well c_law_well k_law_well,
    b_law_well := (fun_mk (st := s_law_well) l_law_well c_law_well k_law_well).binds (ps := ["script", "k"]) fun _ _ _ _ _ _ us hl => match us, hl with | [_, _], _ => rfl,
    g_law_well := PySem.W.mg_of X G a_law_well,
    a_law_take := f_law_take,
    d_law_take := _,
    F_law_take := fun_mk (st := s_law_take) l_law_take c_law_take k_law_take,
    b_law_take := (fun_mk (st := s_law_take) l_law_take c_law_take k_law_take).binds (ps := ["well", "many"]) fun _ _ _ _ _ _ us hl => match us, hl with | [_, _], _ => rfl,
    g_law_take := PySem.W.mg_of X G a_law_take,
    a_law_kinds := f_law_kinds,
    d_law_kinds := _,
    F_law_kinds := fun_mk (st := s_law_kinds) l_law_kinds c_law_kinds k_law_kinds,
    b_law_kinds := (fun_mk (st := s_law_kinds) l_law_kinds c_law_kinds k_law_kinds).binds (ps := ["e"]) fun _ _ _ _ _ _ us hl => match us, hl with | [_], _ => rfl,
    g_law_kinds := PySem.W.mg_of X G a_law_kinds,
    a_law_refusal := f_law_refusal,
    d_law_refusal := _,
    F_law_refusal := fun_mk (st := s_law_refusal) l_law_refusal c_law_refusal k_law_refusal,
    b_law_refusal := (fun_mk (st := s_law_refusal) l_law_refusal c_law_refusal k_law_refusal).binds (ps := ["e"]) fun _ _ _ _ _ _ us hl => match us, hl with | [_], _ => rfl,
    g_law_refusal := PySem.W.mg_of X G a_law_refusal,
    a_law_spots := f_law_spots,
    d_law_spots := _,
    F_law_spots := fun_mk (st := s_law_spots) l_law_spots c_law_spots k_law_spots,
    b_law_spots := (fun_mk (st := s_law_spots) l_law_spots c_law_spots k_law_spots).binds (ps := ["queue", "there"]) fun _ _ _ _ _ _ us hl => match us, hl with | [_, _], _ => rfl,
    g_law_spots := PySem.W.mg_of X G a_law_spots,
    a_law_walk := f_law_walk,
    d_law_walk := _,
    F_law_walk := fun_mk (st := s_law_walk) l_law_walk c_law_walk k_law_walk,
    b_law_walk := (fun_mk (st := s_law_walk) l_law_walk c_law_walk k_law_walk).binds (ps := ["queue"]) fun _ _ _ _ _ _ us hl => match us, hl with | [_], _ => rfl,
    g_law_walk := PySem.W.mg_of X G a_law_walk,
    a_law_turns := f_law_turns,
    d_law_turns := _,
    F_law_turns := fun_mk (st := s_law_turns) l_law_turns c_law_turns k_law_turns,
    b_law_turns := (fun_mk (st := s_law_turns) l_law_turns c_law_turns k_law_turns).binds (ps := ["queue"]) fun _ _ _ _ _ _ us hl => match us, hl with | [_], _ => rfl,
    g_law_turns := PySem.W.mg_of X G a_law_turns,
    a_law_all_queues := f_law_all_queues,
    d_law_all_queues := _,
    F_law_all_queues := fun_mk (st := s_law_all_queues) l_law_all_queues c_law_all_queues k_law_all_queues,
    b_law_all_queues := (fun_mk (st := s_law_all_queues) l_law_all_queues c_law_all_queues k_law_all_queues).binds (ps := ["many", "rows"]) fun _ _ _ _ _ _ us hl => match us, hl with | [_, _], _ => rfl,
    g_law_all_queues := PySem.W.mg_of X G a_law_all_queues,
    a_law_word := f_law_word,
    d_law_word := _,
    F_law_word := fun_mk (st := s_law_word) l_law_word c_law_word k_law_word,
    b_law_word := (fun_mk (st := s_law_word) l_law_word c_law_word k_law_word).binds (ps := ["seen", "rows"]) fun _ _ _ _ _ _ us hl => match us, hl with | [_, _], _ => rfl,
    g_law_word := PySem.W.mg_of X G a_law_word,
    a_law := fa,
    d_law := _,
    F_law := fun_mk (st := s_law) l_law c_law k_law,
    b_law := (fun_mk (st := s_law) l_law c_law k_law).binds (ps := ["script"]) fun _ _ _ _ _ _ us hl => match us, hl with | [_], _ => rfl,
    g_law := PySem.W.mg_of X G a_law,
    a_AisleError := e_AisleError,
    g_AisleError := PySem.W.mg_of X G h_AisleError,
    kp_AisleError := p_AisleError,
    x_AisleError := x_AisleError,
    sb_AisleError := s_AisleError,
    ty_AisleError := t_AisleError,
    a_NoQueue := e_NoQueue,
    g_NoQueue := PySem.W.mg_of X G h_NoQueue,
    kp_NoQueue := p_NoQueue,
    x_NoQueue := x_NoQueue,
    sb_NoQueue := s_NoQueue,
    ty_NoQueue := t_NoQueue,
    a_NoTurn := e_NoTurn,
    g_NoTurn := PySem.W.mg_of X G h_NoTurn,
    kp_NoTurn := p_NoTurn,
    x_NoTurn := x_NoTurn,
    sb_NoTurn := s_NoTurn,
    ty_NoTurn := t_NoTurn,
    a_NoFolk := e_NoFolk,
    g_NoFolk := PySem.W.mg_of X G h_NoFolk,
    kp_NoFolk := p_NoFolk,
    x_NoFolk := x_NoFolk,
    sb_NoFolk := s_NoFolk,
    ty_NoFolk := t_NoFolk,
    a_NoSeen := e_NoSeen,
    g_NoSeen := PySem.W.mg_of X G h_NoSeen,
    kp_NoSeen := p_NoSeen,
    x_NoSeen := x_NoSeen,
    sb_NoSeen := s_NoSeen,
    ty_NoSeen := t_NoSeen,
    a_NoRow := e_NoRow,
    g_NoRow := PySem.W.mg_of X G h_NoRow,
    kp_NoRow := p_NoRow,
    x_NoRow := x_NoRow,
    sb_NoRow := s_NoRow,
    ty_NoRow := t_NoRow,
    a_NoPlace := e_NoPlace,
    g_NoPlace := PySem.W.mg_of X G h_NoPlace,
    kp_NoPlace := p_NoPlace,
    x_NoPlace := x_NoPlace,
    sb_NoPlace := s_NoPlace,
    ty_NoPlace := t_NoPlace,
    a_Full := e_Full,
    g_Full := PySem.W.mg_of X G h_Full,
    kp_Full := p_Full,
    x_Full := x_Full,
    sb_Full := s_Full,
    ty_Full := t_Full,
    a_NothingLeft := e_NothingLeft,
    g_NothingLeft := PySem.W.mg_of X G h_NothingLeft,
    kp_NothingLeft := p_NothingLeft,
    x_NothingLeft := x_NothingLeft,
    sb_NothingLeft := s_NothingLeft,
    ty_NothingLeft := t_NothingLeft,
    kn_NoSeen := w_NoSeen,
    kn_NoRow := w_NoRow }
  exact ⟨_, fun s v => .of_eq rfl, fun base _ _ => ok_law (P := P) (w := w) (base := base) T⟩
end Ai
open PySem PySem.W PyProof.Rows
set_option maxHeartbeats 0 in
theorem PySem.Challenge.cw_aisleturns_k41_whole_what_was_seen_holds : PySem.Challenge.rw_aisleturns_k41_whole_what_was_seen.Holds := by
  w_on; o_law; k_head; (case hw => w_witness2)
  k_fill
  refine L2.walk_of (l := PySem.Challenge.rw_aisleturns_k41_whole_what_was_seen) (n := 63) (k := 5) (x := "script") (CX := fun _ => L2.CX0) (sp := fun w => Ai.sp_law _) rfl (by decide) rfl ⟨rfl, by decide, by decide⟩ (fun w h Y => PySem.W.kIn_of Y) ?F (fun _ _ a ns hl _ hS => ⟨a, ns, rfl, hS, hl, fun _ => rfl⟩) (fun _ _ _ _ _ h => h)
  case F =>
    intro w mg fa h KX G hmg
    refine' Ai.all_mk KX G hmg ?z_ValueError ?z_all ?z_bool ?z_enumerate ?z_int ?z_isinstance ?z_len ?z_list ?z_max ?z_min ?z_range ?z_zip ?k_MOST_ROW ?k_MOST_SEEN ?k_MOST_ROWS ?a_is_whole ?l_is_whole ?c_is_whole ?k_is_whole ?a_stands ?l_stands ?c_stands ?k_stands ?a_turns_of ?l_turns_of ?c_turns_of ?k_turns_of ?a_queues_for ?l_queues_for ?c_queues_for ?k_queues_for ?a_law_well ?l_law_well ?c_law_well ?k_law_well ?a_law_take ?l_law_take ?c_law_take ?k_law_take ?a_law_kinds ?l_law_kinds ?c_law_kinds ?k_law_kinds ?a_law_refusal ?l_law_refusal ?c_law_refusal ?k_law_refusal ?a_law_spots ?l_law_spots ?c_law_spots ?k_law_spots ?a_law_walk ?l_law_walk ?c_law_walk ?k_law_walk ?a_law_turns ?l_law_turns ?c_law_turns ?k_law_turns ?a_law_all_queues ?l_law_all_queues ?c_law_all_queues ?k_law_all_queues ?a_law_word ?l_law_word ?c_law_word ?k_law_word ?a_law ?l_law ?c_law ?k_law ?h_AisleError ?p_AisleError ?x_AisleError ?s_AisleError ?t_AisleError ?h_NoQueue ?p_NoQueue ?x_NoQueue ?s_NoQueue ?t_NoQueue ?h_NoTurn ?p_NoTurn ?x_NoTurn ?s_NoTurn ?t_NoTurn ?h_NoFolk ?p_NoFolk ?x_NoFolk ?s_NoFolk ?t_NoFolk ?h_NoSeen ?p_NoSeen ?x_NoSeen ?s_NoSeen ?t_NoSeen ?h_NoRow ?p_NoRow ?x_NoRow ?s_NoRow ?t_NoRow ?h_NoPlace ?p_NoPlace ?x_NoPlace ?s_NoPlace ?t_NoPlace ?h_Full ?p_Full ?x_Full ?s_Full ?t_Full ?h_NothingLeft ?p_NothingLeft ?x_NothingLeft ?s_NothingLeft ?t_NothingLeft ?w_NoSeen ?w_NoRow
    (case z_ValueError => k_is)
    (case z_all => k_is)
    (case z_bool => k_is)
    (case z_enumerate => k_is)
    (case z_int => k_is)
    (case z_isinstance => k_is)
    (case z_len => k_is)
    (case z_list => k_is)
    (case z_max => k_is)
    (case z_min => k_is)
    (case z_range => k_is)
    (case z_zip => k_is)
    (case k_MOST_ROW => k_is)
    (case k_MOST_SEEN => k_is)
    (case k_MOST_ROWS => k_is)
    (case a_is_whole => k_is)
    (case l_is_whole => k_is)
    (case c_is_whole => k_is)
    (case k_is_whole => k_is)
    (case a_stands => k_is)
    (case l_stands => k_is)
    (case c_stands => k_is)
    (case k_stands => k_is)
    (case a_turns_of => k_is)
    (case l_turns_of => k_is)
    (case c_turns_of => k_is)
    (case k_turns_of => k_is)
    (case a_queues_for => k_is)
    (case l_queues_for => k_is)
    (case c_queues_for => k_is)
    (case k_queues_for => k_is)
    (case a_law_well => k_is)
    (case l_law_well => k_is)
    (case c_law_well => k_is)
    (case k_law_well => k_is)
    (case a_law_take => k_is)
    (case l_law_take => k_is)
    (case c_law_take => k_is)
    (case k_law_take => k_is)
    (case a_law_kinds => k_is)
    (case l_law_kinds => k_is)
    (case c_law_kinds => k_is)
    (case k_law_kinds => k_is)
    (case a_law_refusal => k_is)
    (case l_law_refusal => k_is)
    (case c_law_refusal => k_is)
    (case k_law_refusal => k_is)
    (case a_law_spots => k_is)
    (case l_law_spots => k_is)
    (case c_law_spots => k_is)
    (case k_law_spots => k_is)
    (case a_law_walk => k_is)
    (case l_law_walk => k_is)
    (case c_law_walk => k_is)
    (case k_law_walk => k_is)
    (case a_law_turns => k_is)
    (case l_law_turns => k_is)
    (case c_law_turns => k_is)
    (case k_law_turns => k_is)
    (case a_law_all_queues => k_is)
    (case l_law_all_queues => k_is)
    (case c_law_all_queues => k_is)
    (case k_law_all_queues => k_is)
    (case a_law_word => k_is)
    (case l_law_word => k_is)
    (case c_law_word => k_is)
    (case k_law_word => k_is)
    (case a_law => k_is)
    (case l_law => k_is)
    (case c_law => k_is)
    (case k_law => k_is)
    (case h_AisleError => k_is)
    (case p_AisleError => k_is)
    (case x_AisleError => k_exc)
    (case s_AisleError => k_is)
    (case t_AisleError => k_is)
    (case h_NoQueue => k_is)
    (case p_NoQueue => k_is)
    (case x_NoQueue => k_exc)
    (case s_NoQueue => k_is)
    (case t_NoQueue => k_is)
    (case h_NoTurn => k_is)
    (case p_NoTurn => k_is)
    (case x_NoTurn => k_exc)
    (case s_NoTurn => k_is)
    (case t_NoTurn => k_is)
    (case h_NoFolk => k_is)
    (case p_NoFolk => k_is)
    (case x_NoFolk => k_exc)
    (case s_NoFolk => k_is)
    (case t_NoFolk => k_is)
    (case h_NoSeen => k_is)
    (case p_NoSeen => k_is)
    (case x_NoSeen => k_exc)
    (case s_NoSeen => k_is)
    (case t_NoSeen => k_is)
    (case h_NoRow => k_is)
    (case p_NoRow => k_is)
    (case x_NoRow => k_exc)
    (case s_NoRow => k_is)
    (case t_NoRow => k_is)
    (case h_NoPlace => k_is)
    (case p_NoPlace => k_is)
    (case x_NoPlace => k_exc)
    (case s_NoPlace => k_is)
    (case t_NoPlace => k_is)
    (case h_Full => k_is)
    (case p_Full => k_is)
    (case x_Full => k_exc)
    (case s_Full => k_is)
    (case t_Full => k_is)
    (case h_NothingLeft => k_is)
    (case p_NothingLeft => k_is)
    (case x_NothingLeft => k_exc)
    (case s_NothingLeft => k_is)
    (case t_NothingLeft => k_is)
    (case w_NoSeen =>
      refine' Ai.knd_of ⟨?g1, ?g2, ?g3, ?g4, ?g5, ?g6, ?g7, ?g8⟩ ?k0 ?k1 ?k2 ?k3 ?k4 ?k5 ?k6 ?k7 ?ka ?kv ?ex
      (case g1 => k_is)
      (case g2 => k_is)
      (case g3 => k_is)
      (case g4 => k_is)
      (case g5 => k_is)
      (case g6 => k_is)
      (case g7 => k_is)
      (case g8 => k_is)
      (case k0 => exact Ai.kit_own (by rfl) (by k_is) (by k_is) (by k_is))
      (case k1 => exact Ai.kit_own (by rfl) (by k_is) (by k_is) (by k_is))
      (case k2 => exact Ai.kit_own (by rfl) (by k_is) (by k_is) (by k_is))
      (case k3 => exact Ai.kit_self _ _)
      (case k4 => exact Ai.kit_own (by rfl) (by k_is) (by k_is) (by k_is))
      (case k5 => exact Ai.kit_own (by rfl) (by k_is) (by k_is) (by k_is))
      (case k6 => exact Ai.kit_own (by rfl) (by k_is) (by k_is) (by k_is))
      (case k7 => exact Ai.kit_own (by rfl) (by k_is) (by k_is) (by k_is))
      (case ka => exact Ai.kit_own (by rfl) (by k_is) (by k_is) (by k_is))
      (case kv => exact Ai.kit_vt (by k_is))
      (case ex => exact PySem.W.exm_ref (by k_is) (by k_is) (by k_is) (by k_is)))
    (case w_NoRow =>
      refine' Ai.knd_of ⟨?g1, ?g2, ?g3, ?g4, ?g5, ?g6, ?g7, ?g8⟩ ?k0 ?k1 ?k2 ?k3 ?k4 ?k5 ?k6 ?k7 ?ka ?kv ?ex
      (case g1 => k_is)
      (case g2 => k_is)
      (case g3 => k_is)
      (case g4 => k_is)
      (case g5 => k_is)
      (case g6 => k_is)
      (case g7 => k_is)
      (case g8 => k_is)
      (case k0 => exact Ai.kit_own (by rfl) (by k_is) (by k_is) (by k_is))
      (case k1 => exact Ai.kit_own (by rfl) (by k_is) (by k_is) (by k_is))
      (case k2 => exact Ai.kit_own (by rfl) (by k_is) (by k_is) (by k_is))
      (case k3 => exact Ai.kit_own (by rfl) (by k_is) (by k_is) (by k_is))
      (case k4 => exact Ai.kit_self _ _)
      (case k5 => exact Ai.kit_own (by rfl) (by k_is) (by k_is) (by k_is))
      (case k6 => exact Ai.kit_own (by rfl) (by k_is) (by k_is) (by k_is))
      (case k7 => exact Ai.kit_own (by rfl) (by k_is) (by k_is) (by k_is))
      (case ka => exact Ai.kit_own (by rfl) (by k_is) (by k_is) (by k_is))
      (case kv => exact Ai.kit_vt (by k_is))
      (case ex => exact PySem.W.exm_ref (by k_is) (by k_is) (by k_is) (by k_is)))
