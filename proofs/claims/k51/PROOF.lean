import PyProof.Rows.All
import Wide.All
import OpenK.AllK
import Wide.FinOn
import HandS.ForMost
import HandS.ForExc
import HandS.Walk
import HandS.IsInst
import HandS.Conv
import HandS.Style
import HandS.TupAny
import HandS.TupMul
import KE.GoesEnum
import KE.GoesZip
import HandS.Iter
import HandS.Exc
import HandS.ExcIs
import HandS.Hot
import HandS.HotCalls
import HandS.WordsExc
import HandS.ExcCtx
import HandS.Comp
import PySem.Challenge.RW_aisleturns_k51_queues_kept_by_hand
set_option Elab.async false
set_option linter.all false
set_option maxRecDepth 100000
set_option maxHeartbeats 8000000
/-! plain lists, no program: where folk stand, who stays behind a turn, in which turn each one stows -/
namespace Ai

/-- one who stands in the aisle: the place in the queue, the row -/
abbrev Pr := Nat × Int
/-- where one of the row r stands behind one at a -/
def put (a r : Int) : Int := if a - 1 < r then a - 1 else r
theorem put_le (a r : Int) : put a r ≤ r := by unfold put; split <;> omega
theorem put_eq {a r : Int} : put a r = r ↔ r < a := by unfold put; split <;> omega
theorem put_lt {a r : Int} : put a r < r ↔ ¬ r < a := by unfold put; split <;> omega
theorem put_sit {a r : Int} (h : r < a) : put a r = r := put_eq.mpr h
theorem put_wait {a r : Int} (h : ¬ r < a) : put a r = a - 1 := by unfold put; split <;> omega

def stay : Int → List Pr → List Pr
  | _, [] => []
  | a, (p, r) :: P => if r < a then stay r P else (p, r) :: stay (a - 1) P
def spots : Int → List Pr → List Int
  | _, [] => []
  | a, (_, r) :: P => put a r :: spots (put a r) P
/-- all places of the queue, none for who is not there -/
def stL (th : Nat → Bool) : Int → Nat → List Int → List (Option Int)
  | _, _, [] => []
  | a, i, r :: q => if th i = true then some (put a r) :: stL th (put a r) (i + 1) q else none :: stL th a (i + 1) q
def en : Nat → List Int → List Pr
  | _, [] => []
  | i, r :: q => (i, r) :: en (i + 1) q

theorem en_fst (q : List Int) : ∀ i, (en i q).map Prod.fst = List.range' i q.length := by
  induction q with
  | nil => intro i; rfl
  | cons r q ih => intro i; simp [en, ih, List.range'_succ]
theorem en_snd (q : List Int) : ∀ i, (en i q).map Prod.snd = q := by
  induction q with
  | nil => intro i; rfl
  | cons r q ih => intro i; simp [en, ih]
theorem en_length (q : List Int) (i : Nat) : (en i q).length = q.length := by
  have := congrArg List.length (en_snd q i)
  simpa using this
theorem en_nodup (q : List Int) (i : Nat) : ((en i q).map Prod.fst).Nodup := by
  rw [en_fst]; exact List.nodup_range'
theorem en_mem {q : List Int} : ∀ {i p : Nat} {r : Int}, (p, r) ∈ en i q → i ≤ p ∧ p < i + q.length ∧ q[p - i]? = some r := by
  induction q with
  | nil => intro i p r h; simp [en] at h
  | cons a q ih =>
    intro i p r h
    simp only [en, List.mem_cons, Prod.mk.injEq] at h
    rcases h with ⟨rfl, rfl⟩ | h
    · simp
    · obtain ⟨h1, h2, h3⟩ := ih h
      refine ⟨by omega, by simp; omega, ?_⟩
      have : p - i = (p - (i + 1)) + 1 := by omega
      rw [this]; simpa using h3
theorem en_app (a b : List Int) : ∀ i, en i (a ++ b) = en i a ++ en (i + a.length) b := by
  induction a with
  | nil => intro i; simp [en]
  | cons r a ih =>
    intro i
    simp only [List.cons_append, en, ih, List.length_cons]
    rw [show i + 1 + a.length = i + (a.length + 1) by omega]

theorem stay_sub : ∀ (P : List Pr) (a : Int), (stay a P).Sublist P
  | [], _ => by simp [stay]
  | (p, r) :: P, a => by
    simp only [stay]
    split
    · exact (stay_sub P r).cons _
    · exact (stay_sub P (a - 1)).cons₂ _
theorem stay_mono {A B : List Pr} (h : A.Sublist B) : ∀ {a b : Int}, b ≤ a → (stay a A).Sublist (stay b B) := by
  induction h with
  | slnil => intro a b _; simp [stay]
  | @cons A B x h ih =>
    intro a b hab
    obtain ⟨p, r⟩ := x
    simp only [stay]
    split
    · exact ih (by omega)
    · exact (ih (by omega)).cons _
  | @cons_cons A B x h ih =>
    intro a b hab
    obtain ⟨p, r⟩ := x
    simp only [stay]
    by_cases h1 : r < b
    · rw [if_pos h1, if_pos (by omega)]
      exact ih (Int.le_refl _)
    · rw [if_neg h1]
      by_cases h2 : r < a
      · rw [if_pos h2]
        exact (ih (by omega)).cons _
      · rw [if_neg h2]
        exact (ih (by omega)).cons₂ _
theorem stay_less {P : List Pr} {a : Int} (h : P ≠ []) (hr : ∀ x ∈ P, x.2 < a) : (stay a P).length < P.length := by
  cases P with
  | nil => exact absurd rfl h
  | cons x P =>
    obtain ⟨p, r⟩ := x
    simp only [stay]
    rw [if_pos (hr (p, r) List.mem_cons_self)]
    have := (stay_sub P r).length_le
    simp only [List.length_cons]; omega
/-- where it begins makes no difference -/
theorem stay_from {P : List Pr} {a b : Int} (ha : ∀ x ∈ P, x.2 < a) (hb : ∀ x ∈ P, x.2 < b) : stay a P = stay b P := by
  cases P with
  | nil => rfl
  | cons x P =>
    obtain ⟨p, r⟩ := x
    simp only [stay]
    rw [if_pos (ha (p, r) List.mem_cons_self), if_pos (hb (p, r) List.mem_cons_self)]
theorem spots_from {P : List Pr} {a b : Int} (ha : ∀ x ∈ P, x.2 < a) (hb : ∀ x ∈ P, x.2 < b) : spots a P = spots b P := by
  cases P with
  | nil => rfl
  | cons x P =>
    obtain ⟨p, r⟩ := x
    simp only [spots]
    rw [put_sit (ha (p, r) List.mem_cons_self), put_sit (hb (p, r) List.mem_cons_self)]
theorem spots_length : ∀ (P : List Pr) (a : Int), (spots a P).length = P.length
  | [], _ => rfl
  | (p, r) :: P, a => by simp [spots, spots_length P]
/-- the last one's place -/
def fin : Int → List Pr → Int
  | a, [] => a
  | a, (_, r) :: P => fin (put a r) P
theorem stay_app : ∀ (P Q : List Pr) (a : Int), stay a (P ++ Q) = stay a P ++ stay (fin a P) Q
  | [], _, _ => rfl
  | (p, r) :: P, Q, a => by
    simp only [List.cons_append, stay, fin]
    by_cases h : r < a
    · rw [if_pos h, if_pos h, put_sit h, stay_app]
    · rw [if_neg h, if_neg h, put_wait h, stay_app]; rfl
theorem fin_app : ∀ (P Q : List Pr) (a : Int), fin a (P ++ Q) = fin (fin a P) Q
  | [], _, _ => rfl
  | (p, r) :: P, Q, a => by simp only [List.cons_append, fin, fin_app]

/-- who is there in the turn t + 1 -/
def S (q : List Int) : Nat → List Pr
  | 0 => en 0 q
  | t + 1 => stay 100 (S q t)
def Rows (q : List Int) : Prop := ∀ r ∈ q, 1 ≤ r ∧ r ≤ 99
instance (q : List Int) : Decidable (Rows q) := by unfold Rows; infer_instance

theorem S_sub0 (q : List Int) : ∀ t, (S q t).Sublist (en 0 q)
  | 0 => List.Sublist.refl _
  | t + 1 => (stay_sub _ _).trans (S_sub0 q t)
theorem S_sub (q : List Int) (t : Nat) : (S q (t + 1)).Sublist (S q t) := stay_sub _ _
theorem S_mem {q : List Int} {t p : Nat} {r : Int} (h : (p, r) ∈ S q t) : p < q.length ∧ q[p]? = some r := by
  have := en_mem ((S_sub0 q t).subset h)
  simpa using this.2
theorem S_row {q : List Int} (hq : Rows q) {t : Nat} {x : Pr} (h : x ∈ S q t) : 1 ≤ x.2 ∧ x.2 ≤ 99 := by
  obtain ⟨p, r⟩ := x
  exact hq r (List.mem_of_getElem? (S_mem h).2)
theorem S_lt {q : List Int} (hq : Rows q) {t : Nat} : ∀ x ∈ S q t, x.2 < (100 : Int) := fun x h => by
  have := S_row hq h; omega
theorem S_lt' {q : List Int} (hq : Rows q) {t : Nat} : ∀ x ∈ S q t, x.2 < (1000 : Int) := fun x h => by
  have := S_row hq h; omega
theorem S_nodup (q : List Int) (t : Nat) : ((S q t).map Prod.fst).Nodup := (en_nodup q 0).sublist ((S_sub0 q t).map _)
theorem S_len {q : List Int} (hq : Rows q) : ∀ t, (S q t).length ≤ q.length - t
  | 0 => by simp [S, en_length]
  | t + 1 => by
    have ih := S_len hq t
    by_cases h : S q t = []
    · simp [S, h, stay]
    · have := stay_less h (S_lt hq)
      simp only [S]; omega
theorem S_end {q : List Int} (hq : Rows q) {t : Nat} (h : q.length ≤ t) : S q t = [] := by
  have := S_len hq t
  exact List.eq_nil_of_length_eq_zero (by omega)

/-- what holds so long -/
theorem count_anti (n : Nat) : ∀ (f : Nat → Bool), (∀ t, f (t + 1) = true → f t = true) → f n = false → ∀ t, f t = true ↔ t < ((List.range n).filter f).length := by
  induction n with
  | zero =>
    intro f h hn t
    have all : ∀ t, f t = true → f 0 = true := fun t => by
      induction t with
      | zero => exact id
      | succ t ih => exact fun z => ih (h t z)
    constructor
    · intro z; rw [all t z] at hn; cases hn
    · intro z; simp at z
  | succ n ih =>
    intro f h hn t
    rw [List.range_succ, List.filter_append]
    cases e : f n with
    | false =>
      have := ih f h e t
      simpa [e] using this
    | true =>
      have down : ∀ k t, f (t + k) = true → f t = true := fun k => by
        induction k with
        | zero => exact fun t z => z
        | succ k ihk => exact fun t z => ihk t (h _ z)
      have low : ∀ t, t ≤ n → f t = true := fun t ht => down (n - t) t (by rw [show t + (n - t) = n by omega]; exact e)
      have e1 : (List.range n).filter f = List.range n := List.filter_eq_self.mpr fun t ht => low t (by have := List.mem_range.mp ht; omega)
      rw [e1]
      simp only [List.filter_cons, e, if_true, List.filter_nil, List.length_append, List.length_range, List.length_singleton]
      constructor
      · intro z
        apply Decidable.byContradiction
        intro hh
        have : f (n + 1) = true := down (t - (n + 1)) (n + 1) (by rw [show n + 1 + (t - (n + 1)) = t by omega]; exact z)
        rw [this] at hn; cases hn
      · intro z; exact low t (by omega)

def inS (q : List Int) (p t : Nat) : Bool := decide (p ∈ (S q t).map Prod.fst)
/-- in which turn the one at the place p stows -/
def Tn (q : List Int) (p : Nat) : Nat := ((List.range q.length).filter (inS q p)).length
theorem inS_iff {q : List Int} {p t : Nat} : inS q p t = true ↔ p ∈ (S q t).map Prod.fst := by unfold inS; exact decide_eq_true_iff
theorem mem_iff {q : List Int} (hq : Rows q) {p t : Nat} : p ∈ (S q t).map Prod.fst ↔ t < Tn q p := by
  rw [← inS_iff]
  refine count_anti q.length (inS q p) (fun t h => ?_) ?_ t
  · rw [inS_iff] at h ⊢
    exact ((S_sub q t).map Prod.fst).subset h
  · unfold inS; rw [S_end hq (Nat.le_refl _)]; simp
theorem T_le (q : List Int) (p : Nat) : Tn q p ≤ q.length := by
  unfold Tn
  have := List.length_filter_le (inS q p) (List.range q.length)
  simpa using this
theorem T_pos {q : List Int} (hq : Rows q) {p : Nat} (h : p < q.length) : 0 < Tn q p := by
  rw [← mem_iff hq]
  show p ∈ (en 0 q).map Prod.fst
  rw [en_fst]; simp [List.mem_range'_1]; exact h
theorem T_zero {q : List Int} (hq : Rows q) {p : Nat} (h : q.length ≤ p) : Tn q p = 0 := by
  apply Nat.eq_zero_of_not_pos
  intro z
  have := (mem_iff hq).mpr z
  obtain ⟨x, hx, e⟩ := List.mem_map.mp this
  have := (S_mem (p := x.1) (r := x.2) hx).1
  omega
theorem T_eq {q q' : List Int} (hq : Rows q) (hq' : Rows q') {p p' : Nat} (h : ∀ t, p ∈ (S q t).map Prod.fst ↔ p' ∈ (S q' t).map Prod.fst) : Tn q p = Tn q' p' := by
  have e : ∀ t, t < Tn q p ↔ t < Tn q' p' := fun t => by rw [← mem_iff hq, ← mem_iff hq']; exact h t
  have h1 := e (Tn q p)
  have h2 := e (Tn q' p')
  omega

theorem sub_filter {l L : List Pr} (h : l.Sublist L) : (L.map Prod.fst).Nodup → l = L.filter (fun x => decide (x.1 ∈ l.map Prod.fst)) := by
  induction h with
  | slnil => intro _; rfl
  | @cons l L x h ih =>
    intro nd
    rw [List.map_cons, List.nodup_cons] at nd
    rw [List.filter_cons, if_neg]
    · exact ih nd.2
    · simp only [decide_eq_true_eq]
      exact fun z => nd.1 ((h.map Prod.fst).subset z)
  | @cons_cons l L x h ih =>
    intro nd
    rw [List.map_cons, List.nodup_cons] at nd
    rw [List.filter_cons, if_pos (by simp)]
    congr 1
    have e := ih nd.2
    refine e.trans (List.filter_congr fun y hy => ?_)
    have : y.1 ≠ x.1 := fun z => nd.1 (List.mem_map.mpr ⟨y, hy, z⟩)
    simp [this]
theorem S_filter {q : List Int} (hq : Rows q) (t : Nat) : S q t = (en 0 q).filter (fun x => decide (t < Tn q x.1)) := by
  refine (sub_filter (S_sub0 q t) (en_nodup q 0)).trans (List.filter_congr fun x _ => ?_)
  exact decide_eq_decide.mpr (mem_iff hq)

/-- one place of all -/
theorem stL_at {th : Nat → Bool} : ∀ {q : List Int} {a : Int} {i j : Nat} {r : Int}, q[j]? = some r → th (i + j) = true →
    ∃ l, (stL th a i q)[j]? = some (some l) ∧ l ≤ r ∧ (l = r ↔ (i + j) ∉ (stay a ((en i q).filter (fun x => th x.1))).map Prod.fst) := by
  intro q
  induction q with
  | nil => intro a i j r h; simp at h
  | cons b q ih =>
    intro a i j r h ht
    have out : ∀ c, i ∉ (stay c ((en (i + 1) q).filter (fun x => th x.1))).map Prod.fst := fun c z => by
      obtain ⟨x, hx, e⟩ := List.mem_map.mp z
      have := (en_mem (p := x.1) (r := x.2) (List.mem_filter.mp ((stay_sub _ _).subset hx)).1).1
      omega
    cases j with
    | zero =>
      simp only [List.getElem?_cons_zero, Option.some.injEq] at h
      subst h
      simp only [Nat.add_zero] at ht ⊢
      refine ⟨put a b, by simp [stL, ht], put_le a b, ?_⟩
      simp only [en, List.filter_cons, ht, if_true, stay]
      by_cases hb : b < a
      · rw [if_pos hb, put_eq]
        exact ⟨fun _ => out b, fun _ => hb⟩
      · rw [if_neg hb, put_eq]
        simp [hb]
    | succ j =>
      simp only [List.getElem?_cons_succ] at h
      have ht' : th (i + 1 + j) = true := by rw [show i + 1 + j = i + (j + 1) by omega]; exact ht
      by_cases hi : th i = true
      · obtain ⟨l, h1, h2, h3⟩ := ih (a := put a b) (i := i + 1) h ht'
        refine ⟨l, by simp [stL, hi, h1], h2, ?_⟩
        rw [h3]
        simp only [en, List.filter_cons, hi, if_true, stay]
        rw [show i + 1 + j = i + (j + 1) by omega]
        by_cases hb : b < a
        · rw [if_pos hb, put_sit hb]
        · rw [if_neg hb, put_wait hb]
          simp
      · obtain ⟨l, h1, h2, h3⟩ := ih (a := a) (i := i + 1) h ht'
        refine ⟨l, by simp [stL, hi, h1], h2, ?_⟩
        rw [h3]
        simp only [en, List.filter_cons, hi]
        rw [show i + 1 + j = i + (j + 1) by omega]
        simp
theorem stL_none {th : Nat → Bool} : ∀ {q : List Int} {a : Int} {i j : Nat}, j < q.length → th (i + j) = false → (stL th a i q)[j]? = some none := by
  intro q
  induction q with
  | nil => intro a i j h; simp at h
  | cons b q ih =>
    intro a i j h ht
    cases j with
    | zero =>
      simp only [Nat.add_zero] at ht
      simp [stL, ht]
    | succ j =>
      have ht' : th (i + 1 + j) = false := by rw [show i + 1 + j = i + (j + 1) by omega]; exact ht
      simp only [List.length_cons] at h
      by_cases hi : th i = true
      · simp [stL, hi, ih (a := put a b) (i := i + 1) (show j < q.length by omega) ht']
      · simp [stL, hi, ih (a := a) (i := i + 1) (show j < q.length by omega) ht']
theorem stL_length {th : Nat → Bool} : ∀ (q : List Int) (a : Int) (i : Nat), (stL th a i q).length = q.length
  | [], _, _ => rfl
  | b :: q, a, i => by
    simp only [stL]
    split <;> simp [stL_length q]
theorem stL_congr {th th' : Nat → Bool} : ∀ (q : List Int) (a : Int) (i : Nat), (∀ j, j < q.length → th (i + j) = th' (i + j)) → stL th a i q = stL th' a i q
  | [], _, _, _ => rfl
  | b :: q, a, i, h => by
    have h0 := h 0 (by simp)
    have ih := fun c => stL_congr (th := th) (th' := th') q c (i + 1) fun j hj => by
      have := h (j + 1) (by simp; omega)
      rw [show i + 1 + j = i + (j + 1) by omega]; exact this
    simp only [Nat.add_zero] at h0
    simp only [stL, h0, ih]

/-- who is there in the turn t + 1, as a test of places -/
def thr (q : List Int) (t : Nat) : Nat → Bool := fun p => decide (t < Tn q p)
/-- the program's own look at who stows -/
theorem stow_iff {q : List Int} (hq : Rows q) {t p : Nat} {r : Int} (hr : q[p]? = some r) (ht : t < Tn q p) :
    ∃ l, (stL (thr q t) 100 0 q)[p]? = some (some l) ∧ l ≤ r ∧ (l = r ↔ Tn q p = t + 1) := by
  obtain ⟨l, h1, h2, h3⟩ := stL_at (th := thr q t) (a := 100) (i := 0) hr (by simp [thr, ht])
  refine ⟨l, h1, h2, ?_⟩
  rw [h3]
  have e : (en 0 q).filter (fun x => thr q t x.1) = S q t := (S_filter hq t).symm
  rw [e]
  have := mem_iff hq (p := p) (t := t + 1)
  simp only [S] at this
  rw [Nat.zero_add, this]
  omega

/-- how many turns it takes -/
def LL (q : List Int) : Nat := ((List.range q.length).filter (fun t => decide (S q t ≠ []))).length
theorem LL_iff {q : List Int} (hq : Rows q) {t : Nat} : S q t ≠ [] ↔ t < LL q := by
  have := count_anti q.length (fun t => decide (S q t ≠ [])) (fun t h => ?_) ?_ t
  · rw [decide_eq_true_iff] at this
    exact this
  · simp only [decide_eq_true_eq] at h ⊢
    intro z
    have := S_sub q t
    rw [z] at this
    exact h (List.sublist_nil.mp this)
  · simp [S_end hq (Nat.le_refl _)]
theorem LL_le (q : List Int) : LL q ≤ q.length := by
  unfold LL
  have := List.length_filter_le (fun t => decide (S q t ≠ [])) (List.range q.length)
  simpa using this
theorem T_le_LL {q : List Int} (hq : Rows q) (p : Nat) : Tn q p ≤ LL q := by
  apply Nat.le_of_not_lt
  intro h
  have h1 := (mem_iff hq (p := p) (t := LL q)).mpr h
  have h2 : ¬ S q (LL q) ≠ [] := fun z => Nat.lt_irrefl _ ((LL_iff hq).mp z)
  simp only [ne_eq, Decidable.not_not] at h2
  rw [h2] at h1
  simp at h1
theorem T_max {q : List Int} (hq : Rows q) (h : 0 < LL q) : ∃ p, p < q.length ∧ Tn q p = LL q := by
  have h1 : S q (LL q - 1) ≠ [] := (LL_iff hq).mpr (by omega)
  obtain ⟨x, hx⟩ := List.exists_mem_of_ne_nil _ h1
  refine ⟨x.1, (S_mem (p := x.1) (r := x.2) hx).1, ?_⟩
  have h2 := (mem_iff hq).mp (List.mem_map.mpr ⟨x, hx, rfl⟩)
  have h3 := T_le_LL hq x.1
  omega
theorem LL_zero {q : List Int} (hq : Rows q) : LL q = 0 ↔ q = [] := by
  constructor
  · intro h
    cases q with
    | nil => rfl
    | cons r q =>
      have := (LL_iff hq (t := 0)).mp (by simp [S, en])
      omega
  · rintro rfl; rfl
/-- the turns, by places -/
def TT (q : List Int) : List Int := (List.range q.length).map fun p => (Tn q p : Int)
theorem TT_length (q : List Int) : (TT q).length = q.length := by simp [TT]
theorem TT_at {q : List Int} {p : Nat} (h : p < q.length) : (TT q)[p]? = some (Tn q p : Int) := by
  simp [TT, List.getElem?_map, List.getElem?_range h]

/-! the program's own turns, turn by turn -/
/-- the places of who is there -/
def pls (q : List Int) (t : Nat) : List Int := (S q t).map fun x => (x.1 : Int)
theorem pls_mem {q : List Int} (hq : Rows q) {t p : Nat} : ((p : Int) ∈ pls q t) ↔ t < Tn q p := by
  rw [← mem_iff hq]
  unfold pls
  constructor
  · intro h
    obtain ⟨x, hx, e⟩ := List.mem_map.mp h
    exact List.mem_map.mpr ⟨x, hx, by omega⟩
  · intro h
    obtain ⟨x, hx, e⟩ := List.mem_map.mp h
    exact List.mem_map.mpr ⟨x, hx, by omega⟩
theorem pls_zero (q : List Int) : pls q 0 = (List.range q.length).map fun i : Nat => (i : Int) := by
  unfold pls
  show ((en 0 q).map fun x => (x.1 : Int)) = _
  have : ((en 0 q).map fun x => (x.1 : Int)) = ((en 0 q).map Prod.fst).map fun i : Nat => (i : Int) := by simp [List.map_map, Function.comp_def]
  rw [this, en_fst, List.range_eq_range']
theorem pls_nil {q : List Int} (hq : Rows q) {t : Nat} : pls q t = [] ↔ ¬ t < LL q := by
  rw [← LL_iff hq]
  unfold pls
  simp
theorem pls_filter {q : List Int} (hq : Rows q) (t : Nat) : pls q t = ((List.range q.length).filter (thr q t)).map fun i : Nat => (i : Int) := by
  unfold pls
  rw [S_filter hq t]
  have e : ((en 0 q).filter (fun x => decide (t < Tn q x.1))).map (fun x => (x.1 : Int)) = (((en 0 q).map Prod.fst).filter (thr q t)).map fun i : Nat => (i : Int) := by
    rw [List.filter_map, List.map_map]
    rfl
  rw [e, en_fst, List.range_eq_range']
/-- found, behind t turns -/
def FF (q : List Int) (t : Nat) : List Int := (List.range q.length).map fun p => if t < Tn q p then 0 else (Tn q p : Int)
theorem FF_length (q : List Int) (t : Nat) : (FF q t).length = q.length := by simp [FF]
theorem FF_zero {q : List Int} (hq : Rows q) : FF q 0 = List.replicate q.length 0 := by
  refine List.ext_getElem (by simp [FF]) fun i h1 h2 => ?_
  simp only [FF, List.length_map, List.length_range] at h1
  simp [FF, T_pos hq h1]
theorem FF_end {q : List Int} (hq : Rows q) {t : Nat} (h : LL q ≤ t) : FF q t = TT q := by
  unfold FF TT
  refine List.map_congr_left fun p _ => ?_
  have := T_le_LL hq p
  rw [if_neg (by omega)]
theorem FF_at {q : List Int} {t p : Nat} (h : p < q.length) : (FF q t)[p]? = some (if t < Tn q p then 0 else (Tn q p : Int)) := by
  simp [FF, List.getElem?_map, List.getElem?_range h]
/-- .. within the turn t + 1, when the first j of those there were looked at -/
def GG (q : List Int) (t j : Nat) : List Int := (List.range q.length).map fun p : Nat => if (p : Int) ∈ (pls q t).take j then (if t + 1 < Tn q p then 0 else (Tn q p : Int)) else (if t < Tn q p then 0 else (Tn q p : Int))
theorem GG_length (q : List Int) (t j : Nat) : (GG q t j).length = q.length := by simp [GG]
theorem GG_zero (q : List Int) (t : Nat) : GG q t 0 = FF q t := by simp [GG, FF]
theorem GG_end {q : List Int} (hq : Rows q) {t j : Nat} (h : (pls q t).length ≤ j) : GG q t j = FF q (t + 1) := by
  unfold GG FF
  refine List.map_congr_left fun p _ => ?_
  rw [List.take_of_length_le h]
  by_cases hp : (p : Int) ∈ pls q t
  · rw [if_pos hp]
  · rw [if_neg hp]
    have : ¬ t < Tn q p := fun z => hp ((pls_mem hq).mpr z)
    rw [if_neg this, if_neg (by omega)]
theorem pls_at {q : List Int} {t j : Nat} {x : Int} (h : (pls q t)[j]? = some x) : ∃ (p : Nat) (r : Int), x = (p : Int) ∧ p < q.length ∧ q[p]? = some r ∧ (p, r) ∈ S q t := by
  unfold pls at h
  rw [List.getElem?_map] at h
  cases e : (S q t)[j]? with
  | none => rw [e] at h; cases h
  | some y =>
    rw [e] at h
    obtain ⟨p, r⟩ := y
    have hm := List.mem_of_getElem? e
    exact ⟨p, r, (Option.some.inj h).symm, (S_mem hm).1, (S_mem hm).2, hm⟩
theorem pls_nodup (q : List Int) (t : Nat) : (pls q t).Nodup := by
  have e : pls q t = ((S q t).map Prod.fst).map fun i : Nat => (i : Int) := by unfold pls; simp [List.map_map, Function.comp_def]
  rw [e]
  refine List.Pairwise.map _ (fun a b h => ?_) (S_nodup q t)
  omega
theorem take_succ_of {α : Type} {l : List α} {j : Nat} {x : α} (h : l[j]? = some x) : l.take (j + 1) = l.take j ++ [x] := by
  rw [List.take_add_one, h]
  rfl
theorem not_in_take {q : List Int} {t j : Nat} {x : Int} (h : (pls q t)[j]? = some x) : x ∉ (pls q t).take j := by
  intro hm
  have nd := pls_nodup q t
  have h2 : (pls q t) = (pls q t).take j ++ (pls q t).drop j := (List.take_append_drop j _).symm
  rw [h2, List.nodup_append] at nd
  have h3 : x ∈ (pls q t).drop j := by
    refine List.mem_of_getElem? (i := 0) ?_
    rw [List.getElem?_drop]
    simpa using h
  exact nd.2.2 x hm x h3 rfl
theorem GG_wait {q : List Int} (hq : Rows q) {t j p : Nat} (h : (pls q t)[j]? = some (p : Int)) (hw : ¬ Tn q p = t + 1) : GG q t (j + 1) = GG q t j := by
  unfold GG
  refine List.map_congr_left fun i _ => ?_
  rw [take_succ_of h]
  have hp : t < Tn q p := (pls_mem hq).mp (List.mem_of_getElem? h)
  by_cases e : i = p
  · subst e
    rw [if_pos (by simp), if_neg (not_in_take h), if_pos (by omega), if_pos (by omega)]
  · by_cases hm : (i : Int) ∈ (pls q t).take j
    · rw [if_pos (by simp [hm]), if_pos hm]
    · rw [if_neg (by simp [hm]; omega), if_neg hm]
theorem GG_sit {q : List Int} (hq : Rows q) {t j p : Nat} (h : (pls q t)[j]? = some (p : Int)) (hp : p < q.length) (hw : Tn q p = t + 1) : GG q t (j + 1) = (GG q t j).set p ((t : Int) + 1) := by
  unfold GG
  refine List.ext_getElem (by simp) fun i h1 h2 => ?_
  simp only [List.length_map, List.length_range] at h1
  rw [List.getElem_set]
  simp only [List.getElem_map, List.getElem_range]
  rw [take_succ_of h]
  by_cases e : p = i
  · subst e
    rw [if_pos rfl, if_pos (by simp), if_neg (by omega), hw]
    omega
  · rw [if_neg e]
    by_cases hm : (i : Int) ∈ (pls q t).take j
    · rw [if_pos (by simp [hm]), if_pos hm]
    · rw [if_neg (by simp [hm]; omega), if_neg hm]
theorem range_filter {α : Type} (d : α) (p : α → Bool) (l : List α) : ((List.range l.length).filter (fun i => p (l.getD i d))).map (fun i => l.getD i d) = l.filter p := by
  have e1 : (List.range l.length).map (fun i => l.getD i d) = l := by
    refine List.ext_getElem (by simp) fun i h1 h2 => ?_
    simp [List.getD_eq_getElem?_getD, List.getElem?_eq_getElem h2]
  have e2 : ((List.range l.length).filter (fun i => p (l.getD i d))).map (fun i => l.getD i d) = ((List.range l.length).map (fun i => l.getD i d)).filter p := by
    rw [List.filter_map]
    rfl
  rw [e2, e1]
theorem pls_sub {q : List Int} (hq : Rows q) (t : Nat) : (pls q t).filter (fun x => decide (t + 1 < Tn q x.toNat)) = pls q (t + 1) := by
  rw [pls_filter hq t, pls_filter hq (t + 1), List.filter_map]
  congr 1
  rw [List.filter_filter]
  refine List.filter_congr fun p _ => ?_
  show (decide (t + 1 < Tn q ((p : Int)).toNat) && decide (t < Tn q p)) = decide (t + 1 < Tn q p)
  rw [Int.toNat_natCast]
  by_cases h : t + 1 < Tn q p
  · simp [h]; omega
  · simp [h]
theorem pls_next {q : List Int} (hq : Rows q) (t : Nat) : ((List.range (pls q t).length).filter (fun i => decide (t + 1 < Tn q ((pls q t).getD i 0).toNat))).map (fun i => (pls q t).getD i 0) = pls q (t + 1) := by
  rw [← pls_sub hq t]
  exact range_filter 0 (fun x => decide (t + 1 < Tn q x.toNat)) (pls q t)
end Ai
namespace Ai
theorem T_LL {q : List Int} (hq : Rows q) (p : Nat) : ((List.range (LL q)).filter (inS q p)).length = Tn q p := by
  have e := count_anti (LL q) (inS q p) (fun t h => ?_) ?_
  · have e2 : ∀ t, t < ((List.range (LL q)).filter (inS q p)).length ↔ t < Tn q p := fun t => by rw [← e t, inS_iff, mem_iff hq]
    have h1 := e2 (Tn q p)
    have h2 := e2 ((List.range (LL q)).filter (inS q p)).length
    omega
  · rw [inS_iff] at h ⊢
    exact ((S_sub q t).map Prod.fst).subset h
  · rw [Bool.eq_false_iff]
    intro z
    rw [inS_iff, mem_iff hq] at z
    have := T_le_LL hq p
    omega
structure QOk (q : List Int) : Prop where
  len : q.length ≤ 40
  rows : Rows q
/-- what turns_of takes: one more too -/
structure TOk (q : List Int) : Prop where
  len : q.length ≤ 100
  rows : Rows q
theorem QOk.t {q : List Int} (h : QOk q) : TOk q := ⟨by have := h.len; omega, h.rows⟩
theorem max0 {q : List Int} (hq : Rows q) {m : Int} (h1 : m ∈ [0] ++ TT q) (h2 : ∀ y, y ∈ [0] ++ TT q → y ≤ m) : m = LL q := by
  by_cases c : LL q = 0
  · have e := (LL_zero hq).mp c
    subst e
    have : m = 0 := by simpa [TT] using h1
    rw [this, c]
    rfl
  · obtain ⟨p, hp, ep⟩ := T_max hq (Nat.pos_of_ne_zero c)
    have a1 := h2 (Tn q p : Int) (List.mem_append_right _ (List.mem_of_getElem? (TT_at hp)))
    rcases List.mem_append.mp h1 with h | h
    · have : m = 0 := by simpa using h
      omega
    · obtain ⟨x, _, rfl⟩ := List.mem_map.mp h
      have := T_le_LL hq x
      omega
end Ai

/-! enumerate over a tuple, as a rule of the hand layer -/
namespace Ai
open PySem PySem.Spec PyProof.Rows L2

theorem meets_enum1 {v : Value} {o : Obj} {Hh : Heap → Prop} (B : Begins v o Hh) :
    Meets (Builtin.«enumerate.__new__» ⟨[.type "enumerate", v], []⟩) (fun _ R s => Hh s.heap ∧
      R (.ok (.ret (.ref (s.heap.push o).objs.size))) { s with heap := (s.heap.push o).push { cls := .type "enumerate", data := .fields #[.none, .bool false, .ref s.heap.objs.size, rawInt 0, .none, .none] } }) :=
  .of_wp fun prog w A R s h => by
    obtain ⟨hp, g, d, tk, os⟩ := s; obtain ⟨h1, h⟩ := h
    have hsub := sub_enumerate
    have q1 : ∀ {A' : Around} {E : Value → Shared → Prop} {Q : Value → Shared → Prop}, Q (.ref hp.objs.size) ⟨hp.push o, g, d, tk, os⟩ → wpAny (model prog w) A' (pyIter v) Q E ⟨hp, g, d, tk, os⟩ :=
      fun q => B.iter prog w _ _ ⟨hp, g, d, tk, os⟩ _ h1 q
    wp_walk using q1
    refine wpAny_stack_any fun st => wpAny_pure ?_
    split
    · rename_i c _ _ _ _ _
      cases (c == Value.type "enumerate")
      · wp_walk using q1
        exact ⟨_, rfl, h⟩
      · wp_walk using q1
        exact ⟨_, rfl, h⟩
    · wp_walk using q1
      exact ⟨_, rfl, h⟩
theorem call_enum1 {prog : Program} {w : World} {A : Around} {E : Value → Shared → Prop} {s : Shared} {v : Value} {o : Obj} {Hh : Heap → Prop} {Q : Value → Shared → Prop} (B : Begins v o Hh) (h1 : Hh s.heap)
    (h : ∀ h', IsEnum h' (s.heap.objs.size + 1) s.heap.objs.size 0 .none → h'.get? s.heap.objs.size = some o →
      (∀ b o, s.heap.get? b = some o → h'.get? b = some o) → Q (.ref (s.heap.objs.size + 1)) { s with heap := h' }) :
    wpAny (model prog w) A (call (.type "enumerate") [v]) Q E s := by
  refine callType_new F.called_enumerate (by decide) (F.typeCall_enumerate_1 _) (F.newCall_enumerate_1 _) (fun obj => F.args_object_init_2 obj _) F.entry_enumerate_new (meets_enum1 B) ⟨h1, ?_⟩
  have hz : (s.heap.push o).objs.size = s.heap.objs.size + 1 := Heap.size_push ..
  show _ ∧ _
  rw [hz]
  have he : IsEnum ((s.heap.push o).push { cls := .type "enumerate", data := .fields #[.none, .bool false, .ref s.heap.objs.size, rawInt 0, .none, .none] }) (s.heap.objs.size + 1) s.heap.objs.size 0 .none := by
    have := Heap.get?_push_size (s.heap.push o) (o := { cls := .type "enumerate", data := .fields #[.none, .bool false, .ref s.heap.objs.size, rawInt 0, .none, .none] }) rfl
    rw [hz] at this
    exact this
  exact ⟨⟨_, he, rfl⟩, h _ he (Heap.get?_push_of_some _ (Heap.get?_push_size _ B.free)) fun b o x => Heap.get?_push_of_some _ (Heap.get?_push_of_some _ x)⟩

/-- the tuple at a, each item in a new pair -/
def IteT (K : PySem.W.Frag) (a : Addr) : It :=
  ⟨fun i H => ∃ (xs : List V) (x : V), SqT K H a xs ∧ xs[i]? = some x, fun i H v H' => ∃ T x, v = .ref T ∧ H T = none ∧ H' = upd H T (.tup [.int (i : Nat), x]) ∧ ∀ xs, SqT K H a xs → xs[i]? = some x, fun i H => ∃ xs : List V, SqT K H a xs ∧ xs.length = i⟩
theorem turn_enumT {P : Program} {w : World} {K : PySem.W.Frag} {elts : List Expr} {kk : Nat} {tpos : Pos} (a e it : Addr) :
    Turn P w K (.Tuple elts kk tpos) (IteT K a) [e, it] e (fun i h => (∃ old, IsEnum h e it ((i : Nat) : Int) old) ∧ h.IsTupleIter it a i ∧ e ≠ it ∧ a ≠ it ∧ e ≠ a) where
  mem := by simp
  obj := fun i h st b hb => by
    obtain ⟨⟨old, he⟩, ⟨o, ho, hc, hd⟩, _⟩ := st
    have e' : b = e ∨ b = it := by simpa using hb
    rcases e' with z | z
    · rw [z]; exact ⟨_, he, fun v q => nomatch q⟩
    · rw [z]; exact ⟨o, ho, fun v q => by rw [hd] at q; cases q⟩
  keep := fun i h h' st k => by
    obtain ⟨⟨old, he⟩, hi, hne⟩ := st
    exact ⟨⟨old, k e (by simp) _ he⟩, hi.at fun o q => k it (by simp) o q, hne⟩
  item := by
    intro X hP hw hK hc i pins s σ H E I hf st hg
    subst hP hw hK
    obtain ⟨⟨old, he⟩, hit, hne, hai, hea⟩ := st
    obtain ⟨xs, x, hq, hx⟩ := hg
    obtain ⟨its, rv, p, hz⟩ := I.tuple hq
    obtain ⟨u, hu, ru⟩ := rv.get hx
    have hel : e < s.heap.objs.size := Heap.lt_size he
    have hil : it < s.heap.objs.size := by obtain ⟨_, q, _⟩ := hit; exact Heap.lt_size q
    have hlt : i < its.toArray.size := by
      have := (List.getElem?_eq_some_iff.mp hu).1
      simpa using this
    have D := Draws.tuple (prog := X.prog) (w := X.w) (A := X.A.in1) (I.ok.hd hc) it a hai its.toArray
    refine wpAny_pyNext_enum_itemC D he ⟨hit, p⟩ hlt hne (by simp [hne, hea]) fun y h' tk hy ho hst hT hsz hk => ?_
    have ey : y = u := by
      have : its.toArray[i]? = some u := by simpa using hu
      rw [this] at hy
      exact (Option.some.inj hy).symm
    subst ey
    refine ⟨_, rfl, wpAny_letOwnedTupleGo_enum (s := { s with heap := h', toks := tk + 1 }) ho fun h'' he' sb => ?_⟩
    have hT2 : h''.get? s.heap.objs.size = some { cls := .type "tuple", data := .seq #[.int i tk, y] } := (sb.2 _ (Nat.ne_of_gt hel)).trans hT
    have new : ObjOk X.prog X.w (upd H s.heap.objs.size (.tup [.int (i : Nat), x])) h'' s.heap.objs.size (.tup [.int (i : Nat), x]) :=
      ⟨by show 2 ≤ sizeLine; decide, [.int i tk, y], .cons ⟨_, rfl⟩ (.cons ru .nil), ⟨_, hT2, rfl, _, rfl⟩⟩
    have I1 : Inv X pins σ (upd H s.heap.objs.size (.tup [.int (i : Nat), x])) { s with heap := h'', toks := tk + 1 } :=
      I.turnedNew (ch := [e, it]) (fun b ob hb q => (sb.2 b (fun z => hb (by simp [z]))).trans (hk b ob (fun z => hb (by simp [z])) (fun z => hb (by simp [z])) q)) hf (Nat.le_refl _) new
    refine ⟨.ref s.heap.objs.size, _, I1, rfl, ⟨_, x, rfl, I.hok.fresh (Nat.le_refl _), rfl, fun ys hy' => by rw [I.tuple_inj hy' hq]; exact hx⟩, ⟨⟨y, ?_⟩, hst.1.at fun o q => (sb.2 it (Ne.symm hne)).trans q, hne, hai, hea⟩, fun b hb => ?_⟩
    · have e1 : ((i + 1 : Nat) : Int) = (i : Int) + 1 := by omega
      rw [e1]; exact he'
    · have hb' : b < s.heap.objs.size := by
        have e' : b = e ∨ b = it := by simpa using hb
        rcases e' with z | z
        · rw [z]; exact hel
        · rw [z]; exact hil
      rw [upd_ne (Nat.ne_of_lt hb')]
      exact (hf b hb).1
  done := by
    intro X hP hw hK hc i pins s σ H E I hf st hg
    subst hP hw hK
    obtain ⟨⟨old, he⟩, hit, hne, hai, hea⟩ := st
    obtain ⟨xs, hq, hx⟩ := hg
    obtain ⟨its, rv, p, hz⟩ := I.tuple hq
    obtain ⟨f0, f1, f2, f3, f4, f5⟩ := hf it (by simp)
    have hl := rv.length
    have D := Draws.tuple (prog := X.prog) (w := X.w) (A := X.A.in1) (I.ok.hd hc) it a hai its.toArray
    have hn : i = its.toArray.size := by simp; omega
    subst hn
    exact wpAny_pyNext_enum_endD D he ⟨hit, p⟩ fun h' eb => ⟨rfl, I.turned (t' := s.toks) (fun b o hb q => eb b o hb q) f0 f1 f3 f4 f5⟩
  self := fun A i s Q E st h => by
    obtain ⟨⟨_, he⟩, _⟩ := st
    exact wpAny_pyIter_enum he h
def iEnumT (K : PySem.W.Frag) (ta : TA) : TI := fun σ H R => ta σ H fun vs H1 => ∃ a xs, vs = [.ref a] ∧ SqT K H1 a xs ∧ R (IteT K a) H1
theorem pi_enumT {X : Cx} {e : Expr} {ta : TA} {p pos tpos : Pos} {elts : List Expr} {kk : Nat} (hg : Gl X "enumerate") (hm : X.mg "enumerate" = none) (ha : PA X [e] ta) (hs : starEach [e] X.env = [(false, eval e X.env)] := by rfl) :
    PI X (.Tuple elts kk tpos) (.Call (.Name "enumerate" p) [e] [] pos) (iEnumT X.K ta) := by
  refine ⟨fun pins s σ H R I h => ?_⟩
  refine Call_ (ld_blt I hg hm boot_enumerate (PyProof.Rows.callWith_type1 (thn (ha.run pos pins s σ H _ I h) fun us s1 ⟨vs, H1, I1, r1, q1⟩ => ?_) hs rfl))
  obtain ⟨a, xs, ex, hq, q⟩ := q1
  subst ex
  cases r1 with
  | cons r rr =>
    cases rr
    cases r
    obtain ⟨its, rv, p', hz⟩ := I1.tuple hq
    have hal : a < s1.heap.objs.size := p'.lt
    refine call_enum1 (begins_tuple a its.toArray) p' fun h' he hit hk => wpAny_pyIter_enum he ?_
    have I2 : Inv X pins σ H1 { s1 with heap := h' } := I1.kept (t' := s1.toks) hk
    refine ⟨s1.heap.objs.size + 1, [s1.heap.objs.size + 1, s1.heap.objs.size], _, _, H1, rfl, I2, turn_enumT a (s1.heap.objs.size + 1) s1.heap.objs.size, ⟨⟨.none, he⟩, ⟨_, hit, rfl, rfl⟩, Nat.succ_ne_self _, Nat.ne_of_lt hal, Nat.ne_of_gt (Nat.lt_succ_of_lt hal)⟩, fun b hb => ?_, q⟩
    have e' : b = s1.heap.objs.size + 1 ∨ b = s1.heap.objs.size := by simpa using hb
    have hle : s1.heap.objs.size ≤ b := by
      rcases e' with z | z
      · rw [z]; exact Nat.le_add_right _ _
      · rw [z]; exact Nat.le_refl _
    exact I1.fpOk hle (I1.hok.fresh hle)
theorem walk_enumT {K : PySem.W.Frag} {a : Addr} {xs : List V} : Walk (IteT K a) xs.length (fun H => SqT K H a xs) (YPair (fun i => some (.int (i : Nat))) (fun i => xs[i]?)) := by
  refine ⟨fun i _ hi q => ⟨xs, xs[i], q, by simp [hi]⟩, fun _ q => ⟨xs, q, rfl⟩, fun i H v H' _ q y => ?_⟩
  obtain ⟨T, x, h1, h2, h3, h4⟩ := y
  exact ⟨T, .int (i : Nat), x, h1, h2, h3, rfl, h4 xs q⟩
end Ai

/-! what every def's reading uses -/
namespace Ai
open PySem PySem.Spec PyProof.Rows L2

/-! heaps -/
theorem same_new {H : Hp} {p : Addr} {o : HO} (h : H p = none) : Same H (upd H p o) := fun b x e => by
  rw [upd_ne (ne_of_none e h)]
  exact e
theorem _root_.L2.Same.mut {H H' : Hp} {p : Addr} {o : HO} (e : Same H H') (h : H p = none) : Same H (upd H' p o) := fun b x k => by
  rw [upd_ne (ne_of_none k h)]
  exact e b x k
theorem _root_.L2.Same.new {H H' : Hp} {p : Addr} {o : HO} (e : Same H H') (h : H' p = none) : Same H (upd H' p o) := e.trans (same_new h)
theorem _root_.L2.Same.tup {K : PySem.W.Frag} {H H' : Hp} {a : Addr} {xs : List V} (e : Same H H') (h : SqT K H a xs) : SqT K H' a xs := by
  rcases h with (h | ⟨o, h⟩) | h
  · exact .inl (.inl (e _ _ h))
  · exact .inl (.inr ⟨o, e _ _ h⟩)
  · exact .inr h
mutual
theorem dp_same {K : PySem.W.Frag} {H H' : Hp} (e : Same H H') : ∀ (d : PyData) (v : V), Dp K H v d → Dp K H' v d
  | .none, _, h => by cases h; exact .non
  | .bool b, _, h => by cases h; exact .bl b
  | .int i, _, h => by cases h; exact .int i
  | .str x, _, h => by cases h; exact .str x
  | .list ds, _, h => by
    cases h with
    | lst hs ha => exact .lst (e.seq hs) (dps_same e ds _ ha)
  | .tuple ds, _, h => by
    cases h with
    | tup hs ha => exact .tup (e.tup hs) (dps_same e ds _ ha)
  | .dict _, _, h => by cases h
theorem dps_same {K : PySem.W.Frag} {H H' : Hp} (e : Same H H') : ∀ (ds : List PyData) (vs : List V), DpAll K H vs ds → DpAll K H' vs ds
  | [], _, h => by cases h; exact .nil
  | d :: ds, _, h => by
    cases h with
    | cons h1 h2 => exact .cons (dp_same e d _ h1) (dps_same e ds _ h2)
end
theorem _root_.L2.Same.dp {K : PySem.W.Frag} {H H' : Hp} {v : V} {d : PyData} (e : Same H H') (h : Dp K H v d) : Dp K H' v d := dp_same e d v h
theorem _root_.L2.Same.dp' {K : PySem.W.Frag} {H H' : Hp} {vs : List V} {ds : List PyData} (e : Same H H') (h : DpAll K H vs ds) : DpAll K H' vs ds := dps_same e ds vs h
/-- the heap without what stands at w -/
def hid (H : Hp) (w : Addr) : Hp := fun b => if b = w then none else H b
theorem hid_at (H : Hp) (w : Addr) : hid H w w = none := by unfold hid; rw [if_pos rfl]
theorem hid_ne {H : Hp} {w b : Addr} (h : b ≠ w) : hid H w b = H b := by unfold hid; rw [if_neg h]
theorem hid_same (H : Hp) (w : Addr) : Same (hid H w) H := fun b o e => by
  unfold hid at e
  split at e
  · cases e
  · exact e
theorem hid_upd (H : Hp) (w : Addr) (o : HO) : hid (upd H w o) w = hid H w := by
  funext b
  by_cases e : b = w
  · rw [e, hid_at, hid_at]
  · rw [hid_ne e, hid_ne e, upd_ne e]
theorem hid_of {H : Hp} {w : Addr} (h : H w = none) : hid H w = H := by
  funext b
  by_cases e : b = w
  · rw [e, hid_at, h]
  · rw [hid_ne e]
theorem hid_mono {H H' : Hp} (e : Same H H') (w : Addr) : Same (hid H w) (hid H' w) := fun b o h => by
  have ne : b ≠ w := fun z => by rw [z, hid_at] at h; cases h
  rw [hid_ne ne] at h ⊢
  exact e b o h

theorem hid_get {H H' : Hp} {w b : Addr} (e : hid H' w = hid H w) (h : b ≠ w) : H' b = H b := by
  have := congrFun e b
  rw [hid_ne h, hid_ne h] at this
  exact this
theorem hid_new {H : Hp} {w p : Addr} {o : HO} (h : H p = none) : Same (hid H w) (hid (upd H p o) w) := hid_mono (same_new h) w
theorem hid_some {H : Hp} {w b : Addr} {o : HO} (h : H b = some o) (hb : b ≠ w) : hid H w b = some o := by rw [hid_ne hb]; exact h
/-- slices of mapped lists -/
theorem cut_to {α : Type} (f : α → V) (xs : List α) (h : Nat) : cutV (xs.map f) none (some (h : Int)) = (xs.take h).map f := by
  unfold cutV
  rw [HT.sIx_none, HT.sIx_nat, List.drop_zero, Nat.sub_zero, List.map_take, ← List.take_take, List.length_map]
  rw [List.take_of_length_le (i := xs.length) (by simp)]
theorem cut_from {α : Type} (f : α → V) (xs : List α) (h : Nat) : cutV (xs.map f) (some (h : Int)) none = (xs.drop h).map f := by
  unfold cutV
  rw [HT.sIx_none, HT.sIx_nat, List.map_drop, List.length_map]
  by_cases c : h ≤ xs.length
  · rw [Nat.min_eq_left c, List.take_of_length_le (by simp)]
  · rw [Nat.min_eq_right (by omega), List.drop_eq_nil_of_le (by simp), List.drop_eq_nil_of_le (by simp; omega), List.take_nil]
/-! data -/
def ov : Option Int → V
  | none => .non
  | some i => .int i
def od : Option Int → PyData
  | none => .none
  | some i => .int i
theorem dp_ov {K : PySem.W.Frag} {H : Hp} (o : Option Int) : Dp K H (ov o) (od o) := by
  cases o with
  | none => exact .non
  | some i => exact .int i
theorem dps_of {α : Type} {K : PySem.W.Frag} {H : Hp} {f : α → V} {g : α → PyData} (h : ∀ x, Dp K H (f x) (g x)) : ∀ xs : List α, DpAll K H (xs.map f) (xs.map g)
  | [] => .nil
  | x :: xs => .cons (h x) (dps_of h xs)
theorem dps_ints {K : PySem.W.Frag} {H : Hp} (ns : List Int) : DpAll K H (ns.map V.int) (ns.map PyData.int) := dps_of (fun i => .int i) ns
theorem dps_oints {K : PySem.W.Frag} {H : Hp} (os : List (Option Int)) : DpAll K H (os.map ov) (os.map od) := dps_of dp_ov os
theorem dps_inv {K : PySem.W.Frag} {H : Hp} : ∀ {ns : List Int} {vs : List V}, DpAll K H vs (ns.map PyData.int) → vs = ns.map V.int
  | [], _, h => by cases h; rfl
  | n :: ns, _, h => by
    cases h with
    | cons h1 h2 =>
      cases h1
      rw [dps_inv h2]
      rfl
theorem dps_bools {K : PySem.W.Frag} {H : Hp} : ∀ {bs : List Bool} {vs : List V}, DpAll K H vs (bs.map PyData.bool) → vs = bs.map V.bl
  | [], _, h => by cases h; rfl
  | n :: ns, _, h => by
    cases h with
    | cons h1 h2 =>
      cases h1
      rw [dps_bools h2]
      rfl
theorem dp_intsL {K : PySem.W.Frag} {H : Hp} {a : Addr} {ns : List Int} (h : SqL K H a (ns.map V.int)) : Dp K H (.ref a) (.list (ns.map PyData.int)) := .lst h (dps_ints ns)
theorem dp_intsT {K : PySem.W.Frag} {H : Hp} {a : Addr} {ns : List Int} (h : SqT K H a (ns.map V.int)) : Dp K H (.ref a) (.tuple (ns.map PyData.int)) := .tup h (dps_ints ns)
theorem dp_ointsL {K : PySem.W.Frag} {H : Hp} {a : Addr} {os : List (Option Int)} (h : SqL K H a (os.map ov)) : Dp K H (.ref a) (.list (os.map od)) := .lst h (dps_oints os)
theorem sqT_of {K : PySem.W.Frag} {H : Hp} {v : V} {ns : List Int} (h : Dp K H v (.tuple (ns.map PyData.int))) : ∃ a, v = .ref a ∧ SqT K H a (ns.map V.int) := by
  cases h with
  | tup hs ha =>
    have e := dps_inv ha
    subst e
    exact ⟨_, rfl, hs⟩
theorem sqL_of {K : PySem.W.Frag} {H : Hp} {v : V} {ns : List Int} (h : Dp K H v (.list (ns.map PyData.int))) : ∃ a, v = .ref a ∧ SqL K H a (ns.map V.int) := by
  cases h with
  | lst hs ha =>
    have e := dps_inv ha
    subst e
    exact ⟨_, rfl, hs⟩
theorem dps_length {K : PySem.W.Frag} {H : Hp} : ∀ {vs : List V} {ds : List PyData}, DpAll K H vs ds → vs.length = ds.length
  | [], [], _ => rfl
  | [], _ :: _, h => by cases h
  | _ :: _, [], h => by cases h
  | _ :: vs, _ :: ds, h => by
    cases h with
    | cons _ h2 => simp [dps_length h2]
theorem dps_at {K : PySem.W.Frag} {H : Hp} : ∀ {vs : List V} {ds : List PyData} {i : Nat} {v : V}, DpAll K H vs ds → vs[i]? = some v → ∃ d, ds[i]? = some d ∧ Dp K H v d
  | _, _, i, v, .nil, h => by simp at h
  | _, _, 0, v, .cons h1 h2, h => by
    have e := Option.some.inj h
    subst e
    exact ⟨_, rfl, h1⟩
  | _, _, i + 1, v, .cons h1 h2, h => dps_at (i := i) h2 h

def tyD : PyData → String
  | .none => "NoneType"
  | .bool _ => "bool"
  | .int _ => "int"
  | .str _ => "str"
  | .list _ => "list"
  | .tuple _ => "tuple"
  | .dict _ => "dict"
theorem dp_ty {K : PySem.W.Frag} {H : Hp} {v : V} {d : PyData} (h : Dp K H v d) : TyX K H v (.type (tyD d)) := by
  cases h with
  | non => exact .base .non
  | bl b => exact .base (.bl b)
  | int i => exact .base (.int i)
  | str x => exact .base (.str x)
  | lst hs _ =>
    rcases hs with (hs | ⟨o, hs⟩) | ⟨o, its, n, hk, hc, _⟩
    · exact .base (.lst hs)
    · exact .base (.frz hs)
    · exact .kList hk hc
  | tup hs _ =>
    rcases hs with (hs | ⟨o, hs⟩) | ⟨o, its, n, hk, hc, _⟩
    · exact .base (.tup hs)
    · exact .fTuple hs
    · exact .kTuple hk hc
/-- isinstance(x, n), x data -/
theorem isi_of {K : PySem.W.Frag} {H : Hp} {v : V} {d : PyData} {n : String} {b : Bool} {Q : VK} (h : Dp K H v d) (hb : kitB (tyD d) n = some b) (q : Q (.bl b) H) : rIsi K [v, .ty n] H Q :=
  ⟨v, .ty n, _, _, b, rfl, .ty n, dp_ty h, kit_ty hb, q⟩

/-! == of lists of ints, of ints and None -/
theorem eqv_ints : ∀ ns ms : List Int, PyData.eqvAll (ns.map PyData.int) (ms.map PyData.int) = decide (ns = ms)
  | [], [] => rfl
  | [], _ :: _ => rfl
  | _ :: _, [] => rfl
  | n :: ns, m :: ms => by
    rw [List.map_cons, List.map_cons, PyData.eqvAll, eqv_ints ns ms]
    show ((n == m) && decide (ns = ms)) = decide (n :: ns = m :: ms)
    by_cases h : n = m
    · subst h; simp
    · simp [h]
theorem eqv_oints : ∀ ns ms : List (Option Int), PyData.eqvAll (ns.map od) (ms.map od) = decide (ns = ms)
  | [], [] => rfl
  | [], _ :: _ => rfl
  | _ :: _, [] => rfl
  | n :: ns, m :: ms => by
    rw [List.map_cons, List.map_cons, PyData.eqvAll, eqv_oints ns ms]
    cases n with
    | none => cases m with
      | none => show (true && decide (ns = ms)) = _; simp
      | some j => show (false && decide (ns = ms)) = _; simp
    | some i => cases m with
      | none => show (false && decide (ns = ms)) = _; simp
      | some j =>
        show ((i == j) && decide (ns = ms)) = _
        by_cases h : i = j
        · subst h; simp
        · simp [h]

/-! isinstance of data -/
def intB : PyData → Bool
  | .int _ => true
  | .bool _ => true
  | _ => false
def boolB : PyData → Bool
  | .bool _ => true
  | _ => false
def tupB : PyData → Bool
  | .tuple _ => true
  | _ => false
def listB : PyData → Bool
  | .list _ => true
  | _ => false
theorem kit_int {K K' : PySem.W.Frag} {H : Hp} {v : V} {d : PyData} (h : Dp K H v d) : PySem.W.kitOne K' (.type (tyD d)) (.type "int") = some (intB d) := by
  cases h with
  | non => exact kit_ty (a := "NoneType") (b := "int") (r := false) (by decide +kernel)
  | bl b => exact kit_ty (a := "bool") (b := "int") (r := true) (by decide +kernel)
  | int i => exact kit_ty (a := "int") (b := "int") (r := true) (by decide +kernel)
  | str x => exact kit_ty (a := "str") (b := "int") (r := false) (by decide +kernel)
  | lst _ _ => exact kit_ty (a := "list") (b := "int") (r := false) (by decide +kernel)
  | tup _ _ => exact kit_ty (a := "tuple") (b := "int") (r := false) (by decide +kernel)
theorem kit_bool {K K' : PySem.W.Frag} {H : Hp} {v : V} {d : PyData} (h : Dp K H v d) : PySem.W.kitOne K' (.type (tyD d)) (.type "bool") = some (boolB d) := by
  cases h with
  | non => exact kit_ty (a := "NoneType") (b := "bool") (r := false) (by decide +kernel)
  | bl b => exact kit_ty (a := "bool") (b := "bool") (r := true) (by decide +kernel)
  | int i => exact kit_ty (a := "int") (b := "bool") (r := false) (by decide +kernel)
  | str x => exact kit_ty (a := "str") (b := "bool") (r := false) (by decide +kernel)
  | lst _ _ => exact kit_ty (a := "list") (b := "bool") (r := false) (by decide +kernel)
  | tup _ _ => exact kit_ty (a := "tuple") (b := "bool") (r := false) (by decide +kernel)
theorem kit_tuple {K K' : PySem.W.Frag} {H : Hp} {v : V} {d : PyData} (h : Dp K H v d) : PySem.W.kitOne K' (.type (tyD d)) (.type "tuple") = some (tupB d) := by
  cases h with
  | non => exact kit_ty (a := "NoneType") (b := "tuple") (r := false) (by decide +kernel)
  | bl b => exact kit_ty (a := "bool") (b := "tuple") (r := false) (by decide +kernel)
  | int i => exact kit_ty (a := "int") (b := "tuple") (r := false) (by decide +kernel)
  | str x => exact kit_ty (a := "str") (b := "tuple") (r := false) (by decide +kernel)
  | lst _ _ => exact kit_ty (a := "list") (b := "tuple") (r := false) (by decide +kernel)
  | tup _ _ => exact kit_ty (a := "tuple") (b := "tuple") (r := true) (by decide +kernel)
theorem kit_list {K K' : PySem.W.Frag} {H : Hp} {v : V} {d : PyData} (h : Dp K H v d) : PySem.W.kitOne K' (.type (tyD d)) (.type "list") = some (listB d) := by
  cases h with
  | non => exact kit_ty (a := "NoneType") (b := "list") (r := false) (by decide +kernel)
  | bl b => exact kit_ty (a := "bool") (b := "list") (r := false) (by decide +kernel)
  | int i => exact kit_ty (a := "int") (b := "list") (r := false) (by decide +kernel)
  | str x => exact kit_ty (a := "str") (b := "list") (r := false) (by decide +kernel)
  | lst _ _ => exact kit_ty (a := "list") (b := "list") (r := true) (by decide +kernel)
  | tup _ _ => exact kit_ty (a := "tuple") (b := "list") (r := false) (by decide +kernel)
/-! what is shaped -/
theorem lay_of {ds : List PyData} (h : ∀ d ∈ ds, d.canLay0 = true) : PyData.canLayAll0 ds = true := by
  induction ds with
  | nil => rfl
  | cons d ds ih => rw [PyData.canLayAll0, h d List.mem_cons_self, ih fun x hx => h x (List.mem_cons_of_mem _ hx)]; rfl
theorem depth_of {ds : List PyData} {n : Nat} (h : ∀ d ∈ ds, d.depth ≤ n) : PyData.depthAll ds ≤ n := by
  induction ds with
  | nil => exact Nat.zero_le _
  | cons d ds ih =>
    rw [PyData.depthAll]
    exact Nat.max_le.mpr ⟨h d List.mem_cons_self, ih fun x hx => h x (List.mem_cons_of_mem _ hx)⟩
theorem shaped_list {ds : List PyData} {n : Nat} (h1 : ∀ d ∈ ds, d.canLay0 = true) (h2 : ∀ d ∈ ds, d.depth ≤ n) (hn : n ≤ 63) : SeqAt.shaped (.list ds) = true := by
  unfold SeqAt.shaped
  rw [PyData.canLay0, lay_of h1, Bool.true_and]
  refine decide_eq_true ?_
  rw [PyData.depth]
  have := depth_of h2
  omega
theorem shaped_tuple {ds : List PyData} {n : Nat} (h1 : ∀ d ∈ ds, d.canLay0 = true) (h2 : ∀ d ∈ ds, d.depth ≤ n) (hn : n ≤ 63) : SeqAt.shaped (.tuple ds) = true := by
  unfold SeqAt.shaped
  rw [PyData.canLay0, lay_of h1, Bool.true_and]
  refine decide_eq_true ?_
  rw [PyData.depth]
  have := depth_of h2
  omega
theorem sh_ints (ns : List Int) : SeqAt.shaped (.list (ns.map PyData.int)) = true := by
  refine shaped_list (n := 0) (fun d h => ?_) (fun d h => ?_) (by omega)
  · obtain ⟨i, _, rfl⟩ := List.mem_map.mp h; rfl
  · obtain ⟨i, _, rfl⟩ := List.mem_map.mp h; exact Nat.le_refl _
theorem sh_intsT (ns : List Int) : SeqAt.shaped (.tuple (ns.map PyData.int)) = true := by
  refine shaped_tuple (n := 0) (fun d h => ?_) (fun d h => ?_) (by omega)
  · obtain ⟨i, _, rfl⟩ := List.mem_map.mp h; rfl
  · obtain ⟨i, _, rfl⟩ := List.mem_map.mp h; exact Nat.le_refl _
theorem sh_oints (os : List (Option Int)) : SeqAt.shaped (.list (os.map od)) = true := by
  refine shaped_list (n := 0) (fun d h => ?_) (fun d h => ?_) (by omega)
  · obtain ⟨i, _, rfl⟩ := List.mem_map.mp h; cases i <;> rfl
  · obtain ⟨i, _, rfl⟩ := List.mem_map.mp h; cases i <;> exact Nat.le_refl _

/-! in, of ints -/
theorem inV_ints (x : Int) (ns : List Int) : inV (.int x) (ns.map V.int) = decide (x ∈ ns) := by
  unfold inV
  rw [List.any_map]
  induction ns with
  | nil => rfl
  | cons n ns ih =>
    rw [List.any_cons, ih]
    show ((n == x) || decide (x ∈ ns)) = decide (x ∈ n :: ns)
    by_cases h : n = x
    · subst h; simp
    · have h' : ¬ x = n := fun z => h z.symm
      simp [h, h']
theorem flat_ints (ns : List Int) : (ns.map V.int).all flatV = true := by
  rw [List.all_map]
  exact List.all_eq_true.mpr fun _ _ => rfl

/-- len of a list, of a tuple -/
def rLenK (K : PySem.W.Frag) : List V → Hp → VK → Prop := fun xs H Q => ∃ p ys, xs = [.ref p] ∧ (SqL K H p ys ∨ SqT K H p ys) ∧ Q (.int ys.length) H
/-- a statement, then the rest, what stands between them said once -/
def tCut (t u : TS) : TS := fun D σ H => ∃ Mid : L2.St → Hp → Prop, t { D with nx := Mid } σ H ∧ ∀ σ' H', Mid σ' H' → u D σ' H'
theorem pss_cut {X : Cx} {st : Stmt} {rest : List Stmt} {t u : TS} (h1 : PS X st t) (h2 : PSs X rest u) : PSs X (st :: rest) (tCut t u) := by
  refine ⟨fun pins s σ H D I ⟨Mid, hm, hu⟩ => ?_⟩
  refine wpAny_execs_cons (L2.thn (h1.run pins s σ H { D with nx := Mid } I hm) fun f s1 q => ?_)
  cases f with
  | next =>
    obtain ⟨σ', H', I', q⟩ := q
    exact h2.run pins s1 σ' H' D I' (hu σ' H' q)
  | ret v => exact q
  | brk => exact q
  | cont => exact q
theorem yes_go {σ : L2.St} {H : Hp} {R S : Hp → Prop} (h : R H) : tYes σ H fun b H3 => if b = true then R H3 else S H3 := by
  show (if true = true then R H else S H)
  rw [if_pos rfl]
  exact h
/-! loops and comprehensions -/
section
variable {K : PySem.W.Frag} {J : It} {n : Nat} {G : Hp → Prop} {f g : Nat → Option V}
/-- a for whose target is a pair of names -/
theorem for_pair (w : Walk J n G (YPair f g)) {i1 i2 : Nat} {tb : TS} {D : Ends} {σ : L2.St} {H : Hp} (Pv : Nat → L2.St → Hp → Prop) (h0 : Pv 0 σ H) (hG : ∀ i σ H, i ≤ n → Pv i σ H → G H)
    (hs : ∀ i x y T σ H, i < n → f i = some x → g i = some y → Pv i σ H → H T = none → tb { D with nx := Pv (i + 1), ct := Pv (i + 1), bk := D.nx } ((σ.set i1 (some x)).set i2 (some y)) (upd H T (.tup [x, y])))
    (hd : ∀ σ H, Pv n σ H → D.nx σ H) :
    ∃ W : Nat → Nat → L2.St → Hp → Prop, (∃ m, W 0 m σ H) ∧ ∀ i m σ H, W i m σ H →
      (J.stop i H ∧ D.nx σ H) ∨ (J.go i H ∧ ∃ N : L2.St → Hp → Prop, (∀ σ' H', N σ' H' → ∃ m', m' < m ∧ W (i + 1) m' σ' H') ∧ ∀ x H', J.yld i H x H' → (gTup K 2 (gCons (gName i1) (gCons (gName i2) gNil))) x σ H' fun σ2 H2 => tb { D with nx := N, ct := N, bk := D.nx } σ2 H2) := by
  refine for_it w (g := gTup K 2 (gCons (gName i1) (gCons (gName i2) gNil))) Pv h0 hG (fun i x σ H H' hi p y => ?_) hd
  obtain ⟨T, u, v, rfl, hT, rfl, e1, e2⟩ := y
  exact ⟨T, [u, v], rfl, .of upd_same, rfl, u, [v], rfl, v, [], rfl, rfl, hs i u v T σ H hi e1 e2 p hT⟩
/-- a comprehension over what the walk gives, what it makes told beside w0, the target a name: the heap grows only; t who is taken, dv what is made of each -/
theorem lc_dataW (w0 : Addr) {Y : Nat → Hp → V → Hp → Prop} (w : Walk J n G Y) (xs : Nat → V) (hY : ∀ i H x H', i < n → G H → Y i H x H' → H' = H ∧ x = xs i) {j : Nat} {tt : L2.TT} {te : L2.TE} {vs : List Nat} {σ : L2.St} {H1 : Hp} {D : Addr} {Qd : Hp → Prop}
    (t : Nat → Bool) (dv : Nat → PyData) (hn : n ≤ 100000) (hD : H1 D = none) (hG : ∀ H, Same H1 H → G H) (hw : ∀ x, wipe ((wipe σ vs).set j (some x)) vs = wipe σ vs)
    (ht : ∀ i H, i < n → Same H1 H → ∀ Q : Bool → Hp → Prop, (∀ H3, Same H H3 → Q (t i) H3) → tt ((wipe σ vs).set j (some (xs i))) H Q)
    (he : ∀ i H, i < n → t i = true → Same H1 H → (∃ ys, H D = some (.lst ys)) → ∀ Q : VK, (∀ y H4, Same H H4 → Dp K (hid (hid H4 D) w0) y (dv i) → Q y H4) → te ((wipe σ vs).set j (some (xs i))) H Q)
    (hd : ∀ H ys, Same H1 H → H D = some (.lst ys) → DpAll K (hid H w0) ys (((List.range n).filter t).map dv) → Qd H) :
    ∃ W : Nat → Nat → Hp → Prop, (∃ m, W 0 m (upd H1 D (.lst []))) ∧ ∀ i m H, W i m H →
      (J.stop i H ∧ Qd H) ∨ (J.go i H ∧ ∃ Nx : Hp → Prop, (∀ H', Nx H' → ∃ m', m' < m ∧ W (i + 1) m' H') ∧ ∀ x H', J.yld i H x H' → (gName j) x (wipe σ vs) H' fun σ2 H2 => wipe σ2 vs = wipe σ vs ∧ tt σ2 H2 fun b H3 =>
        if b = true then te σ2 H3 fun y H4 => ∃ acc, H4 D = some (.lst acc) ∧ acc.length < sizeLine ∧ Nx (upd H4 D (.lst (acc ++ [y]))) else Nx H3) := by
  have app : ∀ {vs : List V} {ds : List PyData} {y : V} {d : PyData} {H : Hp}, DpAll K H vs ds → Dp K H y d → DpAll K H (vs ++ [y]) (ds ++ [d]) := by
    intro vs ds y d H h1 h2
    induction vs generalizing ds with
    | nil => cases h1; exact .cons h2 .nil
    | cons v vs ih => cases h1 with | cons a b => exact .cons a (ih b)
  have le : ∀ i, ((List.range i).filter t).length ≤ i := fun i => by
    have := List.length_filter_le t (List.range i)
    simpa using this
  refine lc_it w (fun i H => Same H1 H ∧ ∃ ys, H D = some (.lst ys) ∧ DpAll K (hid (hid H D) w0) ys (((List.range i).filter t).map dv)) ⟨same_new hD, [], upd_same, .nil⟩ (fun i H _ p => hG H p.1) (fun i x H H' hi p y => ?_) (fun H p => ?_)
  · obtain ⟨s1, ys, hy, hds⟩ := p
    obtain ⟨rfl, rfl⟩ := hY i H x H' hi (hG H s1) y
    refine ⟨hw _, ht i H' hi s1 _ fun H3 s3 => ?_⟩
    refine ite2 (fun e => ?_) (fun e => ?_)
    · refine he i H3 hi e (s1.trans s3) ⟨ys, s3 D _ hy⟩ _ fun z H4 s4 hz => ?_
      have hy4 : H4 D = some (.lst ys) := s4 D _ (s3 D _ hy)
      refine ⟨ys, hy4, ?_, ((s1.trans s3).trans s4).mut hD, _, upd_same, ?_⟩
      · have e1 := dps_length hds
        rw [List.length_map] at e1
        have e2 := le i
        have : (100000 : Nat) < sizeLine := by decide
        omega
      · rw [hid_upd, List.range_succ, List.filter_append, List.map_append, List.filter_cons, if_pos e]
        exact app ((hid_mono (hid_mono (s3.trans s4) D) w0).dp' hds) hz
    · refine ⟨s1.trans s3, ys, s3 D _ hy, ?_⟩
      rw [List.range_succ, List.filter_append, List.map_append, List.filter_cons, if_neg e]
      simp only [List.filter_nil, List.map_nil, List.append_nil]
      exact (hid_mono (hid_mono s3 D) w0).dp' hds
  · obtain ⟨s1, ys, hy, hds⟩ := p
    exact hd H ys s1 hy ((hid_mono (hid_same H D) w0).dp' hds)
/-- a comprehension over what the walk gives, the target a name: the heap grows only; t who is taken, dv what is made of each -/
theorem lc_data {Y : Nat → Hp → V → Hp → Prop} (w : Walk J n G Y) (xs : Nat → V) (hY : ∀ i H x H', i < n → G H → Y i H x H' → H' = H ∧ x = xs i) {j : Nat} {tt : L2.TT} {te : L2.TE} {vs : List Nat} {σ : L2.St} {H1 : Hp} {D : Addr} {Qd : Hp → Prop}
    (t : Nat → Bool) (dv : Nat → PyData) (hn : n ≤ 100000) (hD : H1 D = none) (hG : ∀ H, Same H1 H → G H) (hw : ∀ x, wipe ((wipe σ vs).set j (some x)) vs = wipe σ vs)
    (ht : ∀ i H, i < n → Same H1 H → ∀ Q : Bool → Hp → Prop, (∀ H3, Same H H3 → Q (t i) H3) → tt ((wipe σ vs).set j (some (xs i))) H Q)
    (he : ∀ i H, i < n → t i = true → Same H1 H → (∃ ys, H D = some (.lst ys)) → ∀ Q : VK, (∀ y H4, Same H H4 → Dp K (hid H4 D) y (dv i) → Q y H4) → te ((wipe σ vs).set j (some (xs i))) H Q)
    (hd : ∀ H ys, Same H1 H → H D = some (.lst ys) → DpAll K H ys (((List.range n).filter t).map dv) → Qd H) :
    ∃ W : Nat → Nat → Hp → Prop, (∃ m, W 0 m (upd H1 D (.lst []))) ∧ ∀ i m H, W i m H →
      (J.stop i H ∧ Qd H) ∨ (J.go i H ∧ ∃ Nx : Hp → Prop, (∀ H', Nx H' → ∃ m', m' < m ∧ W (i + 1) m' H') ∧ ∀ x H', J.yld i H x H' → (gName j) x (wipe σ vs) H' fun σ2 H2 => wipe σ2 vs = wipe σ vs ∧ tt σ2 H2 fun b H3 =>
        if b = true then te σ2 H3 fun y H4 => ∃ acc, H4 D = some (.lst acc) ∧ acc.length < sizeLine ∧ Nx (upd H4 D (.lst (acc ++ [y]))) else Nx H3) := by
  have hh : ∀ H : Hp, hid (hid H D) D = hid H D := fun H => hid_of (hid_at H D)
  exact lc_dataW D w xs hY t dv hn hD hG hw ht (fun i H hi e s1 hz Q q => he i H hi e s1 hz Q fun y H4 s2 d => q y H4 s2 (by rw [hh]; exact d)) (fun H ys s1 hy hds => hd H ys s1 hy ((hid_same H D).dp' hds))
/-- .. whose target is a pair of names: the walk gives new pairs -/
theorem lc_data2 (w : Walk J n G (YPair f g)) (xs ys : Nat → V) (hf : ∀ i, i < n → f i = some (xs i)) (hg : ∀ i, i < n → g i = some (ys i)) {j1 j2 : Nat} {tt : L2.TT} {te : L2.TE} {vs : List Nat} {σ : L2.St} {H1 : Hp} {D : Addr} {Qd : Hp → Prop}
    (t : Nat → Bool) (dv : Nat → PyData) (hn : n ≤ 100000) (hD : H1 D = none) (hG : ∀ H, Same H1 H → G H) (hw : ∀ x y, wipe (((wipe σ vs).set j1 (some x)).set j2 (some y)) vs = wipe σ vs)
    (ht : ∀ i H, i < n → Same H1 H → ∀ Q : Bool → Hp → Prop, (∀ H3, Same H H3 → Q (t i) H3) → tt (((wipe σ vs).set j1 (some (xs i))).set j2 (some (ys i))) H Q)
    (he : ∀ i H, i < n → t i = true → Same H1 H → (∃ ys, H D = some (.lst ys)) → ∀ Q : VK, (∀ y H4, Same H H4 → Dp K (hid H4 D) y (dv i) → Q y H4) → te (((wipe σ vs).set j1 (some (xs i))).set j2 (some (ys i))) H Q)
    (hd : ∀ H ys, Same H1 H → H D = some (.lst ys) → DpAll K H ys (((List.range n).filter t).map dv) → Qd H) :
    ∃ W : Nat → Nat → Hp → Prop, (∃ m, W 0 m (upd H1 D (.lst []))) ∧ ∀ i m H, W i m H →
      (J.stop i H ∧ Qd H) ∨ (J.go i H ∧ ∃ Nx : Hp → Prop, (∀ H', Nx H' → ∃ m', m' < m ∧ W (i + 1) m' H') ∧ ∀ x H', J.yld i H x H' → (gTup K 2 (gCons (gName j1) (gCons (gName j2) gNil))) x (wipe σ vs) H' fun σ2 H2 => wipe σ2 vs = wipe σ vs ∧ tt σ2 H2 fun b H3 =>
        if b = true then te σ2 H3 fun y H4 => ∃ acc, H4 D = some (.lst acc) ∧ acc.length < sizeLine ∧ Nx (upd H4 D (.lst (acc ++ [y]))) else Nx H3) := by
  have app : ∀ {vs : List V} {ds : List PyData} {y : V} {d : PyData} {H : Hp}, DpAll K H vs ds → Dp K H y d → DpAll K H (vs ++ [y]) (ds ++ [d]) := by
    intro vs ds y d H h1 h2
    induction vs generalizing ds with
    | nil => cases h1; exact .cons h2 .nil
    | cons v vs ih => cases h1 with | cons a b => exact .cons a (ih b)
  have le : ∀ i, ((List.range i).filter t).length ≤ i := fun i => by
    have := List.length_filter_le t (List.range i)
    simpa using this
  refine lc_it w (fun i H => Same H1 H ∧ ∃ ys, H D = some (.lst ys) ∧ DpAll K (hid H D) ys (((List.range i).filter t).map dv)) ⟨same_new hD, [], upd_same, .nil⟩ (fun i H _ p => hG H p.1) (fun i x H H' hi p y => ?_) (fun H p => ?_)
  · obtain ⟨s1, zs, hz, hds⟩ := p
    obtain ⟨T, u, v, rfl, hT, rfl, e1, e2⟩ := y
    obtain rfl := Option.some.inj ((hf i hi).symm.trans e1)
    obtain rfl := Option.some.inj ((hg i hi).symm.trans e2)
    have nDT : D ≠ T := ne_of_none hz hT
    have s2 : Same H (upd H T (.tup [xs i, ys i])) := same_new hT
    have hz2 : (upd H T (.tup [xs i, ys i])) D = some (.lst zs) := s2 _ _ hz
    have hds2 : DpAll K (hid (upd H T (.tup [xs i, ys i])) D) zs (((List.range i).filter t).map dv) := (hid_mono s2 D).dp' hds
    refine ⟨T, [xs i, ys i], rfl, .of upd_same, rfl, xs i, [ys i], rfl, ys i, [], rfl, rfl, hw _ _, ht i _ hi (s1.trans s2) _ fun H3 s3 => ?_⟩
    refine ite2 (fun e => ?_) (fun e => ?_)
    · refine he i H3 hi e ((s1.trans s2).trans s3) ⟨zs, s3 D _ hz2⟩ _ fun z H4 s4 hzd => ?_
      refine ⟨zs, s4 D _ (s3 D _ hz2), ?_, (((s1.trans s2).trans s3).trans s4).mut hD, _, upd_same, ?_⟩
      · have e1 := dps_length hds
        rw [List.length_map] at e1
        have e2 := le i
        have : (100000 : Nat) < sizeLine := by decide
        omega
      · rw [hid_upd, List.range_succ, List.filter_append, List.map_append, List.filter_cons, if_pos e]
        exact app ((hid_mono (s3.trans s4) D).dp' hds2) hzd
    · refine ⟨(s1.trans s2).trans s3, zs, s3 D _ hz2, ?_⟩
      rw [List.range_succ, List.filter_append, List.map_append, List.filter_cons, if_neg e]
      simp only [List.filter_nil, List.map_nil, List.append_nil]
      exact (hid_mono s3 D).dp' hds2
  · obtain ⟨s1, zs, hz, hds⟩ := p
    exact hd H zs s1 hz ((hid_same H D).dp' hds)
/-- two generators, the second a range -/
theorem lc2_data {Y : Nat → Hp → V → Hp → Prop} (w : Walk J n G Y) (xs : Nat → V) (hY : ∀ i H x H', i < n → G H → Y i H x H' → H' = H ∧ x = xs i) {j j1 : Nat} {wi1 : L2.TI} {te : L2.TE} {vs vs1 : List Nat} {σ : L2.St} {H1 : Hp} {D : Addr} {Qd : Hp → Prop}
    (lo : Int) (n1 : Nat) (dv : Nat → Nat → PyData) (hn : n * n1 ≤ 100000) (hD : H1 D = none) (hG : ∀ H, Same H1 H → G H) (hw : ∀ x, wipe ((wipe σ vs).set j (some x)) vs = wipe σ vs)
    (hi : ∀ i H, i < n → Same H1 H → ∀ R : It → Hp → Prop, R (Itr lo n1) H → wi1 ((wipe σ vs).set j (some (xs i))) H R)
    (hw1 : ∀ x y, wipe ((wipe ((wipe σ vs).set j (some x)) vs1).set j1 (some y)) vs1 = wipe ((wipe σ vs).set j (some x)) vs1)
    (he : ∀ i k H, i < n → k < n1 → Same H1 H → (∃ ys, H D = some (.lst ys)) → ∀ Q : VK, (∀ y H4, Same H H4 → Dp K (hid H4 D) y (dv i k) → Q y H4) → te ((wipe ((wipe σ vs).set j (some (xs i))) vs1).set j1 (some (.int (lo + (k : Int))))) H Q)
    (hd : ∀ H ys, Same H1 H → H D = some (.lst ys) → DpAll K H ys ((List.range n).flatMap fun i => (List.range n1).map (dv i)) → Qd H) :
    ∃ W : Nat → Nat → Hp → Prop, (∃ m, W 0 m (upd H1 D (.lst []))) ∧ ∀ i m H, W i m H →
      (J.stop i H ∧ Qd H) ∨ (J.go i H ∧ ∃ Nx : Hp → Prop, (∀ H', Nx H' → ∃ m', m' < m ∧ W (i + 1) m' H') ∧ ∀ x H', J.yld i H x H' → (gName j) x (wipe σ vs) H' fun σ2 H2 => wipe σ2 vs = wipe σ vs ∧ tYes σ2 H2 fun b H3 =>
        if b = true then wi1 σ2 H3 fun J1 H4 => ∃ W1 : Nat → Nat → Hp → Prop, (∃ m, W1 0 m H4) ∧ ∀ j k H, W1 j k H →
          (J1.stop j H ∧ Nx H) ∨ (J1.go j H ∧ ∃ Nx1 : Hp → Prop, (∀ H', Nx1 H' → ∃ k', k' < k ∧ W1 (j + 1) k' H') ∧ ∀ x H', J1.yld j H x H' → (gName j1) x (wipe σ2 vs1) H' fun σ3 H5 => wipe σ3 vs1 = wipe σ2 vs1 ∧ tYes σ3 H5 fun b H6 =>
            if b = true then te σ3 H6 fun y H7 => ∃ acc, H7 D = some (.lst acc) ∧ acc.length < sizeLine ∧ Nx1 (upd H7 D (.lst (acc ++ [y]))) else Nx1 H6)
        else Nx H3) := by
  have app : ∀ {vs : List V} {ds : List PyData} {y : V} {d : PyData} {H : Hp}, DpAll K H vs ds → Dp K H y d → DpAll K H (vs ++ [y]) (ds ++ [d]) := by
    intro vs ds y d H h1 h2
    induction vs generalizing ds with
    | nil => cases h1; exact .cons h2 .nil
    | cons v vs ih => cases h1 with | cons a b => exact .cons a (ih b)
  have len : ∀ i, ((List.range i).flatMap fun i => (List.range n1).map (dv i)).length = i * n1 := fun i => by
    induction i with
    | zero => simp
    | succ i ih => rw [List.range_succ, List.flatMap_append, List.length_append, ih, Nat.succ_mul]; simp
  refine ⟨fun i m H => m = n - i ∧ i ≤ n ∧ Same H1 H ∧ ∃ ys, H D = some (.lst ys) ∧ DpAll K (hid H D) ys ((List.range i).flatMap fun i => (List.range n1).map (dv i)), ⟨n, by simp, Nat.zero_le _, same_new hD, [], upd_same, .nil⟩, ?_⟩
  rintro i m H ⟨rfl, hin, s1, ys, hy, hds⟩
  have q := hG H s1
  by_cases hlt : i < n
  · refine .inr ⟨w.goes i H hlt q, fun H => i + 1 ≤ n ∧ Same H1 H ∧ ∃ ys, H D = some (.lst ys) ∧ DpAll K (hid H D) ys ((List.range (i + 1)).flatMap fun i => (List.range n1).map (dv i)), fun H' p' => ⟨n - (i + 1), by omega, rfl, p'⟩, fun x H' y => ?_⟩
    obtain ⟨rfl, rfl⟩ := hY i H x H' hlt q (w.yields i H x H' hlt q y)
    refine ⟨hw _, yes_go (hi i H' hlt s1 _ ?_)⟩
    refine ⟨fun k m H => m = n1 - k ∧ k ≤ n1 ∧ Same H1 H ∧ ∃ ys, H D = some (.lst ys) ∧ DpAll K (hid H D) ys (((List.range i).flatMap fun i => (List.range n1).map (dv i)) ++ (List.range k).map (dv i)), ⟨n1, by simp, Nat.zero_le _, s1, ys, hy, by simpa using hds⟩, ?_⟩
    rintro k m H ⟨rfl, hk, s2, zs, hz, hzs⟩
    by_cases hk2 : k < n1
    · refine .inr ⟨hk2, fun H => Same H1 H ∧ ∃ ys, H D = some (.lst ys) ∧ DpAll K (hid H D) ys (((List.range i).flatMap fun i => (List.range n1).map (dv i)) ++ (List.range (k + 1)).map (dv i)), fun H' p' => ⟨n1 - (k + 1), by omega, rfl, hk2, p'⟩, fun x H'' y => ?_⟩
      obtain ⟨rfl, rfl⟩ := y
      refine ⟨hw1 _ _, yes_go ?_⟩
      refine he i k H'' hlt hk2 s2 ⟨zs, hz⟩ _ fun z H4 s4 hzd => ⟨zs, s4 D _ hz, ?_, (s2.trans s4).mut hD, _, upd_same, ?_⟩
      · have e1 := dps_length hzs
        rw [List.length_append, len, List.length_map, List.length_range] at e1
        have : (i + 1) * n1 ≤ n * n1 := Nat.mul_le_mul_right _ hlt
        rw [Nat.succ_mul] at this
        have : (100000 : Nat) < sizeLine := by decide
        omega
      · rw [hid_upd, List.range_succ, List.map_append, ← List.append_assoc]
        exact app ((hid_mono s4 D).dp' hzs) hzd
    · have e : k = n1 := by omega
      subst e
      refine .inl ⟨Nat.le_refl _, hlt, s2, zs, hz, ?_⟩
      rw [List.range_succ, List.flatMap_append]
      simpa using hzs
  · have e : i = n := by omega
    subst e
    exact .inl ⟨w.stops H q, hd H ys s1 hy ((hid_same H D).dp' hds)⟩
end
theorem tup_hid {K : PySem.W.Frag} {H : Hp} {D u : Addr} {xs : List V} (hD : ∃ ys, H D = some (.lst ys)) (h : SqT K H u xs) : SqT K (hid H D) u xs := by
  obtain ⟨ys, hD⟩ := hD
  rcases h with (h | ⟨o, h⟩) | h
  · exact .inl (.inl (hid_some h fun e => by rw [e, hD] at h; cases h))
  · exact .inl (.inr ⟨o, hid_some h fun e => by rw [e, hD] at h; cases h⟩)
  · exact .inr h
/-- a tuple of ints and another -/
theorem cat_go {K : PySem.W.Frag} {H : Hp} {a b : Addr} {q q' : List Int} {Q : VK} (ha : SqT K H a (q.map V.int)) (hb : SqT K H b (q'.map V.int)) (hl : q.length + q'.length ≤ 1000) (h : ∀ H' p, Same H H' → SqT K H' p ((q ++ q').map V.int) → Q (.ref p) H') : rCatA K (.ref a) (.ref b) H Q := by
  refine ⟨a, b, _, _, rfl, rfl, ha, hb, ?_, fun e => ?_, fun _ e => ?_, fun _ _ p hp => ?_⟩
  · rw [List.length_map, List.length_map]
    exact Nat.le_of_lt (small1000 hl)
  · have : q = [] := List.map_eq_nil_iff.mp e
    subst this
    exact h H b (Same.refl _) hb
  · have : q' = [] := List.map_eq_nil_iff.mp e
    subst this
    exact h H a (Same.refl _) (by rw [List.append_nil]; exact ha)
  · rw [← List.map_append]
    exact h _ p (same_new hp) (.of upd_same)
theorem erase_map {α β : Type} (f : α → β) : ∀ (l : List α) (k : Nat), (l.map f).eraseIdx k = (l.eraseIdx k).map f
  | [], _ => by simp
  | a :: l, 0 => rfl
  | a :: l, k + 1 => by
    simp only [List.map_cons, List.eraseIdx_cons_succ]
    rw [erase_map f l k]
/-- q[:p], q[p:] of a tuple of ints -/
theorem slA_to {K : PySem.W.Frag} {H : Hp} {a : Addr} {q : List Int} {p : Nat} {Q : VK} (ha : SqT K H a (q.map V.int)) (h : ∀ H' b, Same H H' → SqT K H' b ((q.take p).map V.int) → Q (.ref b) H') : rSlA K (.ref a) none (some (p : Int)) H Q := by
  refine ⟨a, _, rfl, ha, fun c => ?_, fun _ b hb => ?_⟩
  · have c2 := c.2
    rw [HT.sIx_nat, List.length_map] at c2
    refine h H a (Same.refl _) ?_
    rw [List.take_of_length_le (by omega)]
    exact ha
  · rw [cut_to]
    exact h _ b (same_new hb) (.of upd_same)
theorem slA_from {K : PySem.W.Frag} {H : Hp} {a : Addr} {q : List Int} {p : Nat} {Q : VK} (ha : SqT K H a (q.map V.int)) (h : ∀ H' b, Same H H' → SqT K H' b ((q.drop p).map V.int) → Q (.ref b) H') : rSlA K (.ref a) (some (p : Int)) none H Q := by
  refine ⟨a, _, rfl, ha, fun c => ?_, fun _ b hb => ?_⟩
  · have c1 := c.1
    rw [HT.sIx_nat, List.length_map] at c1
    refine h H a (Same.refl _) ?_
    have e : q.drop p = q := by
      by_cases z : p = 0
      · rw [z, List.drop_zero]
      · have : q = [] := List.eq_nil_of_length_eq_zero (by omega)
        rw [this, List.drop_nil]
    rw [e]
    exact ha
  · rw [cut_from]
    exact h _ b (same_new hb) (.of upd_same)
theorem range_flat {α β : Type} (d : α) (g : α → List β) (l : List α) : (List.range l.length).flatMap (fun i => g (l.getD i d)) = l.flatMap g := by
  have e1 : (List.range l.length).map (fun i => l.getD i d) = l := by
    refine List.ext_getElem (by simp) fun i h1 h2 => ?_
    simp [List.getD_eq_getElem?_getD, List.getElem?_eq_getElem h2]
  conv => rhs; rw [← e1]
  rw [List.flatMap_map]
theorem range_getD {α β : Type} (d : α) (f : α → β) (l : List α) : ((List.range l.length).filter (fun _ => true)).map (fun i => f (l.getD i d)) = l.map f := by
  rw [List.filter_eq_self.mpr (by simp)]
  refine List.ext_getElem (by simp) fun i h1 h2 => ?_
  have h : i < l.length := by simpa using h2
  simp [List.getD_eq_getElem?_getD, List.getElem?_eq_getElem h]
theorem ixN_of {n j : Nat} (h : j < n) : ixN n (j : Int) = some j := by
  unfold ixN
  rw [if_pos (by omega), if_pos (by omega), Int.toNat_natCast]
theorem same_str {x y : Str} (h : x = y) : (!decide (V.str x = V.str y)) = false := by
  rw [h, decide_eq_true rfl]
  rfl
def tupI (q : List Int) : PyData := .tuple (q.map PyData.int)
theorem tup_inj {q q' : List Int} (h : PyData.tuple (q.map PyData.int) = .tuple (q'.map PyData.int)) : q = q' := by
  have h1 := PyData.tuple.inj h
  have e := eqv_ints q q'
  have e2 := eqv_ints q q
  rw [← h1, e2] at e
  simpa using e.symm
end Ai

/-! code that runs while an exception is handled: the end of a list's and a tuple's walk, zip, unpacking, a list comprehension, a def that looks at the exception -/
namespace Ai
open PySem PySem.Spec PyProof.Rows L2 HotX
section
variable {prog : Program} {w : World} {A : Around} {E : Value → Shared → Prop} {s : Shared}
theorem _root_.HotX.HotAt.keep {x1 : Addr} {h h' : Heap} (c : HotAt A x1 h) (k : ∀ o, h.get? x1 = some o → h'.get? x1 = some o) : HotAt A x1 h' := by
  obtain ⟨hh, o, vs, e, d, n⟩ := c
  exact ⟨hh, o, vs, k o e, d, n⟩
/-- a StopIteration that is raised there -/
theorem stop_hot {α : Type} {x1 : Addr} {Q : α → Shared → Prop} (hot : HotAt A x1 s.heap)
    (hE : ∀ h' e, (∀ b o, s.heap.get? b = some o → h'.get? b = some o) → (∃ o, h'.get? e = some o ∧ o.cls = .type "StopIteration") → E (.ref e) { s with heap := h' }) :
    wpAny (model prog w) A (Builtin.SmallTypes.stopIteration : Sem α) Q E s := by
  unfold Builtin.SmallTypes.stopIteration
  obtain ⟨hh, o1, vs1, h1, d1, c1⟩ := hot
  refine wpAny_bind ?_
  simp only [newExc, newTuple]
  refine wpAny_bind (wpAny_newObj_type ?_ (by size_fits))
  refine wpAny_bind (m := firstArgMember _ _) (wpAny_of_eq (a := Value.none) (by first | rfl | (simp only [firstArgMember]; rfl)) ?_)
  refine wpAny_newObj_type ?_ (by size_fits)
  have g1 := Heap.get?_push_of_some { cls := .type "tuple", data := .seq ([] : List Value).toArray } h1
  refine raiseNew_hot ⟨hh, o1, vs1, Heap.get?_push_of_some _ g1, d1, c1⟩ (Nat.ne_of_lt (Heap.lt_size g1)) (Heap.get?_push_size _ rfl) rfl (by first | (simp; done) | (simp; omega) | (simp only [Array.size_append]; simp; omega)) ?_
  refine hE _ _ (fun b o e => ?_) ⟨_, Heap.get?_update_self _ (Heap.get?_push_size _ rfl) rfl, rfl⟩
  have g2 := Heap.get?_push_of_some { cls := .type "tuple", data := .seq ([] : List Value).toArray } e
  rw [Heap.get?_update_other _ _ (Nat.ne_of_gt (Heap.lt_size g2))]
  exact Heap.get?_push_of_some _ g2
theorem list_end_hot {it l x1 : Addr} {i : Nat} {items : Array Value} {Q : Value → Shared → Prop} (hot : HotAt A x1 s.heap) (hne : x1 ≠ it) (hit : s.heap.IsListIter it l i) (hl : s.heap.IsList l items) (hx : items[i]? = none)
    (hE : ∀ h' e, Heap.ExtBut it s.heap h' → (∃ o, h'.get? e = some o ∧ o.cls = .type "StopIteration") → E (.ref e) { s with heap := h' }) :
    wpAny (model prog w) A (Builtin.SmallTypes.nextOf (.ref it)) Q E s := by
  obtain ⟨o, ho, hc, hd⟩ := id hit
  obtain ⟨ol, hol, _, nl, hdl⟩ := hl
  unfold Builtin.SmallTypes.nextOf
  refine wpAny_bind (wpAny_callSpecial?_slot (name := Str.ofString "__next__") hit.typeIs slot_listiter_next (wpAny_call_entry slot_listiter_next hit.typeIs entry_listiter_next ?_ (args_listiter_next _)))
  show wpAny _ _ (field (.ref it) 0 >>= _) _ _ s
  refine wpAny_bind (wpAny_field ho hd (x := .ref l) rfl ?_)
  show wpAny _ _ (if (Value.ref l == Value.none) = true then _ else _) _ _ s
  rw [if_neg (show ¬ ((Value.ref l == Value.none) = true) from Bool.false_ne_true)]
  show wpAny _ _ (field (.ref it) 1 >>= _) _ _ s
  refine wpAny_bind (wpAny_field ho hd (x := .int i 0) rfl ?_)
  show wpAny _ _ (seqItems? (.ref l) >>= _) _ _ s
  refine wpAny_bind (wpAny_seqItems hol hdl ?_)
  simp only [Int.toNat_natCast, hx]
  refine wpAny_bind (wpAny_rule (wpAny_bind (wpAny_setField ho hd (by simp) ?_)))
  have sb : Heap.SameBut it s.heap (s.heap.update it (Obj.mapFields (·.setIfInBounds 0 .none))) := Heap.SameBut.update ..
  exact stop_hot (hot.keep fun o e => sb.extBut x1 o hne e) fun h' e hk he => hE h' e (fun b o hb q => hk b o (sb.extBut b o hb q)) he
theorem tuple_end_hot {it t x1 : Addr} {i : Nat} {items : Array Value} {Q : Option Value → Shared → Prop} (hot : HotAt A x1 s.heap) (hne : x1 ≠ it) (hit : IsTupIter s.heap it t i) (ht : IsTup s.heap t items) (hx : items[i]? = none)
    (hQ : ∀ h', Heap.ExtBut it s.heap h' → Q none { s with heap := h' }) : wpAny (model prog w) A (pyNext (.ref it)) Q E s := by
  obtain ⟨o, ho, hc, hd⟩ := id hit
  obtain ⟨ol, hol, _, nl, hdl⟩ := ht
  unfold pyNext
  refine wpAny_bind (wpAny_attempt (wpAny_callSpecial?_slot (name := Str.ofString "__next__") hit.typeIs slot_tupleiter_next (wpAny_call_entry slot_tupleiter_next hit.typeIs entry_tupleiter_next ?_ (args_tupleiter_next _))))
  show wpAny _ _ (field (.ref it) 0 >>= _) _ _ s
  refine wpAny_bind (wpAny_field ho hd (x := .ref t) rfl ?_)
  show wpAny _ _ (if (Value.ref t == Value.none) = true then _ else _) _ _ s
  rw [if_neg (show ¬ ((Value.ref t == Value.none) = true) from Bool.false_ne_true)]
  show wpAny _ _ (field (.ref it) 1 >>= _) _ _ s
  refine wpAny_bind (wpAny_field ho hd (x := .int i 0) rfl ?_)
  show wpAny _ _ (seqItems? (.ref t) >>= _) _ _ s
  refine wpAny_bind (wpAny_seqItems hol hdl ?_)
  simp only [Int.toNat_natCast, hx]
  refine wpAny_bind (wpAny_rule (wpAny_bind (wpAny_setField ho hd (by simp) ?_)))
  have sb : Heap.SameBut it s.heap (s.heap.update it (Obj.mapFields (·.setIfInBounds 0 .none))) := Heap.SameBut.update ..
  refine stop_hot (hot.keep fun o e => sb.extBut x1 o hne e) fun h' e hk he => ?_
  obtain ⟨oe, he1, he2⟩ := he
  refine wpAny_bind (wpAny_isInstance (T := "StopIteration") (b := true) ⟨oe, he1, he2⟩ isSubtype_stop ?_)
  exact wpAny_pure (hQ _ fun b o hb q => hk b o (sb.extBut b o hb q))
/-- a, b = a tuple -/
theorem assign_tuple_hot {x1 : Addr} {env : Env} {elts : List Expr} {k} {pos : Pos} {t : Addr} {items : Array Value} {Q : Unit → Shared → Prop} (hot : HotAt A x1 s.heap) (ht : IsTup s.heap t items)
    (hn : (assignEach elts env).length = items.size) (hstar : (assignEach elts env).findIdx? (·.1) = none)
    (h : ∀ h', Heap.ExtBut s.heap.objs.size s.heap h' → wpAny (model prog w) A (assignInOrder ((assignEach elts env).map (·.2)) items.toList) Q E { s with heap := h' }) :
    wpAny (model prog w) A (assign (.Tuple elts k pos) env (.ref t)) Q E s := by
  rw [assign_Tuple]
  refine wpAny_bind (wpAny_standAt ?_)
  have hlt : t ≠ s.heap.objs.size := by obtain ⟨o, ho, _⟩ := ht; exact Nat.ne_of_lt (Heap.lt_size ho)
  have hx1 : x1 ≠ s.heap.objs.size := by obtain ⟨_, o, _, e, _⟩ := hot; exact Nat.ne_of_lt (Heap.lt_size e)
  unfold unpack
  rw [hn, hstar]
  refine wpAny_bind (wpAny_holding ?_)
  unfold unpackItems
  refine wpAny_bind ?_
  unfold notIterableAtAll
  refine wpAny_bind (wpAny_specialOf ht.typeIs slot_tuple_iter.lookup ?_)
  refine wpAny_pure ?_
  simp only [Bool.false_eq_true, if_false]
  refine wpAny_bind (wpAny_holding (iter_tuple ht ?_))
  refine wpAny_bind (wpAny_holding (draw_tuple hlt items.size 0 _ _ ⟨_, Heap.get?_push_size _ rfl, rfl, rfl⟩ (ht.push _) (by omega) fun h₁ hit₁ hs₁ => ?_))
  have hall : List.take items.size (List.drop 0 items.toList) = items.toList := by
    rw [List.drop_zero]; exact List.take_of_length_le (by simp)
  rw [hall, if_neg (by simp)]
  have up : ∀ b o, b ≠ s.heap.objs.size → s.heap.get? b = some o → h₁.get? b = some o := fun b o hb e => hs₁.extBut b o hb (Heap.get?_push_of_some _ e)
  refine wpAny_bind (wpAny_holding (tuple_end_hot (hot.keep fun o e => up x1 o hx1 e) hx1 hit₁ ((ht.push _).extBut hs₁.extBut hlt) (by simp) fun h₂ he₂ => ?_))
  simp only [Option.isSome_none, Bool.false_eq_true, if_false]
  exact wpAny_pure (h h₂ fun b o hb e => he₂ b o hb (up b o hb e))
/-- a list's iterator, there -/
theorem draws_hot {it l x1 : Addr} (hA : A.handled = some (.ref x1)) (hne : l ≠ it) (hx : x1 ≠ it) (items : Array Value) :
    Draws prog w A it [it, l, x1] items.size (fun i v => items[i]? = some v) (fun i h => h.IsListIter it l i ∧ h.IsList l items ∧ HotAt A x1 h) where
  live := fun _ _ st => let ⟨o, ho, _⟩ := st.1; ⟨o, ho⟩
  frame := fun _ _ _ st hk => ⟨st.1.at fun o e => hk it (by simp) o e, st.2.1.at fun o e => hk l (by simp) o e, st.2.2.keep fun o e => hk x1 (by simp) o e⟩
  item := fun i s Q E hi st hQ => by
    refine wpAny_nextOf_list_item st.1 st.2.1 (x := items[i]) (by simp [hi]) fun h' hit' hs' => ?_
    exact hQ _ h' s.toks (by simp [hi]) ⟨hit', st.2.1.extBut hs'.extBut hne, st.2.2.keep fun o e => hs'.extBut _ _ hx e⟩ hs'
  done := fun s Q E st hE => list_end_hot st.2.2 hx st.1 st.2.1 (by simp) hE
end

/-! ### zip, there -/
/-- the lists at a and b as they stand at each turn, the items in new pairs, n of them -/
def ItzH (K : PySem.W.Frag) (a b : Addr) (n : Nat) : It :=
  ⟨fun i H => (Itz K a b).go i H, fun i H v H' => (Itz K a b).yld i H v H', fun i H => i = n ∧ ∃ xs ys : List V, SqL K H a xs ∧ SqL K H b ys ∧ n = min xs.length ys.length⟩
theorem turn_zipH {P : Program} {w : World} {K : PySem.W.Frag} {elts : List Expr} {kk : Nat} {tpos : Pos} {a b z TI TO i1 i2 : Addr} {n : Nat} (D : ZipApart z TI TO i1 i2 a b) :
    L2H.TurnH P w K (.Tuple elts kk tpos) (ItzH K a b n) [z, TI, TO, i1, i2] z (fun i h => IsZip h z TI TO .none ∧ IsPair h TI (.ref i1) (.ref i2) ∧ (∃ x y, IsPair h TO x y) ∧ h.IsListIter i1 a i ∧ h.IsListIter i2 b i) where
  mem := (turn_zip (P := P) (w := w) (K := K) (elts := elts) (kk := kk) (tpos := tpos) D).mem
  obj := (turn_zip (P := P) (w := w) (K := K) (elts := elts) (kk := kk) (tpos := tpos) D).obj
  keep := (turn_zip (P := P) (w := w) (K := K) (elts := elts) (kk := kk) (tpos := tpos) D).keep
  self := (turn_zip (P := P) (w := w) (K := K) (elts := elts) (kk := kk) (tpos := tpos) D).self
  item := by
    intro X hP hw hK hc i pins s σ H E I hf st hg
    subst hP hw hK
    obtain ⟨hz, hTI, ⟨x0, y0, hTO⟩, h1, h2⟩ := st
    obtain ⟨xs, ys, x, y, hqx, hqy, hx, hy⟩ := hg
    obtain ⟨its, rv, p, _⟩ := I.list hqx
    obtain ⟨its2, rv2, p2, _⟩ := I.list hqy
    obtain ⟨u, hu, ru⟩ := rv.get hx
    obtain ⟨u2, hu2, ru2⟩ := rv2.get hy
    have far : ∀ c ∈ [z, TI, TO, i1, i2], c < s.heap.objs.size := fun c hcm => by
      simp only [List.mem_cons, List.not_mem_nil, or_false] at hcm
      obtain ⟨_, e1, _⟩ := h1
      obtain ⟨_, e2, _⟩ := h2
      rcases hcm with q | q | q | q | q <;> rw [q]
      · exact Heap.lt_size hz
      · exact Heap.lt_size hTI
      · exact Heap.lt_size hTO
      · exact Heap.lt_size e1
      · exact Heap.lt_size e2
    refine wpAny_pyNext_zip_item D hz hTI hTO h1 h2 p.isList p2.isList (x := u) (y := u2) (by simpa using hu) (by simpa using hu2) fun h' z' TO' h1' h2' hT hsz hk => ?_
    refine ⟨_, rfl, wpAny_letOwnedTupleGo_zip (s := { s with heap := h' }) z' fun h'' z'' sb => ?_⟩
    have zlt := far z (by simp)
    have new : ObjOk X.prog X.w (upd H s.heap.objs.size (.tup [x, y])) h'' s.heap.objs.size (.tup [x, y]) :=
      ⟨by show 2 ≤ sizeLine; decide, [u, u2], .cons ru (.cons ru2 .nil), ⟨_, (sb.2 _ (Nat.ne_of_gt zlt)).trans hT, rfl, _, rfl⟩⟩
    have out : ∀ c o, c ∉ [z, TI, TO, i1, i2] → s.heap.get? c = some o → h''.get? c = some o := fun c o hb q => by
      simp only [List.mem_cons, List.not_mem_nil, or_false, not_or] at hb
      exact (sb.2 c hb.1).trans (hk c o hb.1 hb.2.2.1 hb.2.2.2.1 hb.2.2.2.2 q)
    have I1 : Inv X pins σ (upd H s.heap.objs.size (.tup [x, y])) { s with heap := h'' } := I.turnedNew (t' := s.toks) (ch := [z, TI, TO, i1, i2]) out hf (Nat.le_refl _) new
    refine ⟨.ref s.heap.objs.size, _, I1, rfl, ⟨_, x, y, rfl, I.hok.fresh (Nat.le_refl _), rfl, fun l hl => by rw [I.list_inj hl hqx]; exact hx, fun l hl => by rw [I.list_inj hl hqy]; exact hy⟩, ⟨z'', ?_, ⟨u, u2, ?_⟩, ?_, ?_⟩, fun c hcm => ?_⟩
    · exact (sb.2 _ D.TIz).trans (hk _ _ D.TIz D.TITO D.TIi1 D.TIi2 hTI)
    · exact (sb.2 _ D.TOz).trans TO'
    · exact h1'.at fun o q => (sb.2 _ D.i1z).trans q
    · exact h2'.at fun o q => (sb.2 _ D.i2z).trans q
    · rw [upd_ne (Nat.ne_of_lt (far c hcm))]
      exact (hf c hcm).1
  done := by
    intro X hP hw hK hc i pins s σ H E I hf st hg
    subst hP hw hK
    obtain ⟨hz, hTI, ⟨x0, y0, hTO⟩, h1, h2⟩ := st
    obtain ⟨rfl, xs, ys, hqx, hqy, hn⟩ := hg
    obtain ⟨its, rv, p, _⟩ := I.list hqx
    obtain ⟨its2, rv2, p2, _⟩ := I.list hqy
    have l1 := rv.length
    have l2 := rv2.length
    obtain ⟨q, ⟨hh, v1, e1, c1⟩, hq⟩ := hc
    have ex := (I.pin q (List.mem_append_left _ hq)).1
    have nx : ∀ c ∈ [z, TI, TO, i1, i2], q.1 ≠ c := fun c hcm => (hf c hcm).2.2.2.2.2 q (List.mem_append_left _ hq)
    have hot : HotAt X.A.in1 q.1 s.heap := ⟨hh, q.2, v1, ex, e1, c1⟩
    have S : ZipSep2 z TI TO i1 i2 [i1, a, q.1] [i2, b, q.1] := by
      have n1 := nx z (by simp)
      have n2 := nx TO (by simp)
      have n3 := nx i1 (by simp)
      have n4 := nx i2 (by simp)
      refine ⟨D.TIz, D.TOz, D.TITO, D.TIi1, by simp, ?_, ?_, D.TIi2, by simp, ?_, ?_, ?_, ?_⟩ <;> simp only [List.mem_cons, List.not_mem_nil, or_false, not_or]
      · exact ⟨D.i1z.symm, D.l1z.symm, n1.symm⟩
      · exact ⟨D.TOi1, D.l1TO.symm, n2.symm⟩
      · exact ⟨D.i2z.symm, D.l2z.symm, n1.symm⟩
      · exact ⟨D.TOi2, D.l2TO.symm, n2.symm⟩
      · exact ⟨D.i12, D.l2i1.symm, n3.symm⟩
      · exact ⟨D.i12.symm, D.l1i2.symm, n4.symm⟩
    have D1 := draws_hot (prog := X.prog) (w := X.w) (A := X.A.in1) (it := i1) (l := a) hh D.l1i1 (nx i1 (by simp)) its.toArray
    have D2 := draws_hot (prog := X.prog) (w := X.w) (A := X.A.in1) (it := i2) (l := b) hh D.l2i2 (nx i2 (by simp)) its2.toArray
    have s1 : its.toArray.size = its.length := by simp
    have s2 : its2.toArray.size = its2.length := by simp
    refine wpAny_pyNext_zipD2_end S D1 D2 hz hTI hTO ⟨h1, p.isList, hot⟩ ⟨h2, p2.isList, hot⟩ (by omega) (by omega) (by omega) fun h' tk hk => ⟨rfl, I.turnedL (t' := tk) (ch := [z, TI, TO, i1, i2]) (fun c o hb q => ?_) hf⟩
    simp only [List.mem_cons, List.not_mem_nil, or_false, not_or] at hb
    exact hk c o hb.1 hb.2.2.1 hb.2.2.2.1 hb.2.2.2.2 q
def iZipH (K : PySem.W.Frag) (ta : TA) : TI := fun σ H R => ta σ H fun vs H1 => ∃ a b xs ys, vs = [.ref a, .ref b] ∧ SqL K H1 a xs ∧ SqL K H1 b ys ∧ R (ItzH K a b (min xs.length ys.length)) H1
theorem pi_zipH {X : Cx} {e e2 : Expr} {ta : TA} {p pos tpos : Pos} {elts : List Expr} {kk : Nat} (hg : Gl X "zip") (hm : X.mg "zip" = none) (ha : PA X [e, e2] ta)
    (hs : starEach [e, e2] X.env = (false, eval e X.env) :: starEach [e2] X.env := by rfl) (hpl : (backTo pos (starEach [e2] X.env)).any (·.1) = false := by rfl) :
    L2H.PIH X (.Tuple elts kk tpos) (.Call (.Name "zip" p) [e, e2] [] pos) (iZipH X.K ta) := by
  refine ⟨fun pins s σ H R I h => ?_⟩
  refine Call_ (ld_blt I hg hm PyProof.Rows.boot_zip (PyProof.Rows.callWith_type1 (thn (ha.run pos pins s σ H _ I h) fun us s1 ⟨vs, H1, I1, r1, q1⟩ => ?_) hs hpl))
  obtain ⟨a, b, xs, ys, ex, hqx, hqy, q⟩ := q1
  subst ex
  cases r1 with
  | cons r rr =>
    cases rr with
    | cons r' rr =>
      cases rr
      cases r
      cases r'
      obtain ⟨its, rv, p1, _⟩ := I1.list hqx
      obtain ⟨its2, rv2, p2, _⟩ := I1.list hqy
      refine call_zip_2 p1.isList p2.isList fun h' hz hTI hTO h1 h2 hsz hk => wpAny_pyIter_zip hz ?_
      refine ⟨s1.heap.objs.size + 4, [s1.heap.objs.size + 4, s1.heap.objs.size + 2, s1.heap.objs.size + 3, s1.heap.objs.size, s1.heap.objs.size + 1], _, _, H1, rfl, I1.kept (t' := s1.toks) hk, turn_zipH (PySem.W.ktu_apart s1.heap.objs.size a b p1.lt p2.lt), ⟨hz, hTI, ⟨_, _, hTO⟩, h1, h2⟩, fun c hcm => ?_, q⟩
      have hle : s1.heap.objs.size ≤ c := by
        simp only [List.mem_cons, List.not_mem_nil, or_false] at hcm
        rcases hcm with z | z | z | z | z <;> rw [z]
        · exact Nat.le_add_right _ _
        · exact Nat.le_add_right _ _
        · exact Nat.le_add_right _ _
        · exact Nat.le_refl _
        · exact Nat.le_add_right _ _
      exact I1.fpOk hle (I1.hok.fresh hle)
theorem walk_zipH {K : PySem.W.Frag} {a b : Addr} {xs ys : List V} {n : Nat} (hn : n = min xs.length ys.length) : Walk (ItzH K a b n) n (fun H => SqL K H a xs ∧ SqL K H b ys) (YPair (fun i => xs[i]?) (fun i => ys[i]?)) :=
  ⟨(walk_zip (K := K) (a := a) (b := b) hn).goes, fun _ q => ⟨rfl, xs, ys, q.1, q.2, hn⟩, (walk_zip (K := K) (a := a) (b := b) hn).yields⟩
/-- (a, b, ..) = a tuple of that length, there -/
theorem pg_tupH {X : Cx} {pos : Pos} {es : List Expr} {k : Nat} {t : TGs} {n : Nat} (hc : L2H.HotC X) (h : PGs X es t)
    (hn : (assignEach es X.env).length = n := by rfl) (hst : (assignEach es X.env).findIdx? (·.1) = none := by rfl) : PG X (.Tuple es k pos) (gTup X.K n t) := by
  refine ⟨fun pins s σ H v u Q I r hw => ?_⟩
  obtain ⟨a, xs, e1, hq, hl, hw⟩ := hw
  subst e1
  cases r
  obtain ⟨its, rv, ht, hz⟩ := I.tuple hq
  obtain ⟨x1, hot⟩ := hc.at I
  refine assign_tuple_hot hot ht (by simp [hn, ← hl, rv.length]) hst fun h' hx => ?_
  exact h.run pins _ σ H xs _ Q (I.kept (t' := s.toks) fun b o e => hx b o (Nat.ne_of_lt (Heap.lt_size e)) e) (by simpa using rv) hw

/-! ### a list comprehension, there -/
/-- the block's context: as ever, and the handled exception stays pinned -/
abbrev blkH (X : Cx) (s : Shared) (H : Hp) (scope : Scope) (cenv : Env) (fp : List Addr) : Cx := { X.blk s H scope cenv fp with pn := X.pn }
section
variable {X : Cx} {pins : List (Addr × Obj)} {σ : L2.St} {H : Hp} {s : Shared}
theorem blkH_start {scope : Scope} {own : List (Str × Nat)} {fp : List Addr} (I : Inv X pins σ H s) (ok : BlkOk X.N X.env.scope scope own) (hN : X.N.Nodup) (hfp : ∀ b ∈ fp, FpOk X pins H b ∧ b < s.heap.objs.size) :
    Inv (blkH X s H scope (compEnvC scope (cellsFrom (s.heap.objs.size + 1) scope.names (cloFrom X.env.cells scope.names [])) s.heap.objs.size X.env) fp) [] (wipe σ (own.map (·.2))) H { s with heap := pushCells (s.heap.push { cls := .type "dict", data := .dict #[] }) scope.names } := by
  have B := block_start I ok hN hfp
  have O := B.ok
  refine ⟨⟨O.mod, O.kind, O.glob, O.blt, O.above, O.inj, O.has, O.cab, O.hd, O.frames, O.stk, O.exf, O.bs, O.bsz, O.noex, O.exfs, O.funs, O.frf⟩, B.os, B.bare, B.base, B.loc, B.cell, B.free, B.freeC, fun p hp => ?_, B.hok, B.len⟩
  have hp' : p ∈ X.pn := by simpa using (show p ∈ X.pn ++ [] from hp)
  obtain ⟨p1, p2, p3, p4, p5⟩ := I.pin p (List.mem_append_left _ hp')
  refine ⟨pushCells_keeps _ _ _ _ (Heap.get?_push_of_some _ p1), p2, Nat.ne_of_lt (Heap.lt_size p1), fun z => ?_, p5⟩
  rcases List.mem_cons.mp (I.stkSub p.1 z) with z | z
  · exact p3 z
  · exact p4 z
theorem pe_lcH {elt tg iter : Expr} {ifs : List Expr} {scope : Scope} {own : List (Str × Nat)} {pos : Pos} {wi : TI} {g : TG} {tt : L2.TT} {te : L2.TE} (hc : L2H.HotC X) (hN : X.N.Nodup) (hi : L2H.PIH X tg iter wi) (ok : BlkOk X.N X.env.scope scope own)
    (hg : ∀ (s : Shared) (H : Hp) (C : Addr) (cl : List (Str × Addr)) (fp : List Addr), PG (blkH X s H scope (compEnvC scope cl C X.env) fp) tg g) (ht : ∀ (s : Shared) (H : Hp) (C : Addr) (cl : List (Str × Addr)) (fp : List Addr), PTs (blkH X s H scope (compEnvC scope cl C X.env) fp) ifs tt)
    (he : ∀ (s : Shared) (H : Hp) (C : Addr) (cl : List (Str × Addr)) (fp : List Addr), PE (blkH X s H scope (compEnvC scope cl C X.env) fp) elt te) (hs : ∀ x, foldedSetIterable iter X.env x = pure x := by intro _; rfl) :
    PE X (.ListComp elt [⟨tg, iter, ifs, 0⟩] scope pos) (tLc wi g tt te (own.map (·.2))) := by
  refine ⟨fun pins s σ H Q I h => ?_⟩
  rw [eval_ListComp]
  have hfree : ∀ y ∈ scope.names, y.2 = .free → ∃ c, X.env.cells.lookup y.1 = some c := fun y hy e => (ok.free y hy e).elim (fun k => I.ok.has _ (.inl k)) (fun k => I.ok.has _ (.inr k))
  refine wpAny_comprehension_free (use := none) rfl hs (closure_ok hfree) ok.kind (fun y hy e => by rw [ok.uniq y hy, e]) (thn (hi.run pins s σ H _ I h) fun xv s1 hx => thn hx fun itv s2 h2 => ?_)
  obtain ⟨it, fp, tn, J, H2, e, I2, T, st2, f2, q⟩ := h2
  subst e
  refine wpAny_newObj_type (newEnv_comp ?_) (by show 0 ≤ sizeLine; decide)
  obtain ⟨W, ⟨m0, w0⟩, turn⟩ := q s2.heap.objs.size (I2.hok.fresh (Nat.le_refl _))
  -- the new list
  have I3 : Inv X pins σ (upd H2 s2.heap.objs.size (.lst [])) { s2 with heap := s2.heap.push { cls := .type "list", data := .seq ([] : List Value).toArray } } :=
    I2.laid (t' := s2.toks) (fun b o e => Heap.get?_push_of_some _ e) (Nat.le_refl _) ⟨Nat.zero_le _, [], 0, .nil, Heap.get?_push_size _ rfl⟩
  have sz : ∀ b ∈ fp, b < s2.heap.objs.size := fun b hb => by
    obtain ⟨o, e, _⟩ := T.obj _ _ st2 b hb
    exact Heap.lt_size e
  have f3 : ∀ b ∈ fp, FpOk X pins (upd H2 s2.heap.objs.size (.lst [])) b ∧ b < (s2.heap.push { cls := .type "list", data := .seq ([] : List Value).toArray }).objs.size := fun b hb => by
    refine ⟨⟨?_, (f2 b hb).2⟩, by rw [Heap.size_push]; exact Nat.lt_succ_of_lt (sz b hb)⟩
    rw [upd_ne (Nat.ne_of_lt (sz b hb))]
    exact (f2 b hb).1
  have st3 : tn 0 (s2.heap.push { cls := .type "list", data := .seq ([] : List Value).toArray }) := T.keep _ _ _ st2 fun b _ o e => Heap.get?_push_of_some _ e
  generalize hD : s2.heap.objs.size = D at I3 f3 w0 turn ⊢
  generalize hH3 : upd H2 D (.lst []) = H3 at I3 f3 w0
  generalize hs3 : ({ s2 with heap := s2.heap.push { cls := .type "list", data := .seq ([] : List Value).toArray } } : Shared) = s3 at I3 ⊢
  have h3 : s3.heap = s2.heap.push { cls := .type "list", data := .seq ([] : List Value).toArray } := by rw [← hs3]
  rw [← h3] at f3 st3
  have I4 := blkH_start I3 ok hN f3
  have pg := hg s3 H3 s3.heap.objs.size (cellsFrom (s3.heap.objs.size + 1) scope.names (cloFrom X.env.cells scope.names [])) fp
  have pt := ht s3 H3 s3.heap.objs.size (cellsFrom (s3.heap.objs.size + 1) scope.names (cloFrom X.env.cells scope.names [])) fp
  have pe := he s3 H3 s3.heap.objs.size (cellsFrom (s3.heap.objs.size + 1) scope.names (cloFrom X.env.cells scope.names [])) fp
  show codeAny _ _ (.compStart (.ListComp elt [⟨tg, iter, ifs, 0⟩] scope pos) 0 (.ref it) (.ref D) (compEnvC scope (cellsFrom (s3.heap.objs.size + 1) scope.names (cloFrom X.env.cells scope.names [])) s3.heap.objs.size X.env)) _ { s3 with heap := pushCells (s3.heap.push { cls := .type "dict", data := .dict #[] }) scope.names }
  have nfp : ∀ b ∈ fp, H3 b = none := fun b hb => (f3 b hb).1.1
  have st4 : tn 0 (pushCells (s3.heap.push { cls := .type "dict", data := .dict #[] }) scope.names) := T.keep _ _ _ st3 fun b _ o e => pushCells_keeps _ _ _ _ (Heap.get?_push_of_some _ e)
  generalize hce : compEnvC scope (cellsFrom (s3.heap.objs.size + 1) scope.names (cloFrom X.env.cells scope.names [])) s3.heap.objs.size X.env = ce at I4 pg pt pe ⊢
  have cL : ce.locals = s3.heap.objs.size := by subst hce; rfl
  generalize hs4 : ({ s3 with heap := pushCells (s3.heap.push { cls := .type "dict", data := .dict #[] }) scope.names } : Shared) = s4 at I4 ⊢
  rw [show pushCells (s3.heap.push { cls := .type "dict", data := .dict #[] }) scope.names = s4.heap by rw [← hs4]] at st4
  have hcB : L2H.HotC (blkH X s3 H3 scope ce fp) := hc
  have stat : ∀ {σ' : L2.St} {H' : Hp} {s' : Shared}, Inv (blkH X s3 H3 scope ce fp) [] σ' H' s' → (∀ b ∈ fp, H' b = none) → ∀ b ∈ fp, FpOk (blkH X s3 H3 scope ce fp) [] H' b := fun {σ' H' s'} I' hn b hb =>
    ⟨hn b hb, (I'.ok.exf b hb).1, I'.ok.exfs b hb, .inl hb, fun x c e => (I'.ok.exf b hb).2 x c e, fun p hp => (f3 b hb).1.2.2.2.2.2 p (List.mem_append_left _ (by simpa using (show p ∈ X.pn ++ [] from hp)))⟩
  refine codeAny_compStart_list ?loop (T.self X.A 0 _ _ _ st4 ?loop)
  refine compLoop_any (fun n s' => ∃ i H', Inv (blkH X s3 H3 scope ce fp) [] (wipe σ (own.map (·.2))) H' s' ∧ tn i s'.heap ∧ (∀ b ∈ fp, H' b = none) ∧ W i n H') ?_ m0 ⟨0, H3, I4, st4, nfp, w0⟩
  rintro n s5 ⟨i, H5, I5, st5, n5, w5⟩
  rcases turn i n H5 w5 with ⟨stop, qq⟩ | ⟨go, Nx, hNx, step⟩
  · refine thnF (T.done (blkH X s3 H3 scope ce fp) rfl rfl rfl hcB i [] s5 _ H5 (fun _ _ => False) I5 (stat I5 n5) st5 stop) fun r s6 ⟨hr, I6⟩ => ?_
    subst hr
    have I7 : Inv X pins σ H5 s6 := I3.call' (ch := fp) I6.os I6.base I6.hok I6.bare fun b hb => ⟨(f3 b hb).1.2.2.2.1, (f3 b hb).1.2.1, (f3 b hb).1.2.2.2.2.1, (f3 b hb).1.2.2.2.2.2⟩
    have nC : H5 s3.heap.objs.size = none := by
      have z : H5 ce.locals = none := I6.free
      rwa [cL] at z
    obtain ⟨m, hn, _⟩ := I6.loc
    have hn : s6.heap.Ns ce.locals m := hn
    rw [cL] at hn
    obtain ⟨g0, g1, g2, g3, g4, g5⟩ := I3.fpOk (Nat.le_refl _) nC
    exact ⟨m, hn, fun h'' sb => ⟨.ref D, H5, I7.turned (t' := s6.toks) (fun b o hb e => (sb.2 b hb).trans e) g0 g1 g3 g4 g5, rfl, qq⟩⟩
  · refine thnF (T.item (blkH X s3 H3 scope ce fp) rfl rfl rfl hcB i [] s5 _ H5 (fun _ _ => False) I5 (stat I5 n5) st5 go) fun r s6 ⟨u, hr, h6⟩ => ?_
    subst hr
    refine thnF h6 fun _ s7 ⟨x, H7, I7, r7, y7, st7, n7⟩ => ?_
    have I7' := I7.pinned (stat I7 n7) (T.obj _ _ st7)
    refine thnF (pg.run _ s7 _ H7 x u _ I7' r7 (step x H7 y7)) fun _ s8 ⟨σ8, H8, I8, hw8, q8⟩ => ?_
    refine thnF (pt.run _ s8 σ8 H8 _ I8 q8) fun b s9 ⟨H9, I9, q9⟩ => ?_
    have fin : ∀ {s' : Shared} {H' : Hp}, Inv (blkH X s3 H3 scope ce fp) ([] ++ pinsAt fp s7.heap) σ8 H' s' → Nx H' → ∃ m, m < n ∧ ∃ i H', Inv (blkH X s3 H3 scope ce fp) [] (wipe σ (own.map (·.2))) H' s' ∧ tn i s'.heap ∧ (∀ b ∈ fp, H' b = none) ∧ W i m H' := fun {s' H'} I' nx => by
      obtain ⟨m', hm, w'⟩ := hNx H' nx
      have pin' : ∀ b ∈ fp, ∀ o, s7.heap.get? b = some o → s'.heap.get? b = some o ∧ H' b = none := fun b hb o e =>
        let z := I'.pin (b, o) (List.mem_append_right _ (List.mem_append_right _ (mem_pinsAt hb e)))
        ⟨z.1, z.2.1⟩
      have hl : (wipe σ (own.map (·.2))).length = σ8.length := by rw [← hw8, wipe_length]
      refine ⟨m', hm, i + 1, H', (I'.unpinned (pins := [])).weak hl (fun j v e => ?_), T.keep _ _ _ st7 fun b hb o e => (pin' b hb o e).1, fun b hb => ?_, w'⟩
      · rw [← hw8] at e
        exact (wipe_some e).1
      · obtain ⟨o, e, _⟩ := T.obj _ _ st7 b hb
        exact (pin' b hb o e).2
    cases b with
    | false =>
      simp only [Bool.false_eq_true, if_false] at q9 ⊢
      exact fin I9 q9
    | true =>
      simp only [if_true] at q9 ⊢
      refine thnF (pe.run _ s9 σ8 H9 _ I9 q9) fun z s10 ⟨yv, H10, I10, r10, acc, hD10, hz10, nx⟩ => ?_
      exact app_ok (X := blkH X s3 H3 scope ce fp) I10 hD10 hz10 r10 fun s11 I11 => fin I11 nx
end

/-! ### a def that looks at the handled exception: its promise tells of the exception's address, class and dict -/
structure FnZ (P : Program) (w : World) (K : PySem.W.Frag) (mg : Str → Option Value) (base : Heap) (CX : CXT) (k : Nat) (f : Addr) (fd : FuncData) (ps : List Str) (sp : Addr → Value → Option Addr → Sp) : Prop where
  len : ∀ a c d vs H Q E, sp a c d vs H Q E → vs.length = ps.length
  run : ∀ (A : Around) (outer : List Env) (s : Shared) (H : Hp) (args : Args) (us : List Value) (vs : List V) (Q : VK) (E : XK) (p : Addr × Obj) (c : Value) (d : Option Addr), L2H.RoomH k A → L2H.Hot1 A p → Zc c d p.2 → L2H.PinOk outer H s p →
    Env0 P w K mg base A outer s H → BindsTo s fd args (ps.zip us) → Vals vs us → sp p.1 c d vs H Q E → codeAny (model P w) A (.call (.ref f) args) (CR CX outer P w H s Q E) s
section
variable {P : Program} {w : World} {K : PySem.W.Frag} {mg : Str → Option Value} {base : Heap}
theorem _root_.L2.Fun.okZ {x qual : Str} {st : Stmt} {f : Addr} {fd : FuncData} {N ps : List Str} {k : Nat} {sp : Addr → Value → Option Addr → Sp} (F : L2.Fun K x qual st f fd) (S : FnScope N ps (defScope st)) (len : ∀ a c d vs H Q E, sp a c d vs H Q E → vs.length = ps.length)
    (hbody : ∀ (cdv : Value) (A : Around) (outer : List Env) (s : Shared) (H : Hp) (vs : List V) (Q : VK) (E : XK) (p : Addr × Obj) (c : Value) (d : Option Addr), L2H.Hot1 A p → Zc c d p.2 → L2H.RoomH k (A.deeper (envOfC qual (defScope st) s.heap.objs.size f cdv)) → sp p.1 c d vs H Q E →
      ∃ t, PSs (L2H.cxH CX0 P w K mg base N qual (defScope st) f cdv A outer s H E p) (defBody st) t ∧ t { nx := fun _ H' => Q .non H', rt := Q } (L2.start N vs) H) : FnZ P w K mg base CX0 (k + 1) f fd ps sp := by
  obtain ⟨oc, od, kV, doc, pm, an, cdv, ct, osl, rfl, lk, hcd⟩ := F.ex
  refine ⟨len, fun A outer s H args us vs Q E p c d hr hot hz hpin e0 hb r hsp => ?_⟩
  have hl := len _ _ _ _ _ _ _ hsp
  have KX : K.In s.heap := e0.mod.kin.keeps fun b o e => (e0.bs b o e).1
  have lim : s.heap.NoLimit := e0.mod.nolimit.keeps fun b o e => (e0.bs b o e).1
  have hkind : ∀ y ∈ ps.zip us, (defScope st).names.lookup y.1 = some .local ∨ ((defScope st).names.lookup y.1 = some .cell ∧ ((cellsFrom (s.heap.objs.size + 1) (defScope st).names []).lookup y.1).isSome = true) := fun y hy =>
    (S.par y.1 (List.of_mem_zip (a := y.1) (b := y.2) hy).1).elim .inl fun q => .inr ⟨q, PySem.W.cellsFrom_some _ _ _ (.inl q)⟩
  refine codeAny_call_function hr.depth (KX _ _ lk) rfl S.co S.gen rfl (PySem.W.codeRec_of KX hcd) (hb _ _ _ _ (wpAny_newFunctionEnv_cells S.kind hkind fun env he s1 x => ?_))
  subst he
  obtain ⟨t, ht, hq⟩ := hbody cdv A outer s H vs Q E p c d hot hz (hr.deeper _) hsp
  refine ⟨lim.keeps x.toInCall.keep, codeAny_func (wpAny_mono (ht.run [] s1 (L2.start N vs) H _ (L2H.inv_startH S hpin e0 hl r x) hq) (fun fl s' hs => ?_) fun e s' hs => hs)⟩
  cases fl with
  | ret u =>
    obtain ⟨v, σ', H', J, rv, q⟩ := hs
    exact ⟨v, H', J.os, J.bare, J.base, J.hok, rv, q⟩
  | next =>
    obtain ⟨σ', H', J, q⟩ := hs
    exact ⟨V.non, H', J.os, J.bare, J.base, J.hok, rfl, q⟩
  | brk => exact False.elim hs.choose_spec.choose_spec.2
  | cont => exact False.elim hs.choose_spec.choose_spec.2
theorem _root_.L2.Fun.okN {x qual : Str} {st : Stmt} {f : Addr} {fd : FuncData} {N ps : List Str} {k : Nat} {sp : Sp} (F : L2.Fun K x qual st f fd) (S : FnScope N ps (defScope st)) (len : ∀ vs H Q E, sp vs H Q E → vs.length = ps.length)
    (hbody : ∀ (cdv : Value) (A : Around) (outer : List Env) (s : Shared) (H : Hp) (vs : List V) (Q : VK) (E : XK), Room k (A.deeper (envOfC qual (defScope st) s.heap.objs.size f cdv)) → sp vs H Q E →
      ∃ t, PSs (cxOf (L2N.CX P w) P w K mg base N qual (defScope st) f cdv A outer s H E) (defBody st) t ∧ t { nx := fun _ H' => Q .non H', rt := Q } (L2.start N vs) H) : FnOk P w K mg base (L2N.CX P w) (k + 1) f fd ps sp := by
  obtain ⟨oc, od, kV, doc, pm, an, cdv, ct, osl, rfl, lk, hcd⟩ := F.ex
  exact fn_of lk hcd S len fun A outer s H vs Q E hr hsp => hbody cdv A outer s H vs Q E hr hsp
end
section
variable {X : Cx} {CX : CXT} {k : Nat} {f C : Addr} {fd : FuncData} {ps : List Str} {sp : Addr → Value → Option Addr → Sp} {E : L2.St → XK} {x m : Str} {q pos apos : Pos} {e o : Expr} {es : List Expr} {ta : L2.TE} {t : L2.TA}
theorem passN {X : Cx} : Passes (L2N.CX X.prog X.w) X E0 := fun _ _ _ _ _ _ _ h => by
  obtain ⟨_, _, _, _, _, _, _, _, _, _, _, _, z⟩ := h
  exact z.elim
theorem takesN0 {X : Cx} : L2N.Takes X (fun _ _ _ _ => False) := fun _ _ x => by
  obtain ⟨_, _, _, _, _, _, _, _, _, _, _, _, _, _, _, _, z⟩ := x
  exact z.elim
theorem pe_callZ {p : Addr × Obj} {c : Value} {d : Option Addr} (F : FnZ X.prog X.w X.K X.mg X.base CX0 k f fd ps sp) (hr : L2H.RoomH k X.A) (hot : L2H.Hot1 X.A p) (hp : p ∈ X.pn) (hz : Zc c d p.2) (hg : Gl X x) (hm : X.mg x = some (.ref f)) (hk : PySem.W.keepIn X.K (.ref f) = true) (hb : Binds X.K fd ps [])
    (ha : PA X (e :: es) t) (hdb : (x == ("__debug__" : Str)) = false := by decide) (he : starEach (e :: es) X.env = (false, eval e X.env) :: starEach es X.env := by rfl) (hpl : (backTo pos (starEach es X.env)).any (·.1) = false := by rfl) :
    PE X (.Call (.Name x q) (e :: es) [] pos) (tCallS (sp p.1 c d) (fun _ => E0) t) := by
  refine ⟨fun pins s σ H Q I h => ?_⟩
  refine wpAny_Call_Name_kw (ld_glob I hg hm ?_ hdb)
  refine PySem.W.callWith_K (h₀ := X.base) I.ok.mod.kin hk (thn (ha.run pos pins s σ H _ I h) fun us s1 ⟨vs, H1, I1, r, q⟩ => ⟨I1.kIn, ?_⟩) he hpl
  have hl : us.length = ps.length := by rw [← r.length]; exact F.len _ _ _ _ _ _ _ q
  have b := hb s1 us I1.kIn (by rw [List.append_nil]; exact hl)
  rw [List.append_nil] at b
  have P1 := I1.pin p (List.mem_append_left _ hp)
  have hpin : L2H.PinOk X.stack H1 s1 p := ⟨P1.1, P1.2.1, fun hm => (List.mem_cons.mp (I1.stkSub p.1 hm)).elim P1.2.2.1 P1.2.2.2.1, P1.2.2.2.2⟩
  refine wpAny_call (codeAny_mono (F.run X.A X.stack s1 H1 ⟨us, []⟩ us vs Q E0 p c d hr hot hz hpin I1.env0 b r q) fun r s' hq => ?_)
  cases r with
  | error e => exact False.elim hq
  | ok fl =>
    cases fl with
    | ret u => exact I1.after hq
    | next => exact False.elim hq
    | brk => exact False.elim hq
    | cont => exact False.elim hq
theorem pe_callZS {a : Addr} {oe : Obj} {c : Value} {d : Option Addr} (F : FnZ X.prog X.w X.K X.mg X.base CX0 k f fd ps sp) (hr : L2H.RoomH k X.A) (hot : L2H.Hot1 X.A (a, oe)) (hp : (a, oe) ∈ X.pn) (hz : Zc c d oe) (hg : Gl X x) (hm : X.mg x = some (.ref f)) (hk : PySem.W.keepIn X.K (.ref f) = true) (hb : Binds X.K fd ps [])
    (ha : PA X (e :: es) t) (hdb : (x == ("__debug__" : Str)) = false := by decide) (he : starEach (e :: es) X.env = (false, eval e X.env) :: starEach es X.env := by rfl) (hpl : (backTo pos (starEach es X.env)).any (·.1) = false := by rfl) :
    PE X (.Call (.Name x q) (e :: es) [] pos) (tCallS (sp a c d) (fun _ => E0) t) := pe_callZ (p := (a, oe)) F hr hot hp hz hg hm hk hb ha hdb he hpl
/-- isinstance(e, c), e the handled exception -/
theorem call_isH {p : Addr × Obj} {D : Addr} (hp : p ∈ X.pn) (C : ExcC X.K D) (hz : Zc (.ref D) none p.2) (hf : ∃ vs, p.2.data = .fields vs) : CallR X (.builtin "isinstance") (rIsE X.K D p.1) := by
  intro pins s σ H xs us Q I r h
  obtain ⟨c, cv, b, rfl, hcv, e, q⟩ := h
  cases r with
  | cons rx rr =>
    cases rr with
    | cons rt rr =>
      cases rr
      cases rx
      obtain rfl := hcv _ rt
      have hget := (I.pin p (List.mem_append.mpr (.inl hp))).1
      obtain ⟨vs, hv⟩ := hf
      have J : PySem.W.InstAt s.heap p.1 p.2 D none := by
        obtain ⟨a, oc, od, oda, osl⟩ := p
        obtain ⟨h1, h2⟩ := hz
        dsimp only at h1 h2 hv hget
        subst h1 h2 hv
        exact ⟨hget, rfl, rfl, trivial⟩
      exact PySem.W.kia_one (PySem.W.handS_kitx_exc C.hg C.hk C.hs C.hd C.ha C.hn C.ht C.hm) I.kIn J e (fun z => nomatch z) fun tk => ⟨.bl b, H, I.kept (t' := tk) fun _ _ z => z, rfl, q⟩
end
theorem roomH_mark {k : Nat} {A : Around} {v : Option Value} (r : Room k A) : L2H.RoomH k (A.mark v) := ⟨r.dp, r.un⟩
theorem hot_suite {A : Around} {a : Addr} {oe : Obj} {cls : Value} {d : Option Addr} (hz : L2N.Zn cls d oe) (hf : ∃ vs, oe.data = .fields vs) : L2H.Hot1 (A.mark (some (.ref a))) (a, oe) := by
  obtain ⟨vs, h⟩ := hf
  exact ⟨rfl, vs, h, hz.2.2 vs h⟩

/-! ### what is known of a caught class: D, the i-th of the classes cs, all of which stand under a -/
structure KnD (K : PySem.W.Frag) (cs : List Addr) (a D : Addr) (i : Nat) : Prop where
  ec : ExcC K D
  ki : ∀ j C, cs[j]? = some C → PySem.W.kitOne K (.ref D) (.ref C) = some (decide (i = j))
  ka : PySem.W.kitOne K (.ref D) (.ref a) = some true
  kv : PySem.W.kitOne K (.ref D) (.type "ValueError") = some true
  ex : PySem.W.exmOne K (.ref D) (.ref a) = some true
theorem kit_self (K : PySem.W.Frag) (v : Value) : PySem.W.kitOne K v v = some true := by
  unfold PySem.W.kitOne
  rw [if_pos (by simp)]
theorem kit_own {K : PySem.W.Frag} {t : Value} {C : Addr} {b : Bool} (ne : (t == Value.ref C) = false) (h1 : PySem.W.hasDictIn K C = true) (h2 : PySem.W.typeIn K (.ref C) = some (.type "type")) (h3 : PySem.W.subIn K t (.ref C) = some b) : PySem.W.kitOne K t (.ref C) = some b := by
  obtain ⟨cd, hc, _⟩ := PySem.W.any_some h1
  unfold PySem.W.kitOne PySem.W.kitCls
  rw [ne, if_neg Bool.false_ne_true]
  show (if ((PySem.W.clsIn K C).isSome && PySem.W.typeIn K (.ref C) == some (.type "type")) = true then _ else _) = _
  rw [hc, h2]
  exact h3
theorem kit_vt {K : PySem.W.Frag} {D : Addr} {b : Bool} (h3 : PySem.W.subIn K (.ref D) (.type "ValueError") = some b) : PySem.W.kitOne K (.ref D) (.type "ValueError") = some b := by
  unfold PySem.W.kitOne PySem.W.kitCls
  rw [if_neg (by intro q; cases beq_iff_eq.mp q)]
  show (if PySem.W.kitMeta "ValueError" = true then _ else _) = _
  rw [if_pos (by decide +kernel)]
  exact h3
theorem knd_of {K : PySem.W.Frag} {c0 c1 c2 c3 c4 c5 c6 c7 a D : Addr} {i : Nat} (ec : ExcC K D)
    (k0 : PySem.W.kitOne K (.ref D) (.ref c0) = some (decide (i = 0))) (k1 : PySem.W.kitOne K (.ref D) (.ref c1) = some (decide (i = 1))) (k2 : PySem.W.kitOne K (.ref D) (.ref c2) = some (decide (i = 2))) (k3 : PySem.W.kitOne K (.ref D) (.ref c3) = some (decide (i = 3)))
    (k4 : PySem.W.kitOne K (.ref D) (.ref c4) = some (decide (i = 4))) (k5 : PySem.W.kitOne K (.ref D) (.ref c5) = some (decide (i = 5))) (k6 : PySem.W.kitOne K (.ref D) (.ref c6) = some (decide (i = 6))) (k7 : PySem.W.kitOne K (.ref D) (.ref c7) = some (decide (i = 7)))
    (ka : PySem.W.kitOne K (.ref D) (.ref a) = some true) (kv : PySem.W.kitOne K (.ref D) (.type "ValueError") = some true) (ex : PySem.W.exmOne K (.ref D) (.ref a) = some true) : KnD K [c0, c1, c2, c3, c4, c5, c6, c7] a D i := by
  refine ⟨ec, fun j C h => ?_, ka, kv, ex⟩
  match j, h with
  | 0, h => cases h; exact k0
  | 1, h => cases h; exact k1
  | 2, h => cases h; exact k2
  | 3, h => cases h; exact k3
  | 4, h => cases h; exact k4
  | 5, h => cases h; exact k5
  | 6, h => cases h; exact k6
  | 7, h => cases h; exact k7
theorem _root_.L2H.RoomH.units {k : Nat} {A : Around} (r : L2H.RoomH k A) : A.units + 64 < cLine := by
  have := r.un
  omega
end Ai

/-! zip of a tuple and a list -/
namespace Ai
open PySem PySem.Spec PyProof.Rows L2
/-- the heap behind zip(a tuple, a list) -/
def mixH (h : Heap) (l1 l2 : Addr) : Heap :=
  ((((h.push { cls := .type "tuple_iterator", data := .fields #[.ref l1, .int 0 0] }).push { cls := .type "list_iterator", data := .fields #[.ref l2, .int 0 0] }).push { cls := .type "tuple", data := .seq #[.ref h.objs.size, .ref (h.objs.size + 1)] }).push
    { cls := .type "tuple", data := .seq #[.none, .none] }).push { cls := .type "zip", data := .fields #[.none, .bool false, .bool false, .ref (h.objs.size + 2), .ref (h.objs.size + 3)] }
theorem mix_new (l1 l2 : Addr) (xs ys : Array Value) :
    Meets (Builtin.«zip.__new__» ⟨[.type "zip", .ref l1, .ref l2], []⟩) (fun _ R s => s.heap.IsTuple l1 xs ∧ s.heap.IsList l2 ys ∧
      R (.ok (.ret (.ref (s.heap.objs.size + 4)))) { s with heap := mixH s.heap l1 l2 }) :=
  .of_wp fun prog w A R s h => by
    obtain ⟨hp, g, d, tk, os⟩ := s
    obtain ⟨hl1, hl2, h⟩ := h
    have hsub := sub_zip
    have hL1 : Heap.IsTuple (Shared.heap ⟨hp, g, d, tk, os⟩) l1 xs := hl1
    have hL2 : Heap.IsList (Shared.heap ⟨hp.push { cls := .type "tuple_iterator", data := .fields #[.ref l1, .int 0 0] }, g, d, tk, os⟩) l2 ys := Heap.IsList.push hl2 _
    wp_walk using wpAny_pyIter_tuple hL1, wpAny_pyIter_list hL2
    refine ⟨_, rfl, ?_⟩
    unfold mixH at h
    simp only [Heap.size_push]
    exact h
section
variable {prog : Program} {w : World} {A : Around} {E : Value → Shared → Prop} {s : Shared}
theorem call_mix {l1 l2 : Addr} {xs ys : Array Value} {Q : Value → Shared → Prop} (hl1 : s.heap.IsTuple l1 xs) (hl2 : s.heap.IsList l2 ys)
    (h : ∀ h', IsZip h' (s.heap.objs.size + 4) (s.heap.objs.size + 2) (s.heap.objs.size + 3) .none → IsPair h' (s.heap.objs.size + 2) (.ref s.heap.objs.size) (.ref (s.heap.objs.size + 1)) →
      IsPair h' (s.heap.objs.size + 3) .none .none → h'.IsTupleIter s.heap.objs.size l1 0 → h'.IsListIter (s.heap.objs.size + 1) l2 0 →
      (∀ c o, s.heap.get? c = some o → h'.get? c = some o) → Q (.ref (s.heap.objs.size + 4)) { s with heap := h' }) :
    wpAny (model prog w) A (call (.type "zip") [.ref l1, .ref l2]) Q E s := by
  refine callType_new F.called_zip (by decide) (F.typeCall_zip_2 _ _) (F.newCall_zip_2 _ _) (fun obj => F.args_object_init_3 obj _ _) F.entry_zip_new (mix_new l1 l2 xs ys) ⟨hl1, hl2, ?_⟩
  obtain ⟨hp, g, d, tk, os⟩ := s
  have at_ : ∀ (h : Heap) (n : Nat) (o : Obj), h.objs.size = n → o.isFreed = false → (h.push o).get? n = some o := fun h n o e f => by rw [← e]; exact Heap.get?_push_size _ f
  have up : ∀ (h : Heap) (o p : Obj) (n : Nat), h.get? n = some p → (h.push o).get? n = some p := fun h o p n e => Heap.get?_push_of_some _ e
  have g1 := at_ hp hp.objs.size { cls := .type "tuple_iterator", data := .fields #[.ref l1, .int 0 0] } rfl rfl
  have g2 := at_ (hp.push { cls := .type "tuple_iterator", data := .fields #[.ref l1, .int 0 0] }) (hp.objs.size + 1) { cls := .type "list_iterator", data := .fields #[.ref l2, .int 0 0] } (by rw [Heap.size_push]) rfl
  have g3 := at_ ((hp.push { cls := .type "tuple_iterator", data := .fields #[.ref l1, .int 0 0] }).push { cls := .type "list_iterator", data := .fields #[.ref l2, .int 0 0] }) (hp.objs.size + 2) { cls := .type "tuple", data := .seq #[.ref hp.objs.size, .ref (hp.objs.size + 1)] } (by rw [Heap.size_push, Heap.size_push]) rfl
  have g4 := at_ (((hp.push { cls := .type "tuple_iterator", data := .fields #[.ref l1, .int 0 0] }).push { cls := .type "list_iterator", data := .fields #[.ref l2, .int 0 0] }).push { cls := .type "tuple", data := .seq #[.ref hp.objs.size, .ref (hp.objs.size + 1)] }) (hp.objs.size + 3)
    { cls := .type "tuple", data := .seq #[.none, .none] } (by rw [Heap.size_push, Heap.size_push, Heap.size_push]) rfl
  have g5 := at_ ((((hp.push { cls := .type "tuple_iterator", data := .fields #[.ref l1, .int 0 0] }).push { cls := .type "list_iterator", data := .fields #[.ref l2, .int 0 0] }).push { cls := .type "tuple", data := .seq #[.ref hp.objs.size, .ref (hp.objs.size + 1)] }).push { cls := .type "tuple", data := .seq #[.none, .none] })
    (hp.objs.size + 4) { cls := .type "zip", data := .fields #[.none, .bool false, .bool false, .ref (hp.objs.size + 2), .ref (hp.objs.size + 3)] } (by rw [Heap.size_push, Heap.size_push, Heap.size_push, Heap.size_push]) rfl
  exact ⟨⟨_, g5, rfl⟩, h _ g5 (up _ _ _ _ (up _ _ _ _ g3)) (up _ _ _ _ g4) ⟨_, up _ _ _ _ (up _ _ _ _ (up _ _ _ _ (up _ _ _ _ g1))), rfl, rfl⟩ ⟨_, up _ _ _ _ (up _ _ _ _ (up _ _ _ _ g2)), rfl, rfl⟩ fun c o x => up _ _ _ _ (up _ _ _ _ (up _ _ _ _ (up _ _ _ _ (up _ _ _ _ x))))⟩
end
/-- the tuple at a and the list at b as they stand at each turn, the items in new pairs, n of them -/
def ItzM (K : PySem.W.Frag) (a b : Addr) (n : Nat) : It :=
  ⟨fun i H => ∃ (xs ys : List V) (x y : V), SqT K H a xs ∧ SqL K H b ys ∧ xs[i]? = some x ∧ ys[i]? = some y,
    fun i H v H' => ∃ T x y, v = .ref T ∧ H T = none ∧ H' = upd H T (.tup [x, y]) ∧ (∀ xs, SqT K H a xs → xs[i]? = some x) ∧ ∀ ys, SqL K H b ys → ys[i]? = some y,
    fun i H => i = n ∧ ∃ xs ys : List V, SqT K H a xs ∧ SqL K H b ys ∧ n = min xs.length ys.length⟩
theorem turn_mix {P : Program} {w : World} {K : PySem.W.Frag} {elts : List Expr} {kk : Nat} {tpos : Pos} {a b z TI TO i1 i2 : Addr} {n : Nat} (D : ZipApart z TI TO i1 i2 a b) :
    Turn P w K (.Tuple elts kk tpos) (ItzM K a b n) [z, TI, TO, i1, i2] z (fun i h => IsZip h z TI TO .none ∧ IsPair h TI (.ref i1) (.ref i2) ∧ (∃ x y, IsPair h TO x y) ∧ h.IsTupleIter i1 a i ∧ h.IsListIter i2 b i) where
  mem := by simp
  obj := fun i h st c hc => by
    obtain ⟨hz, hTI, ⟨x, y, hTO⟩, ⟨o1, e1, _, d1⟩, ⟨o2, e2, _, d2⟩⟩ := st
    simp only [List.mem_cons, List.not_mem_nil, or_false] at hc
    rcases hc with q | q | q | q | q <;> rw [q]
    · exact ⟨_, hz, fun v q => nomatch q⟩
    · exact ⟨_, hTI, fun v q => nomatch q⟩
    · exact ⟨_, hTO, fun v q => nomatch q⟩
    · exact ⟨o1, e1, fun v q => by rw [d1] at q; cases q⟩
    · exact ⟨o2, e2, fun v q => by rw [d2] at q; cases q⟩
  keep := fun i h h' st k => by
    obtain ⟨hz, hTI, ⟨x, y, hTO⟩, h1, h2⟩ := st
    exact ⟨k z (by simp) _ hz, k TI (by simp) _ hTI, ⟨x, y, k TO (by simp) _ hTO⟩, h1.at fun o q => k i1 (by simp) o q, h2.at fun o q => k i2 (by simp) o q⟩
  self := fun A i s Q E st h => wpAny_pyIter_zip st.1 h
  item := by
    intro X hP hw hK hc i pins s σ H E I hf st hg
    subst hP hw hK
    obtain ⟨hz, hTI, ⟨x0, y0, hTO⟩, h1, h2⟩ := st
    obtain ⟨xs, ys, x, y, hqx, hqy, hx, hy⟩ := hg
    obtain ⟨its, rv, p, _⟩ := I.tuple hqx
    obtain ⟨its2, rv2, p2, _⟩ := I.list hqy
    obtain ⟨u, hu, ru⟩ := rv.get hx
    obtain ⟨u2, hu2, ru2⟩ := rv2.get hy
    have far : ∀ c ∈ [z, TI, TO, i1, i2], c < s.heap.objs.size := fun c hcm => by
      simp only [List.mem_cons, List.not_mem_nil, or_false] at hcm
      obtain ⟨_, e1, _⟩ := h1
      obtain ⟨_, e2, _⟩ := h2
      rcases hcm with q | q | q | q | q <;> rw [q]
      · exact Heap.lt_size hz
      · exact Heap.lt_size hTI
      · exact Heap.lt_size hTO
      · exact Heap.lt_size e1
      · exact Heap.lt_size e2
    have S : ZipSep2 z TI TO i1 i2 [i1, a] [i2, b] := by
      refine ⟨D.TIz, D.TOz, D.TITO, D.TIi1, by simp, ?_, ?_, D.TIi2, by simp, ?_, ?_, ?_, ?_⟩ <;> simp only [List.mem_cons, List.not_mem_nil, or_false, not_or]
      · exact ⟨D.i1z.symm, D.l1z.symm⟩
      · exact ⟨D.TOi1, D.l1TO.symm⟩
      · exact ⟨D.i2z.symm, D.l2z.symm⟩
      · exact ⟨D.TOi2, D.l2TO.symm⟩
      · exact ⟨D.i12, D.l2i1.symm⟩
      · exact ⟨D.i12.symm, D.l1i2.symm⟩
    have D1 := Draws.tuple (prog := X.prog) (w := X.w) (A := X.A.in1) (I.ok.hd hc) i1 a D.l1i1 its.toArray
    have D2 := Draws.list (prog := X.prog) (w := X.w) (A := X.A.in1) (I.ok.hd hc) i2 b D.l2i2 its2.toArray
    have n1 : i < its.toArray.size := by simpa using (List.getElem?_eq_some_iff.mp hu).1
    have n2 : i < its2.toArray.size := by simpa using (List.getElem?_eq_some_iff.mp hu2).1
    refine wpAny_pyNext_zipD2_item S D1 D2 hz hTI hTO ⟨h1, p⟩ ⟨h2, p2.isList⟩ n1 n2 fun v1 v2 h' tk y1 y2 z' TO' st1 st2 hT hsz hk => ?_
    obtain rfl : u = v1 := by
      have : its[i]? = some v1 := by simpa using y1
      rw [hu] at this
      exact Option.some.inj this
    obtain rfl : u2 = v2 := by
      have : its2[i]? = some v2 := by simpa using y2
      rw [hu2] at this
      exact Option.some.inj this
    refine ⟨_, rfl, wpAny_letOwnedTupleGo_zip (s := { s with heap := h', toks := tk }) z' fun h'' z'' sb => ?_⟩
    have zlt := far z (by simp)
    have new : ObjOk X.prog X.w (upd H s.heap.objs.size (.tup [x, y])) h'' s.heap.objs.size (.tup [x, y]) :=
      ⟨by show 2 ≤ sizeLine; decide, [u, u2], .cons ru (.cons ru2 .nil), ⟨_, (sb.2 _ (Nat.ne_of_gt zlt)).trans hT, rfl, _, rfl⟩⟩
    have out : ∀ c o, c ∉ [z, TI, TO, i1, i2] → s.heap.get? c = some o → h''.get? c = some o := fun c o hb q => by
      simp only [List.mem_cons, List.not_mem_nil, or_false, not_or] at hb
      exact (sb.2 c hb.1).trans (hk c o hb.1 hb.2.2.1 hb.2.2.2.1 hb.2.2.2.2 q)
    have I1 : Inv X pins σ (upd H s.heap.objs.size (.tup [x, y])) { s with heap := h'', toks := tk } := I.turnedNew (t' := tk) (ch := [z, TI, TO, i1, i2]) out hf (Nat.le_refl _) new
    refine ⟨.ref s.heap.objs.size, _, I1, rfl, ⟨_, x, y, rfl, I.hok.fresh (Nat.le_refl _), rfl, fun l hl => by rw [I.tuple_inj hl hqx]; exact hx, fun l hl => by rw [I.list_inj hl hqy]; exact hy⟩, ⟨z'', ?_, ⟨u, u2, ?_⟩, ?_, ?_⟩, fun c hcm => ?_⟩
    · exact (sb.2 _ D.TIz).trans (hk _ _ D.TIz D.TITO D.TIi1 D.TIi2 hTI)
    · exact (sb.2 _ D.TOz).trans TO'
    · exact st1.1.at fun o q => (sb.2 _ D.i1z).trans q
    · exact st2.1.at fun o q => (sb.2 _ D.i2z).trans q
    · rw [upd_ne (Nat.ne_of_lt (far c hcm))]
      exact (hf c hcm).1
  done := by
    intro X hP hw hK hc i pins s σ H E I hf st hg
    subst hP hw hK
    obtain ⟨hz, hTI, ⟨x0, y0, hTO⟩, h1, h2⟩ := st
    obtain ⟨rfl, xs, ys, hqx, hqy, hn⟩ := hg
    obtain ⟨its, rv, p, _⟩ := I.tuple hqx
    obtain ⟨its2, rv2, p2, _⟩ := I.list hqy
    have l1 := rv.length
    have l2 := rv2.length
    have S : ZipSep2 z TI TO i1 i2 [i1, a] [i2, b] := by
      refine ⟨D.TIz, D.TOz, D.TITO, D.TIi1, by simp, ?_, ?_, D.TIi2, by simp, ?_, ?_, ?_, ?_⟩ <;> simp only [List.mem_cons, List.not_mem_nil, or_false, not_or]
      · exact ⟨D.i1z.symm, D.l1z.symm⟩
      · exact ⟨D.TOi1, D.l1TO.symm⟩
      · exact ⟨D.i2z.symm, D.l2z.symm⟩
      · exact ⟨D.TOi2, D.l2TO.symm⟩
      · exact ⟨D.i12, D.l2i1.symm⟩
      · exact ⟨D.i12.symm, D.l1i2.symm⟩
    have D1 := Draws.tuple (prog := X.prog) (w := X.w) (A := X.A.in1) (I.ok.hd hc) i1 a D.l1i1 its.toArray
    have D2 := Draws.list (prog := X.prog) (w := X.w) (A := X.A.in1) (I.ok.hd hc) i2 b D.l2i2 its2.toArray
    have s1 : its.toArray.size = its.length := by simp
    have s2 : its2.toArray.size = its2.length := by simp
    refine wpAny_pyNext_zipD2_end S D1 D2 hz hTI hTO ⟨h1, p⟩ ⟨h2, p2.isList⟩ (by omega) (by omega) (by omega) fun h' tk hk => ⟨rfl, I.turnedL (t' := tk) (ch := [z, TI, TO, i1, i2]) (fun c o hb q => ?_) hf⟩
    simp only [List.mem_cons, List.not_mem_nil, or_false, not_or] at hb
    exact hk c o hb.1 hb.2.2.1 hb.2.2.2.1 hb.2.2.2.2 q
def iZipM (K : PySem.W.Frag) (ta : TA) : TI := fun σ H R => ta σ H fun vs H1 => ∃ a b xs ys, vs = [.ref a, .ref b] ∧ SqT K H1 a xs ∧ SqL K H1 b ys ∧ R (ItzM K a b (min xs.length ys.length)) H1
theorem pi_zipM {X : Cx} {e e2 : Expr} {ta : TA} {p pos tpos : Pos} {elts : List Expr} {kk : Nat} (hg : Gl X "zip") (hm : X.mg "zip" = none) (ha : PA X [e, e2] ta)
    (hs : starEach [e, e2] X.env = (false, eval e X.env) :: starEach [e2] X.env := by rfl) (hpl : (backTo pos (starEach [e2] X.env)).any (·.1) = false := by rfl) :
    PI X (.Tuple elts kk tpos) (.Call (.Name "zip" p) [e, e2] [] pos) (iZipM X.K ta) := by
  refine ⟨fun pins s σ H R I h => ?_⟩
  refine Call_ (ld_blt I hg hm PyProof.Rows.boot_zip (PyProof.Rows.callWith_type1 (thn (ha.run pos pins s σ H _ I h) fun us s1 ⟨vs, H1, I1, r1, q1⟩ => ?_) hs hpl))
  obtain ⟨a, b, xs, ys, ex, hqx, hqy, q⟩ := q1
  subst ex
  cases r1 with
  | cons r rr =>
    cases rr with
    | cons r' rr =>
      cases rr
      cases r
      cases r'
      obtain ⟨its, rv, p1, _⟩ := I1.tuple hqx
      obtain ⟨its2, rv2, p2, _⟩ := I1.list hqy
      have la : a < s1.heap.objs.size := by obtain ⟨o, ho, _⟩ := p1; exact Heap.lt_size ho
      refine call_mix p1 p2.isList fun h' hz hTI hTO h1 h2 hk => wpAny_pyIter_zip hz ?_
      refine ⟨s1.heap.objs.size + 4, [s1.heap.objs.size + 4, s1.heap.objs.size + 2, s1.heap.objs.size + 3, s1.heap.objs.size, s1.heap.objs.size + 1], _, _, H1, rfl, I1.kept (t' := s1.toks) hk, turn_mix (PySem.W.ktu_apart s1.heap.objs.size a b la p2.lt), ⟨hz, hTI, ⟨_, _, hTO⟩, h1, h2⟩, fun c hcm => ?_, q⟩
      have hle : s1.heap.objs.size ≤ c := by
        simp only [List.mem_cons, List.not_mem_nil, or_false] at hcm
        rcases hcm with z | z | z | z | z <;> rw [z]
        · exact Nat.le_add_right _ _
        · exact Nat.le_add_right _ _
        · exact Nat.le_add_right _ _
        · exact Nat.le_refl _
        · exact Nat.le_add_right _ _
      exact I1.fpOk hle (I1.hok.fresh hle)
theorem walk_zipM {K : PySem.W.Frag} {a b : Addr} {xs ys : List V} {n : Nat} (hn : n = min xs.length ys.length) : Walk (ItzM K a b n) n (fun H => SqT K H a xs ∧ SqL K H b ys) (YPair (fun i => xs[i]?) (fun i => ys[i]?)) := by
  refine ⟨fun i H hi q => ?_, fun _ q => ⟨rfl, xs, ys, q.1, q.2, hn⟩, fun i H v H' hi q y => ?_⟩
  · have h1 : i < xs.length := by omega
    have h2 : i < ys.length := by omega
    exact ⟨xs, ys, xs[i], ys[i], q.1, q.2, by simp [h1], by simp [h2]⟩
  · obtain ⟨T, x, z, h1, h2, h3, h4, h5⟩ := y
    exact ⟨T, x, z, h1, h2, h3, h4 _ q.1, h5 _ q.2⟩
end Ai

/-! len and == of instances whose class has an own __len__, __eq__ -/
namespace Ai
open PySem PySem.Spec PyProof.Rows L2
section
variable {X : Cx} {C f : Addr} {fd : FuncData} {k : Nat} {sp : Sp} {ps : List Str}
/-- a def called from below the running body -/
theorem run_below {A : Around} {pins : List (Addr × Obj)} {σ : L2.St} {H : Hp} {s : Shared} {Q : VK} {us : List Value} {vs : List V} (F : FnOk X.prog X.w X.K X.mg X.base CX0 k f fd ps sp) (hr : Room k A) (hf : A.frames = X.A.frames) (hb : Binds X.K fd ps [])
    (I : Inv X pins σ H s) (r : Vals vs us) (h : sp vs H Q E0) : wpAny (model X.prog X.w) A (call (.ref f) us) (fun u s' => ∃ v H', Inv X pins σ H' s' ∧ RelV v u ∧ Q v H') X.xe s := by
  have hl : us.length = ps.length := by rw [← r.length]; exact F.len _ _ _ _ h
  have b := hb s us I.kIn (by rw [List.append_nil]; exact hl)
  rw [List.append_nil] at b
  have e0 : Env0 X.prog X.w X.K X.mg X.base A X.stack s H := by
    have e := I.env0
    exact ⟨by rw [hf]; exact e.frames, e.mod, e.bs, e.bsz, e.funs, e.frf, e.hok, e.bare⟩
  refine wpAny_call (codeAny_mono (F.run A X.stack s H ⟨us, []⟩ us vs Q E0 hr e0 b r h) fun r s' hq => ?_)
  cases r with
  | error e => exact False.elim hq
  | ok fl =>
    cases fl with
    | ret u =>
      obtain ⟨v, H', I', rv, q⟩ := I.after hq
      exact ⟨v, H', I', rv, q⟩
    | next => exact False.elim hq
    | brk => exact False.elim hq
    | cont => exact False.elim hq
/-- len(a), a's class has an own __len__ -/
theorem call_lenOwn (F : FnOk X.prog X.w X.K X.mg X.base CX0 k f fd ps sp) (hr : Room (k + 1) X.A) (hs : PySem.W.findIn X.K (.ref C) "__len__" = some (some (.ref f))) (hf : PySem.W.isFn X.K (.ref f) = true) (hb : Binds X.K fd ps []) :
    CallR X (.builtin "len") (fun xs H Q => ∃ a dx fs, xs = [.ref a] ∧ H a = some (.ins C dx fs) ∧ sp [.ref a] H (fun v H' => ∃ n : Nat, v = .int n ∧ n ≤ 100000 ∧ Q (.int n) H') E0) := by
  intro pins s σ H xs us Q I r h
  obtain ⟨a, dx, fs, rfl, ha, q⟩ := h
  cases r with
  | cons rx rr =>
    cases rr
    cases rx
    obtain ⟨mA, J, _⟩ := ins_get I.hok ha
    obtain ⟨od, J, _⟩ := J.look
    obtain ⟨m, hF⟩ := I.fr
    refine PySem.W.len_K hF I.ok.mod.kin J hs hf (wpAny_mono (run_below (vs := [V.ref a]) F hr.in1 rfl hb I (.cons rfl .nil) q) (fun u s' z => ?_) fun _ _ x => x)
    obtain ⟨v, H', I', rv, n, rfl, hn, q'⟩ := z
    obtain ⟨t, rfl⟩ := rv
    exact ⟨by omega, .int n, H', I'.kept (t' := s'.toks + 1) fun _ _ z => z, ⟨_, rfl⟩, q'⟩
/-- a == y, a's class has an own __eq__ -/
theorem op_eqOwn (F : FnOk X.prog X.w X.K X.mg X.base CX0 k f fd ps sp) (hr : Room k X.A) (hs : PySem.W.findIn X.K (.ref C) "__eq__" = some (some (.ref f))) (hf : PySem.W.isFn X.K (.ref f) = true) (hb : Binds X.K fd ps []) :
    OpR X (compareOp .Eq) (fun x y H Q => ∃ a dx fs t, x = .ref a ∧ H a = some (.ins C dx fs) ∧ TyX X.K H y t ∧ PySem.W.notFirst X.K C t = true ∧ sp [.ref a, y] H (fun v H' => ∃ b, v = .bl b ∧ Q (.bl b) H') E0) := by
  intro pins s σ H x y v u Q I rx ry h
  obtain ⟨a, dx, fs, t, rfl, ha, ty, nf, q⟩ := h
  cases rx
  obtain ⟨mA, J, _⟩ := ins_get I.hok ha
  obtain ⟨od, J, _⟩ := J.look
  obtain ⟨m, hF⟩ := I.fr
  obtain ⟨P, kx, hp, _⟩ := kit_of I ry ty
  show wpAny (model X.prog X.w) X.A (richCompare .Eq (.ref a) u) (EP X pins σ Q) X.xe s
  refine PySem.W.cmp_K (op := .Eq) (tb := t) hr.units0 hF I.ok.mod.kin J (kx.ty _ _ I.kIn hp) nf hs hf (wpAny_mono (run_below (vs := [V.ref a, y]) F hr rfl hb I (.cons rfl (.cons ry .nil)) q) (fun w s' z => ?_) fun _ _ x => x)
  obtain ⟨v, H', I', rv, b, rfl, q'⟩ := z
  cases rv
  exact ⟨.bl b, H', I', rfl, q'⟩
end
section
variable {X : Cx} {CX : CXT} {k : Nat} {f C : Addr} {fd : FuncData} {ps : List Str} {sp : Sp} {E : L2.St → XK} {m : Str} {apos pos : Pos} {e o : Expr} {es : List Expr} {ta : L2.TE} {t : L2.TA}
/-- o.m(..), what it lets out is told by the slots -/
def tMethE (C : Addr) (m : Str) (sp : Sp) (E : L2.St → XK) (ta : L2.TE) (t : L2.TA) : L2.TE := fun σ H Q => ta σ H fun x H1 => ∃ a dx fs, x = .ref a ∧ H1 a = some (.ins C dx fs) ∧ fs.lookup m = none ∧ t σ H1 fun vs H2 => sp (x :: vs) H2 Q (E σ)
theorem pe_methE {pl : Sem Bool} (he : PE X o ta) (c : Cls X.K C) (hm : Meth X.K C m f) (F : FnOk X.prog X.w X.K X.mg X.base CX k f fd ps sp) (hr : Room k X.A) (hb : Binds X.K fd ps []) (hx : ∀ σ, PassesAt CX X σ (E σ)) (ha : PA X (e :: es) t)
    (hst : starEach (e :: es) X.env = (false, eval e X.env) :: starEach es X.env := by rfl) (hpl : (backTo pos (starEach es X.env)).any (·.1) = false := by rfl)
    (ht : eval (.Call (.Attribute o m apos) (e :: es) [] pos) X.env = (do
      let ov ← eval o X.env
      standAt apos.atName
      let (f, first) ← holding [ov] (getMethod ov m pl)
      callWith pos f first (backTo pos (starEach (e :: es) X.env)) (backToKw pos (keywordEach [] X.env))) := by rfl) :
    PE X (.Call (.Attribute o m apos) (e :: es) [] pos) (tMethE C m sp E ta t) := by
  refine ⟨fun pins s σ H Q I h => ?_⟩
  refine PySem.W.methodCall_KW (pl := pl) (thn (he.run pins s σ H _ I h) fun u s1 ⟨x, H1, I1, rx, a, dx, fs, ex, ea, l, q⟩ => ?_) ht
  subst ex
  obtain rfl : u = Value.ref a := rx
  refine getmeth_ok I1 ea c hm l ?_
  refine PySem.W.callWith_K (first := [.ref a]) (h₀ := X.base) I.ok.mod.kin hm.kp (thn (ha.run pos pins s1 σ H1 _ I1 q) fun us s2 ⟨vs, H2, I2, r, q2⟩ => ⟨I2.kIn, ?_⟩) hst hpl
  exact run_fnS (us := .ref a :: us) (vs := .ref a :: vs) F hr hb (hx σ) I2 (.cons rfl r) q2
theorem pe_methE0 {pl : Sem Bool} (he : PE X o ta) (c : Cls X.K C) (hm : Meth X.K C m f) (F : FnOk X.prog X.w X.K X.mg X.base CX k f fd ps sp) (hr : Room k X.A) (hb : Binds X.K fd ps []) (hx : ∀ σ, PassesAt CX X σ (E σ))
    (ht : eval (.Call (.Attribute o m apos) [] [] pos) X.env = (do
      let ov ← eval o X.env
      standAt apos.atName
      let (f, first) ← holding [ov] (getMethod ov m pl)
      callWith pos f first (backTo pos (starEach [] X.env)) (backToKw pos (keywordEach [] X.env))) := by rfl) :
    PE X (.Call (.Attribute o m apos) [] [] pos) (tMethE C m sp E ta tNil) := by
  refine ⟨fun pins s σ H Q I h => ?_⟩
  refine PySem.W.methodCall_KW (pl := pl) (thn (he.run pins s σ H _ I h) fun u s1 ⟨x, H1, I1, rx, a, dx, fs, ex, ea, l, q⟩ => ?_) ht
  subst ex
  obtain rfl : u = Value.ref a := rx
  refine getmeth_ok I1 ea c hm l ?_
  exact PySem.W.callWith_K0 (first := [.ref a]) I1.kIn hm.kp (run_fnS (us := [.ref a]) (vs := [.ref a]) F hr hb (hx σ) I1 (.cons rfl .nil) q)
end
end Ai

/-! plain lists: a queue that is kept -/
namespace Ai
/-- whether the one at the place i waits -/
def inSt (q : List Int) (i : Nat) : Bool := decide (i ∈ (stay 100 (en 0 q)).map Prod.fst)
/-- the rows of those who wait, of those who sit -/
def lfQ (q : List Int) : List Int := ((List.range q.length).filter (inSt q)).map fun i => q.getD i 0
def dnQ (q : List Int) : List Int := ((List.range q.length).filter (fun i => !inSt q i)).map fun i => q.getD i 0
def stR : Int → List Int → List Int
  | _, [] => []
  | a, r :: q => if r < a then stR r q else r :: stR (a - 1) q
def dnR : Int → List Int → List Int
  | _, [] => []
  | a, r :: q => if r < a then r :: dnR r q else dnR (a - 1) q
theorem stay_snd : ∀ (P : List Pr) (a : Int), (stay a P).map Prod.snd = stR a (P.map Prod.snd)
  | [], _ => rfl
  | (p, r) :: P, a => by
    simp only [stay, List.map_cons, stR]
    split
    · exact stay_snd P r
    · rw [List.map_cons, stay_snd P (a - 1)]
theorem sit_snd : ∀ (P : List Pr) (a : Int), (P.map Prod.fst).Nodup → (P.filter fun x => !decide (x.1 ∈ (stay a P).map Prod.fst)).map Prod.snd = dnR a (P.map Prod.snd)
  | [], _, _ => rfl
  | (p, r) :: P, a, nd => by
    rw [List.map_cons, List.nodup_cons] at nd
    have out : ∀ c, p ∉ (stay c P).map Prod.fst := fun c z => nd.1 (((stay_sub P c).map Prod.fst).subset z)
    by_cases c : r < a
    · have es : stay a ((p, r) :: P) = stay r P := by simp only [stay]; rw [if_pos c]
      have ed : dnR a (((p, r) :: P).map Prod.snd) = r :: dnR r (P.map Prod.snd) := by simp only [List.map_cons, dnR]; rw [if_pos c]
      rw [es, ed, List.filter_cons, if_pos (by simp only [decide_eq_false (out r)]; rfl), List.map_cons, sit_snd P r nd.2]
    · have es : stay a ((p, r) :: P) = (p, r) :: stay (a - 1) P := by simp only [stay]; rw [if_neg c]
      have ed : dnR a (((p, r) :: P).map Prod.snd) = dnR (a - 1) (P.map Prod.snd) := by simp only [List.map_cons, dnR]; rw [if_neg c]
      rw [es, ed, List.filter_cons, if_neg (by simp)]
      rw [← sit_snd P (a - 1) nd.2]
      congr 1
      refine List.filter_congr fun x hx => ?_
      have ne : x.1 ≠ p := fun z => nd.1 (List.mem_map.mpr ⟨x, hx, z⟩)
      simp [ne]
theorem en_range (q : List Int) : en 0 q = (List.range q.length).map fun i => (i, q.getD i 0) := by
  refine List.ext_getElem (by simp [en_length]) fun i h1 h2 => ?_
  have hi : i < q.length := by rw [en_length] at h1; exact h1
  have a : ((en 0 q).map Prod.fst)[i]'(by simpa using h1) = i := by
    simp only [en_fst, List.getElem_range']
    omega
  have b : ((en 0 q).map Prod.snd)[i]'(by simpa using h1) = q[i] := by
    simp only [en_snd]
  rw [List.getElem_map] at a b
  simp only [List.getElem_map, List.getElem_range]
  rw [List.getD_eq_getElem?_getD, List.getElem?_eq_getElem hi]
  exact Prod.ext a b
theorem lfQ_eq (q : List Int) : lfQ q = stR 100 q := by
  have e1 : lfQ q = ((en 0 q).filter (fun x => decide (x.1 ∈ (stay 100 (en 0 q)).map Prod.fst))).map Prod.snd := by
    conv => rhs; arg 2; arg 2; rw [en_range]
    rw [List.filter_map, List.map_map]
    rfl
  rw [e1, ← sub_filter (stay_sub _ _) (en_nodup q 0), stay_snd, en_snd]
theorem dnQ_eq (q : List Int) : dnQ q = dnR 100 q := by
  have e1 : dnQ q = ((en 0 q).filter (fun x => !decide (x.1 ∈ (stay 100 (en 0 q)).map Prod.fst))).map Prod.snd := by
    conv => rhs; arg 2; arg 2; rw [en_range]
    rw [List.filter_map, List.map_map]
    rfl
  rw [e1, sit_snd _ _ (en_nodup q 0), en_snd]
/-- the rows of those who are there in the turn t + 1 -/
def KQ (q : List Int) (t : Nat) : List Int := (S q t).map Prod.snd
theorem KQ_zero (q : List Int) : KQ q 0 = q := en_snd q 0
theorem KQ_succ (q : List Int) (t : Nat) : KQ q (t + 1) = lfQ (KQ q t) := by
  rw [lfQ_eq]
  show (stay 100 (S q t)).map Prod.snd = _
  rw [stay_snd]
  rfl
theorem KQ_rows {q : List Int} (hq : Rows q) (t : Nat) : Rows (KQ q t) := fun r hr => by
  obtain ⟨x, hx, rfl⟩ := List.mem_map.mp hr
  exact S_row hq hx
theorem KQ_length (q : List Int) (t : Nat) : (KQ q t).length ≤ q.length := by
  unfold KQ
  rw [List.length_map]
  have := (S_sub0 q t).length_le
  rw [en_length] at this
  exact this
theorem KQ_nil {q : List Int} (hq : Rows q) {t : Nat} : KQ q t = [] ↔ LL q ≤ t := by
  unfold KQ
  rw [List.map_eq_nil_iff]
  have := LL_iff hq (t := t)
  constructor
  · intro z
    apply Nat.le_of_not_lt
    intro h
    exact this.mpr h z
  · intro z
    apply Decidable.byContradiction
    intro h
    have := this.mp h
    omega
/-- who sits in a turn -/
theorem KQ_down {q : List Int} (hq : Rows q) (t : Nat) : dnQ (KQ q t) = ((List.range q.length).filter (fun i => decide (Tn q i = t + 1))).map fun i => q.getD i 0 := by
  rw [dnQ_eq]
  show dnR 100 ((S q t).map Prod.snd) = _
  rw [← sit_snd _ _ (S_nodup q t), S_filter hq t, List.filter_filter, en_range, List.filter_map, List.map_map]
  have e : ∀ i ∈ List.range q.length, ((fun x : Pr => (!decide (x.1 ∈ (stay 100 ((en 0 q).filter fun x => decide (t < Tn q x.1))).map Prod.fst)) && decide (t < Tn q x.1)) ∘ fun i => (i, q.getD i 0)) i = decide (Tn q i = t + 1) := fun i _ => by
    show ((!decide (i ∈ (stay 100 ((en 0 q).filter fun x => decide (t < Tn q x.1))).map Prod.fst)) && decide (t < Tn q i)) = _
    rw [← S_filter hq t]
    have m := mem_iff hq (p := i) (t := t + 1)
    have m' : i ∈ (stay 100 (S q t)).map Prod.fst ↔ t + 1 < Tn q i := m
    by_cases c : Tn q i = t + 1
    · rw [decide_eq_true c, decide_eq_false (fun z => by have := m'.mp z; omega), decide_eq_true (by omega)]
      rfl
    · rw [decide_eq_false c]
      by_cases d : t < Tn q i
      · rw [decide_eq_true (m'.mpr (by omega))]
        rfl
      · rw [decide_eq_false d, Bool.and_false]
  rw [← en_range]
  rw [List.filter_congr e]
  rfl
theorem lfQ_rows {q : List Int} (hq : Rows q) : Rows (lfQ q) := fun r hr => by
  obtain ⟨i, hi, rfl⟩ := List.mem_map.mp hr
  have h := List.mem_range.mp (List.mem_filter.mp hi).1
  rw [List.getD_eq_getElem?_getD, List.getElem?_eq_getElem h]
  exact hq _ (List.getElem_mem h)
theorem lfQ_length (q : List Int) : (lfQ q).length ≤ q.length := by
  unfold lfQ
  rw [List.length_map]
  have := List.length_filter_le (inSt q) (List.range q.length)
  simpa using this
theorem dnQ_length (q : List Int) : (dnQ q).length ≤ q.length := by
  unfold dnQ
  rw [List.length_map]
  have := List.length_filter_le (fun i => !inSt q i) (List.range q.length)
  simpa using this
/-- the program's look: all are there -/
theorem spot_all {q : List Int} {i : Nat} (hi : i < q.length) : ∃ l, (stL (fun _ => true) 100 0 q)[i]? = some (some l) ∧ (l = q.getD i 0 ↔ inSt q i = false) := by
  have hr : q[i]? = some (q.getD i 0) := by rw [List.getD_eq_getElem?_getD, List.getElem?_eq_getElem hi]; rfl
  obtain ⟨l, h1, h2, h3⟩ := stL_at (th := fun _ => true) (a := 100) (i := 0) hr rfl
  refine ⟨l, h1, ?_⟩
  rw [h3]
  have e : (en 0 q).filter (fun x => (fun _ => true) x.1) = en 0 q := List.filter_eq_self.mpr (by simp)
  rw [e, Nat.zero_add]
  unfold inSt
  rw [decide_eq_false_iff_not]
end Ai

namespace Ai
open PySem PySem.Spec PyProof.Rows L2
def topS (i : Nat) : Stmt := PySem.Challenge.pw_aisleturns_k51_queues_kept_by_hand.main.body.getD i (.Pass ⟨0, 0, 0, 0⟩)
abbrev s_is_whole : Stmt := topS 13
theorem sc_is_whole : FnScope ["thing"] ["thing"] (defScope s_is_whole) := ⟨rfl, rfl, rfl, by decide +kernel, rfl, by decide +kernel, by decide +kernel⟩
abbrev s_is_row : Stmt := topS 14
theorem sc_is_row : FnScope ["thing"] ["thing"] (defScope s_is_row) := ⟨rfl, rfl, rfl, by decide +kernel, rfl, by decide +kernel, by decide +kernel⟩
abbrev s_is_queue : Stmt := topS 15
theorem sc_is_queue : FnScope ["thing", "one"] ["thing"] (defScope s_is_queue) := ⟨rfl, rfl, rfl, by decide +kernel, rfl, by decide +kernel, by decide +kernel⟩
abbrev s_need_queue : Stmt := topS 16
theorem sc_need_queue : FnScope ["queue"] ["queue"] (defScope s_need_queue) := ⟨rfl, rfl, rfl, by decide +kernel, rfl, by decide +kernel, by decide +kernel⟩
abbrev s_stands : Stmt := topS 17
theorem sc_stands : FnScope ["queue", "there", "found", "last", "place", "row"] ["queue", "there"] (defScope s_stands) := ⟨rfl, rfl, rfl, by decide +kernel, rfl, by decide +kernel, by decide +kernel⟩
abbrev s_turns_of : Stmt := topS 18
theorem sc_turns_of : FnScope ["queue", "there", "found", "turn", "spots", "place"] ["queue"] (defScope s_turns_of) := ⟨rfl, rfl, rfl, by decide +kernel, rfl, by decide +kernel, by decide +kernel⟩
abbrev s_turns : Stmt := topS 19
theorem sc_turns : FnScope ["queue"] ["queue"] (defScope s_turns) := ⟨rfl, rfl, rfl, by decide +kernel, rfl, by decide +kernel, by decide +kernel⟩
abbrev s_long_of : Stmt := topS 20
theorem sc_long_of : FnScope ["queue"] ["queue"] (defScope s_long_of) := ⟨rfl, rfl, rfl, by decide +kernel, rfl, by decide +kernel, by decide +kernel⟩
abbrev s_how_long : Stmt := topS 21
theorem sc_how_long : FnScope ["queue"] ["queue"] (defScope s_how_long) := ⟨rfl, rfl, rfl, by decide +kernel, rfl, by decide +kernel, by decide +kernel⟩
abbrev s_law_well : Stmt := topS 25
theorem sc_law_well : FnScope ["script", "k", "cell", "primes", "seed"] ["script", "k"] (defScope s_law_well) := ⟨rfl, rfl, rfl, by decide +kernel, rfl, by decide +kernel, by decide +kernel⟩
abbrev s_law_take : Stmt := topS 26
theorem sc_law_take : FnScope ["well", "many", "drew"] ["well", "many"] (defScope s_law_take) := ⟨rfl, rfl, rfl, by decide +kernel, rfl, by decide +kernel, by decide +kernel⟩
abbrev s_law_is_int : Stmt := topS 27
theorem sc_law_is_int : FnScope ["thing", "low", "high"] ["thing", "low", "high"] (defScope s_law_is_int) := ⟨rfl, rfl, rfl, by decide +kernel, rfl, by decide +kernel, by decide +kernel⟩
abbrev s_law_kinds : Stmt := topS 28
theorem sc_law_kinds : FnScope ["e", "some", "words", "word", "good"] ["e"] (defScope s_law_kinds) := ⟨rfl, rfl, rfl, by decide +kernel, rfl, by decide +kernel, by decide +kernel⟩
abbrev s_law_refusal : Stmt := topS 29
theorem sc_law_refusal : FnScope ["e", "kinds"] ["e"] (defScope s_law_refusal) := ⟨rfl, rfl, rfl, by decide +kernel, rfl, by decide +kernel, by decide +kernel⟩
abbrev s_law_queue : Stmt := topS 30
theorem sc_law_queue : FnScope ["well", "most", "wide", "found", "half", "turn"] ["well", "most"] (defScope s_law_queue) := ⟨rfl, rfl, rfl, by decide +kernel, rfl, by decide +kernel, by decide +kernel⟩
abbrev s_law_spots : Stmt := topS 31
theorem sc_law_spots : FnScope ["queue", "there", "place", "found", "last"] ["queue", "there"] (defScope s_law_spots) := ⟨rfl, rfl, rfl, by decide +kernel, rfl, by decide +kernel, by decide +kernel⟩
abbrev s_law_done : Stmt := topS 32
theorem sc_law_done : FnScope ["kept", "deed", "e"] ["kept", "deed"] (defScope s_law_done) := ⟨rfl, rfl, rfl, by decide +kernel, rfl, by decide +kernel, by decide +kernel⟩
abbrev s_law_deed : Stmt := topS 33
theorem sc_law_deed : FnScope ["well", "many", "way", "some"] ["well", "many"] (defScope s_law_deed) := ⟨rfl, rfl, rfl, by decide +kernel, rfl, by decide +kernel, by decide +kernel⟩
abbrev s_law_due : Stmt := topS 34
theorem sc_law_due : FnScope ["rows", "deed", "spots", "down", "left", "queue", "sat_so", "now", "place", "row"] ["rows", "deed"] (defScope s_law_due) := ⟨rfl, rfl, rfl, by decide +kernel, rfl, by decide +kernel, by decide +kernel⟩
abbrev s_law_stands : Stmt := topS 35
theorem sc_law_stands : FnScope ["kept", "row"] ["kept", "row"] (defScope s_law_stands) := ⟨rfl, rfl, rfl, by decide +kernel, rfl, by decide +kernel, by decide +kernel⟩
abbrev s_law_plain : Stmt := topS 36
theorem sc_law_plain : FnScope ["well", "row", "queue", "idle", "full", "turn", "kept", "due", "own"] ["well"] (defScope s_law_plain) := ⟨rfl, rfl, rfl, by decide +kernel, rfl, by decide +kernel, by decide +kernel⟩
abbrev s_law : Stmt := topS 37
theorem sc_law : FnScope ["script", "k", "rows", "kept", "well", "deed"] ["script"] (defScope s_law) := ⟨rfl, rfl, rfl, by decide +kernel, rfl, by decide +kernel, by decide +kernel⟩
abbrev s_Kept___init__ : Stmt := inClass (topS 23) 0
theorem sc_Kept___init__ : FnScope ["self"] ["self"] (defScope s_Kept___init__) := ⟨rfl, rfl, rfl, by decide +kernel, rfl, by decide +kernel, by decide +kernel⟩
abbrev s_Kept___len__ : Stmt := inClass (topS 23) 1
theorem sc_Kept___len__ : FnScope ["self"] ["self"] (defScope s_Kept___len__) := ⟨rfl, rfl, rfl, by decide +kernel, rfl, by decide +kernel, by decide +kernel⟩
abbrev s_Kept___eq__ : Stmt := inClass (topS 23) 2
theorem sc_Kept___eq__ : FnScope ["self", "other"] ["self", "other"] (defScope s_Kept___eq__) := ⟨rfl, rfl, rfl, by decide +kernel, rfl, by decide +kernel, by decide +kernel⟩
abbrev s_Kept_join : Stmt := inClass (topS 23) 3
theorem sc_Kept_join : FnScope ["self", "row", "queue", "sat", "now"] ["self", "row"] (defScope s_Kept_join) := ⟨rfl, rfl, rfl, by decide +kernel, rfl, by decide +kernel, by decide +kernel⟩
abbrev s_Kept_leave : Stmt := inClass (topS 23) 4
theorem sc_Kept_leave : FnScope ["self", "place", "queue", "sat", "now"] ["self", "place"] (defScope s_Kept_leave) := ⟨rfl, rfl, rfl, by decide +kernel, rfl, by decide +kernel, by decide +kernel⟩
abbrev s_Kept_turn : Stmt := inClass (topS 23) 5
theorem sc_Kept_turn : FnScope ["self", "spots", "down", "left", "queue", "sat", "now", "row", "spot"] ["self"] (defScope s_Kept_turn) := ⟨rfl, rfl, rfl, by decide +kernel, rfl, by decide +kernel, by decide +kernel⟩
abbrev s_Kept_back : Stmt := inClass (topS 23) 6
theorem sc_Kept_back : FnScope ["self"] ["self"] (defScope s_Kept_back) := ⟨rfl, rfl, rfl, by decide +kernel, rfl, by decide +kernel, by decide +kernel⟩
abbrev s_Kept_queue : Stmt := inClass (topS 23) 7
theorem sc_Kept_queue : FnScope ["self"] ["self"] (defScope s_Kept_queue) := ⟨rfl, rfl, rfl, by decide +kernel, rfl, by decide +kernel, by decide +kernel⟩
abbrev s_Kept_sat : Stmt := inClass (topS 23) 8
theorem sc_Kept_sat : FnScope ["self"] ["self"] (defScope s_Kept_sat) := ⟨rfl, rfl, rfl, by decide +kernel, rfl, by decide +kernel, by decide +kernel⟩
abbrev s_Kept_now : Stmt := inClass (topS 23) 9
theorem sc_Kept_now : FnScope ["self"] ["self"] (defScope s_Kept_now) := ⟨rfl, rfl, rfl, by decide +kernel, rfl, by decide +kernel, by decide +kernel⟩
structure Fns (K : PySem.W.Frag) (mg : Str → Option Value) : Type where
  n_ValueError : mg "ValueError" = none
  n_all : mg "all" = none
  n_bool : mg "bool" = none
  n_enumerate : mg "enumerate" = none
  n_int : mg "int" = none
  n_isinstance : mg "isinstance" = none
  n_len : mg "len" = none
  n_list : mg "list" = none
  n_max : mg "max" = none
  n_min : mg "min" = none
  n_range : mg "range" = none
  n_sorted : mg "sorted" = none
  n_tuple : mg "tuple" = none
  n_zip : mg "zip" = none
  tk_MOST_FOLK : Tok
  c_MOST_FOLK : mg "MOST_FOLK" = some (.int 40 tk_MOST_FOLK)
  tk_MOST_ROW : Tok
  c_MOST_ROW : mg "MOST_ROW" = some (.int 99 tk_MOST_ROW)
  a_is_whole : Addr
  d_is_whole : FuncData
  F_is_whole : Fun K "is_whole" "is_whole" s_is_whole a_is_whole d_is_whole
  b_is_whole : Binds K d_is_whole ["thing"] []
  g_is_whole : mg "is_whole" = some (.ref a_is_whole)
  a_is_row : Addr
  d_is_row : FuncData
  F_is_row : Fun K "is_row" "is_row" s_is_row a_is_row d_is_row
  b_is_row : Binds K d_is_row ["thing"] []
  g_is_row : mg "is_row" = some (.ref a_is_row)
  a_is_queue : Addr
  d_is_queue : FuncData
  F_is_queue : Fun K "is_queue" "is_queue" s_is_queue a_is_queue d_is_queue
  b_is_queue : Binds K d_is_queue ["thing"] []
  g_is_queue : mg "is_queue" = some (.ref a_is_queue)
  a_need_queue : Addr
  d_need_queue : FuncData
  F_need_queue : Fun K "need_queue" "need_queue" s_need_queue a_need_queue d_need_queue
  b_need_queue : Binds K d_need_queue ["queue"] []
  g_need_queue : mg "need_queue" = some (.ref a_need_queue)
  a_stands : Addr
  d_stands : FuncData
  F_stands : Fun K "stands" "stands" s_stands a_stands d_stands
  b_stands : Binds K d_stands ["queue", "there"] []
  g_stands : mg "stands" = some (.ref a_stands)
  a_turns_of : Addr
  d_turns_of : FuncData
  F_turns_of : Fun K "turns_of" "turns_of" s_turns_of a_turns_of d_turns_of
  b_turns_of : Binds K d_turns_of ["queue"] []
  g_turns_of : mg "turns_of" = some (.ref a_turns_of)
  a_turns : Addr
  d_turns : FuncData
  F_turns : Fun K "turns" "turns" s_turns a_turns d_turns
  b_turns : Binds K d_turns ["queue"] []
  g_turns : mg "turns" = some (.ref a_turns)
  a_long_of : Addr
  d_long_of : FuncData
  F_long_of : Fun K "long_of" "long_of" s_long_of a_long_of d_long_of
  b_long_of : Binds K d_long_of ["queue"] []
  g_long_of : mg "long_of" = some (.ref a_long_of)
  a_how_long : Addr
  d_how_long : FuncData
  F_how_long : Fun K "how_long" "how_long" s_how_long a_how_long d_how_long
  b_how_long : Binds K d_how_long ["queue"] []
  g_how_long : mg "how_long" = some (.ref a_how_long)
  a_law_well : Addr
  d_law_well : FuncData
  F_law_well : Fun K "_law_well" "_law_well" s_law_well a_law_well d_law_well
  b_law_well : Binds K d_law_well ["script", "k"] []
  g_law_well : mg "_law_well" = some (.ref a_law_well)
  a_law_take : Addr
  d_law_take : FuncData
  F_law_take : Fun K "_law_take" "_law_take" s_law_take a_law_take d_law_take
  b_law_take : Binds K d_law_take ["well", "many"] []
  g_law_take : mg "_law_take" = some (.ref a_law_take)
  a_law_is_int : Addr
  d_law_is_int : FuncData
  F_law_is_int : Fun K "_law_is_int" "_law_is_int" s_law_is_int a_law_is_int d_law_is_int
  b_law_is_int : Binds K d_law_is_int ["thing", "low", "high"] []
  g_law_is_int : mg "_law_is_int" = some (.ref a_law_is_int)
  a_law_kinds : Addr
  d_law_kinds : FuncData
  F_law_kinds : Fun K "_law_kinds" "_law_kinds" s_law_kinds a_law_kinds d_law_kinds
  b_law_kinds : Binds K d_law_kinds ["e"] []
  g_law_kinds : mg "_law_kinds" = some (.ref a_law_kinds)
  a_law_refusal : Addr
  d_law_refusal : FuncData
  F_law_refusal : Fun K "_law_refusal" "_law_refusal" s_law_refusal a_law_refusal d_law_refusal
  b_law_refusal : Binds K d_law_refusal ["e"] []
  g_law_refusal : mg "_law_refusal" = some (.ref a_law_refusal)
  a_law_queue : Addr
  d_law_queue : FuncData
  F_law_queue : Fun K "_law_queue" "_law_queue" s_law_queue a_law_queue d_law_queue
  b_law_queue : Binds K d_law_queue ["well", "most"] []
  g_law_queue : mg "_law_queue" = some (.ref a_law_queue)
  a_law_spots : Addr
  d_law_spots : FuncData
  F_law_spots : Fun K "_law_spots" "_law_spots" s_law_spots a_law_spots d_law_spots
  b_law_spots : Binds K d_law_spots ["queue", "there"] []
  g_law_spots : mg "_law_spots" = some (.ref a_law_spots)
  a_law_done : Addr
  d_law_done : FuncData
  F_law_done : Fun K "_law_done" "_law_done" s_law_done a_law_done d_law_done
  b_law_done : Binds K d_law_done ["kept", "deed"] []
  g_law_done : mg "_law_done" = some (.ref a_law_done)
  a_law_deed : Addr
  d_law_deed : FuncData
  F_law_deed : Fun K "_law_deed" "_law_deed" s_law_deed a_law_deed d_law_deed
  b_law_deed : Binds K d_law_deed ["well", "many"] []
  g_law_deed : mg "_law_deed" = some (.ref a_law_deed)
  a_law_due : Addr
  d_law_due : FuncData
  F_law_due : Fun K "_law_due" "_law_due" s_law_due a_law_due d_law_due
  b_law_due : Binds K d_law_due ["rows", "deed"] []
  g_law_due : mg "_law_due" = some (.ref a_law_due)
  a_law_stands : Addr
  d_law_stands : FuncData
  F_law_stands : Fun K "_law_stands" "_law_stands" s_law_stands a_law_stands d_law_stands
  b_law_stands : Binds K d_law_stands ["kept", "row"] []
  g_law_stands : mg "_law_stands" = some (.ref a_law_stands)
  a_law_plain : Addr
  d_law_plain : FuncData
  F_law_plain : Fun K "_law_plain" "_law_plain" s_law_plain a_law_plain d_law_plain
  b_law_plain : Binds K d_law_plain ["well"] []
  g_law_plain : mg "_law_plain" = some (.ref a_law_plain)
  a_law : Addr
  d_law : FuncData
  F_law : Fun K "law" "law" s_law a_law d_law
  b_law : Binds K d_law ["script"] []
  g_law : mg "law" = some (.ref a_law)
  a_AisleError : Addr
  g_AisleError : mg "AisleError" = some (.ref a_AisleError)
  kp_AisleError : PySem.W.keepIn K (.ref a_AisleError) = true
  x_AisleError : PySem.W.excIn K a_AisleError [.type "ValueError", .type "Exception", .type "BaseException", .type "object"] "ValueError.__new__" = true
  sb_AisleError : PySem.W.subIn K (.ref a_AisleError) (.type "BaseException") = some true
  ty_AisleError : PySem.W.typeIn K (.ref a_AisleError) = some (.type "type")
  a_NoQueue : Addr
  g_NoQueue : mg "NoQueue" = some (.ref a_NoQueue)
  kp_NoQueue : PySem.W.keepIn K (.ref a_NoQueue) = true
  x_NoQueue : PySem.W.excIn K a_NoQueue [.type "ValueError", .type "Exception", .type "BaseException", .type "object"] "ValueError.__new__" = true
  sb_NoQueue : PySem.W.subIn K (.ref a_NoQueue) (.type "BaseException") = some true
  ty_NoQueue : PySem.W.typeIn K (.ref a_NoQueue) = some (.type "type")
  a_NoTurn : Addr
  g_NoTurn : mg "NoTurn" = some (.ref a_NoTurn)
  kp_NoTurn : PySem.W.keepIn K (.ref a_NoTurn) = true
  x_NoTurn : PySem.W.excIn K a_NoTurn [.type "ValueError", .type "Exception", .type "BaseException", .type "object"] "ValueError.__new__" = true
  sb_NoTurn : PySem.W.subIn K (.ref a_NoTurn) (.type "BaseException") = some true
  ty_NoTurn : PySem.W.typeIn K (.ref a_NoTurn) = some (.type "type")
  a_NoFolk : Addr
  g_NoFolk : mg "NoFolk" = some (.ref a_NoFolk)
  kp_NoFolk : PySem.W.keepIn K (.ref a_NoFolk) = true
  x_NoFolk : PySem.W.excIn K a_NoFolk [.type "ValueError", .type "Exception", .type "BaseException", .type "object"] "ValueError.__new__" = true
  sb_NoFolk : PySem.W.subIn K (.ref a_NoFolk) (.type "BaseException") = some true
  ty_NoFolk : PySem.W.typeIn K (.ref a_NoFolk) = some (.type "type")
  a_NoSeen : Addr
  g_NoSeen : mg "NoSeen" = some (.ref a_NoSeen)
  kp_NoSeen : PySem.W.keepIn K (.ref a_NoSeen) = true
  x_NoSeen : PySem.W.excIn K a_NoSeen [.type "ValueError", .type "Exception", .type "BaseException", .type "object"] "ValueError.__new__" = true
  sb_NoSeen : PySem.W.subIn K (.ref a_NoSeen) (.type "BaseException") = some true
  ty_NoSeen : PySem.W.typeIn K (.ref a_NoSeen) = some (.type "type")
  a_NoRow : Addr
  g_NoRow : mg "NoRow" = some (.ref a_NoRow)
  kp_NoRow : PySem.W.keepIn K (.ref a_NoRow) = true
  x_NoRow : PySem.W.excIn K a_NoRow [.type "ValueError", .type "Exception", .type "BaseException", .type "object"] "ValueError.__new__" = true
  sb_NoRow : PySem.W.subIn K (.ref a_NoRow) (.type "BaseException") = some true
  ty_NoRow : PySem.W.typeIn K (.ref a_NoRow) = some (.type "type")
  a_NoPlace : Addr
  g_NoPlace : mg "NoPlace" = some (.ref a_NoPlace)
  kp_NoPlace : PySem.W.keepIn K (.ref a_NoPlace) = true
  x_NoPlace : PySem.W.excIn K a_NoPlace [.type "ValueError", .type "Exception", .type "BaseException", .type "object"] "ValueError.__new__" = true
  sb_NoPlace : PySem.W.subIn K (.ref a_NoPlace) (.type "BaseException") = some true
  ty_NoPlace : PySem.W.typeIn K (.ref a_NoPlace) = some (.type "type")
  a_Full : Addr
  g_Full : mg "Full" = some (.ref a_Full)
  kp_Full : PySem.W.keepIn K (.ref a_Full) = true
  x_Full : PySem.W.excIn K a_Full [.type "ValueError", .type "Exception", .type "BaseException", .type "object"] "ValueError.__new__" = true
  sb_Full : PySem.W.subIn K (.ref a_Full) (.type "BaseException") = some true
  ty_Full : PySem.W.typeIn K (.ref a_Full) = some (.type "type")
  a_NothingLeft : Addr
  g_NothingLeft : mg "NothingLeft" = some (.ref a_NothingLeft)
  kp_NothingLeft : PySem.W.keepIn K (.ref a_NothingLeft) = true
  x_NothingLeft : PySem.W.excIn K a_NothingLeft [.type "ValueError", .type "Exception", .type "BaseException", .type "object"] "ValueError.__new__" = true
  sb_NothingLeft : PySem.W.subIn K (.ref a_NothingLeft) (.type "BaseException") = some true
  ty_NothingLeft : PySem.W.typeIn K (.ref a_NothingLeft) = some (.type "type")
  a_Kept : Addr
  g_Kept : mg "Kept" = some (.ref a_Kept)
  cl_Kept : Cls K a_Kept
  na_rows : NoAttr K a_Kept "rows"
  ha_Kept : PySem.W.findIn K (.ref a_Kept) "__class__" = some (some (.builtin "object.__class__"))
  hn_Kept : PySem.W.specialIn K (.builtin "object.__class__") "__get__" = some (some (.builtin "getset_descriptor.__get__"))
  ht_Kept : PySem.W.takesIn K (.builtin "object.__class__") = some true
  hm_Kept : PySem.W.mroIn K a_Kept (.type "object") = some true
  nf_Kept : PySem.W.notFirst K a_Kept (.type "tuple") = true
  kt_Kept : PySem.W.kitOne K (.type "tuple") (.ref a_Kept) = some false
  a_Kept___init__ : Addr
  d_Kept___init__ : FuncData
  F_Kept___init__ : Fun K "__init__" "Kept.__init__" s_Kept___init__ a_Kept___init__ d_Kept___init__
  b_Kept___init__ : Binds K d_Kept___init__ ["self"] []
  m_Kept___init__ : Meth K a_Kept "__init__" a_Kept___init__
  a_Kept___len__ : Addr
  d_Kept___len__ : FuncData
  F_Kept___len__ : Fun K "__len__" "Kept.__len__" s_Kept___len__ a_Kept___len__ d_Kept___len__
  b_Kept___len__ : Binds K d_Kept___len__ ["self"] []
  m_Kept___len__ : Meth K a_Kept "__len__" a_Kept___len__
  a_Kept___eq__ : Addr
  d_Kept___eq__ : FuncData
  F_Kept___eq__ : Fun K "__eq__" "Kept.__eq__" s_Kept___eq__ a_Kept___eq__ d_Kept___eq__
  b_Kept___eq__ : Binds K d_Kept___eq__ ["self", "other"] []
  m_Kept___eq__ : Meth K a_Kept "__eq__" a_Kept___eq__
  a_Kept_join : Addr
  d_Kept_join : FuncData
  F_Kept_join : Fun K "join" "Kept.join" s_Kept_join a_Kept_join d_Kept_join
  b_Kept_join : Binds K d_Kept_join ["self", "row"] []
  m_Kept_join : Meth K a_Kept "join" a_Kept_join
  a_Kept_leave : Addr
  d_Kept_leave : FuncData
  F_Kept_leave : Fun K "leave" "Kept.leave" s_Kept_leave a_Kept_leave d_Kept_leave
  b_Kept_leave : Binds K d_Kept_leave ["self", "place"] []
  m_Kept_leave : Meth K a_Kept "leave" a_Kept_leave
  a_Kept_turn : Addr
  d_Kept_turn : FuncData
  F_Kept_turn : Fun K "turn" "Kept.turn" s_Kept_turn a_Kept_turn d_Kept_turn
  b_Kept_turn : Binds K d_Kept_turn ["self"] []
  m_Kept_turn : Meth K a_Kept "turn" a_Kept_turn
  a_Kept_back : Addr
  d_Kept_back : FuncData
  F_Kept_back : Fun K "back" "Kept.back" s_Kept_back a_Kept_back d_Kept_back
  b_Kept_back : Binds K d_Kept_back ["self"] []
  m_Kept_back : Meth K a_Kept "back" a_Kept_back
  a_Kept_queue : Addr
  d_Kept_queue : FuncData
  F_Kept_queue : Fun K "queue" "Kept.queue" s_Kept_queue a_Kept_queue d_Kept_queue
  b_Kept_queue : Binds K d_Kept_queue ["self"] []
  m_Kept_queue : Meth K a_Kept "queue" a_Kept_queue
  a_Kept_sat : Addr
  d_Kept_sat : FuncData
  F_Kept_sat : Fun K "sat" "Kept.sat" s_Kept_sat a_Kept_sat d_Kept_sat
  b_Kept_sat : Binds K d_Kept_sat ["self"] []
  m_Kept_sat : Meth K a_Kept "sat" a_Kept_sat
  a_Kept_now : Addr
  d_Kept_now : FuncData
  F_Kept_now : Fun K "now" "Kept.now" s_Kept_now a_Kept_now d_Kept_now
  b_Kept_now : Binds K d_Kept_now ["self"] []
  m_Kept_now : Meth K a_Kept "now" a_Kept_now
  mk_Kept : Mk K a_Kept a_Kept___init__
  kn_NoRow : KnD K [a_NoQueue, a_NoTurn, a_NoFolk, a_NoSeen, a_NoRow, a_NoPlace, a_Full, a_NothingLeft] a_AisleError a_NoRow 4
  kn_NoPlace : KnD K [a_NoQueue, a_NoTurn, a_NoFolk, a_NoSeen, a_NoRow, a_NoPlace, a_Full, a_NothingLeft] a_AisleError a_NoPlace 5
  kn_Full : KnD K [a_NoQueue, a_NoTurn, a_NoFolk, a_NoSeen, a_NoRow, a_NoPlace, a_Full, a_NothingLeft] a_AisleError a_Full 6
  kn_NothingLeft : KnD K [a_NoQueue, a_NoTurn, a_NoFolk, a_NoSeen, a_NoRow, a_NoPlace, a_Full, a_NothingLeft] a_AisleError a_NothingLeft 7
end Ai
namespace Ai
open PySem PySem.Spec PyProof.Rows L2
/-! ### is_whole, is_row, is_queue -/
def wholeD : PyData → Bool
  | .int _ => true
  | _ => false
def sp_is_whole (K : PySem.W.Frag) : Sp := fun vs H Q _ => ∃ v d, vs = [v] ∧ Dp K H v d ∧ Q (.bl (wholeD d)) H
section
variable {P : Program} {w : World} {K : PySem.W.Frag} {mg : Str → Option Value} {base : Heap}
theorem ok_is_whole (T : Fns K mg) : FnOk P w K mg base CX0 1 T.a_is_whole T.d_is_whole ["thing"] (sp_is_whole K) := by
  refine T.F_is_whole.ok sc_is_whole (fun vs H Q E h => ?_) (fun cdv A outer s H vs Q E hr h => ?_)
  · obtain ⟨v, d, rfl, _⟩ := h
    rfl
  · obtain ⟨v, d, rfl, hd, q⟩ := h
    refine ⟨_, (pss_one (ps_ret (pe_and (pe_callB call_isi (by rfl) T.n_isinstance (by decide +kernel) (pa_cons (pv 0) (pa_cons (pe_bltn (v := .ty "int") (by rfl) T.n_int (by decide +kernel) rfl) pa_nil))) (pe_one (pe_not (pe_callB call_isi (by rfl) T.n_isinstance (by decide +kernel) (pa_cons (pv 0) (pa_cons (pe_bltn (v := .ty "bool") (by rfl) T.n_bool (by decide +kernel) rfl) pa_nil)))))))), ?_⟩
    refine ⟨v, rfl, ?_⟩
    refine ⟨_, _, _, _, _, rfl, .ty _, dp_ty hd, kit_int hd, intB d, rfl, ?_⟩
    refine ite2 (fun e => ?_) (fun e => ?_)
    · refine ⟨v, rfl, _, _, _, _, _, rfl, .ty _, dp_ty hd, kit_bool hd, boolB d, rfl, ?_⟩
      cases d <;> first | exact q | exact nomatch e
    · cases d <;> first | exact q | exact absurd rfl e
end
end Ai
namespace Ai
open PySem PySem.Spec PyProof.Rows L2
def rowD : PyData → Bool
  | .int i => decide (1 ≤ i) && decide (i ≤ 99)
  | _ => false
def sp_is_row (K : PySem.W.Frag) : Sp := fun vs H Q _ => ∃ v d, vs = [v] ∧ Dp K H v d ∧ Q (.bl (rowD d)) H
section
variable {P : Program} {w : World} {K : PySem.W.Frag} {mg : Str → Option Value} {base : Heap}
theorem ok_is_row (T : Fns K mg) : FnOk P w K mg base CX0 2 T.a_is_row T.d_is_row ["thing"] (sp_is_row K) := by
  refine T.F_is_row.ok sc_is_row (fun vs H Q E h => ?_) (fun cdv A outer s H vs Q E hr h => ?_)
  · obtain ⟨v, d, rfl, _⟩ := h
    rfl
  · obtain ⟨v, d, rfl, hd, q⟩ := h
    refine ⟨_, (pss_one (ps_ret (pe_and (pe_call (E := E0) (ok_is_whole T) (hr.mono (by decide)) (by rfl) T.g_is_whole T.F_is_whole.kp T.b_is_whole .nil pass0 (pa_cons (pv 0) pa_nil)) (pe_one (pe_chain op_le op_le pe_int (pv 0) (pe_glob (v := .int 99) (by rfl) T.c_MOST_ROW ⟨_, rfl⟩)))))), ?_⟩
    refine ⟨v, rfl, v, d, rfl, hd, ?_⟩
    cases d with
    | int i =>
      cases hd
      refine ⟨true, rfl, _, rfl, 1, i, rfl, rfl, _, rfl, ?_⟩
      refine ite2 (fun e => ?_) (fun e => ?_)
      · refine ⟨i, 99, rfl, rfl, ?_⟩
        have e' : rowD (.int i) = decide (i ≤ 99) := by simp [rowD, e]
        rw [e'] at q
        exact q
      · have e' : rowD (.int i) = false := by simp [rowD, e]
        rw [e'] at q
        exact q
    | none => exact ⟨false, rfl, q⟩
    | bool b => exact ⟨false, rfl, q⟩
    | str x => exact ⟨false, rfl, q⟩
    | list ds => exact ⟨false, rfl, q⟩
    | tuple ds => exact ⟨false, rfl, q⟩
    | dict ds => exact nomatch hd
end
end Ai
namespace Ai
open PySem PySem.Spec PyProof.Rows L2
def queueD : PyData → Bool
  | .tuple ds => decide (ds.length ≤ 40) && ds.all rowD
  | _ => false
theorem rowD_int {i : Int} : rowD (.int i) = true ↔ 1 ≤ i ∧ i ≤ 99 := by simp [rowD]
theorem rowD_inv {d : PyData} (h : rowD d = true) : ∃ i, d = .int i ∧ 1 ≤ i ∧ i ≤ 99 := by
  cases d with
  | int i => exact ⟨i, rfl, rowD_int.mp h⟩
  | _ => simp [rowD] at h
theorem rows_inv : ∀ {ds : List PyData}, ds.all rowD = true → ∃ q : List Int, ds = q.map PyData.int ∧ Rows q
  | [], _ => ⟨[], rfl, fun r h => nomatch h⟩
  | d :: ds, h => by
    rw [List.all_cons, Bool.and_eq_true] at h
    obtain ⟨i, rfl, hi⟩ := rowD_inv h.1
    obtain ⟨q, rfl, hq⟩ := rows_inv h.2
    refine ⟨i :: q, rfl, fun r hr => ?_⟩
    rcases List.mem_cons.mp hr with rfl | hr
    · exact hi
    · exact hq r hr
theorem rows_all {q : List Int} (h : Rows q) : (q.map PyData.int).all rowD = true := by
  rw [List.all_map]
  exact List.all_eq_true.mpr fun r hr => rowD_int.mpr (h r hr)
theorem queueD_inv {d : PyData} (h : queueD d = true) : ∃ q : List Int, d = .tuple (q.map PyData.int) ∧ QOk q := by
  cases d with
  | tuple ds =>
    simp only [queueD, Bool.and_eq_true, decide_eq_true_eq] at h
    obtain ⟨q, rfl, hq⟩ := rows_inv h.2
    exact ⟨q, rfl, by simpa using h.1, hq⟩
  | _ => simp [queueD] at h
theorem queueD_of {q : List Int} (h : QOk q) : queueD (.tuple (q.map PyData.int)) = true := by
  simp only [queueD, Bool.and_eq_true, decide_eq_true_eq, rows_all h.rows, and_true, List.length_map]
  exact h.len
def sp_is_queue (K : PySem.W.Frag) : Sp := fun vs H Q _ => ∃ v d, vs = [v] ∧ Dp K H v d ∧ ∀ H', Same H H' → Q (.bl (queueD d)) H'
section
variable {P : Program} {w : World} {K : PySem.W.Frag} {mg : Str → Option Value} {base : Heap}
theorem ok_is_queue (T : Fns K mg) : FnOk P w K mg base CX0 3 T.a_is_queue T.d_is_queue ["thing"] (sp_is_queue K) := by
  refine T.F_is_queue.ok sc_is_queue (fun vs H Q E h => ?_) (fun cdv A outer s H vs Q E hr h => ?_)
  · obtain ⟨v, d, rfl, _⟩ := h
    rfl
  · obtain ⟨v, d, rfl, hd, q⟩ := h
    refine ⟨_, (pss_one (ps_ret (pe_and (pe_callB call_isi (by rfl) T.n_isinstance (by decide +kernel) (pa_cons (pv 0) (pa_cons (pe_bltn (v := .ty "tuple") (by rfl) T.n_tuple (by decide +kernel) rfl) pa_nil))) (pe_and (pe_cmpR op_le (pe_callB call_len_seq (by rfl) T.n_len PySem.boot_len (pa_cons (pv 0) pa_nil)) (pe_glob (v := .int 40) (by rfl) T.c_MOST_FOLK ⟨_, rfl⟩) (nomark _)) (pe_one (pe_callB (cr_all rfl) (by rfl) T.n_all (by decide +kernel) (pa_cons (pe_lc (own := [("one", 1)]) (g := gName 1) (tt := tYes) rfl sc_is_queue.nd (pi_tup (pv 0)) (blkOk_by (N := ["thing", "one"]) (sc := defScope s_is_queue) (by decide +kernel)) (fun _ _ _ _ _ => (pg_name (i := 1) sc_is_queue.nd rfl (by first | exact .inl rfl | exact .inr rfl))) (fun _ _ _ _ _ => pts_nil) (fun _ _ _ _ _ => (pe_call (E := E0) (ok_is_row T) (hr.mono (by decide)) (by rfl) T.g_is_row T.F_is_row.kp T.b_is_row .nil pass0 (pa_cons (pv 1) pa_nil)))) pa_nil))))))), ?_⟩
    refine ⟨v, rfl, _, _, _, _, _, rfl, .ty _, dp_ty hd, kit_tuple hd, tupB d, rfl, ?_⟩
    cases d with
    | tuple ds =>
      cases hd with
      | @tup a xs _ hs ha =>
        refine ⟨_, rfl, a, xs, rfl, .inr hs, _, _, rfl, rfl, _, rfl, ?_⟩
        have el := dps_length ha
        refine ite2 (fun e => ?_) (fun e => ?_)
        · have e1 : ds.length ≤ 40 := by
            have := of_decide_eq_true e
            omega
          refine ⟨_, rfl, a, rfl, ⟨_, hs⟩, fun D hD => lc_data (K := K) walk_tup (fun i => xs.getD i .non) (fun i H x H' hi _ y => ⟨y.1, ?_⟩) (fun _ => true) (fun i => .bool (rowD (ds.getD i .none))) (by omega) hD (fun H' s1 => s1.tup hs) (fun x => rfl) (fun i H' hi s1 Q q => q H' (Same.refl _)) (fun i H' hi _ s1 hD Q q => ?_) (fun H' ys s1 hy hds => ?_)⟩
          · rw [List.getD_eq_getElem?_getD, y.2]; rfl
          · obtain ⟨x, hx⟩ : ∃ x, xs[i]? = some x := ⟨xs[i], List.getElem?_eq_getElem hi⟩
            obtain ⟨d, hd, hdx⟩ := dps_at ha hx
            have ex : xs.getD i V.non = x := by rw [List.getD_eq_getElem?_getD, hx]; rfl
            have ed : ds.getD i PyData.none = d := by rw [List.getD_eq_getElem?_getD, hd]; rfl
            refine ⟨x, by rw [← ex]; rfl, x, d, rfl, s1.dp hdx, q _ H' (Same.refl _) ?_⟩
            rw [ed]
            exact .bl _
          · have eb : ys = (ds.map rowD).map V.bl := by
              have e2 : ((List.range xs.length).filter fun _ => true).map (fun i => PyData.bool (rowD (ds.getD i .none))) = (ds.map rowD).map PyData.bool := by
                rw [List.filter_eq_self.mpr (by simp)]
                refine List.ext_getElem? fun i => ?_
                rw [List.getElem?_map, List.getElem?_map, List.getElem?_map, el]
                by_cases hi : i < ds.length
                · rw [List.getElem?_range hi, List.getElem?_eq_getElem hi]
                  simp [List.getD_eq_getElem?_getD, List.getElem?_eq_getElem hi]
                · rw [List.getElem?_eq_none (by simp; omega), List.getElem?_eq_none (by omega)]
                  rfl
              rw [e2] at hds
              exact dps_bools hds
            subst eb
            refine ⟨D, _, rfl, .of hy, ?_⟩
            have e3 : queueD (.tuple ds) = (ds.map rowD).all id := by
              rw [List.all_map]
              simp only [queueD, e1, decide_true, Bool.true_and]
              rfl
            have q1 := q H' s1
            rw [e3] at q1
            exact q1
        · have e1 : ¬ ds.length ≤ 40 := fun z => e (decide_eq_true (by omega))
          have e3 : queueD (.tuple ds) = false := by simp [queueD, e1]
          rw [e3] at q
          exact q H (Same.refl _)
    | _ => exact q H (Same.refl _)
end
end Ai
namespace Ai
open PySem PySem.Spec PyProof.Rows L2
def sp_need_queue {K : PySem.W.Frag} {mg : Str → Option Value} (T : Fns K mg) : Sp := fun vs H Q E => ∃ v d, vs = [v] ∧ Dp K H v d ∧ (queueD d = true → ∀ H', Same H H' → Q .non H') ∧ (queueD d = false → ∀ H', Same H H' → E (.ref T.a_NoQueue) none H')
section
variable {P : Program} {w : World} {K : PySem.W.Frag} {mg : Str → Option Value} {base : Heap}
theorem ok_need_queue (T : Fns K mg) : FnOk P w K mg base (L2N.CX P w) 4 T.a_need_queue T.d_need_queue ["queue"] (sp_need_queue T) := by
  refine T.F_need_queue.okN sc_need_queue (fun vs H Q E h => ?_) (fun cdv A outer s H vs Q E hr h => ?_)
  · obtain ⟨v, d, rfl, _⟩ := h
    rfl
  · obtain ⟨v, d, rfl, hd, q1, q2⟩ := h
    refine ⟨_, (pss_one (ps_if (pt_not (pt_val (pe_call (E := E0) (ok_is_queue T) (hr.mono (by decide)) (by rfl) T.g_is_queue T.F_is_queue.kp T.b_is_queue .nil pass0 (pa_cons (pv 0) pa_nil)))) (pss_one (L2N.ps_raise rfl (L2N.takes_of rfl rfl rfl rfl) (L2N.pmk_own PySem.F.excBase_ValueError T.x_NoQueue T.g_NoQueue T.kp_NoQueue (raises_own T.sb_NoQueue T.ty_NoQueue) rfl))) pss_nil)), ?_⟩
    refine ⟨v, rfl, v, d, rfl, hd, fun H' s1 => ⟨queueD d, rfl, ?_⟩⟩
    cases e : queueD d with
    | true => exact q1 e H' s1
    | false => exact q2 e H' s1
end
end Ai
namespace Ai
open PySem PySem.Spec PyProof.Rows L2
def inL (ns : List Int) : Nat → Bool := fun i => decide ((i : Int) ∈ ns)
def sp_stands (K : PySem.W.Frag) : Sp := fun vs H Q _ => ∃ (a b : Addr) (q ns : List Int), vs = [.ref a, .ref b] ∧ SqT K H a (q.map V.int) ∧ SqL K H b (ns.map V.int) ∧ q.length ≤ 1000 ∧
  ∀ H' p, Same H H' → H p = none → H' p = some (.lst ((stL (inL ns) 100 0 q).map ov)) → Q (.ref p) H'
section
variable {P : Program} {w : World} {K : PySem.W.Frag} {mg : Str → Option Value} {base : Heap}
theorem ok_stands (T : Fns K mg) : FnOk P w K mg base CX0 1 T.a_stands T.d_stands ["queue", "there"] (sp_stands K) := by
  refine T.F_stands.ok sc_stands (fun vs H Q E h => ?_) (fun cdv A outer s H vs Q E hr h => ?_)
  · obtain ⟨a, b, q, ns, rfl, _⟩ := h
    rfl
  · obtain ⟨a, b, q, ns, rfl, hq, hb, hlen, k⟩ := h
    refine ⟨_, (pss_cons (ps_par rfl sc_stands.nd (i := 2) (j := 3) rfl rfl (by decide) rfl rfl (pa_cons (pe_lst pa_nil) (pa_cons (pe_op op_add (pe_glob (v := .int 99) (by rfl) T.c_MOST_ROW ⟨_, rfl⟩) pe_int) pa_nil)) (by rfl))
    (pss_cons (ps_for PassesOwn.never rfl (pi_enumT (by rfl) T.n_enumerate (pa_cons (pv 0) pa_nil)) (pg_tup rfl (pgs_cons (pg_name (i := 4) sc_stands.nd rfl (.inl rfl)) (pgs_cons (pg_name (i := 5) sc_stands.nd rfl (.inl rfl)) pgs_nil)))
      (pss_one (ps_if (pt_cmpR op_in_seq (pv 4) (pv 1) rfl) (pss_cons (ps_set (i := 3) sc_stands.nd rfl (.inl rfl) (pe_callB (call_min2 rfl) (by rfl) T.n_min (by decide +kernel) (pa_cons (pv 5) (pa_cons (pe_op op_sub (pv 3) pe_int) pa_nil))))
        (pss_one (ps_expr (pe_bm PySem.F.plainAttrs_list PySem.F.slot_list_append PySem.F.type_list_append mt_append (pv 2) (pa_cons (pv 3) pa_nil))))) (pss_one (ps_expr (pe_bm PySem.F.plainAttrs_list PySem.F.slot_list_append PySem.F.type_list_append mt_append (pv 2) (pa_cons pe_non pa_nil)))))))
    (pss_one (ps_ret (pv 2))))), ?_⟩
    refine ⟨Nat.zero_le _, fun o no => ⟨99, 1, rfl, rfl, _, _, rfl, ?_⟩⟩
    have s1 : Same H (upd H o (.lst [])) := same_new no
    refine ⟨_, rfl, a, _, rfl, s1.tup hq, for_pair walk_enumT (fun i σ H' => ∃ (last : Int) (acc : List (Option Int)) (x4 x5 : Option V), σ = [some (.ref a), some (.ref b), some (.ref o), some (.int last), x4, x5] ∧ Same H H' ∧ H' o = some (.lst (acc.map ov)) ∧ acc.length = i ∧ acc ++ stL (inL ns) last i (q.drop i) = stL (inL ns) 100 0 q)
      ⟨100, [], none, none, rfl, s1, upd_same, rfl, rfl⟩ (fun i σ H' _ ⟨_, _, _, _, _, s2, _⟩ => s2.tup hq) ?_ ?_⟩
    · rintro i x y t σ H' hi ex ey ⟨last, acc, x4, x5, rfl, s2, ho, ha, he⟩ ht
      cases ex
      obtain ⟨r, hr1, rfl⟩ : ∃ r, q[i]? = some r ∧ y = V.int r := by
        rw [List.getElem?_map] at ey
        cases e : q[i]? with
        | none => rw [e] at ey; cases ey
        | some r => rw [e] at ey; exact ⟨r, rfl, (Option.some.inj ey).symm⟩
      have hd : q.drop i = r :: q.drop (i + 1) := by
        obtain ⟨h1, h2⟩ := List.getElem?_eq_some_iff.mp hr1
        rw [← h2]
        exact List.drop_eq_getElem_cons h1
      have s3 : Same H (upd H' t (.tup [.int i, .int r])) := s2.new ht
      have ho3 : (upd H' t (.tup [V.int i, V.int r])) o = some (.lst (acc.map ov)) := by
        rw [upd_ne (ne_of_none ho ht)]
        exact ho
      have hlt : acc.length < q.length := by
        have := (List.getElem?_eq_some_iff.mp hr1).1
        omega
      rw [hd] at he
      simp only [stL] at he
      refine ⟨_, rfl, _, rfl, b, ns.map V.int, rfl, .inl (s3.seq hb), rfl, flat_ints ns, _, rfl, ?_⟩
      refine ite2 (fun e => ?_) (fun e => ?_)
      · have e1 : inL ns i = true := by
          rw [if_neg Bool.false_ne_true, inV_ints] at e
          exact e
        rw [if_pos e1] at he
        refine ⟨_, rfl, _, rfl, _, _, rfl, rfl, _, _, rfl, ?_⟩
        refine ⟨_, rfl, .inl ⟨rfl, _, .of ho3⟩, _, rfl, o, _, _, rfl, rfl, ho3, (by rw [List.length_map]; exact small1000 (by omega)), ?_⟩
        refine ⟨put last r, acc ++ [some (put last r)], _, _, rfl, s3.mut no, ?_, by simp [ha], by simpa using he⟩
        rw [upd_same, List.map_append]
        rfl
      · have e1 : ¬ inL ns i = true := fun z => e (by rw [if_neg Bool.false_ne_true, inV_ints]; exact z)
        rw [if_neg e1] at he
        refine ⟨_, rfl, .inl ⟨rfl, _, .of ho3⟩, o, _, _, rfl, rfl, ho3, (by rw [List.length_map]; exact small1000 (by omega)), ?_⟩
        refine ⟨last, acc ++ [none], _, _, rfl, s3.mut no, ?_, by simp [ha], by simpa using he⟩
        rw [upd_same, List.map_append]
        rfl
    · rintro σ H' ⟨last, acc, x4, x5, rfl, s2, ho, ha, he⟩
      rw [List.drop_eq_nil_of_le (by simp)] at he
      simp only [stL, List.append_nil] at he
      rw [he] at ho
      exact ⟨_, rfl, k H' o s2 no ho⟩
end
end Ai
namespace Ai
open PySem PySem.Spec PyProof.Rows L2
def sp_turns_of (K : PySem.W.Frag) : Sp := fun vs H Q _ => ∃ (a : Addr) (q : List Int), vs = [.ref a] ∧ SqT K H a (q.map V.int) ∧ TOk q ∧ ∀ H' p, Same H H' → H p = none → H' p = some (.lst ((TT q).map V.int)) → Q (.ref p) H'
/-- the state between two turns -/
def TurnW (H0 : Hp) (a : Addr) (q : List Int) (m : Nat) (σ : L2.St) (H : Hp) : Prop :=
  ∃ (t : Nat) (f l : Addr) (x4 x5 : Option V), t + m = LL q ∧ σ = [some (.ref a), some (.ref l), some (.ref f), some (.int t), x4, x5] ∧ Same H0 H ∧ H0 f = none ∧ f ≠ l ∧ H f = some (.lst ((FF q t).map V.int)) ∧ H l = some (.lst ((pls q t).map V.int))
theorem rgV_eq (n : Nat) : rgV 0 (n : Int) = ((List.range n).map fun i : Nat => (i : Int)).map V.int := by
  unfold rgV
  rw [List.map_map]
  have e : ((n : Int) - 0).toNat = n := by omega
  rw [e]
  refine List.map_congr_left fun i _ => ?_
  show V.int (0 + (i : Int)) = V.int (i : Int)
  rw [Int.zero_add]
theorem inL_thr {q : List Int} (hq : Rows q) (t : Nat) : stL (inL (pls q t)) 100 0 q = stL (thr q t) 100 0 q := by
  refine stL_congr q 100 0 fun j _ => ?_
  unfold inL thr
  exact decide_eq_decide.mpr (by rw [Nat.zero_add]; exact pls_mem hq)
section
variable {P : Program} {w : World} {K : PySem.W.Frag} {mg : Str → Option Value} {base : Heap}
theorem ok_turns_of (T : Fns K mg) : FnOk P w K mg base CX0 3 T.a_turns_of T.d_turns_of ["queue"] (sp_turns_of K) := by
  refine T.F_turns_of.ok sc_turns_of (fun vs H Q E h => ?_) (fun cdv A outer s H vs Q E hr h => ?_)
  · obtain ⟨a, q, rfl, _⟩ := h
    rfl
  · obtain ⟨a, q, rfl, hq, ok, k⟩ := h
    have hlen := ok.len
    refine ⟨_, (pss_cons (ps_asg (pe_tup (pa_cons (pe_op op_rep (pe_lst (pa_cons pe_int pa_nil)) (pe_callB call_len_seq (by rfl) T.n_len PySem.boot_len (pa_cons (pv 0) pa_nil))) (pa_cons pe_int pa_nil))) (pg_tup rfl (pgs_cons (pg_name (i := 2) sc_turns_of.nd rfl (by first | exact .inl rfl | exact .inr rfl)) (pgs_cons (pg_name (i := 3) sc_turns_of.nd rfl (.inl rfl)) pgs_nil))))
    (pss_cons (ps_set (i := 1) sc_turns_of.nd rfl (.inl rfl) (pe_listRg rfl (by rfl) T.n_list (prg_1 (by rfl) T.n_range (pe_callB call_len_seq (by rfl) T.n_len PySem.boot_len (pa_cons (pv 0) pa_nil)))))
    (pss_cons (ps_while PassesOwn.never (pt_cmpR (op_neD hr.units) (pv 1) (pe_lst pa_nil) (nomark _)) (pss_cons (ps_set (i := 3) sc_turns_of.nd rfl (.inl rfl) (pe_op op_add (pv 3) pe_int))
      (pss_cons (ps_set (i := 4) sc_turns_of.nd rfl (.inl rfl) (pe_call (E := E0) (ok_stands T) (hr.mono (by decide)) (by rfl) T.g_stands T.F_stands.kp T.b_stands .nil pass0 (pa_cons (pv 0) (pa_cons (pv 1) pa_nil))))
      (pss_cons (ps_for PassesOwn.never rfl (pi_list (pv 1)) (pg_name (i := 5) sc_turns_of.nd rfl (.inl rfl))
        (pss_one (ps_if (pt_cmpR op_eq (pe_ix ix_list (pv 4) (pv 5) (fun _ _ => rfl)) (pe_ix ix_tup (pv 0) (pv 5) (fun _ _ => rfl)) (nomark _)) (pss_one (ps_asg (pv 3) (pg_sub (pv 2) (pv 5) set_list))) pss_nil)))
      (pss_one (ps_setLc (i := 1) (own := [("place", 5)]) (g := gName 5) rfl sc_turns_of.nd rfl rfl (sw_true rfl rfl rfl (by decide +kernel)) (pi_list (pv 1)) (blkOk_by (N := ["queue", "there", "found", "turn", "spots", "place"]) (sc := defScope s_turns_of) (by decide +kernel)) (fun _ _ _ _ _ => (pg_name (i := 5) sc_turns_of.nd rfl (by first | exact .inl rfl | exact .inr rfl))) (fun _ _ _ _ _ => pts_one (pt_cmpR op_eq (pe_ix (show IxR _ (rIxL K) from ix_list) (pv 2) (pv 5) (fun _ _ => rfl)) pe_int (nomark _))) (fun _ _ _ _ _ => (pv 5))))))))
    (pss_one (ps_ret (pv 2)))))), ?_⟩
    -- found, turn
    refine ⟨(by show 1 ≤ sizeLine; decide), fun l0 hl0 => ?_⟩
    have s1 : Same H (upd H l0 (.lst [.int 0])) := same_new hl0
    refine ⟨_, rfl, a, _, rfl, .inr (s1.tup hq), l0, _, _, rfl, rfl, upd_same, (by omega), (by rw [List.length_map]; omega), (by rw [List.length_map, Int.toNat_natCast]; show 1 * q.length ≤ sizeLine; exact Nat.le_of_lt (small1000 (by omega))), fun f hf => ?_⟩
    have ef : (List.replicate ((((q.map V.int).length : Nat) : Int)).toNat [V.int 0]).flatten = (FF q 0).map V.int := by
      rw [FF_zero ok.rows, Int.toNat_natCast, List.length_map, List.map_replicate]
      generalize q.length = n
      induction n with
      | zero => rfl
      | succ n ih => rw [List.replicate_succ, List.flatten_cons, ih]; rfl
    rw [ef]
    have s2 := s1.new (o := .lst ((FF q 0).map V.int)) hf
    have nf : H f = none := s1.free hf
    refine ⟨(by show 2 ≤ sizeLine; decide), fun t0 ht0 => ?_⟩
    have s3 := s2.new (o := .tup [.ref f, .int 0]) ht0
    refine ⟨t0, _, rfl, .of upd_same, rfl, _, _, rfl, _, _, rfl, rfl, ?_⟩
    have hf3 : (upd (upd (upd H l0 (.lst [.int 0])) f (.lst ((FF q 0).map V.int))) t0 (.tup [.ref f, .int 0])) f = some (.lst ((FF q 0).map V.int)) := by
      have n1 : f ≠ t0 := fun e => by rw [← e, upd_same] at ht0; cases ht0
      rw [upd_ne n1, upd_same]
    generalize hH3 : (upd (upd (upd H l0 (.lst [.int 0])) f (.lst ((FF q 0).map V.int))) t0 (.tup [.ref f, .int 0])) = H3 at s3 hf3
    -- there
    refine ⟨_, rfl, a, _, rfl, .inr (s3.tup hq), _, rfl, RgOk.of_le (by omega) (by rw [List.length_map]; omega) (by omega) (by omega), fun l hl => ?_⟩
    have el : rgV 0 (((q.map V.int).length : Nat) : Int) = (pls q 0).map V.int := by rw [List.length_map, rgV_eq, pls_zero]
    rw [el]
    have nfl : f ≠ l := ne_of_none hf3 hl
    refine ⟨TurnW H a q, ⟨LL q, 0, f, l, none, none, by omega, rfl, s3.new hl, nf, nfl, by rw [upd_ne nfl]; exact hf3, upd_same⟩, ?_⟩
    rintro m σ H4 ⟨t, f, l, x4, x5, em, rfl, s4, nf, nfl, hf4, hl4⟩
    have hq4 : SqT K H4 a (q.map V.int) := s4.tup hq
    refine ⟨_, rfl, Nat.zero_le _, fun e he => ⟨_, _, dp_intsL (.of ((same_new he) _ _ hl4)), dp_intsL (ns := []) (.of upd_same), sh_ints _, sh_ints [], _, rfl, ?_⟩⟩
    have s5 : Same H4 (upd H4 e (.lst [])) := same_new he
    have ev : PyData.eqv (.list ((pls q t).map PyData.int)) (.list (([] : List Int).map PyData.int)) = decide (pls q t = []) := eqv_ints _ []
    rw [ev]
    generalize upd H4 e (.lst []) = H5 at s5
    have hf5 := s5 _ _ hf4
    have hl5 := s5 _ _ hl4
    refine ite2 (fun c => ?_) (fun c => ?_)
    · have c1 : pls q t ≠ [] := by simpa using c
      have ht : t < LL q := Decidable.byContradiction fun z => c1 ((pls_nil ok.rows).mpr z)
      refine ⟨fun σ' H' => TurnW H a q (m - 1) σ' H', fun σ' H' z => ⟨m - 1, by omega, z⟩, ?_⟩
      -- turn = turn + 1; spots = stands(queue, there)
      refine ⟨_, rfl, _, _, rfl, rfl, ?_⟩
      refine ⟨_, rfl, _, rfl, a, l, q, pls q t, rfl, s5.tup hq4, .of hl5, by omega, fun H6 p s6 np hp => ?_⟩
      rw [inL_thr ok.rows] at hp
      have hf6 := s6 _ _ hf5
      have hl6 := s6 _ _ hl5
      have hq6 : SqT K H6 a (q.map V.int) := s6.tup (s5.tup hq4)
      have npf : p ≠ f := (ne_of_none hf5 np).symm
      have npl : p ≠ l := (ne_of_none hl5 np).symm
      -- the folk who are there
      refine ⟨_, rfl, l, rfl, ⟨_, .of hl6⟩, for_it (walk_list (K := K)) (fun j σ H' => ∃ x5, σ = [some (.ref a), some (.ref l), some (.ref f), some (.int ((t : Int) + 1)), some (.ref p), x5] ∧ H' = upd H6 f (.lst ((GG q t j).map V.int)))
        ⟨x5, rfl, ?_⟩ (fun j σ H' _ ⟨_, _, e⟩ => by rw [e]; exact .of (by rw [upd_ne nfl.symm]; exact hl6)) ?_ ?_⟩
      · rw [GG_zero]
        funext b
        by_cases e : b = f
        · rw [e, upd_same]; exact hf6
        · rw [upd_ne e]
      · rintro j x σ H7 H8 hj ⟨x5, rfl, rfl⟩ ⟨rfl, hx⟩
        obtain ⟨px, hpx, rfl⟩ : ∃ px, (pls q t)[j]? = some px ∧ x = V.int px := by
          rw [List.getElem?_map] at hx
          cases e : (pls q t)[j]? with
          | none => rw [e] at hx; cases hx
          | some r => rw [e] at hx; exact ⟨r, rfl, (Option.some.inj hx).symm⟩
        obtain ⟨pn, r, rfl, hpn, hr, hS⟩ := pls_at hpx
        have htp : t < Tn q pn := (mem_iff ok.rows).mp (List.mem_map.mpr ⟨_, hS, rfl⟩)
        obtain ⟨z, hz, hz1, hz2⟩ := stow_iff ok.rows hr htp
        have hp7 : (upd H6 f (.lst ((GG q t j).map V.int))) p = some (.lst ((stL (thr q t) 100 0 q).map ov)) := by rw [upd_ne npf]; exact hp
        have hq7 : SqT K (upd H6 f (.lst ((GG q t j).map V.int))) a (q.map V.int) := by
          rcases hq6 with (h | ⟨o, h⟩) | h
          · exact .inl (.inl (by rw [upd_ne (ne_of h hf6 (by intro y; cases y))]; exact h))
          · exact .inl (.inr ⟨o, by rw [upd_ne (ne_of h hf6 (by intro y; cases y))]; exact h⟩)
          · exact .inr h
        have g1 : atI ((stL (thr q t) 100 0 q).map ov) ((pn : Nat) : Int) = some (V.int z) := atI_nat (by rw [List.getElem?_map, hz]; rfl)
        have g2 : atI (q.map V.int) ((pn : Nat) : Int) = some (V.int r) := atI_nat (by rw [List.getElem?_map, hr]; rfl)
        refine ⟨_, rfl, _, rfl, p, _, _, _, rfl, rfl, .of hp7, g1, _, rfl, _, rfl, a, _, _, _, rfl, rfl, hq7, g2, rfl, _, rfl, ?_⟩
        refine ite2 (fun c => ?_) (fun c => ?_)
        · have c1 : z = r := V.int.inj (of_decide_eq_true c)
          have c2 : Tn q pn = t + 1 := hz2.mp c1
          refine ⟨_, rfl, _, rfl, _, rfl, f, _, _, pn, rfl, rfl, upd_same, ?_, ?_⟩
          · rw [List.length_map, GG_length]
            unfold ixN
            rw [if_pos (by omega), if_pos (by omega)]
            simp
          · refine ⟨_, rfl, ?_⟩
            rw [GG_sit ok.rows hpx hpn c2, upd_upd, List.map_set]
        · have c1 : ¬ Tn q pn = t + 1 := fun y => c (decide_eq_true (by rw [hz2.mpr y]))
          refine ⟨_, rfl, ?_⟩
          rw [GG_wait ok.rows hpx c1]
      · rintro σ H7 ⟨x5, rfl, rfl⟩
        rw [GG_end ok.rows (by simp)]
        generalize hH8 : upd H6 f (.lst ((FF q (t + 1)).map V.int)) = H8
        have hf8 : H8 f = some (.lst ((FF q (t + 1)).map V.int)) := by rw [← hH8, upd_same]
        have hl8 : H8 l = some (.lst ((pls q t).map V.int)) := by rw [← hH8, upd_ne nfl.symm]; exact hl6
        have s8 : Same H H8 := by rw [← hH8]; exact ((s4.trans s5).trans s6).mut nf
        -- there = [place for place in there if found[place] == 0]
        refine ⟨_, rfl, l, rfl, ⟨_, .of hl8⟩, fun D hD => lc_data (K := K) walk_list (fun i => ((pls q t).map V.int).getD i .non) (fun i H x H' hi _ y => ⟨y.1, ?_⟩)
          (fun i => decide (t + 1 < Tn q ((pls q t).getD i 0).toNat)) (fun i => .int ((pls q t).getD i 0)) ?_ hD (fun H' s1 => .of (s1 _ _ hl8)) (fun x => rfl) (fun i H' hi s9 Q kq => ?_) (fun i H' hi _ s9 hD Q kq => ?_) (fun H' ys s9 hy hds => ?_)⟩
        · rw [List.getD_eq_getElem?_getD, y.2]; rfl
        · rw [List.length_map]
          have e1 : (pls q t).length ≤ q.length := by
            unfold pls
            rw [List.length_map]
            exact Nat.le_trans ((S_sub0 q t).length_le) (Nat.le_of_eq (en_length q 0))
          omega
        · rw [List.length_map] at hi
          obtain ⟨px, hpx⟩ : ∃ px, (pls q t)[i]? = some px := ⟨_, List.getElem?_eq_getElem hi⟩
          obtain ⟨pn, r, rfl, hpn, hr, hS⟩ := pls_at hpx
          have e1 : ((pls q t).map V.int).getD i .non = .int pn := by rw [List.getD_eq_getElem?_getD, List.getElem?_map, hpx]; rfl
          have e2 : (pls q t).getD i 0 = pn := by rw [List.getD_eq_getElem?_getD, hpx]; rfl
          have g1 : atI ((FF q (t + 1)).map V.int) ((pn : Nat) : Int) = some (V.int (if t + 1 < Tn q pn then 0 else (Tn q pn : Int))) := atI_nat (by rw [List.getElem?_map, FF_at hpn]; rfl)
          rw [e1]
          refine ⟨_, rfl, _, rfl, f, _, _, _, rfl, rfl, .of (s9 _ _ hf8), g1, rfl, _, rfl, ?_⟩
          have e3 : decide (V.int (if t + 1 < Tn q pn then 0 else (Tn q pn : Int)) = V.int 0) = decide (t + 1 < Tn q ((pn : Int)).toNat) := by
            rw [Int.toNat_natCast]
            by_cases c : t + 1 < Tn q pn
            · simp [c]
            · have := T_pos ok.rows hpn
              rw [if_neg c]
              rw [decide_eq_false c]
              exact decide_eq_false fun z => by have := V.int.inj z; omega
          rw [e3]
          rw [e2] at kq
          exact kq H' (Same.refl _)
        · rw [List.length_map] at hi
          have e1 : ((pls q t).map V.int).getD i .non = .int ((pls q t).getD i 0) := by rw [List.getD_eq_getElem?_getD, List.getElem?_map, List.getElem?_eq_getElem hi, List.getD_eq_getElem?_getD, List.getElem?_eq_getElem hi]; rfl
          rw [e1]
          exact ⟨_, rfl, kq _ H' (Same.refl _) (.int _)⟩
        · have e1 : ((List.range ((pls q t).map V.int).length).filter (fun i => decide (t + 1 < Tn q ((pls q t).getD i 0).toNat))).map (fun i => PyData.int ((pls q t).getD i 0)) = (pls q (t + 1)).map PyData.int := by
            rw [List.length_map, ← pls_next ok.rows t, List.map_map]
            rfl
          rw [e1] at hds
          have e2 := dps_inv hds
          subst e2
          refine ⟨t + 1, f, D, _, _, by omega, rfl, s8.trans s9, nf, ?_, s9 _ _ hf8, hy⟩
          exact ne_of_none hf8 hD
    · have c1 : pls q t = [] := by simpa using c
      have ht : LL q ≤ t := Nat.le_of_not_lt ((pls_nil ok.rows).mp c1)
      rw [FF_end ok.rows ht] at hf5
      exact ⟨_, rfl, k H5 f (s4.trans s5) nf hf5⟩
end
end Ai
namespace Ai
open PySem PySem.Spec PyProof.Rows L2
def sp_turns {K : PySem.W.Frag} {mg : Str → Option Value} (T : Fns K mg) : Sp := fun vs H Q E => ∃ v d, vs = [v] ∧ Dp K H v d ∧ (queueD d = false → ∀ H', Same H H' → E (.ref T.a_NoQueue) none H') ∧
  (∀ q, d = .tuple (q.map PyData.int) → QOk q → ∀ H' p, Same H H' → H p = none → H' p = some (.lst ((TT q).map V.int)) → Q (.ref p) H')
section
variable {P : Program} {w : World} {K : PySem.W.Frag} {mg : Str → Option Value} {base : Heap}
theorem ok_turns (T : Fns K mg) : FnOk P w K mg base (L2N.CX P w) 5 T.a_turns T.d_turns ["queue"] (sp_turns T) := by
  refine T.F_turns.okN sc_turns (fun vs H Q E h => ?_) (fun cdv A outer s H vs Q E hr h => ?_)
  · obtain ⟨v, d, rfl, _⟩ := h
    rfl
  · obtain ⟨v, d, rfl, hd, q1, q2⟩ := h
    refine ⟨_, (pss_cons (ps_expr (pe_call (E := E) (ok_need_queue T) (hr.mono (by decide)) (by rfl) T.g_need_queue T.F_need_queue.kp T.b_need_queue .nil (L2N.passes_call (L2N.takes_of rfl rfl rfl rfl) (fun _ _ _ _ z => z)) (pa_cons (pv 0) pa_nil)))
    (pss_one (ps_ret (pe_call (E := E0) (ok_turns_of T) (hr.mono (by decide)) (by rfl) T.g_turns_of T.F_turns_of.kp T.b_turns_of .nil pass0 (pa_cons (pv 0) pa_nil))))), ?_⟩
    refine ⟨_, rfl, v, d, rfl, hd, fun e H1 s1 => ?_, fun e H1 s1 => q1 e H1 s1⟩
    obtain ⟨q, rfl, ok⟩ := queueD_inv e
    obtain ⟨a, rfl, hq⟩ := sqT_of hd
    exact ⟨_, rfl, a, q, rfl, s1.tup hq, ok.t, fun H2 p s2 np hp => q2 q rfl ok H2 p (s1.trans s2) (s1.free np) hp⟩
end
end Ai
namespace Ai
open PySem PySem.Spec PyProof.Rows L2
theorem max_LL {q : List Int} (hq : Rows q) {m : Int} (h1 : m ∈ (0 : Int) :: TT q) (h2 : ∀ y, y ∈ (0 : Int) :: TT q → y ≤ m) : m = LL q := by
  by_cases h : 0 < LL q
  · obtain ⟨p, hp, ep⟩ := T_max hq h
    have a1 := h2 (Tn q p : Int) (List.mem_cons_of_mem _ (List.mem_of_getElem? (TT_at hp)))
    rcases List.mem_cons.mp h1 with rfl | h1
    · omega
    · obtain ⟨x, _, rfl⟩ := List.mem_map.mp h1
      have := T_le_LL hq x
      omega
  · have e : q = [] := (LL_zero hq).mp (by omega)
    subst e
    rcases List.mem_cons.mp h1 with rfl | h1
    · rfl
    · cases h1
def sp_long_of (K : PySem.W.Frag) : Sp := fun vs H Q _ => ∃ (a : Addr) (q : List Int), vs = [.ref a] ∧ SqT K H a (q.map V.int) ∧ QOk q ∧ ∀ H', Same H H' → Q (.int (LL q)) H'
section
variable {P : Program} {w : World} {K : PySem.W.Frag} {mg : Str → Option Value} {base : Heap}
theorem ok_long_of (T : Fns K mg) : FnOk P w K mg base CX0 4 T.a_long_of T.d_long_of ["queue"] (sp_long_of K) := by
  refine T.F_long_of.ok sc_long_of (fun vs H Q E h => ?_) (fun cdv A outer s H vs Q E hr h => ?_)
  · obtain ⟨a, q, rfl, _⟩ := h
    rfl
  · obtain ⟨a, q, rfl, hq, ok, k⟩ := h
    have hlen := ok.len
    refine ⟨_, (pss_one (ps_ret (pe_callB (cr_max rfl) (by rfl) T.n_max (by decide +kernel) (pa_cons (pe_op op_cat (pe_lst (pa_cons pe_int pa_nil)) (pe_call (E := E0) (ok_turns_of T) (hr.mono (by decide)) (by rfl) T.g_turns_of T.F_turns_of.kp T.b_turns_of .nil pass0 (pa_cons (pv 0) pa_nil))) pa_nil)))), ?_⟩
    refine ⟨(by show 1 ≤ sizeLine; decide), fun l0 hl0 => ?_⟩
    have s1 : Same H (upd H l0 (.lst [.int 0])) := same_new hl0
    refine ⟨_, rfl, a, q, rfl, s1.tup hq, ok.t, fun H2 p s2 np hp => ?_⟩
    refine ⟨l0, p, [.int 0], _, rfl, rfl, s2 _ _ upd_same, hp, (by rw [List.length_map, TT_length]; exact Nat.le_of_lt (small1000 (by simp; omega))), fun c hc => ?_⟩
    refine ⟨c, (0 : Int) :: TT q, rfl, .of upd_same, by simp, fun m h1 h2 => ?_⟩
    rw [max_LL ok.rows h1 h2]
    exact k _ ((s1.trans s2).new hc)
end
end Ai
namespace Ai
open PySem PySem.Spec PyProof.Rows L2
def sp_how_long {K : PySem.W.Frag} {mg : Str → Option Value} (T : Fns K mg) : Sp := fun vs H Q E => ∃ v d, vs = [v] ∧ Dp K H v d ∧ (queueD d = false → ∀ H', Same H H' → E (.ref T.a_NoQueue) none H') ∧
  (∀ q, d = .tuple (q.map PyData.int) → QOk q → ∀ H', Same H H' → Q (.int (LL q)) H')
section
variable {P : Program} {w : World} {K : PySem.W.Frag} {mg : Str → Option Value} {base : Heap}
theorem ok_how_long (T : Fns K mg) : FnOk P w K mg base (L2N.CX P w) 5 T.a_how_long T.d_how_long ["queue"] (sp_how_long T) := by
  refine T.F_how_long.okN sc_how_long (fun vs H Q E h => ?_) (fun cdv A outer s H vs Q E hr h => ?_)
  · obtain ⟨v, d, rfl, _⟩ := h
    rfl
  · obtain ⟨v, d, rfl, hd, q1, q2⟩ := h
    refine ⟨_, (pss_cons (ps_expr (pe_call (E := E) (ok_need_queue T) (hr.mono (by decide)) (by rfl) T.g_need_queue T.F_need_queue.kp T.b_need_queue .nil (L2N.passes_call (L2N.takes_of rfl rfl rfl rfl) (fun _ _ _ _ z => z)) (pa_cons (pv 0) pa_nil)))
    (pss_one (ps_ret (pe_call (E := E0) (ok_long_of T) (hr.mono (by decide)) (by rfl) T.g_long_of T.F_long_of.kp T.b_long_of .nil pass0 (pa_cons (pv 0) pa_nil))))), ?_⟩
    refine ⟨_, rfl, v, d, rfl, hd, fun e H1 s1 => ?_, fun e H1 s1 => q1 e H1 s1⟩
    obtain ⟨q, rfl, ok⟩ := queueD_inv e
    obtain ⟨a, rfl, hq⟩ := sqT_of hd
    exact ⟨_, rfl, a, q, rfl, s1.tup hq, ok, fun H2 s2 => q2 q rfl ok H2 (s1.trans s2)⟩
end
end Ai
namespace Ai
open PySem PySem.Spec PyProof.Rows L2
/-! ### what a script's cells are drawn from -/
structure WellOk (c s p : Int) : Prop where
  c0 : 0 ≤ c
  s0 : 0 ≤ s
  s1 : s < 1099511627776
  p0 : 1 < p
  p1 : p < 4294967296
/-- the well that stands at w -/
def WellAt (H : Hp) (w : Addr) : Prop := ∃ c s p, WellOk c s p ∧ H w = some (.lst [.int c, .int s, .int p])
theorem well_same {H H' : Hp} {w : Addr} (e : Same H H') (h : WellAt H w) : WellAt H' w := by
  obtain ⟨c, s, p, ok, hw⟩ := h
  exact ⟨c, s, p, ok, e _ _ hw⟩
theorem well_ne {H : Hp} {w p : Addr} (h : WellAt H w) (hp : H p = none) : p ≠ w := by
  obtain ⟨c, s, z, ok, hw⟩ := h
  exact (ne_of_none hw hp).symm
/-- what stands beside a well: G at least, and the well itself at w -/
structure WS (w : Addr) (G H : Hp) : Prop where
  sub : Same G (hid H w)
  well : WellAt H w
theorem WS.up {w : Addr} {G H : Hp} (e : WS w G H) : Same G H := e.sub.trans (hid_same _ _)
theorem WS.grow {w : Addr} {G H H' : Hp} (e : WS w G H) (s : Same H H') : WS w G H' := ⟨e.sub.trans (hid_mono s w), well_same s e.well⟩
theorem WS.take {w : Addr} {G H H' : Hp} (e : WS w G H) (s : hid H' w = hid H w) (k : WellAt H' w) : WS w G H' := ⟨by rw [s]; exact e.sub, k⟩
theorem WS.mut {w : Addr} {G H : Hp} {p : Addr} {o : HO} (e : WS w G H) (h : G p = none) (hp : p ≠ w) : WS w G (upd H p o) := by
  refine ⟨fun b x k => ?_, ?_⟩
  · have h1 := e.sub b x k
    have hbw : b ≠ w := fun z => by rw [z, hid_at] at h1; cases h1
    rw [hid_ne hbw] at h1 ⊢
    rw [upd_ne (ne_of_none k h)]
    exact h1
  · obtain ⟨c, s, z, ok, hw⟩ := e.well
    exact ⟨c, s, z, ok, by rw [upd_ne (Ne.symm hp)]; exact hw⟩
theorem WS.ne {w : Addr} {G H : Hp} (e : WS w G H) {p : Addr} (hp : H p = none) : p ≠ w := well_ne e.well hp
/-- what stands beside the well stays there when a number is taken -/
theorem WS.get {w : Addr} {H H' : Hp} (s : hid H' w = hid H w) {p : Addr} {o : HO} (hp : p ≠ w) (h : H p = some o) : H' p = some o := by rw [hid_get s hp]; exact h
theorem WS.ofs {w : Addr} {G H : Hp} (h : WellAt H w) (s : Same G H) (hw : G w = none) : WS w G H := ⟨by have := hid_mono s w; rwa [hid_of hw] at this, h⟩
theorem WS.fr {w : Addr} {G H : Hp} (e : WS w G H) {p : Addr} (hp : H p = none) : G p = none := by
  refine e.sub.free ?_
  rw [hid_ne (e.ne hp)]
  exact hp
def sp_law_well (K : PySem.W.Frag) : Sp := fun vs H Q _ => ∃ (a : Addr) (k : Nat) (ns : List Int), vs = [.ref a, .int k] ∧ SqL K H a (ns.map V.int) ∧ k ≤ 1000 ∧ ∀ H' w, Same H H' → H w = none → WellAt H' w → Q (.ref w) H'
theorem fam_at {p : List Int} {j : Nat} (h : j < p.length) (lo hi : Int) (hp : ∀ x ∈ p, lo < x ∧ x < hi) : ∃ z, atI (p.map V.int) ((j : Nat) : Int) = some (V.int z) ∧ lo < z ∧ z < hi := by
  refine ⟨p[j], atI_nat (by rw [List.getElem?_map, List.getElem?_eq_getElem h]; rfl), hp _ (List.getElem_mem h)⟩
section
variable {P : Program} {w : World} {K : PySem.W.Frag} {mg : Str → Option Value} {base : Heap}
theorem ok_law_well (T : Fns K mg) : FnOk P w K mg base CX0 3 T.a_law_well T.d_law_well ["script", "k"] (sp_law_well K) := by
  refine T.F_law_well.ok sc_law_well (fun vs H Q E h => ?_) (fun cdv A outer s H vs Q E hr h => ?_)
  · obtain ⟨a, k, ns, rfl, _⟩ := h
    rfl
  · obtain ⟨a, k, ns, rfl, hS, hk, q⟩ := h
    refine ⟨_, (pss_cons (ps_set (i := 2) sc_law_well.nd rfl (.inl rfl) pe_int)
    (pss_cut (ps_if (pt_cmpR op_lt (pv 1) (pe_callB call_len_seq (by rfl) T.n_len PySem.boot_len (pa_cons (pv 0) pa_nil)) (nomark _)) (pss_one (ps_set (i := 2) sc_law_well.nd rfl (.inl rfl) (pe_ix ix_list (pv 0) (pv 1) (fun _ _ => rfl)))) pss_nil)
    (pss_cons (ps_set (i := 3) sc_law_well.nd rfl (.inl rfl) (pe_lst (pa_cons pe_int (pa_cons pe_int (pa_cons pe_int (pa_cons pe_int (pa_cons pe_int (pa_cons pe_int (pa_cons pe_int (pa_cons pe_int pa_nil))))))))))
    (pss_cons (ps_set (i := 4) sc_law_well.nd rfl (.inl rfl) (pe_op op_mod (pe_op op_mul (pe_op op_add (pe_op op_mod (pv 2) pe_int) pe_int) (pe_op op_add pe_int (pe_op op_mul pe_int (pv 1)))) pe_int))
    (pss_cons (ps_set (i := 4) sc_law_well.nd rfl (.inl rfl) (pe_op op_add (pe_op op_add (pe_op op_mod (pe_op op_mul (pv 4) (pv 4)) pe_int) (pv 1)) pe_int))
    (pss_cons (ps_if (pt_cmpR op_ge (pv 2) (pe_op op_pow pe_int pe_int) (nomark _)) (pss_one (ps_ret (pe_lst (pa_cons (pv 2) (pa_cons (pv 4) (pa_cons (pe_ix ix_list (pv 3) (pe_op op_mod (pv 1) pe_int) (fun _ _ => rfl)) pa_nil)))))) pss_nil)
    (pss_one (ps_ret (pe_lst (pa_cons pe_int (pa_cons (pv 4) (pa_cons (pe_ix ix_list (pv 3) (pe_op op_mod (pv 1) pe_int) (fun _ _ => rfl)) pa_nil)))))))))))), ?_⟩
    have hns : k < ns.length → ∃ z, atI (ns.map V.int) ((k : Nat) : Int) = some (V.int z) := fun h => ⟨ns[k], atI_nat (by rw [List.getElem?_map, List.getElem?_eq_getElem h]; rfl)⟩
    refine ⟨fun σ H' => ∃ cell : Int, σ = [some (.ref a), some (.int k), some (.int cell), none, none] ∧ H' = H, ?_, ?_⟩
    · refine ⟨_, rfl, _, rfl, a, _, rfl, .inl hS, _, _, rfl, rfl, _, rfl, ?_⟩
      refine ite2 (fun c => ?_) (fun c => ?_)
      · have c1 : k < ns.length := by
          have := of_decide_eq_true c
          rw [List.length_map] at this
          omega
        obtain ⟨z, hz⟩ := hns c1
        exact ⟨_, rfl, _, rfl, a, _, _, _, rfl, rfl, hS, hz, z, rfl, rfl⟩
      · exact ⟨0, rfl, rfl⟩
    · rintro σ H' ⟨cell, rfl, rfl⟩
      refine ⟨(by show 8 ≤ sizeLine; decide), fun l hl => ?_⟩
      have s1 : Same H' (upd H' l (.lst ([2147483647, 2147483629, 2147483587, 2147483579, 2147483563, 2147483549, 2147483543, 2147483497].map V.int))) := same_new hl
      have m1 : ∀ x : Int, 0 ≤ x % 2147483489 ∧ x % 2147483489 < 2147483489 := fun x => ⟨Int.emod_nonneg _ (by decide), Int.emod_lt_of_pos _ (by decide)⟩
      have m3 : ∀ x : Int, 0 ≤ x % 2147483477 ∧ x % 2147483477 < 2147483477 := fun x => ⟨Int.emod_nonneg _ (by decide), Int.emod_lt_of_pos _ (by decide)⟩
      have b1 : ∀ x : Int, -(2 ^ 64) < x % 2147483489 + 1 ∧ x % 2147483489 + 1 < 2 ^ 64 := fun x => by have := m1 x; omega
      have b2 : ∀ x : Int, -(2 ^ 64) < x % 2147483489 ∧ x % 2147483489 < 2 ^ 64 := fun x => by have := m1 x; omega
      have b3 : ∀ x : Int, 0 ≤ x % 2147483477 + (k : Int) + 1 ∧ x % 2147483477 + (k : Int) + 1 < 1099511627776 := fun x => by have := m3 x; omega
      have hk8 : (k : Int) % 8 = ((k % 8 : Nat) : Int) := by omega
      obtain ⟨pz, hz, z1, z2⟩ := fam_at (p := [2147483647, 2147483629, 2147483587, 2147483579, 2147483563, 2147483549, 2147483543, 2147483497]) (j := k % 8) (by show k % 8 < 8; omega) 1 4294967296 (by decide)
      rw [← hk8] at hz
      refine ⟨_, rfl, _, _, rfl, rfl, (by show (0 : Int) < 2147483489; decide), _, _, rfl, rfl, _, rfl, _, _, rfl, rfl, .inl ⟨by decide, by decide⟩, _, _, rfl, rfl, _, _, rfl, rfl, .inl (b1 _), _, _, rfl, rfl, (by show (0 : Int) < 2147483489; decide), ?_⟩
      refine ⟨_, rfl, _, rfl, _, _, rfl, rfl, .inl (b2 _), _, _, rfl, rfl, (by show (0 : Int) < 2147483477; decide), _, rfl, _, _, rfl, rfl, _, _, rfl, rfl, ?_⟩
      refine ⟨_, rfl, _, _, rfl, rfl, ⟨by decide, by decide, by decide⟩, _, _, rfl, rfl, _, rfl, ?_⟩
      refine ite2 (fun c => ?_) (fun c => ?_)
      · have c1 : 10 ^ (18 : Int).toNat ≤ cell := of_decide_eq_true c
        have e10 : (10 : Int) ^ (18 : Int).toNat = 1000000000000000000 := by decide
        refine ⟨_, rfl, _, rfl, _, rfl, _, rfl, _, _, rfl, rfl, (by show (0 : Int) < 8; decide), l, _, _, _, rfl, rfl, .of upd_same, hz, (by show 3 ≤ sizeLine; decide), fun o no => ?_⟩
        exact q _ o (s1.new no) (s1.free no) ⟨_, _, _, ⟨(by omega : 0 ≤ cell), (b3 _).1, (b3 _).2, z1, z2⟩, upd_same⟩
      · refine ⟨_, rfl, _, rfl, _, rfl, _, _, rfl, rfl, (by show (0 : Int) < 8; decide), l, _, _, _, rfl, rfl, .of upd_same, hz, (by show 3 ≤ sizeLine; decide), fun o no => ?_⟩
        exact q _ o (s1.new no) (s1.free no) ⟨_, _, _, ⟨(by omega : (0 : Int) ≤ 0), (b3 _).1, (b3 _).2, z1, z2⟩, upd_same⟩
end
end Ai
namespace Ai
open PySem PySem.Spec PyProof.Rows L2
def sp_law_take (K : PySem.W.Frag) : Sp := fun vs H Q _ => ∃ (w : Addr) (m : Int), vs = [.ref w, .int m] ∧ WellAt H w ∧ 0 < m ∧ m < 1073741824 ∧
  ∀ H' r, hid H' w = hid H w → WellAt H' w → 0 ≤ r → r < m → Q (.int r) H'
section
variable {P : Program} {w : World} {K : PySem.W.Frag} {mg : Str → Option Value} {base : Heap}
theorem ok_law_take (T : Fns K mg) : FnOk P w K mg base CX0 1 T.a_law_take T.d_law_take ["well", "many"] (sp_law_take K) := by
  refine T.F_law_take.ok sc_law_take (fun vs H Q E h => ?_) (fun cdv A outer s H vs Q E hr h => ?_)
  · obtain ⟨a, m, rfl, _⟩ := h
    rfl
  · obtain ⟨a, m, rfl, ⟨c, s0, p, ok, hw⟩, m0, m1, q⟩ := h
    obtain ⟨k0, k1, k2, k3, k4⟩ := ok
    refine ⟨_, (pss_cons (ps_if (pt_cmpR op_gt (pe_ix ix_list (pv 0) pe_int (fun _ _ => rfl)) pe_int (nomark _)) (pss_cons (ps_set (i := 2) sc_law_take.nd rfl (.inl rfl) (pe_op op_mod (pe_ix ix_list (pv 0) pe_int (fun _ _ => rfl)) (pv 1)))
      (pss_cons (ps_asg (pe_op op_fdiv (pe_ix ix_list (pv 0) pe_int (fun _ _ => rfl)) (pv 1)) (pg_sub (pv 0) pe_int set_list))
      (pss_one (ps_ret (pv 2))))) pss_nil)
    (pss_cons (ps_asg (pe_op op_add (pe_op op_mod (pe_op op_mul (pe_ix ix_list (pv 0) pe_int (fun _ _ => rfl)) pe_int) (pe_ix ix_list (pv 0) pe_int (fun _ _ => rfl))) pe_int) (pg_sub (pv 0) pe_int set_list))
    (pss_one (ps_ret (pe_op op_mod (pe_op op_fdiv (pe_op op_mod (pe_op op_mul (pe_ix ix_list (pv 0) pe_int (fun _ _ => rfl)) (pe_ix ix_list (pv 0) pe_int (fun _ _ => rfl))) pe_int) pe_int) (pv 1)))))), ?_⟩
    have g0 : atI [V.int c, V.int s0, V.int p] 0 = some (.int c) := rfl
    have g1 : atI [V.int c, V.int s0, V.int p] 1 = some (.int s0) := rfl
    have g2 : atI [V.int c, V.int s0, V.int p] 2 = some (.int p) := rfl
    refine ⟨_, rfl, a, _, _, _, rfl, rfl, .of hw, g0, _, _, rfl, rfl, _, rfl, ?_⟩
    refine ite2 (fun c1 => ?_) (fun c1 => ?_)
    · have c2 : 0 < c := of_decide_eq_true c1
      refine ⟨_, rfl, a, _, _, _, rfl, rfl, .of hw, g0, _, rfl, _, _, rfl, rfl, m0, ?_⟩
      refine ⟨_, rfl, a, _, _, _, rfl, rfl, .of hw, g0, _, rfl, _, _, rfl, rfl, ⟨m0, m1⟩, _, rfl, a, _, _, 0, rfl, rfl, hw, rfl, ?_⟩
      exact ⟨_, rfl, q _ _ (hid_upd _ _ _) ⟨c / m, s0, p, ⟨Int.ediv_nonneg k0 (Int.le_of_lt m0), k1, k2, k3, k4⟩, upd_same⟩ (Int.emod_nonneg _ (by omega)) (Int.emod_lt_of_pos _ m0)⟩
    · refine ⟨_, rfl, a, _, _, _, rfl, rfl, .of hw, g1, _, _, rfl, rfl, .inl ⟨by omega, by omega⟩, _, rfl, a, _, _, _, rfl, rfl, .of hw, g2, _, _, rfl, rfl, (by show (0 : Int) < p; omega), _, _, rfl, rfl, _, rfl, a, _, _, 1, rfl, rfl, hw, rfl, ?_⟩
      have b0 : 0 ≤ s0 * 48271 % p := Int.emod_nonneg _ (by omega)
      have b1 : s0 * 48271 % p < p := Int.emod_lt_of_pos _ (by omega)
      generalize s0 * 48271 % p = z at b0 b1
      have hw2 : (upd H a (.lst ([V.int c, V.int s0, V.int p].set 1 (.int (z + 1))))) a = some (.lst [.int c, .int (z + 1), .int p]) := upd_same
      have g3 : atI [V.int c, V.int (z + 1), V.int p] 1 = some (.int (z + 1)) := rfl
      refine ⟨_, rfl, a, _, _, _, rfl, rfl, .of hw2, g3, _, rfl, a, _, _, _, rfl, rfl, .of hw2, g3, _, _, rfl, rfl, .inl ⟨by omega, by omega⟩, _, _, rfl, rfl, (by show (0 : Int) < 2147483423; decide), _, _, rfl, rfl, ⟨by decide, by decide⟩, _, rfl, _, _, rfl, rfl, m0, ?_⟩
      exact q _ _ (hid_upd _ _ _) ⟨c, z + 1, p, ⟨k0, by omega, by omega, k3, k4⟩, upd_same⟩ (Int.emod_nonneg _ (by omega)) (Int.emod_lt_of_pos _ m0)
end
end Ai
namespace Ai
open PySem PySem.Spec PyProof.Rows L2
def sp_law_queue (K : PySem.W.Frag) : Sp := fun vs H Q _ => ∃ (w : Addr) (m : Nat), vs = [.ref w, .int m] ∧ WellAt H w ∧ m ≤ 60 ∧
  ∀ H' t q, Same (hid H w) (hid H' w) → WellAt H' w → SqT K (hid H' w) t (q.map V.int) → q.length ≤ m → Rows q → Q (.ref t) H'
section
variable {P : Program} {w : World} {K : PySem.W.Frag} {mg : Str → Option Value} {base : Heap}
theorem ok_law_queue (T : Fns K mg) : FnOk P w K mg base CX0 3 T.a_law_queue T.d_law_queue ["well", "most"] (sp_law_queue K) := by
  refine T.F_law_queue.ok sc_law_queue (fun vs H Q E h => ?_) (fun cdv A outer s H vs Q E hr h => ?_)
  · obtain ⟨a, m, rfl, _⟩ := h
    rfl
  · obtain ⟨a, m, rfl, hw, hm, q⟩ := h
    refine ⟨_, (pss_cons (ps_set (i := 2) sc_law_queue.nd rfl (.inr rfl) (pe_ix ix_list (pe_lst (pa_cons pe_int (pa_cons pe_int (pa_cons pe_int (pa_cons pe_int pa_nil))))) (pe_call (E := E0) (ok_law_take T) (hr.mono (by decide)) (by rfl) T.g_law_take T.F_law_take.kp T.b_law_take .nil pass0 (pa_cons (pv 0) (pa_cons pe_int pa_nil))) (fun _ _ => rfl)))
    (pss_cons (ps_setLc (i := 3) (own := [("turn", 5)]) (g := gName 5) (tt := tYes) rfl sc_law_queue.nd rfl rfl (sw_true rfl rfl rfl (by decide +kernel)) (pi_range1 (by rfl) T.n_range (pa_cons (pe_call (E := E0) (ok_law_take T) (hr.mono (by decide)) (by rfl) T.g_law_take T.F_law_take.kp T.b_law_take .nil pass0 (pa_cons (pv 0) (pa_cons (pe_op op_add (pv 1) pe_int) pa_nil))) pa_nil)) (blkOk_by (N := ["well", "most", "wide", "found", "half", "turn"]) (sc := defScope s_law_queue) (by decide +kernel)) (fun _ _ _ _ _ => (pg_name (i := 5) sc_law_queue.nd rfl (by first | exact .inl rfl | exact .inr rfl))) (fun _ _ _ _ _ => pts_nil) (fun _ _ _ _ _ => (pe_op op_add pe_int (pe_call (E := E0) (ok_law_take T) (hr.mono (by decide)) (by rfl) T.g_law_take T.F_law_take.kp T.b_law_take .nil pass0 (pa_cons (pv 0) (pa_cons (pv 2) pa_nil))))))
    (pss_cut (ps_if (pt_cmpR op_eq (pe_call (E := E0) (ok_law_take T) (hr.mono (by decide)) (by rfl) T.g_law_take T.F_law_take.kp T.b_law_take .nil pass0 (pa_cons (pv 0) (pa_cons pe_int pa_nil))) pe_int (nomark _)) (pss_cons (ps_set (i := 4) sc_law_queue.nd rfl (.inl rfl) (pe_op op_fdiv (pe_callB call_len_seq (by rfl) T.n_len PySem.boot_len (pa_cons (pv 3) pa_nil)) pe_int))
      (pss_one (ps_set (i := 3) sc_law_queue.nd rfl (.inl rfl) (pe_op op_cat (pe_callB cr_sorted (by rfl) T.n_sorted (by decide +kernel) (pa_cons (pe_slice sl_list (pv 3) po_none (po_some (pv 4))) pa_nil)) (pe_revL (pe_slice sl_list (pv 3) (po_some (pv 4)) po_none)))))) pss_nil)
    (pss_one (ps_ret (pe_callTy call_tuple_of (by rfl) T.n_tuple (by decide +kernel) (pa_cons (pv 3) pa_nil))))))), ?_⟩
    -- wide
    refine ⟨(by show 4 ≤ sizeLine; decide), fun l hl => ?_⟩
    have lw : l ≠ a := well_ne hw hl
    refine ⟨_, rfl, a, 4, rfl, well_same (same_new hl) hw, by decide, by decide, fun H1 r e1 ok1 r0 r1 => ?_⟩
    obtain ⟨j, rfl⟩ := Int.eq_ofNat_of_zero_le r0
    obtain ⟨wd, hwd, w0, w1⟩ := fam_at (p := [3, 9, 40, 99]) (j := j) (by show j < 4; omega) 0 100 (by decide)
    have hl1 : H1 l = some (.lst ([3, 9, 40, 99].map V.int)) := by rw [hid_get e1 lw]; exact upd_same
    have s1 : Same (hid H a) (hid H1 a) := by rw [e1]; exact hid_new hl
    refine ⟨l, _, _, _, rfl, rfl, .of hl1, hwd, ?_⟩
    -- found
    refine ⟨_, rfl, _, rfl, _, _, rfl, rfl, a, _, rfl, ok1, by omega, by omega, fun H2 r2 e2 ok2 a0 a1 => ⟨r2, rfl, by omega, by omega, fun D hD => ?_⟩⟩
    have Dw : D ≠ a := well_ne ok2 hD
    have s2 : Same (hid H a) (hid H2 a) := by rw [e2]; exact s1
    have nD : hid H a D = none := by
      refine s2.free ?_
      rw [hid_ne Dw]
      exact hD
    refine lc_it walk_range (fun i H' => Same (hid H a) (hid H' a) ∧ WellAt H' a ∧ ∃ xs : List Int, H' D = some (.lst (xs.map V.int)) ∧ xs.length = i ∧ Rows xs)
      ⟨s2.trans (hid_new hD), well_same (same_new hD) ok2, [], upd_same, rfl, fun r h => nomatch h⟩ (fun _ _ _ _ => True.intro) ?_ ?_
    · rintro i x H3 H4 hi ⟨s3, ok3, xs, hx, lx, rx⟩ ⟨rfl, ex⟩
      refine ⟨rfl, yes_go ?_⟩
      refine ⟨_, rfl, _, rfl, a, wd, rfl, ok3, by omega, by omega, fun H5 r5 e5 ok5 b0 b1 => ?_⟩
      have hx5 : H5 D = some (.lst (xs.map V.int)) := by rw [hid_get e5 Dw]; exact hx
      refine ⟨_, _, rfl, rfl, _, hx5, (by rw [List.length_map]; exact small1000 (by omega)), ?_, ?_, xs ++ [1 + r5], ?_, by simp [lx], fun r hr => ?_⟩
      · have s5 : Same (hid H a) (hid H5 a) := by rw [e5]; exact s3
        have := s5.mut (o := .lst (xs.map V.int ++ [.int (1 + r5)])) nD
        intro b o e
        have h6 := this b o e
        by_cases z : b = D
        · rw [z] at e; rw [nD] at e; cases e
        · rw [upd_ne z] at h6
          by_cases y : b = a
          · rw [y, hid_at] at e; cases e
          · rw [hid_ne y, upd_ne z]
            rw [hid_ne y] at h6
            exact h6
      · obtain ⟨c, s', p, ok, hc⟩ := ok5
        exact ⟨c, s', p, ok, by rw [upd_ne (Ne.symm Dw)]; exact hc⟩
      · rw [upd_same, List.map_append]; rfl
      · rcases List.mem_append.mp hr with h | h
        · exact rx r h
        · have : r = 1 + r5 := by simpa using h
          omega
    · rintro H3 ⟨s3, ok3, xs, hx, lx, rx⟩
      -- some rise
      refine ⟨fun σ' H' => ∃ (f : Addr) (ys : List Int) (x4 x5 : Option V), σ' = [some (.ref a), some (.int m), some (.int wd), some (.ref f), x4, x5] ∧ Same (hid H a) (hid H' a) ∧ WellAt H' a ∧ H' f = some (.lst (ys.map V.int)) ∧ ys.length ≤ m ∧ Rows ys, ?_, ?_⟩
      · refine ⟨_, rfl, a, 3, rfl, ok3, by decide, by decide, fun H4 r4 e4 ok4 b0 b1 => ?_⟩
        have hx4 : H4 D = some (.lst (xs.map V.int)) := by rw [hid_get e4 Dw]; exact hx
        have s4 : Same (hid H a) (hid H4 a) := by rw [e4]; exact s3
        refine ⟨rfl, _, rfl, ?_⟩
        refine ite2 (fun c => ?_) (fun c => ?_)
        · refine ⟨_, rfl, D, _, rfl, .inl (.of hx4), _, _, rfl, rfl, ⟨by decide, by decide⟩, ?_⟩
          refine ⟨_, rfl, _, rfl, _, rfl, D, _, rfl, .of hx4, fun p hp => ?_⟩
          have eh : (((xs.map V.int).length : Nat) : Int) / 2 = ((xs.length / 2 : Nat) : Int) := by rw [List.length_map]; omega
          rw [eh, cut_to]
          have lz : (xs.take (xs.length / 2)).length = xs.length / 2 := by rw [List.length_take]; omega
          have hD5 := (same_new (o := .lst ((xs.take (xs.length / 2)).map V.int)) hp) _ _ hx4
          refine ⟨p, _, rfl, .of upd_same, by omega, fun ns g hperm _ hg => ?_⟩
          have hD6 := (same_new (o := .lst (ns.map V.int)) hg) _ _ hD5
          refine ⟨_, rfl, _, rfl, _, rfl, D, _, rfl, .of hD6, fun u hu => ?_⟩
          rw [eh, cut_from]
          refine ⟨u, _, rfl, .of upd_same, fun u2 hu2 => ?_⟩
          have hg2 := (same_new (o := .lst ((xs.drop (xs.length / 2)).map V.int)) hu) _ _ (upd_same (H := upd H4 p (.lst ((xs.take (xs.length / 2)).map V.int))) (a := g) (o := .lst (ns.map V.int)))
          have hg3 := (same_new (o := .lst ((xs.drop (xs.length / 2)).map V.int).reverse) hu2) _ _ hg2
          have e0 : xs.length = r2.toNat := lx
          have ln : ns.length = xs.length / 2 := by rw [hperm.length_eq]; exact lz
          have l3 : (xs.drop (xs.length / 2)).length = xs.length - xs.length / 2 := List.length_drop
          refine ⟨g, u2, _, _, rfl, rfl, hg3, upd_same, ?_, fun f hf => ?_⟩
          · rw [List.length_map, List.length_reverse, List.length_map]
            exact Nat.le_of_lt (small1000 (by omega))
          · refine ⟨f, ns ++ (xs.drop (xs.length / 2)).reverse, _, _, rfl, ((((s4.trans (hid_new hp)).trans (hid_new hg)).trans (hid_new hu)).trans (hid_new hu2)).trans (hid_new hf), ?_, ?_, ?_, ?_⟩
            · exact well_same (same_new hf) (well_same (same_new hu2) (well_same (same_new hu) (well_same (same_new hg) (well_same (same_new hp) ok4))))
            · rw [upd_same, List.map_append, List.map_reverse]
            · rw [List.length_append, List.length_reverse, ln, l3]; omega
            · intro r hr
              rcases List.mem_append.mp hr with h | h
              · exact rx r (List.mem_of_mem_take (hperm.mem_iff.mp h))
              · exact rx r (List.mem_of_mem_drop (List.mem_reverse.mp h))
        · exact ⟨D, xs, _, _, rfl, s4, ok4, hx4, by omega, rx⟩
      · rintro σ' H' ⟨f, ys, x4, x5, rfl, s5, ok5, hf, ly, ry⟩
        refine ⟨_, rfl, f, _, rfl, .inl ⟨.of hf, fun t ht => ?_⟩⟩
        refine q _ t ys (s5.trans (hid_new ht)) (well_same (same_new ht) ok5) (.of (hid_some upd_same (well_ne ok5 ht))) ly ry
end
end Ai
namespace Ai
open PySem PySem.Spec PyProof.Rows L2
/-- the dict that tells where folk stand -/
def dkv : Int → List Pr → List (Key × V)
  | _, [] => []
  | a, (p, r) :: P => (Sum.inl (p : Int), V.int (put a r)) :: dkv (put a r) P
theorem dkv_keys : ∀ (P : List Pr) (a : Int), (dkv a P).map Prod.fst = P.map fun x => (Sum.inl (x.1 : Int) : Key)
  | [], _ => rfl
  | (p, r) :: P, a => by simp [dkv, dkv_keys P]
theorem dkv_length (P : List Pr) (a : Int) : (dkv a P).length = P.length := by
  have := congrArg List.length (dkv_keys P a)
  simpa using this
theorem valV_out {kvs : List (Key × V)} {k : Key} (h : k ∉ kvs.map Prod.fst) : valV kvs k = none := by
  induction kvs with
  | nil => rfl
  | cons x kvs ih =>
    rw [List.map_cons, List.mem_cons, not_or] at h
    rw [valV_neg (fun z => h.1 z.symm)]
    exact ih h.2
theorem dkv_at : ∀ {P : List Pr} {a : Int} {p : Nat} {r : Int}, (P.map Prod.fst).Nodup → (p, r) ∈ P → ∃ l, valV (dkv a P) (Sum.inl (p : Int)) = some (.int l) ∧ (l < r ↔ p ∈ (stay a P).map Prod.fst)
  | [], _, _, _, _, h => nomatch h
  | (p0, r0) :: P, a, p, r, nd, h => by
    rw [List.map_cons, List.nodup_cons] at nd
    have out : ∀ c, p0 ∉ (stay c P).map Prod.fst := fun c z => nd.1 (((stay_sub P c).map Prod.fst).subset z)
    by_cases e : p = p0
    · subst e
      have er : r = r0 := by
        rcases List.mem_cons.mp h with h | h
        · exact (Prod.mk.inj h).2
        · exact absurd (List.mem_map.mpr ⟨_, h, rfl⟩) nd.1
      subst er
      refine ⟨put a r, valV_pos rfl, ?_⟩
      rw [put_lt]
      simp only [stay]
      by_cases c : r < a
      · rw [if_pos c]
        exact ⟨fun z => absurd c z, fun z => absurd z (out r)⟩
      · rw [if_neg c]
        simp [c]
    · have hm : (p, r) ∈ P := by
        rcases List.mem_cons.mp h with h | h
        · exact absurd (Prod.mk.inj h).1 e
        · exact h
      obtain ⟨l, h1, h2⟩ := dkv_at (a := put a r0) nd.2 hm
      refine ⟨l, ?_, ?_⟩
      · have ne : ¬ (Sum.inl (p0 : Int) : Key) = Sum.inl (p : Int) := fun z => e (by have := Sum.inl.inj z; omega)
        show valV ((Sum.inl (p0 : Int), V.int (put a r0)) :: dkv (put a r0) P) _ = _
        rw [valV_neg (p := (Sum.inl (p0 : Int), V.int (put a r0))) ne]
        exact h1
      · rw [h2]
        simp only [stay]
        by_cases c : r0 < a
        · rw [if_pos c, put_sit c]
        · rw [if_neg c, put_wait c]
          simp [e]
theorem dkv_in (P : List Pr) (a : Int) (p : Nat) : (valV (dkv a P) (Sum.inl (p : Int))).isSome = decide (p ∈ P.map Prod.fst) := by
  rw [← valV_any]
  induction P generalizing a with
  | nil => rfl
  | cons x P ih =>
    obtain ⟨p0, r0⟩ := x
    simp only [dkv, List.any_cons, ih, List.map_cons]
    by_cases e : p0 = p
    · subst e; simp
    · have ne : ¬ ((Sum.inl (p0 : Int) : Key) = Sum.inl (p : Int)) := fun z => e (by have := Sum.inl.inj z; omega)
      have e' : ¬ p = p0 := fun z => e z.symm
      simp [ne, e']
/-- the places of folk, as ints -/
def keysI (P : List Pr) : List Int := P.map fun x => (x.1 : Int)
def sp_law_spots (K : PySem.W.Frag) : Sp := fun vs H Q _ => ∃ (a b : Addr) (q : List Int) (P : List Pr), vs = [.ref a, .ref b] ∧ SqT K H a (q.map V.int) ∧ SqL K H b ((keysI P).map V.int) ∧ P.length ≤ 1000 ∧ (P.map Prod.fst).Nodup ∧
  (∀ x ∈ P, q[x.1]? = some x.2) ∧ ∀ H' d, Same H H' → H d = none → H' d = some (.dK (dkv 1000 P)) → Q (.ref d) H'
section
variable {P : Program} {w : World} {K : PySem.W.Frag} {mg : Str → Option Value} {base : Heap}
theorem ok_law_spots (T : Fns K mg) : FnOk P w K mg base CX0 1 T.a_law_spots T.d_law_spots ["queue", "there"] (sp_law_spots K) := by
  refine T.F_law_spots.ok sc_law_spots (fun vs H Q E h => ?_) (fun cdv A outer s H vs Q E hr h => ?_)
  · obtain ⟨a, b, q, P, rfl, _⟩ := h
    rfl
  · obtain ⟨a, b, q, P, rfl, hq, hb, hlen, nd, hP, k⟩ := h
    refine ⟨_, (pss_cons (ps_par rfl sc_law_spots.nd (i := 3) (j := 4) rfl rfl (by decide) rfl rfl (pa_cons pe_dnewK (pa_cons pe_int pa_nil)) (by rfl))
    (pss_cons (ps_for PassesOwn.never rfl (pi_list (pv 1)) (pg_name (i := 2) sc_law_spots.nd rfl (.inl rfl))
      (pss_cons (ps_set (i := 4) sc_law_spots.nd rfl (.inl rfl) (pe_callB (call_min2 rfl) (by rfl) T.n_min (by decide +kernel) (pa_cons (pe_ix ix_tup (pv 0) (pv 2) (fun _ _ => rfl)) (pa_cons (pe_op op_sub (pv 4) pe_int) pa_nil))))
      (pss_one (ps_dput (hu_of hr) (pv 3) (pv 2) (pv 4) rfl))))
    (pss_one (ps_ret (pv 3))))), ?_⟩
    refine fun d hd => ⟨_, _, rfl, ?_⟩
    have s1 : ∀ u, Same H (upd H d u) := fun u => same_new hd
    refine ⟨_, rfl, b, rfl, ⟨_, (s1 _).seq hb⟩, for_it (walk_list (K := K)) (fun i σ H' => ∃ (last : Int) (acc : List (Key × V)) (x2 : Option V), σ = [some (.ref a), some (.ref b), x2, some (.ref d), some (.int last)] ∧ H' = upd H d (.dK acc) ∧
        acc.map Prod.fst = (P.take i).map (fun x => (Sum.inl (x.1 : Int) : Key)) ∧ acc ++ dkv last (P.drop i) = dkv 1000 P)
      ⟨1000, [], none, rfl, rfl, rfl, rfl⟩ (fun i σ H' _ ⟨_, _, _, _, e, _⟩ => by rw [e]; exact (s1 _).seq hb) ?_ ?_⟩
    · rintro i x σ H1 H2 hi ⟨last, acc, x2, rfl, rfl, hk, he⟩ ⟨rfl, hx⟩
      unfold keysI at hx
      rw [List.map_map, List.getElem?_map] at hx
      obtain ⟨y, hy, rfl⟩ : ∃ y, P[i]? = some y ∧ x = V.int (y.1 : Int) := by
        cases e : P[i]? with
        | none => rw [e] at hx; cases hx
        | some y => rw [e] at hx; exact ⟨y, rfl, (Option.some.inj hx).symm⟩
      obtain ⟨p, r⟩ := y
      have hr1 : q[p]? = some r := hP _ (List.mem_of_getElem? hy)
      have hdr : P.drop i = (p, r) :: P.drop (i + 1) := by
        obtain ⟨h1, h2⟩ := List.getElem?_eq_some_iff.mp hy
        rw [← h2]
        exact List.drop_eq_getElem_cons h1
      rw [hdr] at he
      simp only [dkv] at he
      have g1 : atI (q.map V.int) ((p : Nat) : Int) = some (V.int r) := atI_nat (by rw [List.getElem?_map, hr1]; rfl)
      have hlt : i < P.length := (List.getElem?_eq_some_iff.mp hy).1
      have la : acc.length = i := by
        have := congrArg List.length hk
        simp at this
        omega
      have hnew : valV acc (Sum.inl (p : Int)) = none := by
        refine valV_out ?_
        rw [hk]
        intro z
        obtain ⟨u, hu, eu⟩ := List.mem_map.mp z
        have e1 : u.1 = p := by have := Sum.inl.inj eu; omega
        have h2 : P = P.take i ++ P.drop i := (List.take_append_drop i P).symm
        rw [h2, hdr, List.map_append, List.nodup_append] at nd
        exact nd.2.2 _ (List.mem_map.mpr ⟨u, hu, rfl⟩) p (by simp) e1
      refine ⟨_, rfl, _, rfl, a, _, _, _, rfl, rfl, (s1 _).tup hq, g1, _, rfl, _, _, rfl, rfl, _, _, rfl, ?_⟩
      refine ⟨_, rfl, _, rfl, _, rfl, d, _, rfl, DPut.k (k := Sum.inl (p : Int)) upd_same (small1000 (by omega)), ?_⟩
      refine ⟨put last r, acc ++ [(Sum.inl (p : Int), V.int (put last r))], _, rfl, ?_, ?_, ?_⟩
      · rw [upd_upd, putK_new _ hnew]
        rfl
      · rw [List.map_append, hk, take_succ_of hy, List.map_append]
        rfl
      · simpa using he
    · rintro σ H1 ⟨last, acc, x2, rfl, rfl, hk, he⟩
      rw [List.drop_eq_nil_of_le (by simp [keysI])] at he
      simp only [dkv, List.append_nil] at he
      exact ⟨_, rfl, k _ d (s1 _) hd (by rw [upd_same, he])⟩
end
end Ai
namespace Ai
open PySem PySem.Spec PyProof.Rows L2
/-! ### the word of a refusal -/
def wordN : Nat → Str
  | 0 => "queue"
  | 1 => "turn"
  | 2 => "folk"
  | 3 => "seen"
  | 4 => "row"
  | 5 => "place"
  | 6 => "full"
  | 7 => "left"
  | 8 => "own"
  | _ => "value"
theorem dps_strs {K : PySem.W.Frag} {H : Hp} (ws : List Str) : DpAll K H (ws.map V.str) (ws.map PyData.str) := dps_of (fun x => .str x) ws
theorem dps_invS {K : PySem.W.Frag} {H : Hp} : ∀ {ws : List Str} {vs : List V}, DpAll K H vs (ws.map PyData.str) → vs = ws.map V.str
  | [], _, h => by cases h; rfl
  | n :: ws, _, h => by
    cases h with
    | cons h1 h2 =>
      cases h1
      rw [dps_invS h2]
      rfl
theorem three : ∀ i, i < 8 → (List.range 10).filter (fun j => decide (i = j) || decide (8 ≤ j)) = [i, 8, 9] := by decide
theorem words10 : Txt.split ("queue turn folk seen row place full left own value" : Str) (" " : Str) = (List.range 10).map wordN := by decide +kernel
abbrev csL {K : PySem.W.Frag} {mg : Str → Option Value} (T : Fns K mg) : List Addr := [T.a_NoQueue, T.a_NoTurn, T.a_NoFolk, T.a_NoSeen, T.a_NoRow, T.a_NoPlace, T.a_Full, T.a_NothingLeft]
def sp_law_kinds {K : PySem.W.Frag} {mg : Str → Option Value} (T : Fns K mg) : Addr → Value → Option Addr → Sp := fun a c d vs H Q _ => vs = [.ref a] ∧ d = none ∧ ∃ D i, c = .ref D ∧ KnD K (csL T) T.a_AisleError D i ∧ i < 8 ∧
  ∀ H' p, Same H H' → H p = none → H' p = some (.lst ([wordN i, wordN 8, wordN 9].map V.str)) → Q (.ref p) H'
section
variable {P : Program} {w : World} {K : PySem.W.Frag} {mg : Str → Option Value} {base : Heap}
theorem ok_law_kinds (T : Fns K mg) : FnZ P w K mg base CX0 1 T.a_law_kinds T.d_law_kinds ["e"] (sp_law_kinds T) := by
  refine T.F_law_kinds.okZ sc_law_kinds (fun a c d vs H Q E h => ?_) (fun cdv A outer s H vs Q E p c d hot hz hr h => ?_)
  · obtain ⟨rfl, _⟩ := h
    rfl
  · obtain ⟨rfl, rfl, D, i, rfl, kn, hi, q⟩ := h
    have hfs : ∃ vs, p.2.data = .fields vs := let ⟨vs, h, _⟩ := hot.2; ⟨vs, h⟩
    refine ⟨_, (pss_cons (ps_set (i := 1) sc_law_kinds.nd rfl (.inl rfl) (pe_lst (pa_cons (pe_callB (call_isH List.mem_cons_self kn.ec hz hfs) (by rfl) T.n_isinstance (by decide +kernel) (pa_cons (pv 0) (pa_cons (pe_glob (v := .ref T.a_NoQueue) (by rfl) T.g_NoQueue rfl) pa_nil))) (pa_cons (pe_callB (call_isH List.mem_cons_self kn.ec hz hfs) (by rfl) T.n_isinstance (by decide +kernel) (pa_cons (pv 0) (pa_cons (pe_glob (v := .ref T.a_NoTurn) (by rfl) T.g_NoTurn rfl) pa_nil))) (pa_cons (pe_callB (call_isH List.mem_cons_self kn.ec hz hfs) (by rfl) T.n_isinstance (by decide +kernel) (pa_cons (pv 0) (pa_cons (pe_glob (v := .ref T.a_NoFolk) (by rfl) T.g_NoFolk rfl) pa_nil))) (pa_cons (pe_callB (call_isH List.mem_cons_self kn.ec hz hfs) (by rfl) T.n_isinstance (by decide +kernel) (pa_cons (pv 0) (pa_cons (pe_glob (v := .ref T.a_NoSeen) (by rfl) T.g_NoSeen rfl) pa_nil))) pa_nil))))))
    (pss_cons (ps_set (i := 1) sc_law_kinds.nd rfl (.inl rfl) (pe_op op_cat (pv 1) (pe_lst (pa_cons (pe_callB (call_isH List.mem_cons_self kn.ec hz hfs) (by rfl) T.n_isinstance (by decide +kernel) (pa_cons (pv 0) (pa_cons (pe_glob (v := .ref T.a_NoRow) (by rfl) T.g_NoRow rfl) pa_nil))) (pa_cons (pe_callB (call_isH List.mem_cons_self kn.ec hz hfs) (by rfl) T.n_isinstance (by decide +kernel) (pa_cons (pv 0) (pa_cons (pe_glob (v := .ref T.a_NoPlace) (by rfl) T.g_NoPlace rfl) pa_nil))) (pa_cons (pe_callB (call_isH List.mem_cons_self kn.ec hz hfs) (by rfl) T.n_isinstance (by decide +kernel) (pa_cons (pv 0) (pa_cons (pe_glob (v := .ref T.a_Full) (by rfl) T.g_Full rfl) pa_nil))) (pa_cons (pe_callB (call_isH List.mem_cons_self kn.ec hz hfs) (by rfl) T.n_isinstance (by decide +kernel) (pa_cons (pv 0) (pa_cons (pe_glob (v := .ref T.a_NothingLeft) (by rfl) T.g_NothingLeft rfl) pa_nil))) pa_nil)))))))
    (pss_cons (ps_set (i := 1) sc_law_kinds.nd rfl (.inl rfl) (pe_op op_cat (pv 1) (pe_lst (pa_cons (pe_callB (call_isH List.mem_cons_self kn.ec hz hfs) (by rfl) T.n_isinstance (by decide +kernel) (pa_cons (pv 0) (pa_cons (pe_glob (v := .ref T.a_AisleError) (by rfl) T.g_AisleError rfl) pa_nil))) (pa_cons (pe_callB (call_isH List.mem_cons_self kn.ec hz hfs) (by rfl) T.n_isinstance (by decide +kernel) (pa_cons (pv 0) (pa_cons (pe_bltn (v := .ty "ValueError") (by rfl) T.n_ValueError (by decide +kernel) rfl) pa_nil))) pa_nil)))))
    (pss_cons (ps_set (i := 2) sc_law_kinds.nd rfl (.inl rfl) pe_str)
    (pss_one (ps_ret (pe_lcH (own := [("word", 3), ("good", 4)]) (g := gTup K 2 (gCons (gName 3) (gCons (gName 4) gNil))) ⟨p, hot, List.mem_cons_self⟩ sc_law_kinds.nd (pi_zipH (by rfl) T.n_zip (pa_cons (pe_m1 PySem.F.slot_str_split PySem.F.type_str_split mt_split (pv 2) pe_str) (pa_cons (pv 1) pa_nil))) (blkOk_by (N := ["e", "some", "words", "word", "good"]) (sc := defScope s_law_kinds) (by decide +kernel)) (fun _ _ _ _ _ => (pg_tupH ⟨p, hot, List.mem_cons_self⟩ (pgs_cons (pg_name (i := 3) sc_law_kinds.nd rfl (by first | exact .inl rfl | exact .inr rfl)) (pgs_cons (pg_name (i := 4) sc_law_kinds.nd rfl (by first | exact .inl rfl | exact .inr rfl)) pgs_nil)))) (fun _ _ _ _ _ => pts_one (pt_val (pv 4))) (fun _ _ _ _ _ => (pv 3))))))))), ?_⟩
    refine ⟨_, rfl, _, _, _, rfl, fun u h => h, kn.ki 0 _ rfl, _, rfl, _, _, _, rfl, fun u h => h, kn.ki 1 _ rfl, _, rfl, _, _, _, rfl, fun u h => h, kn.ki 2 _ rfl, _, rfl, _, _, _, rfl, fun u h => h, kn.ki 3 _ rfl, (by show 4 ≤ sizeLine; decide), fun l1 hl1 => ?_⟩
    refine ⟨_, rfl, _, rfl, _, _, _, rfl, fun u h => h, kn.ki 4 _ rfl, _, rfl, _, _, _, rfl, fun u h => h, kn.ki 5 _ rfl, _, rfl, _, _, _, rfl, fun u h => h, kn.ki 6 _ rfl, _, rfl, _, _, _, rfl, fun u h => h, kn.ki 7 _ rfl, (by show 4 ≤ sizeLine; decide), fun l2 hl2 => ⟨l1, l2, _, _, rfl, rfl, (same_new hl2) _ _ upd_same, upd_same, (by show 8 ≤ sizeLine; decide), fun l3 hl3 => ?_⟩⟩
    refine ⟨_, rfl, _, rfl, _, _, _, rfl, fun u h => h, kn.ka, _, rfl, _, _, _, rfl, fun u h => h, kn.kv, (by show 2 ≤ sizeLine; decide), fun l4 hl4 => ⟨l3, l4, _, _, rfl, rfl, (same_new hl4) _ _ upd_same, upd_same, (by show 10 ≤ sizeLine; decide), fun l5 hl5 => ?_⟩⟩
    have s0 := ((((same_new (o := .lst [V.bl (decide (i = 0)), V.bl (decide (i = 1)), V.bl (decide (i = 2)), V.bl (decide (i = 3))]) hl1).new (o := .lst [V.bl (decide (i = 4)), V.bl (decide (i = 5)), V.bl (decide (i = 6)), V.bl (decide (i = 7))]) hl2).new (o := .lst ([V.bl (decide (i = 0)), V.bl (decide (i = 1)), V.bl (decide (i = 2)), V.bl (decide (i = 3))] ++ [V.bl (decide (i = 4)), V.bl (decide (i = 5)), V.bl (decide (i = 6)), V.bl (decide (i = 7))])) hl3).new (o := .lst [V.bl true, V.bl true]) hl4).new (o := .lst (([V.bl (decide (i = 0)), V.bl (decide (i = 1)), V.bl (decide (i = 2)), V.bl (decide (i = 3))] ++ [V.bl (decide (i = 4)), V.bl (decide (i = 5)), V.bl (decide (i = 6)), V.bl (decide (i = 7))]) ++ [V.bl true, V.bl true])) hl5
    have h5 := upd_same (H := upd (upd (upd (upd H l1 (.lst [V.bl (decide (i = 0)), V.bl (decide (i = 1)), V.bl (decide (i = 2)), V.bl (decide (i = 3))])) l2 (.lst [V.bl (decide (i = 4)), V.bl (decide (i = 5)), V.bl (decide (i = 6)), V.bl (decide (i = 7))])) l3 (.lst ([V.bl (decide (i = 0)), V.bl (decide (i = 1)), V.bl (decide (i = 2)), V.bl (decide (i = 3))] ++ [V.bl (decide (i = 4)), V.bl (decide (i = 5)), V.bl (decide (i = 6)), V.bl (decide (i = 7))]))) l4 (.lst [V.bl true, V.bl true]))
      (a := l5) (o := .lst (([V.bl (decide (i = 0)), V.bl (decide (i = 1)), V.bl (decide (i = 2)), V.bl (decide (i = 3))] ++ [V.bl (decide (i = 4)), V.bl (decide (i = 5)), V.bl (decide (i = 6)), V.bl (decide (i = 7))]) ++ [V.bl true, V.bl true]))
    have es : (([V.bl (decide (i = 0)), V.bl (decide (i = 1)), V.bl (decide (i = 2)), V.bl (decide (i = 3))] ++ [V.bl (decide (i = 4)), V.bl (decide (i = 5)), V.bl (decide (i = 6)), V.bl (decide (i = 7))]) ++ [V.bl true, V.bl true]) = (List.range 10).map fun j => V.bl (decide (i = j) || decide (8 ≤ j)) := by
      simp [List.range_succ]
    rw [es] at h5
    rw [es] at s0 ⊢
    generalize upd (upd (upd (upd (upd H l1 (.lst [V.bl (decide (i = 0)), V.bl (decide (i = 1)), V.bl (decide (i = 2)), V.bl (decide (i = 3))])) l2 (.lst [V.bl (decide (i = 4)), V.bl (decide (i = 5)), V.bl (decide (i = 6)), V.bl (decide (i = 7))])) l3 (.lst ([V.bl (decide (i = 0)), V.bl (decide (i = 1)), V.bl (decide (i = 2)), V.bl (decide (i = 3))] ++ [V.bl (decide (i = 4)), V.bl (decide (i = 5)), V.bl (decide (i = 6)), V.bl (decide (i = 7))]))) l4 (.lst [V.bl true, V.bl true])) l5 (.lst ((List.range 10).map fun j => V.bl (decide (i = j) || decide (8 ≤ j)))) = H5 at h5 s0 ⊢
    refine ⟨_, rfl, ⟨_, rfl⟩, _, _, rfl, rfl, (by decide +kernel), (by decide +kernel), fun w1 hw1 => ⟨_, rfl, w1, l5, _, _, rfl, .of upd_same, .of ((same_new hw1) _ _ h5), fun D hD => ?_⟩⟩
    have s6 : Same H5 (upd H5 w1 (.lst ((Txt.split ("queue turn folk seen row place full left own value" : Str) (" " : Str)).map V.str))) := same_new hw1
    have h6 := upd_same (H := H5) (a := w1) (o := .lst ((Txt.split ("queue turn folk seen row place full left own value" : Str) (" " : Str)).map V.str))
    have h56 := s6 _ _ h5
    rw [words10] at hD s6 h6 h56 ⊢
    generalize upd H5 w1 (.lst (((List.range 10).map wordN).map V.str)) = H6 at hD s6 h6 h56 ⊢
    have en : min (((List.range 10).map wordN).map V.str).length ((List.range 10).map fun j => V.bl (decide (i = j) || decide (8 ≤ j))).length = 10 := by simp
    rw [en]
    refine lc_data2 (K := K) (walk_zipH (xs := ((List.range 10).map wordN).map V.str) (ys := (List.range 10).map fun j => V.bl (decide (i = j) || decide (8 ≤ j))) (by simp)) (fun j => .str (wordN j)) (fun j => .bl (decide (i = j) || decide (8 ≤ j)))
      (fun j hj => by rw [List.getElem?_map, List.getElem?_map, List.getElem?_range hj]; rfl) (fun j hj => by rw [List.getElem?_map, List.getElem?_range hj]; rfl)
      (fun j => decide (i = j) || decide (8 ≤ j)) (fun j => .str (wordN j)) (by omega) hD (fun H' s7 => ⟨.of (s7 _ _ h6), .of (s7 _ _ h56)⟩) (fun x y => rfl) (fun j H' hj s7 Q kq => ?_) (fun j H' hj _ s7 _ Q kq => ?_) (fun H' ys s7 hy hds => ?_)
    · exact ⟨_, rfl, _, rfl, kq H' (Same.refl _)⟩
    · exact ⟨_, rfl, kq _ H' (Same.refl _) (.str _)⟩
    · rw [three i hi] at hds
      have e4 := dps_invS (ws := [wordN i, wordN 8, wordN 9]) hds
      subst e4
      exact q H' D ((s0.trans s6).trans s7) ((s0.trans s6).free hD) hy
end
end Ai
namespace Ai
open PySem PySem.Spec PyProof.Rows L2
def sp_law_refusal {K : PySem.W.Frag} {mg : Str → Option Value} (T : Fns K mg) : Addr → Value → Option Addr → Sp := fun a c d vs H Q _ => vs = [.ref a] ∧ d = none ∧ ∃ D i, c = .ref D ∧ KnD K (csL T) T.a_AisleError D i ∧ i < 8 ∧ ∀ H', Same H H' → Q (.str (wordN i)) H'
section
variable {P : Program} {w : World} {K : PySem.W.Frag} {mg : Str → Option Value} {base : Heap}
theorem ok_law_refusal (T : Fns K mg) : FnZ P w K mg base CX0 2 T.a_law_refusal T.d_law_refusal ["e"] (sp_law_refusal T) := by
  refine T.F_law_refusal.okZ sc_law_refusal (fun a c d vs H Q E h => ?_) (fun cdv A outer s H vs Q E p c d hot hz hr h => ?_)
  · obtain ⟨rfl, _⟩ := h
    rfl
  · obtain ⟨rfl, rfl, D, i, rfl, kn, hi, q⟩ := h
    refine ⟨_, (pss_cons (ps_set (i := 1) sc_law_refusal.nd rfl (.inl rfl) (pe_callZ (ok_law_kinds T) (hr.mono (by decide)) hot List.mem_cons_self hz (by rfl) T.g_law_kinds T.F_law_kinds.kp T.b_law_kinds (pa_cons (pv 0) pa_nil)))
    (pss_one (ps_ret (pe_ifExp (pt_cmpR (op_eqD hr.units) (pe_slice sl_list (pv 1) (po_some pe_int) po_none) (pe_lst (pa_cons pe_str (pa_cons pe_str pa_nil))) (nomark _)) (pe_ix ix_list (pv 1) pe_int (fun _ _ => rfl)) pe_str)))), ?_⟩
    refine ⟨_, rfl, rfl, rfl, D, i, rfl, kn, hi, fun H1 l s1 nl hl => ?_⟩
    refine ⟨_, rfl, 1, rfl, l, _, rfl, .of hl, fun u hu => ⟨(by show 2 ≤ sizeLine; decide), fun v hv => ?_⟩⟩
    have hu1 := (same_new (o := .lst ([wordN 8, wordN 9].map V.str)) hv) _ _ (upd_same (H := H1) (a := u) (o := .lst ([wordN 8, wordN 9].map V.str)))
    refine ⟨.list ([wordN 8, wordN 9].map PyData.str), .list ([wordN 8, wordN 9].map PyData.str), .lst (.of hu1) (dps_strs [wordN 8, wordN 9]), .lst (.of upd_same) (dps_strs [wordN 8, wordN 9]), (by decide +kernel), (by decide +kernel), true, (by decide +kernel), ?_⟩
    refine ite2 (fun _ => ?_) (fun c => absurd rfl c)
    have hl2 := ((same_new (o := .lst ([wordN 8, wordN 9].map V.str)) hu).new (o := .lst ([wordN 8, wordN 9].map V.str)) hv) _ _ hl
    exact ⟨_, rfl, l, _, _, _, rfl, rfl, .of hl2, rfl, q _ (s1.trans ((same_new hu).new hv))⟩
end

end Ai
namespace Ai
open PySem PySem.Spec PyProof.Rows L2
/-! ### what stands in tuples only, stays where lists change -/
/-- all but what stands at r stays -/
def Fr (r : Addr) (H H' : Hp) : Prop := ∀ b o, b ≠ r → H b = some o → H' b = some o
theorem Fr.of {r : Addr} {H H' : Hp} (s : Same H H') : Fr r H H' := fun b o _ e => s b o e
theorem Fr.trans {r : Addr} {H H1 H2 : Hp} (a : Fr r H H1) (b : Fr r H1 H2) : Fr r H H2 := fun c o n e => b c o n (a c o n e)
theorem Fr.mut {r : Addr} {H H' : Hp} {o : HO} (a : Fr r H H') : Fr r H (upd H' r o) := fun c x n e => by rw [upd_ne n]; exact a c x n e
mutual
def tOnly : PyData → Bool
  | .list _ => false
  | .tuple ds => tOnlyA ds
  | .dict _ => false
  | _ => true
def tOnlyA : List PyData → Bool
  | [] => true
  | d :: ds => tOnly d && tOnlyA ds
end
theorem sqt_fr {K : PySem.W.Frag} {r a : Addr} {xs ys : List V} {H H' : Hp} (hr : H r = some (.lst ys)) (f : Fr r H H') (h : SqT K H a xs) : SqT K H' a xs := by
  rcases h with (h | ⟨o, h⟩) | h
  · exact .inl (.inl (f _ _ (fun e => by rw [e, hr] at h; cases h) h))
  · exact .inl (.inr ⟨o, f _ _ (fun e => by rw [e, hr] at h; cases h) h⟩)
  · exact .inr h
mutual
theorem dp_fr {K : PySem.W.Frag} {r : Addr} {ys : List V} {H H' : Hp} (hr : H r = some (.lst ys)) (f : Fr r H H') : ∀ (d : PyData) (v : V), tOnly d = true → Dp K H v d → Dp K H' v d
  | .none, _, _, h => by cases h; exact .non
  | .bool b, _, _, h => by cases h; exact .bl b
  | .int i, _, _, h => by cases h; exact .int i
  | .str x, _, _, h => by cases h; exact .str x
  | .list ds, _, t, _ => by simp [tOnly] at t
  | .tuple ds, _, t, h => by
    cases h with
    | tup hs ha => exact .tup (sqt_fr hr f hs) (dps_fr hr f ds _ t ha)
  | .dict _, _, _, h => by cases h
theorem dps_fr {K : PySem.W.Frag} {r : Addr} {ys : List V} {H H' : Hp} (hr : H r = some (.lst ys)) (f : Fr r H H') : ∀ (ds : List PyData) (vs : List V), tOnlyA ds = true → DpAll K H vs ds → DpAll K H' vs ds
  | [], _, _, h => by cases h; exact .nil
  | d :: ds, _, t, h => by
    rw [tOnlyA, Bool.and_eq_true] at t
    cases h with
    | cons h1 h2 => exact .cons (dp_fr hr f d _ t.1 h1) (dps_fr hr f ds _ t.2 h2)
end
theorem tOnly_all {ds : List PyData} (h : ∀ d ∈ ds, tOnly d = true) : tOnlyA ds = true := by
  induction ds with
  | nil => rfl
  | cons d ds ih => rw [tOnlyA, h d List.mem_cons_self, ih fun x hx => h x (List.mem_cons_of_mem _ hx)]; rfl
theorem tOnly_ints (q : List Int) : tOnlyA (q.map PyData.int) = true := tOnly_all fun d h => by obtain ⟨i, _, rfl⟩ := List.mem_map.mp h; rfl
theorem dps_append {K : PySem.W.Frag} {H : Hp} : ∀ {xs ys : List V} {ds es : List PyData}, DpAll K H xs ds → DpAll K H ys es → DpAll K H (xs ++ ys) (ds ++ es)
  | [], ys, _, es, h, h2 => by cases h; exact h2
  | x :: xs, ys, _, es, h, h2 => by
    cases h with
    | cons a b => exact .cons a (dps_append b h2)
theorem dps_split {K : PySem.W.Frag} {H : Hp} {d : PyData} : ∀ {ds : List PyData} {vs : List V}, DpAll K H vs (ds ++ [d]) → ∃ vp v, vs = vp ++ [v] ∧ DpAll K H vp ds ∧ Dp K H v d
  | [], vs, h => by
    cases h with
    | @cons v w _ _ h1 h2 =>
      cases h2
      exact ⟨[], v, rfl, .nil, h1⟩
  | e :: ds, vs, h => by
    cases h with
    | @cons v w _ _ h1 h2 =>
      obtain ⟨vp, u, rfl, a, b⟩ := dps_split h2
      exact ⟨v :: vp, u, rfl, .cons h1 a, b⟩
/-! ### the kept queue -/
structure KSt where
  q : List Int
  sat : List (Int × Int)
  now : Nat
def pairD (p : Int × Int) : PyData := .tuple [.int p.1, .int p.2]
def stD (s : KSt) : PyData := .tuple [tupI s.q, .tuple (s.sat.map pairD), .int s.now]
theorem stD_only (ks : List KSt) : tOnlyA (ks.map stD) = true := tOnly_all fun d h => by
  obtain ⟨s, _, rfl⟩ := List.mem_map.mp h
  have e1 : tOnlyA (s.q.map PyData.int) = true := tOnly_ints s.q
  have e2 : tOnlyA (s.sat.map pairD) = true := tOnly_all fun d h => by obtain ⟨p, _, rfl⟩ := List.mem_map.mp h; rfl
  simp only [stD, tupI, tOnly, tOnlyA, e1, e2]
  rfl
structure SOk (s : KSt) : Prop where
  len : s.q.length ≤ 40
  rows : Rows s.q
  sat : s.sat.length ≤ 40 * s.now
  now : s.now ≤ 200
/-- the kept queue at o: its rows at r, what is now the last -/
structure KAt (K : PySem.W.Frag) (C : Addr) (H : Hp) (o dx r : Addr) (pre : List KSt) (s : KSt) : Prop where
  ins : H o = some (.ins C dx [("rows", .ref r)])
  dat : ∃ vs, H r = some (.lst vs) ∧ DpAll K H vs ((pre ++ [s]).map stD)
  ok : ∀ x ∈ pre ++ [s], SOk x
  few : pre.length ≤ 200
theorem KAt.same {K : PySem.W.Frag} {C : Addr} {H H' : Hp} {o dx r : Addr} {pre : List KSt} {s : KSt} (k : KAt K C H o dx r pre s) (e : Same H H') : KAt K C H' o dx r pre s := by
  obtain ⟨vs, h1, h2⟩ := k.dat
  exact ⟨e _ _ k.ins, ⟨vs, e _ _ h1, e.dp' h2⟩, k.ok, k.few⟩
/-- another list changes -/
theorem KAt.fr {K : PySem.W.Frag} {C : Addr} {H H' : Hp} {o dx r p : Addr} {pre : List KSt} {s : KSt} {ys : List V} (k : KAt K C H o dx r pre s) (hp : H p = some (.lst ys)) (n : r ≠ p) (f : Fr p H H') : KAt K C H' o dx r pre s := by
  obtain ⟨vs, h1, h2⟩ := k.dat
  exact ⟨f _ _ (fun e => by have := k.ins; rw [e, hp] at this; cases this) k.ins, ⟨vs, f _ _ n h1, dps_fr hp f _ _ (stD_only _) h2⟩, k.ok, k.few⟩
theorem lk_rows {r : Addr} : List.lookup ("rows" : Str) [("rows", V.ref r)] = some (.ref r) := by
  have e : (("rows" : Str) == ("rows" : Str)) = true := beq_self_eq_true _
  simp only [List.lookup, e]
/-- what is now -/
theorem KAt.top {K : PySem.W.Frag} {C : Addr} {H : Hp} {o dx r : Addr} {pre : List KSt} {s : KSt} (k : KAt K C H o dx r pre s) : ∃ vp u b c cs, H r = some (.lst (vp ++ [.ref u])) ∧ DpAll K H vp (pre.map stD) ∧ vp.length = pre.length ∧
    SqT K H u [.ref b, .ref c, .int s.now] ∧ SqT K H b (s.q.map V.int) ∧ SqT K H c cs ∧ DpAll K H cs (s.sat.map pairD) ∧ cs.length = s.sat.length := by
  obtain ⟨vs, h1, h2⟩ := k.dat
  rw [List.map_append] at h2
  obtain ⟨vp, v, rfl, a, b⟩ := dps_split h2
  have la := dps_length a
  rw [List.length_map] at la
  cases b with
  | @tup u xs _ hu hxs =>
    cases hxs with
    | cons x1 hxs =>
      cases hxs with
      | cons x2 hxs =>
        cases hxs with
        | cons x3 hxs =>
          cases hxs
          cases x3
          obtain ⟨b, rfl, hb⟩ := sqT_of x1
          cases x2 with
          | @tup c cs _ hc hcs =>
            have lc := dps_length hcs
            rw [List.length_map] at lc
            exact ⟨vp, u, b, c, cs, h1, a, la, hu, hb, hc, hcs, lc⟩
theorem eq_stD (s s' : KSt) : PyData.eqv (stD s) (stD s') = decide (s.q = s'.q ∧ s.sat = s'.sat ∧ s.now = s'.now) := by
  have pairs : ∀ a b : List (Int × Int), PyData.eqvAll (a.map pairD) (b.map pairD) = decide (a = b) := by
    intro a
    induction a with
    | nil => intro b; cases b <;> rfl
    | cons x a ih =>
      intro b
      cases b with
      | nil => rfl
      | cons y b =>
        rw [List.map_cons, List.map_cons, PyData.eqvAll, ih b]
        show (((x.1 == y.1) && ((x.2 == y.2) && true)) && decide (a = b)) = decide (x :: a = y :: b)
        obtain ⟨x1, x2⟩ := x
        obtain ⟨y1, y2⟩ := y
        by_cases h1 : x1 = y1
        · by_cases h2 : x2 = y2
          · subst h1 h2; simp
          · simp [h1, h2]
        · simp [h1]
  show (PyData.eqvAll (s.q.map PyData.int) (s'.q.map PyData.int) && (PyData.eqvAll (s.sat.map pairD) (s'.sat.map pairD) && (((s.now : Int) == (s'.now : Int)) && true))) = _
  rw [eqv_ints, pairs]
  by_cases h1 : s.q = s'.q
  · by_cases h2 : s.sat = s'.sat
    · by_cases h3 : s.now = s'.now
      · simp [h1, h2, h3]
      · have : ¬ (s.now : Int) = (s'.now : Int) := fun z => h3 (by omega)
        simp [h1, h2, h3, this]
    · simp [h1, h2]
  · simp [h1]
theorem sh_st (s : KSt) : SeqAt.shaped (stD s) = true := by
  have i1 : ∀ d ∈ s.q.map PyData.int, d.canLay0 = true ∧ d.depth ≤ 0 := fun d h => by obtain ⟨i, _, rfl⟩ := List.mem_map.mp h; exact ⟨rfl, Nat.le_refl _⟩
  have i2 : ∀ d ∈ s.sat.map pairD, d.canLay0 = true ∧ d.depth ≤ 1 := fun d h => by obtain ⟨i, _, rfl⟩ := List.mem_map.mp h; exact ⟨rfl, Nat.le_refl 1⟩
  refine shaped_tuple (n := 2) (fun d h => ?_) (fun d h => ?_) (by omega)
  · have h' : d = tupI s.q ∨ d = .tuple (s.sat.map pairD) ∨ d = .int s.now := by simpa using h
    rcases h' with rfl | rfl | rfl
    · rw [tupI, PyData.canLay0]
      exact lay_of fun d h => (i1 d h).1
    · rw [PyData.canLay0]
      exact lay_of fun d h => (i2 d h).1
    · rfl
  · have h' : d = tupI s.q ∨ d = .tuple (s.sat.map pairD) ∨ d = .int s.now := by simpa using h
    rcases h' with rfl | rfl | rfl
    · rw [tupI, PyData.depth]
      have := depth_of fun d h => (i1 d h).2
      omega
    · rw [PyData.depth]
      have := depth_of fun d h => (i2 d h).2
      omega
    · exact Nat.zero_le _
end Ai
namespace Ai
open PySem PySem.Spec PyProof.Rows L2
def st0 : KSt := ⟨[], [], 0⟩
theorem st0_ok : SOk st0 := ⟨Nat.zero_le _, fun r h => (nomatch h), Nat.le_refl _, Nat.zero_le _⟩
def sp_Kept___init__ {K : PySem.W.Frag} {mg : Str → Option Value} (T : Fns K mg) : Sp := fun vs H Q _ => ∃ (o dx : Addr), vs = [.ref o] ∧ H o = some (.ins T.a_Kept dx []) ∧
  ∀ H' r, Fr o H H' → H r = none → KAt K T.a_Kept H' o dx r [] st0 → Q .non H'
section
variable {P : Program} {w : World} {K : PySem.W.Frag} {mg : Str → Option Value} {base : Heap}
theorem ok_Kept___init__ (T : Fns K mg) : FnOk P w K mg base CX0 1 T.a_Kept___init__ T.d_Kept___init__ ["self"] (sp_Kept___init__ T) := by
  refine T.F_Kept___init__.ok sc_Kept___init__ (fun vs H Q E h => ?_) (fun cdv A outer s H vs Q E hr h => ?_)
  · obtain ⟨o, dx, rfl, _⟩ := h
    rfl
  · obtain ⟨o, dx, rfl, ho, k⟩ := h
    refine ⟨_, (pss_one (ps_fld (pv 0) (pe_lst (pa_cons (pe_tup (pa_cons (pe_tup pa_nil) (pa_cons (pe_tup pa_nil) (pa_cons pe_int pa_nil)))) pa_nil)) rfl)), ?_⟩
    refine ⟨Nat.zero_le _, fun a ha => ⟨Nat.zero_le _, fun b hb => ⟨(by show 3 ≤ sizeLine; decide), fun c hc => ⟨(by show 1 ≤ sizeLine; decide), fun l hl => ?_⟩⟩⟩⟩
    have s1 : Same H (upd (upd (upd (upd H a (.tup [])) b (.tup [])) c (.tup [.ref a, .ref b, .int 0])) l (.lst [.ref c])) := (((same_new ha).new hb).new hc).new hl
    refine ⟨_, rfl, o, _, dx, [], rfl, s1 _ _ ho, T.cl_Kept, T.na_rows, (by decide), ?_⟩
    have nlo : l ≠ o := fun e => by
      have := (((same_new (o := .tup []) ha).new (o := .tup []) hb).new (o := .tup [.ref a, .ref b, .int 0]) hc) _ _ ho
      rw [← e, hl] at this
      cases this
    have hla : (upd (upd (upd (upd H a (.tup [])) b (.tup [])) c (.tup [.ref a, .ref b, .int 0])) l (.lst [.ref c])) l = some (.lst [.ref c]) := upd_same
    have hc1 := (same_new (o := .lst [.ref c]) hl) _ _ (upd_same (H := upd (upd H a (.tup [])) b (.tup [])) (a := c) (o := .tup [.ref a, .ref b, .int 0]))
    have hb1 := (same_new (o := .lst [.ref c]) hl) _ _ ((same_new (o := .tup [.ref a, .ref b, .int 0]) hc) _ _ (upd_same (H := upd H a (.tup [])) (a := b) (o := .tup [])))
    have ha1 := (same_new (o := .lst [.ref c]) hl) _ _ ((same_new (o := .tup [.ref a, .ref b, .int 0]) hc) _ _ ((same_new (o := .tup []) hb) _ _ (upd_same (H := H) (a := a) (o := .tup []))))
    have f1 : Fr o H (upd (upd (upd (upd H a (.tup [])) b (.tup [])) c (.tup [.ref a, .ref b, .int 0])) l (.lst [.ref c])) := .of s1
    have nl : H l = none := (((same_new (o := .tup []) ha).new (o := .tup []) hb).new (o := .tup [.ref a, .ref b, .int 0]) hc).free hl
    have ho1 := s1 _ _ ho
    generalize upd (upd (upd (upd H a (.tup [])) b (.tup [])) c (.tup [V.ref a, V.ref b, V.int 0])) l (.lst [V.ref c]) = H1 at *
    have ne : ∀ (z : Addr) (x : List V), H1 z = some (.tup x) → z ≠ o := fun z x h e => by rw [e, ho1] at h; cases h
    refine k _ l f1.mut nl ⟨upd_same, ⟨[.ref c], by rw [upd_ne nlo]; exact hla, ?_⟩, fun x hx => ?_, Nat.zero_le _⟩
    · refine .cons (.tup (.of (by rw [upd_ne (ne _ _ hc1)]; exact hc1)) (.cons (.tup (xs := []) (.of (by rw [upd_ne (ne _ _ ha1)]; exact ha1)) .nil) (.cons (.tup (xs := []) (.of (by rw [upd_ne (ne _ _ hb1)]; exact hb1)) .nil) (.cons (.int _) .nil)))) .nil
    · have : x = st0 := by simpa using hx
      rw [this]
      exact st0_ok
end
end Ai
namespace Ai
open PySem PySem.Spec PyProof.Rows L2
def sp_Kept___len__ {K : PySem.W.Frag} {mg : Str → Option Value} (T : Fns K mg) : Sp := fun vs H Q _ => ∃ (o dx r : Addr) (pre : List KSt) (s : KSt), vs = [.ref o] ∧ KAt K T.a_Kept H o dx r pre s ∧ Q (.int s.q.length) H
section
variable {P : Program} {w : World} {K : PySem.W.Frag} {mg : Str → Option Value} {base : Heap}
theorem ok_Kept___len__ (T : Fns K mg) : FnOk P w K mg base CX0 1 T.a_Kept___len__ T.d_Kept___len__ ["self"] (sp_Kept___len__ T) := by
  refine T.F_Kept___len__.ok sc_Kept___len__ (fun vs H Q E h => ?_) (fun cdv A outer s H vs Q E hr h => ?_)
  · obtain ⟨o, dx, r, pre, s, rfl, _⟩ := h
    rfl
  · obtain ⟨o, dx, r, pre, s, rfl, k, q⟩ := h
    refine ⟨_, (pss_one (ps_ret (pe_callB call_len_seq (by rfl) T.n_len PySem.boot_len (pa_cons (pe_ix ix_tup (pe_ix ix_list (pe_fld (pv 0) rfl) (pe_un un_neg pe_int) (fun _ _ => rfl)) pe_int (fun _ _ => rfl)) pa_nil)))), ?_⟩
    obtain ⟨vp, u, b, c, cs, hr, _, _, hu, hb, _⟩ := k.top
    refine ⟨_, rfl, o, _, dx, _, _, rfl, k.ins, T.cl_Kept, T.na_rows, lk_rows, _, rfl, r, _, _, _, rfl, rfl, .of hr, atI_last _ _, u, _, _, _, rfl, rfl, hu, atI_nat (j := 0) rfl, b, _, rfl, .inr hb, ?_⟩
    rw [List.length_map]
    exact q
end
end Ai
namespace Ai
open PySem PySem.Spec PyProof.Rows L2
def sp_Kept___eq__ {K : PySem.W.Frag} {mg : Str → Option Value} (T : Fns K mg) : Sp := fun vs H Q _ => ∃ (o dx r : Addr) (pre : List KSt) (s : KSt) (y : V), vs = [.ref o, y] ∧ KAt K T.a_Kept H o dx r pre s ∧
  ((∃ d, Dp K H y (.tuple d) ∧ Q (.bl false) H) ∨ ∃ (o' dx' r' : Addr) (pre' : List KSt) (s' : KSt), y = .ref o' ∧ KAt K T.a_Kept H o' dx' r' pre' s' ∧ Q (.bl (decide (s.q = s'.q ∧ s.sat = s'.sat ∧ s.now = s'.now))) H)
section
variable {P : Program} {w : World} {K : PySem.W.Frag} {mg : Str → Option Value} {base : Heap}
theorem ok_Kept___eq__ (T : Fns K mg) : FnOk P w K mg base CX0 1 T.a_Kept___eq__ T.d_Kept___eq__ ["self", "other"] (sp_Kept___eq__ T) := by
  refine T.F_Kept___eq__.ok sc_Kept___eq__ (fun vs H Q E h => ?_) (fun cdv A outer s H vs Q E hr h => ?_)
  · obtain ⟨o, dx, r, pre, s, y, rfl, _⟩ := h
    rfl
  · obtain ⟨o, dx, r, pre, s, y, rfl, k, q⟩ := h
    refine ⟨_, (pss_cons (ps_if (pt_not (pt_val (pe_callB call_isi (by rfl) T.n_isinstance (by decide +kernel) (pa_cons (pv 1) (pa_cons (pe_glob (v := .ref T.a_Kept) (by rfl) T.g_Kept rfl) pa_nil))))) (pss_one (ps_ret pe_bl)) pss_nil)
    (pss_one (ps_ret (pe_cmpR (op_eqD hr.units) (pe_ix ix_list (pe_fld (pv 0) rfl) (pe_un un_neg pe_int) (fun _ _ => rfl)) (pe_ix ix_list (pe_fld (pv 1) rfl) (pe_un un_neg pe_int) (fun _ _ => rfl)) (nomark _))))), ?_⟩
    rcases q with ⟨d, hd, q⟩ | ⟨o', dx', r', pre', s', rfl, k', q⟩
    · exact ⟨_, rfl, _, _, _, _, _, rfl, .own _, dp_ty hd, T.kt_Kept, false, rfl, q⟩
    · refine ⟨_, rfl, _, _, _, _, _, rfl, .own _, .base (.ins k'.ins T.cl_Kept T.ha_Kept T.hn_Kept T.ht_Kept T.hm_Kept), kit_self _ _, true, rfl, ?_⟩
      refine ite2 (fun c => nomatch c) (fun _ => ?_)
      obtain ⟨vs, hr, hds⟩ := k.dat
      obtain ⟨vs', hr', hds'⟩ := k'.dat
      rw [List.map_append] at hds hds'
      obtain ⟨vp, v, rfl, _, hv⟩ := dps_split hds
      obtain ⟨vp', v', rfl, _, hv'⟩ := dps_split hds'
      refine ⟨_, rfl, o, _, dx, _, _, rfl, k.ins, T.cl_Kept, T.na_rows, lk_rows, _, rfl, r, _, _, _, rfl, rfl, .of hr, atI_last _ _, ?_⟩
      refine ⟨_, rfl, o', _, dx', _, _, rfl, k'.ins, T.cl_Kept, T.na_rows, lk_rows, _, rfl, r', _, _, _, rfl, rfl, .of hr', atI_last _ _, ?_⟩
      refine ⟨_, _, hv, hv', sh_st s, sh_st s', ?_⟩
      rw [eq_stD]
      exact q
end
end Ai
namespace Ai
open PySem PySem.Spec PyProof.Rows L2
theorem KAt.push {K : PySem.W.Frag} {C : Addr} {H : Hp} {o dx r : Addr} {pre : List KSt} {s s' : KSt} {vs : List V} {w : V} (k : KAt K C H o dx r pre s) (h : H r = some (.lst vs)) (hw : Dp K H w (stD s')) (ok : SOk s') (few : pre.length < 200) :
    KAt K C (upd H r (.lst (vs ++ [w]))) o dx r (pre ++ [s]) s' := by
  obtain ⟨vs', h1, h2⟩ := k.dat
  obtain rfl : vs = vs' := by rw [h1] at h; cases h; rfl
  have f : Fr r H (upd H r (.lst (vs ++ [w]))) := Fr.mut (fun b o _ e => e)
  have nor : o ≠ r := fun e => by have := k.ins; rw [e, h1] at this; cases this
  refine ⟨f _ _ nor k.ins, ⟨vs ++ [w], upd_same, ?_⟩, fun x hx => ?_, by rw [List.length_append]; show pre.length + 1 ≤ 200; omega⟩
  · rw [List.map_append]
    refine dps_append (dps_fr h1 f _ _ (stD_only _) h2) (.cons (dp_fr h1 f _ _ ?_ hw) .nil)
    have := stD_only [s']
    simp only [List.map_cons, List.map_nil, tOnlyA, Bool.and_true] at this
    exact this
  · rcases List.mem_append.mp hx with h | h
    · exact k.ok x h
    · have : x = s' := by simpa using h
      rw [this]
      exact ok
theorem KAt.cur {K : PySem.W.Frag} {C : Addr} {H : Hp} {o dx r : Addr} {pre : List KSt} {s : KSt} (k : KAt K C H o dx r pre s) : SOk s := k.ok s (by simp)
def sp_Kept_join {K : PySem.W.Frag} {mg : Str → Option Value} (T : Fns K mg) : Sp := fun vs H Q E => ∃ (o dx r : Addr) (pre : List KSt) (s : KSt) (u : V) (e : PyData), vs = [.ref o, u] ∧ KAt K T.a_Kept H o dx r pre s ∧ Dp K H u e ∧ pre.length < 200 ∧
  (rowD e = false → ∀ H', Same H H' → E (.ref T.a_NoRow) none H') ∧ (rowD e = true → s.q.length = 40 → ∀ H', Same H H' → E (.ref T.a_Full) none H') ∧
  (∀ x : Int, e = .int x → 1 ≤ x → x ≤ 99 → s.q.length < 40 → ∀ H', Fr r H H' → KAt K T.a_Kept H' o dx r (pre ++ [s]) ⟨s.q ++ [x], s.sat, s.now⟩ → Q .non H')
section
variable {P : Program} {w : World} {K : PySem.W.Frag} {mg : Str → Option Value} {base : Heap}
theorem ok_Kept_join (T : Fns K mg) : FnOk P w K mg base (L2N.CX P w) 3 T.a_Kept_join T.d_Kept_join ["self", "row"] (sp_Kept_join T) := by
  refine T.F_Kept_join.okN sc_Kept_join (fun vs H Q E h => ?_) (fun cdv A outer s H vs Q E hr h => ?_)
  · obtain ⟨o, dx, r, pre, s, u, e, rfl, _⟩ := h
    rfl
  · obtain ⟨o, dx, r, pre, s, u, e, rfl, k, he, few, q1, q2, q3⟩ := h
    refine ⟨_, (pss_cons (ps_if (pt_not (pt_val (pe_call (E := E0) (ok_is_row T) (hr.mono (by decide)) (by rfl) T.g_is_row T.F_is_row.kp T.b_is_row .nil pass0 (pa_cons (pv 1) pa_nil)))) (pss_one (L2N.ps_raise rfl (L2N.takes_of rfl rfl rfl rfl) (L2N.pmk_own PySem.F.excBase_ValueError T.x_NoRow T.g_NoRow T.kp_NoRow (raises_own T.sb_NoRow T.ty_NoRow) rfl))) pss_nil)
    (pss_cons (ps_if (pt_cmpR op_eq (pe_callB (call_lenOwn (ok_Kept___len__ T) (hr.mono (by decide)) T.m_Kept___len__.at_ T.m_Kept___len__.fn T.b_Kept___len__) (by rfl) T.n_len PySem.boot_len (pa_cons (pv 0) pa_nil)) (pe_glob (v := .int 40) (by rfl) T.c_MOST_FOLK ⟨_, rfl⟩) (nomark _)) (pss_one (L2N.ps_raise rfl (L2N.takes_of rfl rfl rfl rfl) (L2N.pmk_own PySem.F.excBase_ValueError T.x_Full T.g_Full T.kp_Full (raises_own T.sb_Full T.ty_Full) rfl))) pss_nil)
    (pss_cons (ps_asg (pe_ix ix_list (pe_fld (pv 0) rfl) (pe_un un_neg pe_int) (fun _ _ => rfl)) (pg_tup rfl (pgs_cons (pg_name (i := 2) sc_Kept_join.nd rfl (.inl rfl)) (pgs_cons (pg_name (i := 3) sc_Kept_join.nd rfl (.inl rfl)) (pgs_cons (pg_name (i := 4) sc_Kept_join.nd rfl (.inl rfl)) pgs_nil)))))
    (pss_one (ps_expr (pe_bm PySem.F.plainAttrs_list PySem.F.slot_list_append PySem.F.type_list_append mt_append (pe_fld (pv 0) rfl) (pa_cons (pe_tup (pa_cons (pe_op op_catA (pv 2) (pe_tup (pa_cons (pv 1) pa_nil))) (pa_cons (pv 3) (pa_cons (pv 4) pa_nil)))) pa_nil))))))), ?_⟩
    have ok := k.cur
    have h40 := ok.len
    refine ⟨u, rfl, u, e, rfl, he, rowD e, rfl, ?_⟩
    refine ite2 (fun c => ?_) (fun c => ?_)
    · exact q1 (by simpa using c) H (Same.refl _)
    · have c1 : rowD e = true := by simpa using c
      refine ⟨_, rfl, o, dx, _, rfl, k.ins, o, dx, r, pre, s, rfl, k, s.q.length, rfl, by omega, rfl, _, rfl, ?_⟩
      refine ite2 (fun c => ?_) (fun c => ?_)
      · have c2 := of_decide_eq_true c
        exact q2 c1 (by have := V.int.inj c2; omega) H (Same.refl _)
      · have c2 : s.q.length < 40 := by
          have : ¬ s.q.length = 40 := fun z => c (decide_eq_true (by rw [z]; rfl))
          omega
        obtain ⟨x, rfl, x1, x2⟩ := rowD_inv c1
        cases he
        obtain ⟨vp, a, b, c, cs, hr, hvp, lvp, hu, hb, hc, hcs, lcs⟩ := k.top
        refine ⟨_, rfl, o, _, dx, _, _, rfl, k.ins, T.cl_Kept, T.na_rows, lk_rows, _, rfl, r, _, _, _, rfl, rfl, .of hr, atI_last _ _, a, _, rfl, hu, rfl, _, _, rfl, _, _, rfl, _, _, rfl, rfl, ?_⟩
        refine ⟨_, rfl, o, _, dx, _, _, rfl, k.ins, T.cl_Kept, T.na_rows, lk_rows, .inl ⟨rfl, _, .of hr⟩, _, rfl, _, rfl, (by show 1 ≤ sizeLine; decide), fun t ht => ?_⟩
        have s1 : Same H (upd H t (.tup [.int x])) := same_new ht
        refine cat_go (q' := [x]) (s1.tup hb) (.of upd_same) (by show s.q.length + 1 ≤ 1000; omega) fun H2 d s2 hd => ?_
        refine ⟨_, rfl, _, rfl, (by show 3 ≤ sizeLine; decide), fun w hw => ?_⟩
        have s3 : Same H (upd H2 w (.tup [.ref d, .ref c, .int s.now])) := (s1.trans s2).new hw
        have hw3 : (upd H2 w (.tup [V.ref d, V.ref c, V.int s.now])) w = some (.tup [V.ref d, V.ref c, V.int s.now]) := upd_same
        have hd3 := (same_new (o := .tup [V.ref d, V.ref c, V.int s.now]) hw).tup hd
        generalize upd H2 w (.tup [V.ref d, V.ref c, V.int s.now]) = H3 at *
        have hr3 := s3 _ _ hr
        refine ⟨r, _, _, rfl, rfl, hr3, (by rw [List.length_append, lvp]; exact small1000 (show pre.length + 1 ≤ 1000 by omega)), ?_⟩
        refine q3 x rfl x1 x2 c2 _ (Fr.mut (Fr.of s3)) (KAt.push (k.same s3) hr3 ?_ ⟨?_, fun y hy => ?_, ok.sat, ok.now⟩ few)
        · exact .tup (.of hw3) (.cons (dp_intsT hd3) (.cons (.tup (s3.tup hc) (s3.dp' hcs)) (.cons (.int _) .nil)))
        · show (s.q ++ [x]).length ≤ 40
          rw [List.length_append]
          show s.q.length + 1 ≤ 40
          omega
        · rcases List.mem_append.mp hy with h | h
          · exact ok.rows y h
          · have : y = x := by simpa using h
            omega
end
end Ai
namespace Ai
open PySem PySem.Spec PyProof.Rows L2
def sp_Kept_back {K : PySem.W.Frag} {mg : Str → Option Value} (T : Fns K mg) : Sp := fun vs H Q E => ∃ (o dx r : Addr) (pre : List KSt) (s : KSt), vs = [.ref o] ∧ KAt K T.a_Kept H o dx r pre s ∧
  (pre = [] → E (.ref T.a_NothingLeft) none H) ∧ (∀ pre' s', pre = pre' ++ [s'] → ∀ H', Fr r H H' → KAt K T.a_Kept H' o dx r pre' s' → Q .non H')
section
variable {P : Program} {w : World} {K : PySem.W.Frag} {mg : Str → Option Value} {base : Heap}
theorem ok_Kept_back (T : Fns K mg) : FnOk P w K mg base (L2N.CX P w) 1 T.a_Kept_back T.d_Kept_back ["self"] (sp_Kept_back T) := by
  refine T.F_Kept_back.okN sc_Kept_back (fun vs H Q E h => ?_) (fun cdv A outer s H vs Q E hr h => ?_)
  · obtain ⟨o, dx, r, pre, s, rfl, _⟩ := h
    rfl
  · obtain ⟨o, dx, r, pre, s, rfl, k, q1, q2⟩ := h
    refine ⟨_, (pss_cons (ps_if (pt_cmpR op_eq (pe_callB call_len_seq (by rfl) T.n_len PySem.boot_len (pa_cons (pe_fld (pv 0) rfl) pa_nil)) pe_int (nomark _)) (pss_one (L2N.ps_raise rfl (L2N.takes_of rfl rfl rfl rfl) (L2N.pmk_own PySem.F.excBase_ValueError T.x_NothingLeft T.g_NothingLeft T.kp_NothingLeft (raises_own T.sb_NothingLeft T.ty_NothingLeft) rfl))) pss_nil)
    (pss_one (ps_expr (pe_bm0 PySem.F.plainAttrs_list PySem.F.slot_list_pop PySem.F.type_list_pop mt_pop (pe_fld (pv 0) rfl))))), ?_⟩
    obtain ⟨vs, hr, hds⟩ := k.dat
    have lv := dps_length hds
    rw [List.length_map, List.length_append] at lv
    have lv : vs.length = pre.length + 1 := lv
    refine ⟨_, rfl, o, _, dx, _, _, rfl, k.ins, T.cl_Kept, T.na_rows, lk_rows, r, _, rfl, .inl (.of hr), rfl, _, rfl, ?_⟩
    refine ite2 (fun c => ?_) (fun c => ?_)
    · have c2 := V.int.inj (of_decide_eq_true c)
      exact q1 (List.eq_nil_of_length_eq_zero (by omega))
    · have c2 : pre ≠ [] := fun z => c (decide_eq_true (by rw [lv, z]; rfl))
      obtain ⟨pre', s', rfl⟩ : ∃ pre' s', pre = pre' ++ [s'] := ⟨pre.dropLast, pre.getLast c2, (List.dropLast_concat_getLast c2).symm⟩
      rw [List.map_append] at hds
      obtain ⟨vp, v, rfl, hvp, hv⟩ := dps_split hds
      refine ⟨_, rfl, o, _, dx, _, _, rfl, k.ins, T.cl_Kept, T.na_rows, lk_rows, .inl ⟨rfl, _, .of hr⟩, r, _, v, rfl, rfl, hr, (by simp), ?_⟩
      have f : Fr r H (upd H r (.lst ((vp ++ [v]).dropLast))) := Fr.mut (fun b o _ e => e)
      have nor : o ≠ r := fun e => by have := k.ins; rw [e, hr] at this; cases this
      refine q2 pre' s' rfl _ f ⟨f _ _ nor k.ins, ⟨vp, ?_, dps_fr hr f _ _ (stD_only _) hvp⟩, fun x hx => k.ok x (List.mem_append_left _ hx), by have := k.few; rw [List.length_append] at this; omega⟩
      rw [upd_same, List.dropLast_concat]
end
end Ai
namespace Ai
open PySem PySem.Spec PyProof.Rows L2
def sp_Kept_queue {K : PySem.W.Frag} {mg : Str → Option Value} (T : Fns K mg) : Sp := fun vs H Q _ => ∃ (o dx r : Addr) (pre : List KSt) (s : KSt), vs = [.ref o] ∧ KAt K T.a_Kept H o dx r pre s ∧ ∀ b, SqT K H b (s.q.map V.int) → Q (.ref b) H
section
variable {P : Program} {w : World} {K : PySem.W.Frag} {mg : Str → Option Value} {base : Heap}
theorem ok_Kept_queue (T : Fns K mg) : FnOk P w K mg base CX0 1 T.a_Kept_queue T.d_Kept_queue ["self"] (sp_Kept_queue T) := by
  refine T.F_Kept_queue.ok sc_Kept_queue (fun vs H Q E h => ?_) (fun cdv A outer s H vs Q E hr h => ?_)
  · obtain ⟨o, dx, r, pre, s, rfl, _⟩ := h
    rfl
  · obtain ⟨o, dx, r, pre, s, rfl, k, q⟩ := h
    refine ⟨_, (pss_one (ps_ret (pe_ix ix_tup (pe_ix ix_list (pe_fld (pv 0) rfl) (pe_un un_neg pe_int) (fun _ _ => rfl)) pe_int (fun _ _ => rfl)))), ?_⟩
    obtain ⟨vp, u, b, c, cs, hr, _, _, hu, hb, _⟩ := k.top
    exact ⟨_, rfl, o, _, dx, _, _, rfl, k.ins, T.cl_Kept, T.na_rows, lk_rows, _, rfl, r, _, _, _, rfl, rfl, .of hr, atI_last _ _, u, _, _, _, rfl, rfl, hu, atI_nat (j := 0) rfl, q b hb⟩
end
end Ai
namespace Ai
open PySem PySem.Spec PyProof.Rows L2
def sp_Kept_sat {K : PySem.W.Frag} {mg : Str → Option Value} (T : Fns K mg) : Sp := fun vs H Q _ => ∃ (o dx r : Addr) (pre : List KSt) (s : KSt), vs = [.ref o] ∧ KAt K T.a_Kept H o dx r pre s ∧
  ∀ H' l cs, Same H H' → H l = none → H' l = some (.lst cs) → DpAll K H cs (s.sat.map pairD) → Q (.ref l) H'
section
variable {P : Program} {w : World} {K : PySem.W.Frag} {mg : Str → Option Value} {base : Heap}
theorem ok_Kept_sat (T : Fns K mg) : FnOk P w K mg base CX0 1 T.a_Kept_sat T.d_Kept_sat ["self"] (sp_Kept_sat T) := by
  refine T.F_Kept_sat.ok sc_Kept_sat (fun vs H Q E h => ?_) (fun cdv A outer s H vs Q E hr h => ?_)
  · obtain ⟨o, dx, r, pre, s, rfl, _⟩ := h
    rfl
  · obtain ⟨o, dx, r, pre, s, rfl, k, q⟩ := h
    refine ⟨_, (pss_one (ps_ret (pe_callTy call_list_of (by rfl) T.n_list (by decide +kernel) (pa_cons (pe_ix ix_tup (pe_ix ix_list (pe_fld (pv 0) rfl) (pe_un un_neg pe_int) (fun _ _ => rfl)) pe_int (fun _ _ => rfl)) pa_nil)))), ?_⟩
    obtain ⟨vp, u, b, c, cs, hr, _, _, hu, hb, hc, hcs, _⟩ := k.top
    exact ⟨_, rfl, o, _, dx, _, _, rfl, k.ins, T.cl_Kept, T.na_rows, lk_rows, _, rfl, r, _, _, _, rfl, rfl, .of hr, atI_last _ _, u, _, _, _, rfl, rfl, hu, atI_nat (j := 1) rfl, c, cs, rfl, .inr hc, fun l hl => q _ l cs (same_new hl) hl upd_same hcs⟩
end
end Ai
namespace Ai
open PySem PySem.Spec PyProof.Rows L2
def sp_Kept_now {K : PySem.W.Frag} {mg : Str → Option Value} (T : Fns K mg) : Sp := fun vs H Q _ => ∃ (o dx r : Addr) (pre : List KSt) (s : KSt), vs = [.ref o] ∧ KAt K T.a_Kept H o dx r pre s ∧ Q (.int s.now) H
section
variable {P : Program} {w : World} {K : PySem.W.Frag} {mg : Str → Option Value} {base : Heap}
theorem ok_Kept_now (T : Fns K mg) : FnOk P w K mg base CX0 1 T.a_Kept_now T.d_Kept_now ["self"] (sp_Kept_now T) := by
  refine T.F_Kept_now.ok sc_Kept_now (fun vs H Q E h => ?_) (fun cdv A outer s H vs Q E hr h => ?_)
  · obtain ⟨o, dx, r, pre, s, rfl, _⟩ := h
    rfl
  · obtain ⟨o, dx, r, pre, s, rfl, k, q⟩ := h
    refine ⟨_, (pss_one (ps_ret (pe_ix ix_tup (pe_ix ix_list (pe_fld (pv 0) rfl) (pe_un un_neg pe_int) (fun _ _ => rfl)) pe_int (fun _ _ => rfl)))), ?_⟩
    obtain ⟨vp, u, b, c, cs, hr, _, _, hu, hb, hc, hcs, _⟩ := k.top
    exact ⟨_, rfl, o, _, dx, _, _, rfl, k.ins, T.cl_Kept, T.na_rows, lk_rows, _, rfl, r, _, _, _, rfl, rfl, .of hr, atI_last _ _, u, _, _, _, rfl, rfl, hu, atI_nat (j := 2) rfl, q⟩
end
end Ai
namespace Ai
open PySem PySem.Spec PyProof.Rows L2
def leaveD (q : List Int) : PyData → Bool
  | .int i => decide (0 ≤ i) && decide (i < (q.length : Int))
  | _ => false
def cutQ (q : List Int) (p : Nat) : List Int := q.take p ++ q.drop (p + 1)
theorem cutQ_length {q : List Int} {p : Nat} : (cutQ q p).length ≤ q.length := by
  unfold cutQ
  rw [List.length_append, List.length_take, List.length_drop]
  omega
theorem cutQ_rows {q : List Int} {p : Nat} (h : Rows q) : Rows (cutQ q p) := fun r hr => by
  rcases List.mem_append.mp hr with z | z
  · exact h r (List.mem_of_mem_take z)
  · exact h r (List.mem_of_mem_drop z)
def sp_Kept_leave {K : PySem.W.Frag} {mg : Str → Option Value} (T : Fns K mg) : Sp := fun vs H Q E => ∃ (o dx r : Addr) (pre : List KSt) (s : KSt) (u : V) (e : PyData), vs = [.ref o, u] ∧ KAt K T.a_Kept H o dx r pre s ∧ Dp K H u e ∧ pre.length < 200 ∧
  (leaveD s.q e = false → ∀ H', Same H H' → E (.ref T.a_NoPlace) none H') ∧
  (∀ p : Nat, e = .int p → p < s.q.length → ∀ H', Fr r H H' → KAt K T.a_Kept H' o dx r (pre ++ [s]) ⟨cutQ s.q p, s.sat, s.now⟩ → Q .non H')
section
variable {P : Program} {w : World} {K : PySem.W.Frag} {mg : Str → Option Value} {base : Heap}
theorem ok_Kept_leave (T : Fns K mg) : FnOk P w K mg base (L2N.CX P w) 3 T.a_Kept_leave T.d_Kept_leave ["self", "place"] (sp_Kept_leave T) := by
  refine T.F_Kept_leave.okN sc_Kept_leave (fun vs H Q E h => ?_) (fun cdv A outer s H vs Q E hr h => ?_)
  · obtain ⟨o, dx, r, pre, s, u, e, rfl, _⟩ := h
    rfl
  · obtain ⟨o, dx, r, pre, s, u, e, rfl, k, he, few, q1, q2⟩ := h
    refine ⟨_, (pss_cons (ps_if (PW.pt (pw_or (pt_not (pt_val (pe_call (E := E0) (ok_is_whole T) (hr.mono (by decide)) (by rfl) T.g_is_whole T.F_is_whole.kp T.b_is_whole .nil pass0 (pa_cons (pv 1) pa_nil)))) (pw_or1 (pt_not (pt_chain op_le op_lt pe_int (pv 1) (pe_callB (call_lenOwn (ok_Kept___len__ T) (hr.mono (by decide)) T.m_Kept___len__.at_ T.m_Kept___len__.fn T.b_Kept___len__) (by rfl) T.n_len PySem.boot_len (pa_cons (pv 0) pa_nil))))))) (pss_one (L2N.ps_raise rfl (L2N.takes_of rfl rfl rfl rfl) (L2N.pmk_own PySem.F.excBase_ValueError T.x_NoPlace T.g_NoPlace T.kp_NoPlace (raises_own T.sb_NoPlace T.ty_NoPlace) rfl))) pss_nil)
    (pss_cons (ps_asg (pe_ix ix_list (pe_fld (pv 0) rfl) (pe_un un_neg pe_int) (fun _ _ => rfl)) (pg_tup rfl (pgs_cons (pg_name (i := 2) sc_Kept_leave.nd rfl (.inl rfl)) (pgs_cons (pg_name (i := 3) sc_Kept_leave.nd rfl (.inl rfl)) (pgs_cons (pg_name (i := 4) sc_Kept_leave.nd rfl (.inl rfl)) pgs_nil)))))
    (pss_one (ps_expr (pe_bm PySem.F.plainAttrs_list PySem.F.slot_list_append PySem.F.type_list_append mt_append (pe_fld (pv 0) rfl) (pa_cons (pe_tup (pa_cons (pe_op op_catA (pe_slice sl_tupA (pv 2) po_none (po_some (pv 1))) (pe_slice sl_tupA (pv 2) (po_some (pe_op op_add (pv 1) pe_int)) po_none)) (pa_cons (pv 3) (pa_cons (pv 4) pa_nil)))) pa_nil)))))), ?_⟩
    have ok := k.cur
    have h40 := ok.len
    refine ⟨u, rfl, u, e, rfl, he, wholeD e, rfl, ?_⟩
    cases e with
    | int j =>
      cases he
      refine ⟨_, rfl, _, _, rfl, rfl, _, rfl, ?_⟩
      refine ite2 (fun c1 => ?_) (fun c1 => ?_)
      · refine ⟨_, rfl, o, dx, _, rfl, k.ins, o, dx, r, pre, s, rfl, k, s.q.length, rfl, by omega, _, _, rfl, rfl, _, rfl, ?_⟩
        refine ite2 (fun c2 => ?_) (fun c2 => ?_)
        · refine q1 ?_ H (Same.refl _)
          have c3 : decide (j < (s.q.length : Int)) = false := by simpa using c2
          simp only [leaveD, c3, Bool.and_false]
        · have c4 : 0 ≤ j := of_decide_eq_true c1
          have c5 : j < (s.q.length : Int) := by simpa using c2
          obtain ⟨p, rfl⟩ := Int.eq_ofNat_of_zero_le c4
          obtain ⟨vp, a, b, c, cs, hr, hvp, lvp, hu, hb, hc, hcs, lcs⟩ := k.top
          refine ⟨_, rfl, o, _, dx, _, _, rfl, k.ins, T.cl_Kept, T.na_rows, lk_rows, _, rfl, r, _, _, _, rfl, rfl, .of hr, atI_last _ _, a, _, rfl, hu, rfl, _, _, rfl, _, _, rfl, _, _, rfl, rfl, ?_⟩
          refine ⟨_, rfl, o, _, dx, _, _, rfl, k.ins, T.cl_Kept, T.na_rows, lk_rows, .inl ⟨rfl, _, .of hr⟩, ?_⟩
          refine ⟨_, rfl, _, rfl, _, rfl, slA_to hb fun H1 b1 s1 hb1 => ?_⟩
          refine ⟨_, rfl, _, rfl, _, _, rfl, rfl, ((p + 1 : Nat) : Int), rfl, ?_⟩
          unfold tNoPart
          refine slA_from (p := p + 1) (s1.tup hb) fun H2 b2 s2 hb2 => ?_
          refine cat_go (s2.tup hb1) hb2 (by rw [List.length_take, List.length_drop]; omega) fun H3 d s3 hd => ?_
          refine ⟨_, rfl, _, rfl, (by show 3 ≤ sizeLine; decide), fun w hw => ?_⟩
          have s4 : Same H (upd H3 w (.tup [.ref d, .ref c, .int s.now])) := ((s1.trans s2).trans s3).new hw
          have hw4 : (upd H3 w (.tup [V.ref d, V.ref c, V.int s.now])) w = some (.tup [V.ref d, V.ref c, V.int s.now]) := upd_same
          have hd4 := (same_new (o := .tup [V.ref d, V.ref c, V.int s.now]) hw).tup hd
          generalize upd H3 w (.tup [V.ref d, V.ref c, V.int s.now]) = H4 at *
          have hr4 := s4 _ _ hr
          refine ⟨r, _, _, rfl, rfl, hr4, (by rw [List.length_append, lvp]; exact small1000 (show pre.length + 1 ≤ 1000 by omega)), ?_⟩
          refine q2 p rfl (by omega) _ (Fr.mut (Fr.of s4)) (KAt.push (k.same s4) hr4 ?_ ⟨?_, cutQ_rows ok.rows, ok.sat, ok.now⟩ few)
          · exact .tup (.of hw4) (.cons (dp_intsT hd4) (.cons (.tup (s4.tup hc) (s4.dp' hcs)) (.cons (.int _) .nil)))
          · exact Nat.le_trans cutQ_length h40
      · refine ⟨_, rfl, q1 ?_ H (Same.refl _)⟩
        have c5 := Bool.eq_false_iff.mpr c1
        simp only [leaveD, c5, Bool.false_and]
    | _ => exact q1 rfl H (Same.refl _)
end
end Ai
namespace Ai
open PySem PySem.Spec PyProof.Rows L2
def turnS (s : KSt) : KSt := ⟨lfQ s.q, s.sat ++ (dnQ s.q).map (fun x => ((s.now : Int) + 1, x)), s.now + 1⟩
theorem cat_any {K : PySem.W.Frag} {H : Hp} {a b : Addr} {xs ys : List V} {Q : VK} (ha : SqT K H a xs) (hb : SqT K H b ys) (hl : xs.length + ys.length ≤ sizeLine) (h : ∀ H' p, Same H H' → SqT K H' p (xs ++ ys) → Q (.ref p) H') : rCatA K (.ref a) (.ref b) H Q := by
  refine ⟨a, b, _, _, rfl, rfl, ha, hb, hl, fun e => ?_, fun _ e => ?_, fun _ _ p hp => ?_⟩
  · subst e
    exact h H b (Same.refl _) hb
  · subst e
    exact h H a (Same.refl _) (by rw [List.append_nil]; exact ha)
  · exact h _ p (same_new hp) (.of upd_same)
theorem turnS_ok {s : KSt} (h : SOk s) (hn : s.now < 200) : SOk (turnS s) := by
  refine ⟨Nat.le_trans (lfQ_length _) h.len, lfQ_rows h.rows, ?_, hn⟩
  show (s.sat ++ (dnQ s.q).map _).length ≤ 40 * (s.now + 1)
  rw [List.length_append, List.length_map]
  have := h.sat
  have := dnQ_length s.q
  have := h.len
  omega
def sp_Kept_turn {K : PySem.W.Frag} {mg : Str → Option Value} (T : Fns K mg) : Sp := fun vs H Q _ => ∃ (o dx r : Addr) (pre : List KSt) (s : KSt), vs = [.ref o] ∧ KAt K T.a_Kept H o dx r pre s ∧ pre.length < 200 ∧ s.now < 200 ∧
  ∀ H' t, Fr r H H' → KAt K T.a_Kept H' o dx r (pre ++ [s]) (turnS s) → SqT K H' t ((dnQ s.q).map V.int) → Q (.ref t) H'
section
variable {P : Program} {w : World} {K : PySem.W.Frag} {mg : Str → Option Value} {base : Heap}
theorem ok_Kept_turn (T : Fns K mg) : FnOk P w K mg base CX0 2 T.a_Kept_turn T.d_Kept_turn ["self"] (sp_Kept_turn T) := by
  refine T.F_Kept_turn.ok sc_Kept_turn (fun vs H Q E h => ?_) (fun cdv A outer s H vs Q E hr h => ?_)
  · obtain ⟨o, dx, r, pre, s, rfl, _⟩ := h
    rfl
  · obtain ⟨o, dx, r, pre, s, rfl, k, few, hnow, q⟩ := h
    refine ⟨_, (pss_cons (ps_asg (pe_ix ix_list (pe_fld (pv 0) rfl) (pe_un un_neg pe_int) (fun _ _ => rfl)) (pg_tup rfl (pgs_cons (pg_name (i := 4) sc_Kept_turn.nd rfl (.inl rfl)) (pgs_cons (pg_name (i := 5) sc_Kept_turn.nd rfl (.inl rfl)) (pgs_cons (pg_name (i := 6) sc_Kept_turn.nd rfl (by first | exact .inl rfl | exact .inr rfl)) pgs_nil)))))
    (pss_cons (ps_set (i := 1) sc_Kept_turn.nd rfl (.inl rfl) (pe_call (E := E0) (ok_stands T) (hr.mono (by decide)) (by rfl) T.g_stands T.F_stands.kp T.b_stands .nil pass0 (pa_cons (pv 4) (pa_cons (pe_listRg rfl (by rfl) T.n_list (prg_1 (by rfl) T.n_range (pe_callB call_len_seq (by rfl) T.n_len PySem.boot_len (pa_cons (pv 4) pa_nil)))) pa_nil))))
    (pss_cons (ps_set (i := 2) sc_Kept_turn.nd rfl (.inl rfl) (pe_callTy call_tuple_of (by rfl) T.n_tuple (by decide +kernel) (pa_cons (pe_lc (own := [("row", 7), ("spot", 8)]) (g := gTup K 2 (gCons (gName 7) (gCons (gName 8) gNil))) rfl sc_Kept_turn.nd (pi_zipM (by rfl) T.n_zip (pa_cons (pv 4) (pa_cons (pv 1) pa_nil))) (blkOk_by (N := ["self", "spots", "down", "left", "queue", "sat", "now", "row", "spot"]) (sc := defScope s_Kept_turn) (by decide +kernel)) (fun _ _ _ _ _ => (pg_tup rfl (pgs_cons (pg_name (i := 7) sc_Kept_turn.nd rfl (by first | exact .inl rfl | exact .inr rfl)) (pgs_cons (pg_name (i := 8) sc_Kept_turn.nd rfl (by first | exact .inl rfl | exact .inr rfl)) pgs_nil)))) (fun _ _ _ _ _ => pts_one (pt_cmpR op_eq (pv 8) (pv 7) (nomark _))) (fun _ _ _ _ _ => (pv 7))) pa_nil)))
    (pss_cons (ps_set (i := 3) sc_Kept_turn.nd rfl (.inl rfl) (pe_callTy call_tuple_of (by rfl) T.n_tuple (by decide +kernel) (pa_cons (pe_lc (own := [("row", 7), ("spot", 8)]) (g := gTup K 2 (gCons (gName 7) (gCons (gName 8) gNil))) rfl sc_Kept_turn.nd (pi_zipM (by rfl) T.n_zip (pa_cons (pv 4) (pa_cons (pv 1) pa_nil))) (blkOk_by (N := ["self", "spots", "down", "left", "queue", "sat", "now", "row", "spot"]) (sc := defScope s_Kept_turn) (by decide +kernel)) (fun _ _ _ _ _ => (pg_tup rfl (pgs_cons (pg_name (i := 7) sc_Kept_turn.nd rfl (by first | exact .inl rfl | exact .inr rfl)) (pgs_cons (pg_name (i := 8) sc_Kept_turn.nd rfl (by first | exact .inl rfl | exact .inr rfl)) pgs_nil)))) (fun _ _ _ _ _ => pts_one (pt_cmpR op_ne (pv 8) (pv 7) (nomark _))) (fun _ _ _ _ _ => (pv 7))) pa_nil)))
    (pss_cons (ps_expr (pe_bm PySem.F.plainAttrs_list PySem.F.slot_list_append PySem.F.type_list_append mt_append (pe_fld (pv 0) rfl) (pa_cons (pe_tup (pa_cons (pv 3) (pa_cons (pe_op op_catA (pv 5) (pe_callTy call_tuple_of (by rfl) T.n_tuple (by decide +kernel) (pa_cons (pe_lc (own := [("row", 7)]) (g := gName 7) (tt := tYes) rfl sc_Kept_turn.nd (pi_tup (pv 2)) (blkOk_by (N := ["self", "spots", "down", "left", "queue", "sat", "now", "row", "spot"]) (sc := defScope s_Kept_turn) (by decide +kernel)) (fun _ _ _ _ _ => (pg_name (i := 7) sc_Kept_turn.nd rfl (by first | exact .inl rfl | exact .inr rfl))) (fun _ _ _ _ _ => pts_nil) (fun _ _ _ _ _ => (pe_tup (pa_cons (pe_op op_add (pv 6) pe_int) (pa_cons (pv 7) pa_nil))))) pa_nil))) (pa_cons (pe_op op_add (pv 6) pe_int) pa_nil)))) pa_nil)))
    (pss_one (ps_ret (pv 2)))))))), ?_⟩
    have ok := k.cur
    have h40 := ok.len
    obtain ⟨vp, a, b, c, cs, hr, hvp, lvp, hu, hb, hc, hcs, lcs⟩ := k.top
    refine ⟨_, rfl, o, _, dx, _, _, rfl, k.ins, T.cl_Kept, T.na_rows, lk_rows, _, rfl, r, _, _, _, rfl, rfl, .of hr, atI_last _ _, a, _, rfl, hu, rfl, _, _, rfl, _, _, rfl, _, _, rfl, rfl, ?_⟩
    -- spots
    refine ⟨_, rfl, _, rfl, b, _, rfl, .inr hb, _, rfl, RgOk.of_le (by omega) (by rw [List.length_map]; omega) (by omega) (by omega), fun l hl => ?_⟩
    have el : rgV 0 (((s.q.map V.int).length : Nat) : Int) = ((List.range s.q.length).map fun i : Nat => (i : Int)).map V.int := by rw [List.length_map, rgV_eq]
    rw [el]
    have s1 : Same H (upd H l (.lst (((List.range s.q.length).map fun i : Nat => (i : Int)).map V.int))) := same_new hl
    refine ⟨b, l, s.q, (List.range s.q.length).map fun i : Nat => (i : Int), rfl, s1.tup hb, .of upd_same, by omega, fun H2 p s2 np hp => ?_⟩
    have eS : stL (inL ((List.range s.q.length).map fun i : Nat => (i : Int))) 100 0 s.q = stL (fun _ => true) 100 0 s.q := by
      refine stL_congr s.q 100 0 fun j hj => ?_
      rw [Nat.zero_add]
      exact decide_eq_true (List.mem_map.mpr ⟨j, List.mem_range.mpr hj, rfl⟩)
    rw [eS] at hp
    have s02 := s1.trans s2
    have lS : (stL (fun _ => true) 100 0 s.q).length = s.q.length := stL_length _ _ _
    have qat : ∀ i, i < s.q.length → (s.q.map V.int)[i]? = some (V.int (s.q.getD i 0)) := fun i hi => by rw [List.getElem?_map, List.getD_eq_getElem?_getD, List.getElem?_eq_getElem hi]; rfl
    have sat' : ∀ i, i < s.q.length → ((stL (fun _ => true) 100 0 s.q).map ov)[i]? = some (ov ((stL (fun _ => true) 100 0 s.q).getD i none)) := fun i hi => by rw [List.getElem?_map, List.getD_eq_getElem?_getD, List.getElem?_eq_getElem (by omega)]; rfl
    have eqs : ∀ i, i < s.q.length → decide (ov ((stL (fun _ => true) 100 0 s.q).getD i none) = V.int (s.q.getD i 0)) = !inSt s.q i := fun i hi => by
      obtain ⟨x, hx, hxi⟩ := spot_all hi
      have e : (stL (fun _ => true) 100 0 s.q).getD i none = some x := by rw [List.getD_eq_getElem?_getD, hx]; rfl
      rw [e]
      by_cases z : inSt s.q i = true
      · rw [z]
        refine decide_eq_false fun y => ?_
        have := hxi.mp (V.int.inj y)
        rw [z] at this
        cases this
      · have z' := Bool.eq_false_iff.mpr z
        rw [z']
        exact decide_eq_true (congrArg V.int (hxi.mpr z'))
    -- down
    refine ⟨_, rfl, _, rfl, b, p, _, _, rfl, s02.tup hb, .of hp, fun D hD => ?_⟩
    rw [show min (s.q.map V.int).length ((stL (fun _ => true) 100 0 s.q).map ov).length = s.q.length by rw [List.length_map, List.length_map, lS, Nat.min_self]]
    refine lc_data2 (K := K) (walk_zipM (xs := s.q.map V.int) (ys := (stL (fun _ => true) 100 0 s.q).map ov) (n := s.q.length) (by rw [List.length_map, List.length_map, lS, Nat.min_self])) (fun i => .int (s.q.getD i 0)) (fun i => ov ((stL (fun _ => true) 100 0 s.q).getD i none))
      qat sat' (fun i => !inSt s.q i) (fun i => .int (s.q.getD i 0)) (by omega) hD (fun H' s3 => ⟨s3.tup (s02.tup hb), .of (s3 _ _ hp)⟩) (fun x y => rfl) (fun i H' hi s3 Q kq => ?_) (fun i H' hi _ s3 _ Q kq => ?_) (fun H3 ws s3 hw hws => ?_)
    · refine ⟨_, rfl, _, rfl, (by cases (stL (fun _ => true) 100 0 s.q).getD i none <;> rfl), _, rfl, ?_⟩
      rw [eqs i hi]
      exact kq H' (Same.refl _)
    · exact ⟨_, rfl, kq _ H' (Same.refl _) (.int _)⟩
    · have ed : ((List.range s.q.length).filter (fun i => !inSt s.q i)).map (fun i => PyData.int (s.q.getD i 0)) = (dnQ s.q).map PyData.int := by unfold dnQ; rw [List.map_map]; rfl
      rw [ed] at hws
      obtain rfl := dps_inv hws
      refine ⟨D, _, rfl, .inl ⟨.of hw, fun t ht => ?_⟩⟩
      have s03 := (s02.trans s3).new (o := .tup ((dnQ s.q).map V.int)) ht
      have ht4 : (upd H3 t (.tup ((dnQ s.q).map V.int))) t = some (.tup ((dnQ s.q).map V.int)) := upd_same
      have hp4 := (s3.new (o := .tup ((dnQ s.q).map V.int)) ht) _ _ hp
      generalize upd H3 t (.tup ((dnQ s.q).map V.int)) = H4 at s03 ht4 hp4
      -- left
      refine ⟨_, rfl, _, rfl, b, p, _, _, rfl, s03.tup hb, .of hp4, fun D2 hD2 => ?_⟩
      rw [show min (s.q.map V.int).length ((stL (fun _ => true) 100 0 s.q).map ov).length = s.q.length by rw [List.length_map, List.length_map, lS, Nat.min_self]]
      refine lc_data2 (K := K) (walk_zipM (xs := s.q.map V.int) (ys := (stL (fun _ => true) 100 0 s.q).map ov) (n := s.q.length) (by rw [List.length_map, List.length_map, lS, Nat.min_self])) (fun i => .int (s.q.getD i 0)) (fun i => ov ((stL (fun _ => true) 100 0 s.q).getD i none))
        qat sat' (inSt s.q) (fun i => .int (s.q.getD i 0)) (by omega) hD2 (fun H' s5 => ⟨s5.tup (s03.tup hb), .of (s5 _ _ hp4)⟩) (fun x y => rfl) (fun i H' hi s5 Q kq => ?_) (fun i H' hi _ s5 _ Q kq => ?_) (fun H5 ws2 s5 hw2 hws2 => ?_)
      · refine ⟨_, rfl, _, rfl, (by cases (stL (fun _ => true) 100 0 s.q).getD i none <;> rfl), _, rfl, ?_⟩
        rw [eqs i hi, Bool.not_not]
        exact kq H' (Same.refl _)
      · exact ⟨_, rfl, kq _ H' (Same.refl _) (.int _)⟩
      · have ed2 : ((List.range s.q.length).filter (inSt s.q)).map (fun i => PyData.int (s.q.getD i 0)) = (lfQ s.q).map PyData.int := by unfold lfQ; rw [List.map_map]; rfl
        rw [ed2] at hws2
        obtain rfl := dps_inv hws2
        refine ⟨D2, _, rfl, .inl ⟨.of hw2, fun f hf => ?_⟩⟩
        have s06 := (s03.trans s5).new (o := .tup ((lfQ s.q).map V.int)) hf
        have hf6 : (upd H5 f (.tup ((lfQ s.q).map V.int))) f = some (.tup ((lfQ s.q).map V.int)) := upd_same
        have ht6 := (s5.new (o := .tup ((lfQ s.q).map V.int)) hf) _ _ ht4
        generalize upd H5 f (.tup ((lfQ s.q).map V.int)) = H6 at s06 hf6 ht6
        -- self.rows.append(..)
        have k6 := k.same s06
        have hr6 := s06 _ _ hr
        refine ⟨_, rfl, o, _, dx, _, _, rfl, k6.ins, T.cl_Kept, T.na_rows, lk_rows, .inl ⟨rfl, _, .of hr6⟩, ?_⟩
        refine ⟨_, rfl, _, rfl, _, rfl, t, rfl, ⟨_, .of ht6⟩, fun D3 hD3 => ?_⟩
        have lD := dnQ_length s.q
        refine lc_data (K := K) walk_tup (fun i => ((dnQ s.q).map V.int).getD i .non) (fun i H x H' hi _ y => ⟨y.1, ?_⟩) (fun _ => true) (fun i => pairD ((s.now : Int) + 1, (dnQ s.q).getD i 0)) (by rw [List.length_map]; omega) hD3 (fun H' s7 => .of (s7 _ _ ht6)) (fun x => rfl) (fun i H' hi s7 Q kq => kq H' (Same.refl _)) (fun i H' hi _ s7 hDz Q kq => ?_) (fun H7 zs s7 hz hzs => ?_)
        · rw [List.getD_eq_getElem?_getD, y.2]; rfl
        · rw [List.length_map] at hi
          have e1 : ((dnQ s.q).map V.int).getD i .non = .int ((dnQ s.q).getD i 0) := by rw [List.getD_eq_getElem?_getD, List.getElem?_map, List.getElem?_eq_getElem hi, List.getD_eq_getElem?_getD, List.getElem?_eq_getElem hi]; rfl
          rw [e1]
          obtain ⟨us, hus⟩ := hDz
          refine ⟨_, rfl, _, _, rfl, rfl, _, rfl, (by show 2 ≤ sizeLine; decide), fun u hu => kq _ _ (same_new hu) (.tup (tup_hid ⟨us, (same_new hu) _ _ hus⟩ (.of upd_same)) (.cons (.int _) (.cons (.int _) .nil)))⟩
        · have ez : ((List.range ((dnQ s.q).map V.int).length).filter fun _ => true).map (fun i => pairD ((s.now : Int) + 1, (dnQ s.q).getD i 0)) = ((dnQ s.q).map (fun x => ((s.now : Int) + 1, x))).map pairD := by
            rw [List.length_map, range_getD 0 (fun x => pairD ((s.now : Int) + 1, x)), List.map_map]
            rfl
          rw [ez] at hzs
          have lzs := dps_length hzs
          rw [List.length_map, List.length_map] at lzs
          refine ⟨D3, zs, rfl, .inl ⟨.of hz, fun g hg => ?_⟩⟩
          have s08 := (s06.trans s7).new (o := .tup zs) hg
          have hg8 : (upd H7 g (.tup zs)) g = some (.tup zs) := upd_same
          have ht8 := (s7.new (o := .tup zs) hg) _ _ ht6
          have hf8 := (s7.new (o := .tup zs) hg) _ _ hf6
          have hz8 := (same_new (o := .tup zs) hg).dp' hzs
          generalize upd H7 g (.tup zs) = H8 at s08 hg8 ht8 hf8 hz8
          have hss := ok.sat
          refine cat_any (s08.tup hc) (.of hg8) (by have : (100000 : Nat) < sizeLine := by decide
                                                    omega) fun H9 v s9 hv => ?_
          refine ⟨_, rfl, _, _, rfl, rfl, (by show 3 ≤ sizeLine; decide), fun w hw => ?_⟩
          have s10 : Same H (upd H9 w (.tup [.ref f, .ref v, .int ((s.now : Int) + 1)])) := (s08.trans s9).new hw
          have s810 : Same H8 (upd H9 w (.tup [.ref f, .ref v, .int ((s.now : Int) + 1)])) := s9.new hw
          have hw10 : (upd H9 w (.tup [V.ref f, V.ref v, V.int ((s.now : Int) + 1)])) w = some (.tup [V.ref f, V.ref v, V.int ((s.now : Int) + 1)]) := upd_same
          have hv10 := (same_new (o := .tup [V.ref f, V.ref v, V.int ((s.now : Int) + 1)]) hw).tup hv
          generalize upd H9 w (.tup [V.ref f, V.ref v, V.int ((s.now : Int) + 1)]) = H10 at *
          have hr10 := s10 _ _ hr
          refine ⟨r, _, _, rfl, rfl, hr10, (by rw [List.length_append, lvp]; exact small1000 (show pre.length + 1 ≤ 1000 by omega)), ?_⟩
          have kk : KAt K T.a_Kept (upd H10 r (.lst (vp ++ [.ref a] ++ [.ref w]))) o dx r (pre ++ [s]) (turnS s) := KAt.push (k.same s10) hr10 (by
            refine .tup (.of hw10) (.cons (dp_intsT (.of (s810 _ _ hf8))) (.cons (.tup hv10 ?_) (.cons (.int _) .nil)))
            show DpAll K H10 (cs ++ zs) ((s.sat ++ (dnQ s.q).map _).map pairD)
            rw [List.map_append]
            exact dps_append (s10.dp' hcs) (s810.dp' hz8)) (turnS_ok ok hnow) few
          refine ⟨_, rfl, q _ t (Fr.mut (Fr.of s10)) kk ?_⟩
          have ntr : t ≠ r := fun e => by have := s810 _ _ ht8; rw [e, hr10] at this; cases this
          exact .of (by rw [upd_ne ntr]; exact s810 _ _ ht8)
end
end Ai
namespace Ai
open PySem PySem.Spec PyProof.Rows L2
def lohi (lo hi : Int) : PyData → Bool
  | .int i => decide (lo ≤ i) && decide (i ≤ hi)
  | _ => false
def sp_law_is_int (K : PySem.W.Frag) : Sp := fun vs H Q _ => ∃ v d lo hi, vs = [v, .int lo, .int hi] ∧ Dp K H v d ∧ Q (.bl (lohi lo hi d)) H
section
variable {P : Program} {w : World} {K : PySem.W.Frag} {mg : Str → Option Value} {base : Heap}
theorem ok_law_is_int (T : Fns K mg) : FnOk P w K mg base CX0 1 T.a_law_is_int T.d_law_is_int ["thing", "low", "high"] (sp_law_is_int K) := by
  refine T.F_law_is_int.ok sc_law_is_int (fun vs H Q E h => ?_) (fun cdv A outer s H vs Q E hr h => ?_)
  · obtain ⟨v, d, lo, hi, rfl, _⟩ := h
    rfl
  · obtain ⟨v, d, lo, hi, rfl, hd, q⟩ := h
    refine ⟨_, (pss_one (ps_ret (pe_and (pe_callB call_isi (by rfl) T.n_isinstance (by decide +kernel) (pa_cons (pv 0) (pa_cons (pe_bltn (v := .ty "int") (by rfl) T.n_int (by decide +kernel) rfl) pa_nil))) (pe_and (pe_not (pe_callB call_isi (by rfl) T.n_isinstance (by decide +kernel) (pa_cons (pv 0) (pa_cons (pe_bltn (v := .ty "bool") (by rfl) T.n_bool (by decide +kernel) rfl) pa_nil)))) (pe_and (pe_cmpR op_le (pv 1) (pv 0) (nomark _)) (pe_one (pe_cmpR op_le (pv 0) (pv 2) (nomark _)))))))), ?_⟩
    refine ⟨v, rfl, _, _, _, _, _, rfl, .ty _, dp_ty hd, kit_int hd, intB d, rfl, ?_⟩
    refine ite2 (fun e => ?_) (fun e => ?_)
    · refine ⟨v, rfl, _, _, _, _, _, rfl, .ty _, dp_ty hd, kit_bool hd, boolB d, rfl, _, rfl, ?_⟩
      cases d with
      | int i =>
        cases hd
        refine ite2 (fun _ => ?_) (fun c => absurd rfl c)
        refine ⟨_, rfl, _, rfl, lo, i, rfl, rfl, _, rfl, ?_⟩
        refine ite2 (fun e => ?_) (fun e => ?_)
        · refine ⟨_, rfl, _, rfl, i, hi, rfl, rfl, ?_⟩
          have e' : lohi lo hi (.int i) = decide (i ≤ hi) := by simp [lohi, e]
          rw [e'] at q
          exact q
        · have e' : lohi lo hi (.int i) = false := by simp [lohi, e]
          rw [e'] at q
          exact q
      | bool b =>
        refine ite2 (fun c => nomatch c) (fun _ => ?_)
        exact q
      | _ => exact nomatch e
    · cases d <;> first | exact q | exact absurd rfl e
end
end Ai
namespace Ai
open PySem PySem.Spec PyProof.Rows L2
inductive Deed
  | join (u : V) (e : PyData)
  | leave (u : V) (e : PyData)
  | turn
  | back
def Deed.vs : Deed → List V
  | .join u _ => [.str "join", u]
  | .leave u _ => [.str "leave", u]
  | .turn => [.str "turn"]
  | .back => [.str "back"]
def Deed.Ok (K : PySem.W.Frag) : Deed → Prop
  | .join u e => ∀ H, Dp K H u e
  | .leave u e => ∀ H, Dp K H u e
  | _ => True
def iD : PyData → Int
  | .int i => i
  | _ => 0
/-- what a deed tells; what is kept then -/
def stepD (d : Deed) (pre : List KSt) (s : KSt) : PyData × List KSt × KSt :=
  match d with
  | .join _ e => if rowD e = false then (.str (wordN 4), pre, s) else if s.q.length = 40 then (.str (wordN 6), pre, s) else (.none, pre ++ [s], ⟨s.q ++ [iD e], s.sat, s.now⟩)
  | .leave _ e => if leaveD s.q e = false then (.str (wordN 5), pre, s) else (.none, pre ++ [s], ⟨cutQ s.q (iD e).toNat, s.sat, s.now⟩)
  | .turn => (tupI (dnQ s.q), pre ++ [s], turnS s)
  | .back => if pre = [] then (.str (wordN 7), pre, s) else (.none, pre.dropLast, pre.getLastD s)
def sp_law_done {K : PySem.W.Frag} {mg : Str → Option Value} (T : Fns K mg) : Sp := fun vs H Q _ => ∃ (o dx r t : Addr) (pre : List KSt) (s : KSt) (d : Deed), vs = [.ref o, .ref t] ∧ KAt K T.a_Kept H o dx r pre s ∧ SqT K H t d.vs ∧ d.Ok K ∧ pre.length < 200 ∧ s.now < 200 ∧
  ∀ H' v, Fr r H H' → (∀ x, (stepD d pre s).1 = .str x → Same H H') → KAt K T.a_Kept H' o dx r (stepD d pre s).2.1 (stepD d pre s).2.2 → Dp K H' v (stepD d pre s).1 → Q v H'
section
variable {P : Program} {w : World} {K : PySem.W.Frag} {mg : Str → Option Value} {base : Heap}
theorem ok_law_done (T : Fns K mg) : FnOk P w K mg base CX0 4 T.a_law_done T.d_law_done ["kept", "deed"] (sp_law_done T) := by
  refine T.F_law_done.ok sc_law_done (fun vs H Q E h => ?_) (fun cdv A outer s H vs Q E hr h => ?_)
  · obtain ⟨o, dx, r, t, pre, s, d, rfl, _⟩ := h
    rfl
  · obtain ⟨o, dx, r, t, pre, s, d, rfl, k, ht, dok, few, hnow, q⟩ := h
    refine ⟨_, (pss_one (L2N.ps_try_as rfl rfl sc_law_done.nd (i := 2) rfl rfl ⟨by rfl, by decide, .inl T.g_AisleError⟩ takesN0 (fun W pn xe tk hp =>
      (pss_cons (ps_if (pt_cmpR op_eq (pe_ix (show IxR _ (rIxT K) from ix_tup) (pv 1) pe_int (fun _ _ => rfl)) pe_str (nomark _)) (pss_one (ps_ret (pe_methE (pv 0) T.cl_Kept T.m_Kept_join (ok_Kept_join T) (hr.mono (by decide)) T.b_Kept_join (fun σ => L2N.passAt tk σ) (pa_cons (pe_ix (show IxR _ (rIxT K) from ix_tup) (pv 1) pe_int (fun _ _ => rfl)) pa_nil)))) pss_nil)
      (pss_cons (ps_if (pt_cmpR op_eq (pe_ix (show IxR _ (rIxT K) from ix_tup) (pv 1) pe_int (fun _ _ => rfl)) pe_str (nomark _)) (pss_one (ps_ret (pe_methE (pv 0) T.cl_Kept T.m_Kept_leave (ok_Kept_leave T) (hr.mono (by decide)) T.b_Kept_leave (fun σ => L2N.passAt tk σ) (pa_cons (pe_ix (show IxR _ (rIxT K) from ix_tup) (pv 1) pe_int (fun _ _ => rfl)) pa_nil)))) pss_nil)
      (pss_one (ps_ret (pe_ifExp (pt_cmpR op_eq (pe_ix (show IxR _ (rIxT K) from ix_tup) (pv 1) pe_int (fun _ _ => rfl)) pe_str (nomark _)) (pe_meth0 (E := E0) (pv 0) T.cl_Kept T.m_Kept_turn (ok_Kept_turn T) (hr.mono (by decide)) T.b_Kept_turn .nil pass0) (pe_methE0 (pv 0) T.cl_Kept T.m_Kept_back (ok_Kept_back T) (hr.mono (by decide)) T.b_Kept_back (fun σ => L2N.passAt tk σ)))))))) (fun a oe cls d pn hz hf =>
      (pss_one (ps_ret (pe_callZS (ok_law_refusal T) (roomH_mark (hr.mono (by decide))) (hot_suite hz hf) List.mem_cons_self hz.zc (by rfl) T.g_law_refusal T.F_law_refusal.kp T.b_law_refusal (pa_cons (pv 2) pa_nil))))))), ?_⟩
    have jl : ¬ V.str "leave" = V.str "join" := fun z => absurd (V.str.inj z) (by decide)
    have jt : ¬ V.str "turn" = V.str "join" := fun z => absurd (V.str.inj z) (by decide)
    have jb : ¬ V.str "back" = V.str "join" := fun z => absurd (V.str.inj z) (by decide)
    have lt : ¬ V.str "turn" = V.str "leave" := fun z => absurd (V.str.inj z) (by decide)
    have lb : ¬ V.str "back" = V.str "leave" := fun z => absurd (V.str.inj z) (by decide)
    have tb : ¬ V.str "back" = V.str "turn" := fun z => absurd (V.str.inj z) (by decide)
    cases d with
    | join u e =>
      have hu := dok H
      refine ⟨_, rfl, t, _, _, _, rfl, rfl, ht, atI_nat (j := 0) rfl, rfl, _, rfl, ?_⟩
      refine ite2 (fun _ => ?_) (fun c => absurd (decide_eq_true rfl) c)
      refine ⟨_, rfl, o, dx, _, rfl, k.ins, rfl, _, rfl, t, _, _, _, rfl, rfl, ht, atI_nat (j := 1) rfl, o, dx, r, pre, s, u, e, rfl, k, hu, few, fun e1 H1 s1 => ?_, fun e1 e2 H1 s1 => ?_, fun x e1 x1 x2 x3 H1 f1 k1 => ?_⟩
      · refine ⟨true, T.kn_NoRow.ex, fun _ a na => ?_, fun z => nomatch z⟩
        refine ⟨_, rfl, rfl, rfl, _, 4, rfl, T.kn_NoRow, by decide, fun H2 s2 => ?_⟩
        have es : stepD (.join u e) pre s = (.str (wordN 4), pre, s) := by simp only [stepD]; rw [if_pos e1]
        rw [es] at q
        exact q H2 _ (.of (s1.trans s2)) (fun _ _ => s1.trans s2) (k.same (s1.trans s2)) (.str _)
      · refine ⟨true, T.kn_Full.ex, fun _ a na => ?_, fun z => nomatch z⟩
        refine ⟨_, rfl, rfl, rfl, _, 6, rfl, T.kn_Full, by decide, fun H2 s2 => ?_⟩
        have es : stepD (.join u e) pre s = (.str (wordN 6), pre, s) := by simp only [stepD]; rw [if_neg (by rw [e1]; decide), if_pos e2]
        rw [es] at q
        exact q H2 _ (.of (s1.trans s2)) (fun _ _ => s1.trans s2) (k.same (s1.trans s2)) (.str _)
      · subst e1
        have es : stepD (.join u (.int x)) pre s = (.none, pre ++ [s], ⟨s.q ++ [x], s.sat, s.now⟩) := by simp only [stepD]; rw [if_neg (by rw [rowD_int.mpr ⟨x1, x2⟩]; decide), if_neg (by omega)]; rfl
        rw [es] at q
        exact q H1 _ f1 (fun _ z => nomatch z) k1 .non
    | leave u e =>
      have hu := dok H
      refine ⟨_, rfl, t, _, _, _, rfl, rfl, ht, atI_nat (j := 0) rfl, rfl, _, rfl, ?_⟩
      refine ite2 (fun c => absurd (of_decide_eq_true c) jl) (fun _ => ?_)
      refine ⟨_, rfl, t, _, _, _, rfl, rfl, ht, atI_nat (j := 0) rfl, rfl, _, rfl, ?_⟩
      refine ite2 (fun _ => ?_) (fun c => absurd (decide_eq_true rfl) c)
      refine ⟨_, rfl, o, dx, _, rfl, k.ins, rfl, _, rfl, t, _, _, _, rfl, rfl, ht, atI_nat (j := 1) rfl, o, dx, r, pre, s, u, e, rfl, k, hu, few, fun e1 H1 s1 => ?_, fun p e1 x1 H1 f1 k1 => ?_⟩
      · refine ⟨true, T.kn_NoPlace.ex, fun _ a na => ?_, fun z => nomatch z⟩
        refine ⟨_, rfl, rfl, rfl, _, 5, rfl, T.kn_NoPlace, by decide, fun H2 s2 => ?_⟩
        have es : stepD (.leave u e) pre s = (.str (wordN 5), pre, s) := by simp only [stepD]; rw [if_pos e1]
        rw [es] at q
        exact q H2 _ (.of (s1.trans s2)) (fun _ _ => s1.trans s2) (k.same (s1.trans s2)) (.str _)
      · subst e1
        have es : stepD (.leave u (.int p)) pre s = (.none, pre ++ [s], ⟨cutQ s.q p, s.sat, s.now⟩) := by
          have e2 : leaveD s.q (.int p) = true := by simp only [leaveD]; rw [decide_eq_true (by omega), decide_eq_true (by omega)]; rfl
          simp only [stepD]
          rw [if_neg (by rw [e2]; decide)]
          rfl
        rw [es] at q
        exact q H1 _ f1 (fun _ z => nomatch z) k1 .non
    | turn =>
      refine ⟨_, rfl, t, _, _, _, rfl, rfl, ht, atI_nat (j := 0) rfl, rfl, _, rfl, ?_⟩
      refine ite2 (fun c => absurd (of_decide_eq_true c) jt) (fun _ => ?_)
      refine ⟨_, rfl, t, _, _, _, rfl, rfl, ht, atI_nat (j := 0) rfl, rfl, _, rfl, ?_⟩
      refine ite2 (fun c => absurd (of_decide_eq_true c) lt) (fun _ => ?_)
      refine ⟨_, rfl, t, _, _, _, rfl, rfl, ht, atI_nat (j := 0) rfl, rfl, _, rfl, ?_⟩
      refine ite2 (fun _ => ?_) (fun c => absurd (decide_eq_true rfl) c)
      refine ⟨_, rfl, o, dx, _, rfl, k.ins, rfl, o, dx, r, pre, s, rfl, k, few, hnow, fun H1 b f1 k1 hb => ?_⟩
      exact q H1 _ f1 (fun _ z => nomatch z) k1 (dp_intsT hb)
    | back =>
      refine ⟨_, rfl, t, _, _, _, rfl, rfl, ht, atI_nat (j := 0) rfl, rfl, _, rfl, ?_⟩
      refine ite2 (fun c => absurd (of_decide_eq_true c) jb) (fun _ => ?_)
      refine ⟨_, rfl, t, _, _, _, rfl, rfl, ht, atI_nat (j := 0) rfl, rfl, _, rfl, ?_⟩
      refine ite2 (fun c => absurd (of_decide_eq_true c) lb) (fun _ => ?_)
      refine ⟨_, rfl, t, _, _, _, rfl, rfl, ht, atI_nat (j := 0) rfl, rfl, _, rfl, ?_⟩
      refine ite2 (fun c => absurd (of_decide_eq_true c) tb) (fun _ => ?_)
      refine ⟨_, rfl, o, dx, _, rfl, k.ins, rfl, o, dx, r, pre, s, rfl, k, fun e1 => ?_, fun pre' s' e1 H1 f1 k1 => ?_⟩
      · refine ⟨true, T.kn_NothingLeft.ex, fun _ a na => ?_, fun z => nomatch z⟩
        refine ⟨_, rfl, rfl, rfl, _, 7, rfl, T.kn_NothingLeft, by decide, fun H2 s2 => ?_⟩
        have es : stepD .back pre s = (.str (wordN 7), pre, s) := by simp only [stepD]; rw [if_pos e1]
        rw [es] at q
        exact q H2 _ (.of s2) (fun _ _ => s2) (k.same s2) (.str _)
      · subst e1
        have es : stepD .back (pre' ++ [s']) s = (.none, pre', s') := by simp only [stepD]; rw [if_neg (by simp), List.dropLast_concat, List.getLastD_concat]
        rw [es] at q
        exact q H1 _ f1 (fun _ z => nomatch z) k1 .non
end
end Ai
namespace Ai
open PySem PySem.Spec PyProof.Rows L2
/-- what stands in a list of ints, True and None -/
def Scal (K : PySem.W.Frag) (v : V) : Prop := ∃ e, ∀ H, Dp K H v e
theorem six_at {K : PySem.W.Frag} {xs : List V} (h : xs.length = 6) (hs : ∀ v ∈ xs, Scal K v) {m : Int} (m0 : 0 ≤ m) (m1 : m < 6) : ∃ v, atI xs m = some v ∧ Scal K v := by
  obtain ⟨j, rfl⟩ := Int.eq_ofNat_of_zero_le m0
  have hj : j < xs.length := by omega
  exact ⟨xs[j], atI_nat (List.getElem?_eq_getElem hj), hs _ (List.getElem_mem hj)⟩
theorem six_of {K : PySem.W.Frag} (i j k : Int) (v : V) (hv : Scal K v) : ∀ u ∈ [V.int i, V.int j, v, V.int k, V.bl true, V.non], Scal K u := by
  intro u hu
  simp only [List.mem_cons, List.not_mem_nil, or_false] at hu
  rcases hu with rfl | rfl | rfl | rfl | rfl | rfl
  · exact ⟨_, fun H => .int _⟩
  · exact ⟨_, fun H => .int _⟩
  · exact hv
  · exact ⟨_, fun H => .int _⟩
  · exact ⟨_, fun H => .bl _⟩
  · exact ⟨_, fun H => .non⟩
theorem max_in {z b c : Int} (h : 0 ≤ z) (h2 : z < c) (hb : c - b = 6) (hb0 : 0 ≤ b) : 0 ≤ (if z - b > 0 then z - b else 0) ∧ (if z - b > 0 then z - b else 0) < 6 := by
  split <;> omega
def sp_law_deed (K : PySem.W.Frag) : Sp := fun vs H Q _ => ∃ (w : Addr) (n : Nat), vs = [.ref w, .int n] ∧ WellAt H w ∧ n ≤ 40 ∧
  ∀ H' t d, Same (hid H w) (hid H' w) → WellAt H' w → SqT K (hid H' w) t (Deed.vs d) → Deed.Ok K d → Q (.ref t) H'
section
variable {P : Program} {w : World} {K : PySem.W.Frag} {mg : Str → Option Value} {base : Heap}
theorem ok_law_deed (T : Fns K mg) : FnOk P w K mg base CX0 2 T.a_law_deed T.d_law_deed ["well", "many"] (sp_law_deed K) := by
  refine T.F_law_deed.ok sc_law_deed (fun vs H Q E h => ?_) (fun cdv A outer s H vs Q E hr h => ?_)
  · obtain ⟨wl, n, rfl, _⟩ := h
    rfl
  · obtain ⟨wl, n, rfl, hw, hn, q⟩ := h
    refine ⟨_, (pss_cons (ps_set (i := 2) sc_law_deed.nd rfl (.inl rfl) (pe_call (E := E0) (ok_law_take T) (hr.mono (by decide)) (by rfl) T.g_law_take T.F_law_take.kp T.b_law_take .nil pass0 (pa_cons (pv 0) (pa_cons pe_int pa_nil))))
    (pss_cons (ps_if (pt_cmpR op_lt (pv 2) pe_int (nomark _)) (pss_cons (ps_set (i := 3) sc_law_deed.nd rfl (.inl rfl) (pe_lst (pa_cons (pe_op op_add pe_int (pe_call (E := E0) (ok_law_take T) (hr.mono (by decide)) (by rfl) T.g_law_take T.F_law_take.kp T.b_law_take .nil pass0 (pa_cons (pv 0) (pa_cons pe_int pa_nil)))) (pa_cons (pe_op op_add pe_int (pe_call (E := E0) (ok_law_take T) (hr.mono (by decide)) (by rfl) T.g_law_take T.F_law_take.kp T.b_law_take .nil pass0 (pa_cons (pv 0) (pa_cons pe_int pa_nil)))) (pa_cons pe_int (pa_cons pe_int (pa_cons pe_bl (pa_cons pe_non pa_nil))))))))
      (pss_one (ps_ret (pe_tup (pa_cons pe_str (pa_cons (pe_ix ix_list (pv 3) (pe_callB (call_max2 rfl) (by rfl) T.n_max (by decide +kernel) (pa_cons pe_int (pa_cons (pe_op op_sub (pe_call (E := E0) (ok_law_take T) (hr.mono (by decide)) (by rfl) T.g_law_take T.F_law_take.kp T.b_law_take .nil pass0 (pa_cons (pv 0) (pa_cons pe_int pa_nil))) pe_int) pa_nil))) (fun _ _ => rfl)) pa_nil)))))) pss_nil)
    (pss_cons (ps_if (pt_cmpR op_lt (pv 2) pe_int (nomark _)) (pss_one (ps_ret (pe_tup (pa_cons pe_str pa_nil)))) pss_nil)
    (pss_cons (ps_if (pt_cmpR op_lt (pv 2) pe_int (nomark _)) (pss_one (ps_ret (pe_tup (pa_cons pe_str (pa_cons (pe_ix ix_list (pe_lst (pa_cons (pe_call (E := E0) (ok_law_take T) (hr.mono (by decide)) (by rfl) T.g_law_take T.F_law_take.kp T.b_law_take .nil pass0 (pa_cons (pv 0) (pa_cons (pe_op op_add (pv 1) pe_int) pa_nil))) (pa_cons pe_int (pa_cons (pv 1) (pa_cons (pe_un un_neg pe_int) (pa_cons pe_bl (pa_cons pe_non pa_nil))))))) (pe_callB (call_max2 rfl) (by rfl) T.n_max (by decide +kernel) (pa_cons pe_int (pa_cons (pe_op op_sub (pe_call (E := E0) (ok_law_take T) (hr.mono (by decide)) (by rfl) T.g_law_take T.F_law_take.kp T.b_law_take .nil pass0 (pa_cons (pv 0) (pa_cons pe_int pa_nil))) pe_int) pa_nil))) (fun _ _ => rfl)) pa_nil))))) pss_nil)
    (pss_one (ps_ret (pe_tup (pa_cons pe_str pa_nil)))))))), ?_⟩
    refine ⟨_, rfl, wl, 16, rfl, hw, by decide, by decide, fun H1 way e1 ok1 w0 w1 => ?_⟩
    have s1 : Same (hid H wl) (hid H1 wl) := by rw [e1]; exact Same.refl _
    refine ⟨_, rfl, _, _, rfl, rfl, _, rfl, ?_⟩
    refine ite2 (fun c => ?_) (fun c => ?_)
    · refine ⟨_, rfl, wl, 9, rfl, ok1, by decide, by decide, fun H2 x e2 ok2 x0 x1 => ⟨1, x, rfl, rfl, ?_⟩⟩
      refine ⟨_, rfl, wl, 99, rfl, ok2, by decide, by decide, fun H3 y e3 ok3 y0 y1 => ⟨1, y, rfl, rfl, (by show 6 ≤ sizeLine; decide), fun l hl => ?_⟩⟩
      have nl : l ≠ wl := well_ne ok3 hl
      have s3 : Same (hid H wl) (hid (upd H3 l (.lst [.int (1 + x), .int (1 + y), .int 0, .int 100, .bl true, .non])) wl) := s1.trans (by rw [← e2, ← e3]; exact hid_new hl)
      have ok4 := well_same (same_new (o := .lst [.int (1 + x), .int (1 + y), .int 0, .int 100, .bl true, .non]) hl) ok3
      have hl4 : (upd H3 l (.lst [V.int (1 + x), V.int (1 + y), V.int 0, V.int 100, V.bl true, V.non])) l = some (.lst [.int (1 + x), .int (1 + y), .int 0, .int 100, .bl true, .non]) := upd_same
      generalize upd H3 l (.lst [V.int (1 + x), V.int (1 + y), V.int 0, V.int 100, V.bl true, V.non]) = H4 at s3 ok4 hl4
      refine ⟨_, rfl, _, rfl, wl, 12, rfl, ok4, by decide, by decide, fun H5 z e5 ok5 z0 z1 => ⟨z, 6, rfl, rfl, 0, z - 6, rfl, ?_⟩⟩
      have hl5 : H5 l = some (.lst [.int (1 + x), .int (1 + y), .int 0, .int 100, .bl true, .non]) := by rw [hid_get e5 nl]; exact hl4
      obtain ⟨m0, m1⟩ := max_in (b := 6) z0 z1 rfl (by decide)
      obtain ⟨v, hv, e, he⟩ := six_at (K := K) (xs := [.int (1 + x), .int (1 + y), .int 0, .int 100, .bl true, .non]) rfl (six_of _ _ _ _ ⟨_, fun H => .int _⟩) m0 m1
      refine ⟨l, _, _, v, rfl, rfl, .of hl5, hv, (by show 2 ≤ sizeLine; decide), fun t ht => ?_⟩
      have nt : t ≠ wl := well_ne ok5 ht
      exact q _ t (.join v e) (s3.trans (by rw [← e5]; exact hid_new ht)) (well_same (same_new ht) ok5) (.of (by rw [hid_ne nt]; exact upd_same)) he
    · refine ⟨_, rfl, _, _, rfl, rfl, _, rfl, ?_⟩
      refine ite2 (fun c => ?_) (fun c => ?_)
      · refine ⟨(by show 1 ≤ sizeLine; decide), fun t ht => ?_⟩
        have nt : t ≠ wl := well_ne ok1 ht
        exact q _ t .turn (s1.trans (hid_new ht)) (well_same (same_new ht) ok1) (.of (by rw [hid_ne nt]; exact upd_same)) trivial
      · refine ⟨_, rfl, _, _, rfl, rfl, _, rfl, ?_⟩
        refine ite2 (fun c => ?_) (fun c => ?_)
        · refine ⟨_, rfl, _, rfl, n, 1, rfl, rfl, wl, (n : Int) + 1, rfl, ok1, by omega, by omega, fun H2 x e2 ok2 x0 x1 => ?_⟩
          refine ⟨_, rfl, _, rfl, (by show 6 ≤ sizeLine; decide), fun l hl => ?_⟩
          have nl : l ≠ wl := well_ne ok2 hl
          have s3 : Same (hid H wl) (hid (upd H2 l (.lst [.int x, .int 0, .int n, .int (-1), .bl true, .non])) wl) := s1.trans (by rw [← e2]; exact hid_new hl)
          have ok4 := well_same (same_new (o := .lst [.int x, .int 0, .int n, .int (-1), .bl true, .non]) hl) ok2
          have hl4 : (upd H2 l (.lst [V.int x, V.int 0, V.int n, V.int (-1), V.bl true, V.non])) l = some (.lst [.int x, .int 0, .int n, .int (-1), .bl true, .non]) := upd_same
          generalize upd H2 l (.lst [V.int x, V.int 0, V.int n, V.int (-1), V.bl true, V.non]) = H4 at s3 ok4 hl4
          refine ⟨_, rfl, wl, 9, rfl, ok4, by decide, by decide, fun H5 z e5 ok5 z0 z1 => ⟨z, 3, rfl, rfl, 0, z - 3, rfl, ?_⟩⟩
          have hl5 : H5 l = some (.lst [.int x, .int 0, .int n, .int (-1), .bl true, .non]) := by rw [hid_get e5 nl]; exact hl4
          obtain ⟨m0, m1⟩ := max_in (b := 3) z0 z1 rfl (by decide)
          obtain ⟨v, hv, e, he⟩ := six_at (K := K) (xs := [.int x, .int 0, .int n, .int (-1), .bl true, .non]) rfl (six_of _ _ _ _ ⟨_, fun H => .int _⟩) m0 m1
          refine ⟨l, _, _, v, rfl, rfl, .of hl5, hv, (by show 2 ≤ sizeLine; decide), fun t ht => ?_⟩
          have nt : t ≠ wl := well_ne ok5 ht
          exact q _ t (.leave v e) (s3.trans (by rw [← e5]; exact hid_new ht)) (well_same (same_new ht) ok5) (.of (by rw [hid_ne nt]; exact upd_same)) he
        · refine ⟨(by show 1 ≤ sizeLine; decide), fun t ht => ?_⟩
          have nt : t ≠ wl := well_ne ok1 ht
          exact q _ t .back (s1.trans (hid_new ht)) (well_same (same_new ht) ok1) (.of (by rw [hid_ne nt]; exact upd_same)) trivial
end
end Ai
namespace Ai
open PySem PySem.Spec PyProof.Rows L2
/-- a row of the law's list -/
def rlD (s : KSt) : PyData := .tuple [tupI s.q, .list (s.sat.map pairD), .int s.now]
theorem eq_rlD (s s' : KSt) : PyData.eqv (rlD s) (rlD s') = decide (s.q = s'.q ∧ s.sat = s'.sat ∧ s.now = s'.now) := eq_stD s s'
theorem sh_rl (s : KSt) : SeqAt.shaped (rlD s) = true := by
  have i1 : ∀ d ∈ s.q.map PyData.int, d.canLay0 = true ∧ d.depth ≤ 0 := fun d h => by obtain ⟨i, _, rfl⟩ := List.mem_map.mp h; exact ⟨rfl, Nat.le_refl _⟩
  have i2 : ∀ d ∈ s.sat.map pairD, d.canLay0 = true ∧ d.depth ≤ 1 := fun d h => by obtain ⟨i, _, rfl⟩ := List.mem_map.mp h; exact ⟨rfl, Nat.le_refl 1⟩
  refine shaped_tuple (n := 2) (fun d h => ?_) (fun d h => ?_) (by omega)
  · have h' : d = tupI s.q ∨ d = .list (s.sat.map pairD) ∨ d = .int s.now := by simpa using h
    rcases h' with rfl | rfl | rfl
    · rw [tupI, PyData.canLay0]
      exact lay_of fun d h => (i1 d h).1
    · rw [PyData.canLay0]
      exact lay_of fun d h => (i2 d h).1
    · rfl
  · have h' : d = tupI s.q ∨ d = .list (s.sat.map pairD) ∨ d = .int s.now := by simpa using h
    rcases h' with rfl | rfl | rfl
    · rw [tupI, PyData.depth]
      have := depth_of fun d h => (i1 d h).2
      omega
    · rw [PyData.depth]
      have := depth_of fun d h => (i2 d h).2
      omega
    · exact Nat.zero_le _
/-- the parts of a row -/
theorem rl_inv {K : PySem.W.Frag} {H : Hp} {v : V} {s : KSt} (h : Dp K H v (rlD s)) : ∃ t a b, v = .ref t ∧ SqT K H t [.ref a, b, .int s.now] ∧ SqT K H a (s.q.map V.int) ∧ Dp K H b (.list (s.sat.map pairD)) := by
  cases h with
  | @tup t xs _ ht hxs =>
    cases hxs with
    | cons x1 hxs =>
      cases hxs with
      | @cons b _ _ _ x2 hxs =>
        cases hxs with
        | cons x3 hxs =>
          cases hxs
          cases x3
          obtain ⟨a, rfl, ha⟩ := sqT_of x1
          exact ⟨t, a, b, rfl, ht, ha, x2⟩
def sp_law_stands {K : PySem.W.Frag} {mg : Str → Option Value} (T : Fns K mg) : Sp := fun vs H Q _ => ∃ (o dx r : Addr) (pre : List KSt) (s : KSt) (v : V), vs = [.ref o, v] ∧ KAt K T.a_Kept H o dx r pre s ∧ Dp K H v (rlD s) ∧ ∀ H', Same H H' → Q (.bl true) H'
section
variable {P : Program} {w : World} {K : PySem.W.Frag} {mg : Str → Option Value} {base : Heap}
theorem ok_law_stands (T : Fns K mg) : FnOk P w K mg base CX0 3 T.a_law_stands T.d_law_stands ["kept", "row"] (sp_law_stands T) := by
  refine T.F_law_stands.ok sc_law_stands (fun vs H Q E h => ?_) (fun cdv A outer s H vs Q E hr h => ?_)
  · obtain ⟨o, dx, r, pre, s, v, rfl, _⟩ := h
    rfl
  · obtain ⟨o, dx, r, pre, s, v, rfl, k, hv, q⟩ := h
    refine ⟨_, (pss_one (ps_ret (pe_and (pe_cmpR (op_eqD hr.units) (pe_tup (pa_cons (pe_meth0 (E := E0) (pv 0) T.cl_Kept T.m_Kept_queue (ok_Kept_queue T) (hr.mono (by decide)) T.b_Kept_queue .nil pass0) (pa_cons (pe_meth0 (E := E0) (pv 0) T.cl_Kept T.m_Kept_sat (ok_Kept_sat T) (hr.mono (by decide)) T.b_Kept_sat .nil pass0) (pa_cons (pe_meth0 (E := E0) (pv 0) T.cl_Kept T.m_Kept_now (ok_Kept_now T) (hr.mono (by decide)) T.b_Kept_now .nil pass0) pa_nil)))) (pv 1) (nomark _)) (pe_one (pe_cmpR op_eq (pe_callB (call_lenOwn (ok_Kept___len__ T) (hr.mono (by decide)) T.m_Kept___len__.at_ T.m_Kept___len__.fn T.b_Kept___len__) (by rfl) T.n_len PySem.boot_len (pa_cons (pv 0) pa_nil)) (pe_callB call_len_seq (by rfl) T.n_len PySem.boot_len (pa_cons (pe_ix ix_tup (pv 1) pe_int (fun _ _ => rfl)) pa_nil)) (nomark _)))))), ?_⟩
    refine ⟨_, rfl, o, dx, _, rfl, k.ins, rfl, o, dx, r, pre, s, rfl, k, fun b hb => ?_⟩
    refine ⟨_, rfl, o, dx, _, rfl, k.ins, rfl, o, dx, r, pre, s, rfl, k, fun H1 l cs s1 nl hl hcs => ?_⟩
    have k1 := k.same s1
    refine ⟨_, rfl, o, dx, _, rfl, k1.ins, rfl, o, dx, r, pre, s, rfl, k1, ?_⟩
    refine ⟨(by show 3 ≤ sizeLine; decide), fun t ht => ?_⟩
    have s2 : Same H (upd H1 t (.tup [.ref b, .ref l, .int s.now])) := s1.new ht
    have s12 : Same H1 (upd H1 t (.tup [.ref b, .ref l, .int s.now])) := same_new ht
    have ht2 : (upd H1 t (.tup [.ref b, .ref l, .int s.now])) t = some (.tup [.ref b, .ref l, .int s.now]) := upd_same
    generalize upd H1 t (.tup [V.ref b, V.ref l, V.int s.now]) = H2 at *
    have d1 : Dp K H2 (.ref t) (rlD s) := .tup (.of ht2) (.cons (dp_intsT (s2.tup hb)) (.cons (.lst (.of (s12 _ _ hl)) (s2.dp' hcs)) (.cons (.int _) .nil)))
    refine ⟨v, rfl, _, _, d1, s2.dp hv, sh_rl s, sh_rl s, _, rfl, ?_⟩
    rw [eq_rlD, decide_eq_true ⟨rfl, rfl, rfl⟩]
    refine ite2 (fun _ => ?_) (fun c => absurd rfl c)
    have k2 := k.same s2
    obtain ⟨u, a, c, rfl, hu, ha, _⟩ := rl_inv (s2.dp hv)
    refine ⟨_, rfl, o, dx, _, rfl, k2.ins, o, dx, r, pre, s, rfl, k2, s.q.length, rfl, by have := k.cur.len; omega, _, rfl, u, _, _, _, rfl, rfl, hu, atI_nat (j := 0) rfl, a, _, rfl, .inr ha, ?_⟩
    rw [List.length_map]
    refine ⟨rfl, ?_⟩
    rw [decide_eq_true rfl]
    exact q _ s2
end
end Ai
namespace Ai
open PySem PySem.Spec PyProof.Rows L2
/-! ### the law's own rows -/
def hidL (L : List Addr) (H : Hp) : Hp := fun b => if b ∈ L then none else H b
theorem hidL_in {L : List Addr} {H : Hp} {b : Addr} (h : b ∈ L) : hidL L H b = none := if_pos h
theorem hidL_out {L : List Addr} {H : Hp} {b : Addr} (h : b ∉ L) : hidL L H b = H b := if_neg h
theorem hidL_same (L : List Addr) (H : Hp) : Same (hidL L H) H := fun b o e => by
  unfold hidL at e
  split at e
  · cases e
  · exact e
theorem hidL_mono {L : List Addr} {H H' : Hp} (s : Same H H') : Same (hidL L H) (hidL L H') := fun b o e => by
  have n : b ∉ L := fun z => by rw [hidL_in z] at e; cases e
  rw [hidL_out n] at e ⊢
  exact s b o e
theorem hidL_fr {L : List Addr} {H H' : Hp} {p : Addr} (hp : p ∈ L) (s : Fr p H H') : Same (hidL L H) (hidL L H') := fun b o e => by
  have n : b ∉ L := fun z => by rw [hidL_in z] at e; cases e
  rw [hidL_out n] at e ⊢
  exact s b o (fun z => n (z ▸ hp)) e
/-- the cells of L are lists -/
def LsL (L : List Addr) (H : Hp) : Prop := ∀ b ∈ L, ∃ xs, H b = some (.lst xs)
theorem LsL.same {L : List Addr} {H H' : Hp} (l : LsL L H) (s : Same H H') : LsL L H' := fun b hb => (l b hb).imp fun _ h => s _ _ h
theorem LsL.fr {L : List Addr} {H H' : Hp} {p : Addr} {xs : List V} (l : LsL L H) (s : Fr p H H') (h : H' p = some (.lst xs)) : LsL L H' := fun b hb => by
  by_cases e : b = p
  · exact ⟨xs, by rw [e]; exact h⟩
  · exact (l b hb).imp fun _ h => s _ _ e h
theorem LsL.out {L : List Addr} {H : Hp} {b : Addr} {o : HO} (l : LsL L H) (h : H b = some o) (n : ∀ xs, o ≠ .lst xs) : hidL L H b = some o := by
  have : b ∉ L := fun z => by
    obtain ⟨xs, hx⟩ := l b z
    rw [h] at hx
    exact n xs (Option.some.inj hx)
  rw [hidL_out this]
  exact h
theorem LsL.new {L : List Addr} {H H' : Hp} {b : Addr} {o : HO} (l : LsL L H) (h : H b = none) (h' : H' b = some o) : hidL L H' b = some o := by
  have : b ∉ L := fun z => by
    obtain ⟨xs, hx⟩ := l b z
    rw [h] at hx
    cases hx
  rw [hidL_out this]
  exact h'
theorem LsL.tup {K : PySem.W.Frag} {L : List Addr} {H : Hp} {a : Addr} {xs : List V} (l : LsL L H) (h : SqT K H a xs) : SqT K (hidL L H) a xs := by
  rcases h with (h | ⟨o, h⟩) | h
  · exact .inl (.inl (l.out h (fun _ z => nomatch z)))
  · exact .inl (.inr ⟨o, l.out h (fun _ z => nomatch z)⟩)
  · exact .inr h
mutual
theorem LsL.dp {K : PySem.W.Frag} {L : List Addr} {H : Hp} (l : LsL L H) : ∀ (d : PyData) (v : V), tOnly d = true → Dp K H v d → Dp K (hidL L H) v d
  | .none, _, _, h => by cases h; exact .non
  | .bool b, _, _, h => by cases h; exact .bl b
  | .int i, _, _, h => by cases h; exact .int i
  | .str x, _, _, h => by cases h; exact .str x
  | .list ds, _, t, _ => by simp [tOnly] at t
  | .tuple ds, _, t, h => by
    cases h with
    | tup hs ha => exact .tup (l.tup hs) (LsL.dps l ds _ t ha)
  | .dict _, _, _, h => by cases h
theorem LsL.dps {K : PySem.W.Frag} {L : List Addr} {H : Hp} (l : LsL L H) : ∀ (ds : List PyData) (vs : List V), tOnlyA ds = true → DpAll K H vs ds → DpAll K (hidL L H) vs ds
  | [], _, _, h => by cases h; exact .nil
  | d :: ds, _, t, h => by
    rw [tOnlyA, Bool.and_eq_true] at t
    cases h with
    | cons h1 h2 => exact .cons (LsL.dp l d _ t.1 h1) (LsL.dps l ds _ t.2 h2)
end
/-- a row of the law's -/
def RlAt (K : PySem.W.Frag) (G : Hp) (v : V) (s : KSt) : Prop := ∃ t a c cs, v = .ref t ∧ SqT K G t [.ref a, .ref c, .int s.now] ∧ SqT K G a (s.q.map V.int) ∧ G c = some (.lst cs) ∧ DpAll K G cs (s.sat.map pairD)
theorem RlAt.dp {K : PySem.W.Frag} {G : Hp} {v : V} {s : KSt} (h : RlAt K G v s) : Dp K G v (rlD s) := by
  obtain ⟨t, a, c, cs, rfl, ht, ha, hc, hcs⟩ := h
  exact .tup ht (.cons (dp_intsT ha) (.cons (.lst (.of hc) hcs) (.cons (.int _) .nil)))
theorem RlAt.same {K : PySem.W.Frag} {G G' : Hp} {v : V} {s : KSt} (h : RlAt K G v s) (e : Same G G') : RlAt K G' v s := by
  obtain ⟨t, a, c, cs, rfl, ht, ha, hc, hcs⟩ := h
  exact ⟨t, a, c, cs, rfl, e.tup ht, e.tup ha, e _ _ hc, e.dp' hcs⟩
inductive RlAll (K : PySem.W.Frag) (G : Hp) : List V → List KSt → Prop
  | nil : RlAll K G [] []
  | cons {v : V} {s : KSt} {vs : List V} {ks : List KSt} : RlAt K G v s → RlAll K G vs ks → RlAll K G (v :: vs) (s :: ks)
theorem RlAll.same {K : PySem.W.Frag} {G G' : Hp} {vs : List V} {ks : List KSt} (h : RlAll K G vs ks) (e : Same G G') : RlAll K G' vs ks := by
  induction h with
  | nil => exact .nil
  | cons a _ ih => exact .cons (a.same e) ih
theorem RlAll.append {K : PySem.W.Frag} {G : Hp} {vs us : List V} {ks ls : List KSt} (h : RlAll K G vs ks) (h2 : RlAll K G us ls) : RlAll K G (vs ++ us) (ks ++ ls) := by
  induction h with
  | nil => exact h2
  | cons a _ ih => exact .cons a ih
theorem RlAll.length {K : PySem.W.Frag} {G : Hp} {vs : List V} {ks : List KSt} (h : RlAll K G vs ks) : vs.length = ks.length := by
  induction h with
  | nil => rfl
  | cons a _ ih => rw [List.length_cons, List.length_cons, ih]
theorem RlAll.split {K : PySem.W.Frag} {G : Hp} {s : KSt} : ∀ {ks : List KSt} {vs : List V}, RlAll K G vs (ks ++ [s]) → ∃ vp v, vs = vp ++ [v] ∧ RlAll K G vp ks ∧ RlAt K G v s
  | [], vs, h => by
    cases h with
    | @cons v _ _ _ h1 h2 =>
      cases h2
      exact ⟨[], v, rfl, .nil, h1⟩
  | e :: ks, vs, h => by
    cases h with
    | @cons v _ _ _ h1 h2 =>
      obtain ⟨vp, u, rfl, a, b⟩ := split h2
      exact ⟨v :: vp, u, rfl, .cons h1 a, b⟩
/-- the law's rows at R; L: the lists that change -/
structure RAt (K : PySem.W.Frag) (H : Hp) (R : Addr) (L : List Addr) (ks : List KSt) : Prop where
  mem : R ∈ L
  ls : LsL L H
  dat : ∃ vs, H R = some (.lst vs) ∧ RlAll K (hidL L H) vs ks
theorem RAt.same {K : PySem.W.Frag} {H H' : Hp} {R : Addr} {L : List Addr} {ks : List KSt} (k : RAt K H R L ks) (s : Same H H') : RAt K H' R L ks := by
  obtain ⟨vs, h1, h2⟩ := k.dat
  exact ⟨k.mem, k.ls.same s, vs, s _ _ h1, h2.same (hidL_mono s)⟩
/-- another list of L changes -/
theorem RAt.fr {K : PySem.W.Frag} {H H' : Hp} {R p : Addr} {L : List Addr} {ks : List KSt} {xs : List V} (k : RAt K H R L ks) (hp : p ∈ L) (n : R ≠ p) (s : Fr p H H') (h : H' p = some (.lst xs)) : RAt K H' R L ks := by
  obtain ⟨vs, h1, h2⟩ := k.dat
  exact ⟨k.mem, k.ls.fr s h, vs, s _ _ n h1, h2.same (hidL_fr hp s)⟩
theorem RAt.set {K : PySem.W.Frag} {H : Hp} {R : Addr} {L : List Addr} {ks ks' : List KSt} {vs : List V} (k : RAt K H R L ks) (h : RlAll K (hidL L H) vs ks') : RAt K (upd H R (.lst vs)) R L ks' := by
  have f : Fr R H (upd H R (.lst vs)) := Fr.mut (fun b o _ e => e)
  exact ⟨k.mem, k.ls.fr f upd_same, vs, upd_same, h.same (hidL_fr k.mem f)⟩
theorem RAt.top {K : PySem.W.Frag} {H : Hp} {R : Addr} {L : List Addr} {pre : List KSt} {s : KSt} (k : RAt K H R L (pre ++ [s])) : ∃ vp v, H R = some (.lst (vp ++ [v])) ∧ RlAll K (hidL L H) vp pre ∧ vp.length = pre.length ∧ RlAt K (hidL L H) v s := by
  obtain ⟨vs, h1, h2⟩ := k.dat
  obtain ⟨vp, v, rfl, a, b⟩ := h2.split
  exact ⟨vp, v, h1, a, a.length, b⟩
theorem RAt.push {K : PySem.W.Frag} {H : Hp} {R : Addr} {L : List Addr} {ks : List KSt} {s : KSt} {vs : List V} {v : V} (k : RAt K H R L ks) (h : H R = some (.lst vs)) (hv : RlAt K (hidL L H) v s) : RAt K (upd H R (.lst (vs ++ [v]))) R L (ks ++ [s]) := by
  obtain ⟨vs', h1, h2⟩ := k.dat
  obtain rfl : vs = vs' := by rw [h1] at h; cases h; rfl
  exact k.set (h2.append (.cons hv .nil))
/-- one more list that changes -/
theorem RAt.add {K : PySem.W.Frag} {H H' : Hp} {R w : Addr} {L : List Addr} {ks : List KSt} {xs : List V} (k : RAt K H R L ks) (s : Same H H') (hw : H w = none) (hw' : H' w = some (.lst xs)) : RAt K H' R (w :: L) ks := by
  obtain ⟨vs, h1, h2⟩ := k.dat
  refine ⟨List.mem_cons_of_mem _ k.mem, fun b hb => ?_, vs, s _ _ h1, h2.same fun b o e => ?_⟩
  · rcases List.mem_cons.mp hb with rfl | hb
    · exact ⟨xs, hw'⟩
    · exact (k.ls.same s) b hb
  · have n : b ∉ L := fun z => by rw [hidL_in z] at e; cases e
    rw [hidL_out n] at e
    have nw : b ≠ w := fun z => by rw [z, hw] at e; cases e
    rw [hidL_out (by simp [n, nw])]
    exact s b o e
theorem RAt.drop {K : PySem.W.Frag} {H : Hp} {R w : Addr} {L : List Addr} {ks : List KSt} (k : RAt K H R (w :: L) ks) (m : R ∈ L) : RAt K H R L ks := by
  obtain ⟨vs, h1, h2⟩ := k.dat
  refine ⟨m, fun b hb => k.ls b (List.mem_cons_of_mem _ hb), vs, h1, h2.same fun b o e => ?_⟩
  have n : b ∉ w :: L := fun z => by rw [hidL_in z] at e; cases e
  rw [hidL_out n] at e
  rw [hidL_out (fun z => n (List.mem_cons_of_mem _ z))]
  exact e
theorem dkv_len (q : List Int) : (dkv 1000 (S q 0)).length = q.length := by rw [dkv_length]; exact en_length q 0
theorem dkv_key {q : List Int} {i : Nat} {k : Key} {v : V} (h : (dkv 1000 (S q 0))[i]? = some (k, v)) : k = Sum.inl (i : Int) := by
  have e := congrArg (fun l => l[i]?) (dkv_keys (S q 0) 1000)
  simp only [List.getElem?_map, h, Option.map_some] at e
  have e2 : (S q 0) = (List.range q.length).map fun i => (i, q.getD i 0) := en_range q
  rw [e2, List.getElem?_map] at e
  have hi : i < q.length := by
    have := (List.getElem?_eq_some_iff.mp h).1
    rw [dkv_len] at this
    exact this
  rw [List.getElem?_range hi] at e
  exact Option.some.inj e
theorem dkv_put : ∀ {P : List Pr} {a : Int} {p : Nat} {r l : Int}, (P.map Prod.fst).Nodup → (p, r) ∈ P → valV (dkv a P) (Sum.inl (p : Int)) = some (.int l) → l ≤ r
  | [], _, _, _, _, _, h, _ => nomatch h
  | (p0, r0) :: P, a, p, r, l, nd, h, e => by
    rw [List.map_cons, List.nodup_cons] at nd
    by_cases c : p = p0
    · subst c
      have er : r = r0 := by
        rcases List.mem_cons.mp h with h | h
        · exact (Prod.mk.inj h).2
        · exact absurd (List.mem_map.mpr ⟨_, h, rfl⟩) nd.1
      subst er
      rw [show dkv a ((p, r) :: P) = (Sum.inl (p : Int), V.int (put a r)) :: dkv (put a r) P from rfl, valV_pos rfl] at e
      have := V.int.inj (Option.some.inj e)
      have := put_le a r
      omega
    · have hm : (p, r) ∈ P := by
        rcases List.mem_cons.mp h with h | h
        · exact absurd (Prod.mk.inj h).1 c
        · exact h
      have ne : ¬ (Sum.inl (p0 : Int) : Key) = Sum.inl (p : Int) := fun z => c (by have := Sum.inl.inj z; omega)
      rw [show dkv a ((p0, r0) :: P) = (Sum.inl (p0 : Int), V.int (put a r0)) :: dkv (put a r0) P from rfl, valV_neg (p := (Sum.inl (p0 : Int), V.int (put a r0))) ne] at e
      exact dkv_put nd.2 hm e
theorem spot_law {q : List Int} (hq : Rows q) {i : Nat} (hi : i < q.length) : ∃ l, valV (dkv 1000 (S q 0)) (Sum.inl (i : Int)) = some (.int l) ∧ l ≤ q.getD i 0 ∧ (l < q.getD i 0 ↔ inSt q i = true) := by
  have hm : (i, q.getD i 0) ∈ S q 0 := by
    show _ ∈ en 0 q
    rw [en_range]
    exact List.mem_map.mpr ⟨i, List.mem_range.mpr hi, rfl⟩
  obtain ⟨l, h1, h2⟩ := dkv_at (a := 1000) (S_nodup q 0) hm
  refine ⟨l, h1, dkv_put (S_nodup q 0) hm h1, ?_⟩
  rw [h2, stay_from (S_lt' hq) (S_lt hq)]
  unfold inSt
  rw [decide_eq_true_eq]
  rfl
theorem lohi_leave (q : List Int) (e : PyData) : lohi 0 ((q.length : Int) - 1) e = leaveD q e := by
  cases e with
  | int i =>
    show (decide (0 ≤ i) && decide (i ≤ (q.length : Int) - 1)) = (decide (0 ≤ i) && decide (i < (q.length : Int)))
    congr 1
    exact decide_eq_decide.mpr (by omega)
  | _ => rfl
theorem lohi_row (e : PyData) : lohi 1 99 e = rowD e := by cases e <;> rfl
def sp_law_due {K : PySem.W.Frag} {mg : Str → Option Value} (T : Fns K mg) : Sp := fun vs H Q _ => ∃ (R t : Addr) (L : List Addr) (pre : List KSt) (s : KSt) (d : Deed), vs = [.ref R, .ref t] ∧ RAt K H R L (pre ++ [s]) ∧ SqT K H t d.vs ∧ d.Ok K ∧ SOk s ∧ pre.length < 200 ∧ s.now < 200 ∧
  ∀ H' v, Fr R H H' → RAt K H' R L ((stepD d pre s).2.1 ++ [(stepD d pre s).2.2]) → Dp K H' v (stepD d pre s).1 → Q v H'
section
variable {P : Program} {w : World} {K : PySem.W.Frag} {mg : Str → Option Value} {base : Heap}
theorem ok_law_due (T : Fns K mg) : FnOk P w K mg base CX0 3 T.a_law_due T.d_law_due ["rows", "deed"] (sp_law_due T) := by
  refine T.F_law_due.ok sc_law_due (fun vs H Q E h => ?_) (fun cdv A outer s H vs Q E hr h => ?_)
  · obtain ⟨R, t, L, pre, s, d, rfl, _⟩ := h
    rfl
  · obtain ⟨R, t, L, pre, s, d, rfl, k, ht, dok, ok, few, hnow, q⟩ := h
    refine ⟨_, (pss_cons (ps_asg (pe_ix ix_list (pv 0) (pe_un un_neg pe_int) (fun _ _ => rfl)) (pg_tup rfl (pgs_cons (pg_name (i := 5) sc_law_due.nd rfl (by first | exact .inl rfl | exact .inr rfl)) (pgs_cons (pg_name (i := 6) sc_law_due.nd rfl (.inl rfl)) (pgs_cons (pg_name (i := 7) sc_law_due.nd rfl (by first | exact .inl rfl | exact .inr rfl)) pgs_nil)))))
    (pss_cons (ps_if (pt_cmpR op_eq (pe_ix ix_tup (pv 1) pe_int (fun _ _ => rfl)) pe_str (nomark _)) (pss_cons (ps_if (pt_cmpR op_eq (pe_callB call_len_seq (by rfl) T.n_len PySem.boot_len (pa_cons (pv 0) pa_nil)) pe_int (nomark _)) (pss_one (ps_ret pe_str)) pss_nil)
      (pss_cons (ps_expr (pe_bm0 PySem.F.plainAttrs_list PySem.F.slot_list_pop PySem.F.type_list_pop mt_pop (pv 0)))
      (pss_one (ps_ret pe_non)))) pss_nil)
    (pss_cons (ps_if (pt_cmpR op_eq (pe_ix ix_tup (pv 1) pe_int (fun _ _ => rfl)) pe_str (nomark _)) (pss_cons (ps_if (pt_not (pt_val (pe_call (E := E0) (ok_law_is_int T) (hr.mono (by decide)) (by rfl) T.g_law_is_int T.F_law_is_int.kp T.b_law_is_int .nil pass0 (pa_cons (pe_ix ix_tup (pv 1) pe_int (fun _ _ => rfl)) (pa_cons pe_int (pa_cons pe_int pa_nil)))))) (pss_one (ps_ret pe_str)) pss_nil)
      (pss_cons (ps_if (pt_cmpR op_eq (pe_callB call_len_seq (by rfl) T.n_len PySem.boot_len (pa_cons (pv 5) pa_nil)) pe_int (nomark _)) (pss_one (ps_ret pe_str)) pss_nil)
      (pss_cons (ps_expr (pe_bm PySem.F.plainAttrs_list PySem.F.slot_list_append PySem.F.type_list_append mt_append (pv 0) (pa_cons (pe_tup (pa_cons (pe_op op_catA (pv 5) (pe_tup (pa_cons (pe_ix ix_tup (pv 1) pe_int (fun _ _ => rfl)) pa_nil))) (pa_cons (pv 6) (pa_cons (pv 7) pa_nil)))) pa_nil)))
      (pss_one (ps_ret pe_non))))) pss_nil)
    (pss_cons (ps_if (pt_cmpR op_eq (pe_ix ix_tup (pv 1) pe_int (fun _ _ => rfl)) pe_str (nomark _)) (pss_cons (ps_if (pt_not (pt_val (pe_call (E := E0) (ok_law_is_int T) (hr.mono (by decide)) (by rfl) T.g_law_is_int T.F_law_is_int.kp T.b_law_is_int .nil pass0 (pa_cons (pe_ix ix_tup (pv 1) pe_int (fun _ _ => rfl)) (pa_cons pe_int (pa_cons (pe_op op_sub (pe_callB call_len_seq (by rfl) T.n_len PySem.boot_len (pa_cons (pv 5) pa_nil)) pe_int) pa_nil)))))) (pss_one (ps_ret pe_str)) pss_nil)
      (pss_cons (ps_expr (pe_bm PySem.F.plainAttrs_list PySem.F.slot_list_append PySem.F.type_list_append mt_append (pv 0) (pa_cons (pe_tup (pa_cons (pe_op op_catA (pe_slice sl_tupA (pv 5) po_none (po_some (pe_ix ix_tup (pv 1) pe_int (fun _ _ => rfl)))) (pe_slice sl_tupA (pv 5) (po_some (pe_op op_add (pe_ix ix_tup (pv 1) pe_int (fun _ _ => rfl)) pe_int)) po_none)) (pa_cons (pv 6) (pa_cons (pv 7) pa_nil)))) pa_nil)))
      (pss_one (ps_ret pe_non)))) pss_nil)
    (pss_cons (ps_set (i := 2) sc_law_due.nd rfl (.inr rfl) (pe_call (E := E0) (ok_law_spots T) (hr.mono (by decide)) (by rfl) T.g_law_spots T.F_law_spots.kp T.b_law_spots .nil pass0 (pa_cons (pv 5) (pa_cons (pe_listRg rfl (by rfl) T.n_list (prg_1 (by rfl) T.n_range (pe_callB call_len_seq (by rfl) T.n_len PySem.boot_len (pa_cons (pv 5) pa_nil)))) pa_nil))))
    (pss_cons (ps_set (i := 3) sc_law_due.nd rfl (.inl rfl) (pe_callTy call_tuple_of (by rfl) T.n_tuple (by decide +kernel) (pa_cons (pe_lock (pe_lc (own := [("place", 8)]) (g := gName 8) rfl sc_law_due.nd (pi_keys (pv 2)) (blkOk_by (N := ["rows", "deed", "spots", "down", "left", "queue", "sat_so", "now", "place", "row"]) (sc := defScope s_law_due) (by decide +kernel)) (fun _ _ _ _ _ => (pg_name (i := 8) sc_law_due.nd rfl (by first | exact .inl rfl | exact .inr rfl))) (fun _ _ _ _ _ => pts_one (pt_cmpR op_eq (pe_dget (hu_of hr) (pv 2) (pv 8) (fun _ _ => rfl)) (pe_ix (show IxR _ (rIxT K) from ix_tup) (pv 5) (pv 8) (fun _ _ => rfl)) (nomark _))) (fun _ _ _ _ _ => (pe_ix (show IxR _ (rIxT K) from ix_tup) (pv 5) (pv 8) (fun _ _ => rfl))))) pa_nil)))
    (pss_cons (ps_set (i := 4) sc_law_due.nd rfl (.inl rfl) (pe_callTy call_tuple_of (by rfl) T.n_tuple (by decide +kernel) (pa_cons (pe_lock (pe_lc (own := [("place", 8)]) (g := gName 8) rfl sc_law_due.nd (pi_keys (pv 2)) (blkOk_by (N := ["rows", "deed", "spots", "down", "left", "queue", "sat_so", "now", "place", "row"]) (sc := defScope s_law_due) (by decide +kernel)) (fun _ _ _ _ _ => (pg_name (i := 8) sc_law_due.nd rfl (by first | exact .inl rfl | exact .inr rfl))) (fun _ _ _ _ _ => pts_one (pt_cmpR op_lt (pe_dget (hu_of hr) (pv 2) (pv 8) (fun _ _ => rfl)) (pe_ix (show IxR _ (rIxT K) from ix_tup) (pv 5) (pv 8) (fun _ _ => rfl)) (nomark _))) (fun _ _ _ _ _ => (pe_ix (show IxR _ (rIxT K) from ix_tup) (pv 5) (pv 8) (fun _ _ => rfl))))) pa_nil)))
    (pss_cons (ps_expr (pe_bm PySem.F.plainAttrs_list PySem.F.slot_list_append PySem.F.type_list_append mt_append (pv 0) (pa_cons (pe_tup (pa_cons (pv 4) (pa_cons (pe_op op_cat (pv 6) (pe_lc (own := [("row", 9)]) (g := gName 9) (tt := tYes) rfl sc_law_due.nd (pi_tup (pv 3)) (blkOk_by (N := ["rows", "deed", "spots", "down", "left", "queue", "sat_so", "now", "place", "row"]) (sc := defScope s_law_due) (by decide +kernel)) (fun _ _ _ _ _ => (pg_name (i := 9) sc_law_due.nd rfl (by first | exact .inl rfl | exact .inr rfl))) (fun _ _ _ _ _ => pts_nil) (fun _ _ _ _ _ => (pe_tup (pa_cons (pe_op op_add (pv 7) pe_int) (pa_cons (pv 9) pa_nil)))))) (pa_cons (pe_op op_add (pv 7) pe_int) pa_nil)))) pa_nil)))
    (pss_one (ps_ret (pv 3))))))))))), ?_⟩
    have h40 := ok.len
    obtain ⟨vp, v, hR, hvp, lvp, hv⟩ := k.top
    obtain ⟨u, a, b, cs, rfl, hu', ha', hb', hcs'⟩ := hv
    have hu := (hidL_same L H).tup hu'
    have ha := (hidL_same L H).tup ha'
    have jl : ¬ V.str "leave" = V.str "join" := fun z => absurd (V.str.inj z) (by decide)
    have jt : ¬ V.str "turn" = V.str "join" := fun z => absurd (V.str.inj z) (by decide)
    have lt : ¬ V.str "turn" = V.str "leave" := fun z => absurd (V.str.inj z) (by decide)
    have bt : ¬ V.str "turn" = V.str "back" := fun z => absurd (V.str.inj z) (by decide)
    have bl : ¬ V.str "leave" = V.str "back" := fun z => absurd (V.str.inj z) (by decide)
    have bj : ¬ V.str "join" = V.str "back" := fun z => absurd (V.str.inj z) (by decide)
    refine ⟨_, rfl, _, rfl, R, _, _, _, rfl, rfl, .of hR, atI_last _ _, u, _, rfl, hu, rfl, _, _, rfl, _, _, rfl, _, _, rfl, rfl, ?_⟩
    cases d with
    | back =>
      refine ⟨_, rfl, t, _, _, _, rfl, rfl, ht, atI_nat (j := 0) rfl, rfl, _, rfl, ?_⟩
      refine ite2 (fun _ => ?_) (fun c => absurd (decide_eq_true rfl) c)
      refine ⟨_, rfl, R, _, rfl, .inl (.of hR), rfl, _, rfl, ?_⟩
      have lR : (vp ++ [V.ref u]).length = pre.length + 1 := by rw [List.length_append, lvp]; rfl
      rw [lR]
      refine ite2 (fun c => ?_) (fun c => ?_)
      · have c2 := V.int.inj (of_decide_eq_true c)
        have e1 : pre = [] := List.eq_nil_of_length_eq_zero (by omega)
        have es : stepD .back pre s = (.str (wordN 7), pre, s) := by simp only [stepD]; rw [if_pos e1]
        rw [es] at q
        exact q H (.str (wordN 7)) (fun _ _ _ e => e) k (.str _)
      · have c2 : pre ≠ [] := fun z => c (decide_eq_true (by rw [z]; rfl))
        obtain ⟨pre', s', rfl⟩ : ∃ pre' s', pre = pre' ++ [s'] := ⟨pre.dropLast, pre.getLast c2, (List.dropLast_concat_getLast c2).symm⟩
        have es : stepD .back (pre' ++ [s']) s = (.none, pre', s') := by simp only [stepD]; rw [if_neg (by simp), List.dropLast_concat, List.getLastD_concat]
        rw [es] at q
        refine ⟨_, rfl, .inl ⟨rfl, _, .of hR⟩, R, _, V.ref u, rfl, rfl, hR, (by simp), ?_⟩
        rw [List.dropLast_concat]
        exact q _ .non (Fr.mut (fun _ _ _ e => e)) (k.set hvp) .non
    | join v e =>
      refine ⟨_, rfl, t, _, _, _, rfl, rfl, ht, atI_nat (j := 0) rfl, rfl, _, rfl, ?_⟩
      refine ite2 (fun c => absurd (of_decide_eq_true c) bj) (fun _ => ?_)
      refine ⟨_, rfl, t, _, _, _, rfl, rfl, ht, atI_nat (j := 0) rfl, rfl, _, rfl, ?_⟩
      refine ite2 (fun _ => ?_) (fun c => absurd (decide_eq_true rfl) c)
      refine ⟨_, rfl, t, _, _, _, rfl, rfl, ht, atI_nat (j := 1) rfl, v, e, 1, 99, rfl, dok H, lohi 1 99 e, rfl, ?_⟩
      rw [lohi_row]
      refine ite2 (fun c => ?_) (fun c => ?_)
      · have e1 : rowD e = false := by simpa using c
        have es : stepD (.join v e) pre s = (.str (wordN 4), pre, s) := by simp only [stepD]; rw [if_pos e1]
        rw [es] at q
        exact q H (.str (wordN 4)) (fun _ _ _ e => e) k (.str _)
      · have e1 : rowD e = true := by simpa using c
        refine ⟨_, rfl, a, _, rfl, .inr ha, rfl, _, rfl, ?_⟩
        rw [List.length_map]
        refine ite2 (fun c => ?_) (fun c => ?_)
        · have c2 := V.int.inj (of_decide_eq_true c)
          have es : stepD (.join v e) pre s = (.str (wordN 6), pre, s) := by simp only [stepD]; rw [if_neg (by rw [e1]; decide), if_pos (by omega)]
          rw [es] at q
          exact q H (.str (wordN 6)) (fun _ _ _ e => e) k (.str _)
        · have c2 : ¬ s.q.length = 40 := fun z => c (decide_eq_true (by rw [z]; rfl))
          obtain ⟨x, rfl, x1, x2⟩ := rowD_inv e1
          have es : stepD (.join v (.int x)) pre s = (.none, pre ++ [s], ⟨s.q ++ [x], s.sat, s.now⟩) := by simp only [stepD]; rw [if_neg (by rw [e1]; decide), if_neg c2]; rfl
          rw [es] at q
          have hx := dok H
          cases hx
          refine ⟨_, rfl, .inl ⟨rfl, _, .of hR⟩, _, rfl, _, rfl, t, _, _, _, rfl, rfl, ht, atI_nat (j := 1) rfl, (by show 1 ≤ sizeLine; decide), fun t1 ht1 => ?_⟩
          have s1 : Same H (upd H t1 (.tup [.int x])) := same_new ht1
          refine cat_go (q' := [x]) (s1.tup ha) (.of upd_same) (by show s.q.length + 1 ≤ 1000; omega) fun H2 d s2 hd => ?_
          refine ⟨_, rfl, _, rfl, (by show 3 ≤ sizeLine; decide), fun w hw => ?_⟩
          have s3 : Same H (upd H2 w (.tup [.ref d, .ref b, .int s.now])) := (s1.trans s2).new hw
          have hw3 : (upd H2 w (.tup [V.ref d, V.ref b, V.int s.now])) w = some (.tup [V.ref d, V.ref b, V.int s.now]) := upd_same
          have hd3 := (same_new (o := .tup [V.ref d, V.ref b, V.int s.now]) hw).tup hd
          generalize upd H2 w (.tup [V.ref d, V.ref b, V.int s.now]) = H3 at *
          have k3 := k.same s3
          have hR3 := s3 _ _ hR
          refine ⟨R, _, _, rfl, rfl, hR3, (by rw [List.length_append, lvp]; exact small1000 (show pre.length + 1 ≤ 1000 by omega)), ?_⟩
          refine q _ .non (Fr.mut (Fr.of s3)) (k3.push hR3 ?_) .non
          exact ⟨w, d, b, cs, rfl, k3.ls.tup (.of hw3), k3.ls.tup hd3, hidL_mono s3 _ _ hb', (hidL_mono s3).dp' hcs'⟩
    | leave v e =>
      refine ⟨_, rfl, t, _, _, _, rfl, rfl, ht, atI_nat (j := 0) rfl, rfl, _, rfl, ?_⟩
      refine ite2 (fun c => absurd (of_decide_eq_true c) bl) (fun _ => ?_)
      refine ⟨_, rfl, t, _, _, _, rfl, rfl, ht, atI_nat (j := 0) rfl, rfl, _, rfl, ?_⟩
      refine ite2 (fun c => absurd (of_decide_eq_true c) jl) (fun _ => ?_)
      refine ⟨_, rfl, t, _, _, _, rfl, rfl, ht, atI_nat (j := 0) rfl, rfl, _, rfl, ?_⟩
      refine ite2 (fun _ => ?_) (fun c => absurd (decide_eq_true rfl) c)
      refine ⟨_, rfl, t, _, _, _, rfl, rfl, ht, atI_nat (j := 1) rfl, _, rfl, a, _, rfl, .inr ha, _, _, rfl, rfl, v, e, 0, ((s.q.map V.int).length : Int) - 1, rfl, dok H, lohi 0 (((s.q.map V.int).length : Int) - 1) e, rfl, ?_⟩
      rw [List.length_map, lohi_leave]
      refine ite2 (fun c => ?_) (fun c => ?_)
      · have e1 : leaveD s.q e = false := by simpa using c
        have es : stepD (.leave v e) pre s = (.str (wordN 5), pre, s) := by simp only [stepD]; rw [if_pos e1]
        rw [es] at q
        exact q H (.str (wordN 5)) (fun _ _ _ e => e) k (.str _)
      · have e1 : leaveD s.q e = true := by simpa using c
        obtain ⟨p, rfl, hp⟩ : ∃ p : Nat, e = .int p ∧ p < s.q.length := by
          cases e with
          | int i =>
            simp only [leaveD, Bool.and_eq_true, decide_eq_true_eq] at e1
            obtain ⟨p, rfl⟩ := Int.eq_ofNat_of_zero_le e1.1
            exact ⟨p, rfl, by omega⟩
          | _ => exact nomatch e1
        have es : stepD (.leave v (.int p)) pre s = (.none, pre ++ [s], ⟨cutQ s.q p, s.sat, s.now⟩) := by simp only [stepD]; rw [if_neg (by rw [e1]; decide)]; rfl
        rw [es] at q
        have hx := dok H
        cases hx
        refine ⟨_, rfl, .inl ⟨rfl, _, .of hR⟩, _, rfl, _, rfl, t, _, _, _, rfl, rfl, ht, atI_nat (j := 1) rfl, _, rfl, slA_to ha fun H1 b1 s1 hb1 => ?_⟩
        refine ⟨_, rfl, _, rfl, t, _, _, _, rfl, rfl, s1.tup ht, atI_nat (j := 1) rfl, _, _, rfl, rfl, ((p + 1 : Nat) : Int), rfl, ?_⟩
        unfold tNoPart
        refine slA_from (p := p + 1) (s1.tup ha) fun H2 b2 s2 hb2 => ?_
        refine cat_go (s2.tup hb1) hb2 (by rw [List.length_take, List.length_drop]; omega) fun H3 d s3 hd => ?_
        refine ⟨_, rfl, _, rfl, (by show 3 ≤ sizeLine; decide), fun w hw => ?_⟩
        have s4 : Same H (upd H3 w (.tup [.ref d, .ref b, .int s.now])) := ((s1.trans s2).trans s3).new hw
        have hw4 : (upd H3 w (.tup [V.ref d, V.ref b, V.int s.now])) w = some (.tup [V.ref d, V.ref b, V.int s.now]) := upd_same
        have hd4 := (same_new (o := .tup [V.ref d, V.ref b, V.int s.now]) hw).tup hd
        generalize upd H3 w (.tup [V.ref d, V.ref b, V.int s.now]) = H4 at *
        have k4 := k.same s4
        have hR4 := s4 _ _ hR
        refine ⟨R, _, _, rfl, rfl, hR4, (by rw [List.length_append, lvp]; exact small1000 (show pre.length + 1 ≤ 1000 by omega)), ?_⟩
        refine q _ .non (Fr.mut (Fr.of s4)) (k4.push hR4 ?_) .non
        exact ⟨w, d, b, cs, rfl, k4.ls.tup (.of hw4), k4.ls.tup hd4, hidL_mono s4 _ _ hb', (hidL_mono s4).dp' hcs'⟩
    | turn =>
      refine ⟨_, rfl, t, _, _, _, rfl, rfl, ht, atI_nat (j := 0) rfl, rfl, _, rfl, ?_⟩
      refine ite2 (fun c => absurd (of_decide_eq_true c) bt) (fun _ => ?_)
      refine ⟨_, rfl, t, _, _, _, rfl, rfl, ht, atI_nat (j := 0) rfl, rfl, _, rfl, ?_⟩
      refine ite2 (fun c => absurd (of_decide_eq_true c) jt) (fun _ => ?_)
      refine ⟨_, rfl, t, _, _, _, rfl, rfl, ht, atI_nat (j := 0) rfl, rfl, _, rfl, ?_⟩
      refine ite2 (fun c => absurd (of_decide_eq_true c) lt) (fun _ => ?_)
      -- spots
      refine ⟨_, rfl, _, rfl, a, _, rfl, .inr ha, _, rfl, RgOk.of_le (by omega) (by rw [List.length_map]; omega) (by omega) (by omega), fun l hl => ?_⟩
      have el : rgV 0 (((s.q.map V.int).length : Nat) : Int) = (pls s.q 0).map V.int := by rw [List.length_map, rgV_eq, pls_zero]
      rw [el]
      have s1 : Same H (upd H l (.lst ((pls s.q 0).map V.int))) := same_new hl
      refine ⟨a, l, s.q, S s.q 0, rfl, s1.tup ha, .of upd_same, Nat.le_trans (Nat.le_of_eq (en_length s.q 0)) (by omega), S_nodup s.q 0, fun x hx => (S_mem (p := x.1) (r := x.2) hx).2, fun H2 d s2 nd hd => ?_⟩
      have nd0 : H d = none := s1.free nd
      have s02 := s1.trans s2
      have lk := dkv_len s.q
      refine ⟨d, _, hd, trivial, fun od => ?_⟩
      have s03 : Same H (upd H2 d (.frz od (.dK (dkv 1000 (S s.q 0))))) := s02.mut nd0
      have hd3 : (upd H2 d (.frz od (.dK (dkv 1000 (S s.q 0))))) d = some (.frz od (.dK (dkv 1000 (S s.q 0)))) := upd_same
      generalize upd H2 d (.frz od (.dK (dkv 1000 (S s.q 0)))) = H3 at s03 hd3
      refine ⟨_, rfl, d, od, rfl, .inl ⟨_, hd3, fun D hD => ?_⟩⟩
      refine lc_data (K := K) walk_keys (fun i => .int (i : Int)) (fun i H x H' hi _ y => ⟨y.1, ?_⟩) (fun i => !inSt s.q i) (fun i => .int (s.q.getD i 0)) (by omega) hD (fun H' s4 => s4 _ _ hd3) (fun x => rfl) (fun i H' hi s4 Q kq => ?_) (fun i H' hi _ s4 _ Q kq => ?_) (fun H4 ws s4 hw hws => ?_)
      · obtain ⟨kk, vv, h1, rfl⟩ := y.2
        rw [dkv_key h1]
        rfl
      · rw [lk] at hi
        obtain ⟨z, z1, z2, z3⟩ := spot_law ok.rows hi
        have gd : DGet H' d (.int (i : Int)) (some (.int z)) := by
          rw [← z1]
          exact .inl ⟨_, Sum.inl (i : Int), .inr ⟨od, s4 _ _ hd3⟩, rfl, rfl⟩
        have g1 : atI (s.q.map V.int) ((i : Nat) : Int) = some (V.int (s.q.getD i 0)) := atI_nat (by rw [List.getElem?_map, List.getD_eq_getElem?_getD, List.getElem?_eq_getElem hi]; rfl)
        refine ⟨_, rfl, _, rfl, d, .int z, rfl, gd, _, rfl, _, rfl, a, _, _, _, rfl, rfl, s4.tup (s03.tup ha), g1, rfl, _, rfl, ?_⟩
        have e3 : decide (V.int z = V.int (s.q.getD i 0)) = !inSt s.q i := by
          by_cases c : inSt s.q i = true
          · rw [c]
            exact decide_eq_false fun y => by have := V.int.inj y; have := z3.mpr c; omega
          · rw [Bool.eq_false_iff.mpr c]
            exact decide_eq_true (congrArg V.int (by have : ¬ z < s.q.getD i 0 := fun y => c (z3.mp y); omega))
        rw [e3]
        exact kq H' (Same.refl _)
      · rw [lk] at hi
        have g1 : atI (s.q.map V.int) ((i : Nat) : Int) = some (V.int (s.q.getD i 0)) := atI_nat (by rw [List.getElem?_map, List.getD_eq_getElem?_getD, List.getElem?_eq_getElem hi]; rfl)
        exact ⟨_, rfl, _, rfl, a, _, _, _, rfl, rfl, s4.tup (s03.tup ha), g1, kq _ H' (Same.refl _) (.int _)⟩
      have ed : ((List.range (dkv 1000 (S s.q 0)).length).filter (fun i => !inSt s.q i)).map (fun i => PyData.int (s.q.getD i 0)) = (dnQ s.q).map PyData.int := by rw [lk]; unfold dnQ; rw [List.map_map]; rfl
      rw [ed] at hws
      obtain rfl := dps_inv hws
      refine ⟨s4 _ _ hd3, ?_⟩
      have nDd : D ≠ d := fun z => by rw [z, hd3] at hD; cases hD
      have hw5 : (upd H4 d (.dK (dkv 1000 (S s.q 0)))) D = some (.lst ((dnQ s.q).map V.int)) := by rw [upd_ne nDd]; exact hw
      have s05 : Same H (upd H4 d (.dK (dkv 1000 (S s.q 0)))) := (s03.trans s4).mut nd0
      have hd5 : (upd H4 d (.dK (dkv 1000 (S s.q 0)))) d = some (.dK (dkv 1000 (S s.q 0))) := upd_same
      generalize upd H4 d (.dK (dkv 1000 (S s.q 0))) = H5 at hw5 s05 hd5
      refine ⟨D, _, rfl, .inl ⟨.of hw5, fun t1 ht1 => ?_⟩⟩
      have s06 := s05.new (o := .tup ((dnQ s.q).map V.int)) ht1
      have hd6 := (same_new (o := .tup ((dnQ s.q).map V.int)) ht1) _ _ hd5
      have ht6 : (upd H5 t1 (.tup ((dnQ s.q).map V.int))) t1 = some (.tup ((dnQ s.q).map V.int)) := upd_same
      have nt1 : t1 ≠ d := fun z => by rw [z, hd5] at ht1; cases ht1
      generalize upd H5 t1 (.tup ((dnQ s.q).map V.int)) = H6 at s06 hd6 ht6
      -- left
      refine ⟨d, _, hd6, trivial, fun od2 => ?_⟩
      have s07 : Same H (upd H6 d (.frz od2 (.dK (dkv 1000 (S s.q 0))))) := s06.mut nd0
      have hd7 : (upd H6 d (.frz od2 (.dK (dkv 1000 (S s.q 0))))) d = some (.frz od2 (.dK (dkv 1000 (S s.q 0)))) := upd_same
      have ht7 : (upd H6 d (.frz od2 (.dK (dkv 1000 (S s.q 0))))) t1 = some (.tup ((dnQ s.q).map V.int)) := by rw [upd_ne nt1]; exact ht6
      generalize upd H6 d (.frz od2 (.dK (dkv 1000 (S s.q 0)))) = H7 at s07 hd7 ht7
      refine ⟨_, rfl, d, od2, rfl, .inl ⟨_, hd7, fun D2 hD2 => ?_⟩⟩
      refine lc_data (K := K) walk_keys (fun i => .int (i : Int)) (fun i H x H' hi _ y => ⟨y.1, ?_⟩) (inSt s.q) (fun i => .int (s.q.getD i 0)) (by omega) hD2 (fun H' s8 => s8 _ _ hd7) (fun x => rfl) (fun i H' hi s8 Q kq => ?_) (fun i H' hi _ s8 _ Q kq => ?_) (fun H8 ws2 s8 hw2 hws2 => ?_)
      · obtain ⟨kk, vv, h1, rfl⟩ := y.2
        rw [dkv_key h1]
        rfl
      · rw [lk] at hi
        obtain ⟨z, z1, z2, z3⟩ := spot_law ok.rows hi
        have gd : DGet H' d (.int (i : Int)) (some (.int z)) := by
          rw [← z1]
          exact .inl ⟨_, Sum.inl (i : Int), .inr ⟨od2, s8 _ _ hd7⟩, rfl, rfl⟩
        have g1 : atI (s.q.map V.int) ((i : Nat) : Int) = some (V.int (s.q.getD i 0)) := atI_nat (by rw [List.getElem?_map, List.getD_eq_getElem?_getD, List.getElem?_eq_getElem hi]; rfl)
        refine ⟨_, rfl, _, rfl, d, .int z, rfl, gd, _, rfl, _, rfl, a, _, _, _, rfl, rfl, s8.tup (s07.tup ha), g1, _, _, rfl, rfl, _, rfl, ?_⟩
        have e3 : decide (z < s.q.getD i 0) = inSt s.q i := by
          by_cases c : inSt s.q i = true
          · rw [c]
            exact decide_eq_true (z3.mpr c)
          · rw [Bool.eq_false_iff.mpr c]
            exact decide_eq_false fun y => c (z3.mp y)
        rw [e3]
        exact kq H' (Same.refl _)
      · rw [lk] at hi
        have g1 : atI (s.q.map V.int) ((i : Nat) : Int) = some (V.int (s.q.getD i 0)) := atI_nat (by rw [List.getElem?_map, List.getD_eq_getElem?_getD, List.getElem?_eq_getElem hi]; rfl)
        exact ⟨_, rfl, _, rfl, a, _, _, _, rfl, rfl, s8.tup (s07.tup ha), g1, kq _ H' (Same.refl _) (.int _)⟩
      have ed2 : ((List.range (dkv 1000 (S s.q 0)).length).filter (inSt s.q)).map (fun i => PyData.int (s.q.getD i 0)) = (lfQ s.q).map PyData.int := by rw [lk]; unfold lfQ; rw [List.map_map]; rfl
      rw [ed2] at hws2
      obtain rfl := dps_inv hws2
      refine ⟨s8 _ _ hd7, ?_⟩
      have nDd2 : D2 ≠ d := fun z => by rw [z, hd7] at hD2; cases hD2
      have nt1d : t1 ≠ d := nt1
      have hw9 : (upd H8 d (.dK (dkv 1000 (S s.q 0)))) D2 = some (.lst ((lfQ s.q).map V.int)) := by rw [upd_ne nDd2]; exact hw2
      have ht9 : (upd H8 d (.dK (dkv 1000 (S s.q 0)))) t1 = some (.tup ((dnQ s.q).map V.int)) := by rw [upd_ne nt1d]; exact s8 _ _ ht7
      have s09 : Same H (upd H8 d (.dK (dkv 1000 (S s.q 0)))) := (s07.trans s8).mut nd0
      generalize upd H8 d (.dK (dkv 1000 (S s.q 0))) = H9 at hw9 s09 ht9
      refine ⟨D2, _, rfl, .inl ⟨.of hw9, fun f hf => ?_⟩⟩
      have s10 := s09.new (o := .tup ((lfQ s.q).map V.int)) hf
      have ht10 := (same_new (o := .tup ((lfQ s.q).map V.int)) hf) _ _ ht9
      have hf10 : (upd H9 f (.tup ((lfQ s.q).map V.int))) f = some (.tup ((lfQ s.q).map V.int)) := upd_same
      generalize upd H9 f (.tup ((lfQ s.q).map V.int)) = H10 at s10 ht10 hf10
      have k10 := k.same s10
      have hR10 := s10 _ _ hR
      have lD := dnQ_length s.q
      refine ⟨_, rfl, .inl ⟨rfl, _, .of hR10⟩, _, rfl, _, rfl, _, rfl, t1, rfl, ⟨_, .of ht10⟩, fun D3 hD3 => ?_⟩
      refine lc_data (K := K) walk_tup (fun i => ((dnQ s.q).map V.int).getD i .non) (fun i H x H' hi _ y => ⟨y.1, ?_⟩) (fun _ => true) (fun i => pairD ((s.now : Int) + 1, (dnQ s.q).getD i 0)) (by rw [List.length_map]; omega) hD3 (fun H' s7 => .of (s7 _ _ ht10)) (fun x => rfl) (fun i H' hi s7 Q kq => kq H' (Same.refl _)) (fun i H' hi _ s7 hDz Q kq => ?_) (fun H11 zs s11 hz hzs => ?_)
      · rw [List.getD_eq_getElem?_getD, y.2]; rfl
      · rw [List.length_map] at hi
        have e1 : ((dnQ s.q).map V.int).getD i .non = .int ((dnQ s.q).getD i 0) := by rw [List.getD_eq_getElem?_getD, List.getElem?_map, List.getElem?_eq_getElem hi, List.getD_eq_getElem?_getD, List.getElem?_eq_getElem hi]; rfl
        rw [e1]
        obtain ⟨us, hus⟩ := hDz
        refine ⟨_, rfl, _, _, rfl, rfl, _, rfl, (by show 2 ≤ sizeLine; decide), fun u hu => kq _ _ (same_new hu) (.tup (tup_hid ⟨us, (same_new hu) _ _ hus⟩ (.of upd_same)) (.cons (.int _) (.cons (.int _) .nil)))⟩
      have ez : ((List.range ((dnQ s.q).map V.int).length).filter fun _ => true).map (fun i => pairD ((s.now : Int) + 1, (dnQ s.q).getD i 0)) = ((dnQ s.q).map (fun x => ((s.now : Int) + 1, x))).map pairD := by
        rw [List.length_map, range_getD 0 (fun x => pairD ((s.now : Int) + 1, x)), List.map_map]
        rfl
      rw [ez] at hzs
      have lzs := dps_length hzs
      rw [List.length_map, List.length_map] at lzs
      have lcs := dps_length hcs'
      rw [List.length_map] at lcs
      have s0b := s10.trans s11
      have hbH : H b = some (.lst cs) := hidL_same L H _ _ hb'
      have hss := ok.sat
      refine ⟨b, D3, _, _, rfl, rfl, s0b _ _ hbH, hz, (by have : (100000 : Nat) < sizeLine := by decide
                                                          omega), fun g hg => ?_⟩
      have s12 : Same H11 (upd H11 g (.lst (cs ++ zs))) := same_new hg
      have s0c := s0b.trans s12
      have k12 := (k.same s0b)
      have hg12 := k12.ls.new hg (upd_same (H := H11) (a := g) (o := .lst (cs ++ zs)))
      have hz12 : DpAll K (hidL L (upd H11 g (.lst (cs ++ zs)))) zs (((dnQ s.q).map (fun x => ((s.now : Int) + 1, x))).map pairD) := (k.same s0c).ls.dps _ _ (tOnly_all fun d h => by obtain ⟨p, _, rfl⟩ := List.mem_map.mp h; rfl) (s12.dp' hzs)
      have ht12 := s12 _ _ (s11 _ _ ht10)
      have hf12 := s12 _ _ (s11 _ _ hf10)
      generalize upd H11 g (.lst (cs ++ zs)) = H12 at s12 s0c hg12 hz12 ht12 hf12
      refine ⟨_, rfl, _, _, rfl, rfl, (by show 3 ≤ sizeLine; decide), fun w hw => ?_⟩
      have s13 : Same H12 (upd H12 w (.tup [.ref f, .ref g, .int ((s.now : Int) + 1)])) := same_new hw
      have s0d := s0c.trans s13
      have hw13 : (upd H12 w (.tup [V.ref f, V.ref g, V.int ((s.now : Int) + 1)])) w = some (.tup [V.ref f, V.ref g, V.int ((s.now : Int) + 1)]) := upd_same
      generalize upd H12 w (.tup [V.ref f, V.ref g, V.int ((s.now : Int) + 1)]) = H13 at s13 s0d hw13
      have k13 := k.same s0d
      have hR13 := s0d _ _ hR
      have ht13 := s13 _ _ ht12
      have ntR : t1 ≠ R := fun z => by rw [z, hR13] at ht13; cases ht13
      refine ⟨R, _, _, rfl, rfl, hR13, (by rw [List.length_append, lvp]; exact small1000 (show pre.length + 1 ≤ 1000 by omega)), ?_⟩
      refine ⟨_, rfl, q _ _ (Fr.mut (Fr.of s0d)) (k13.push hR13 ?_) (dp_intsT (.of (by rw [upd_ne ntR]; exact ht13)))⟩
      refine ⟨w, f, g, _, rfl, k13.ls.tup (.of hw13), k13.ls.tup (.of (s13 _ _ hf12)), hidL_mono s13 _ _ hg12, (hidL_mono s13).dp' ?_⟩
      show DpAll K (hidL L H12) (cs ++ zs) ((s.sat ++ (dnQ s.q).map _).map pairD)
      rw [List.map_append]
      exact dps_append ((hidL_mono s0c).dp' hcs') hz12
end
end Ai
namespace Ai
open PySem PySem.Spec PyProof.Rows L2
theorem _root_.L2.Same.fr {G H H' : Hp} {r : Addr} (e : Same G H) (n : G r = none) (f : Fr r H H') : Same G H' := fun b o h => f b o (fun z => by rw [z, n] at h; cases h) (e b o h)
theorem make_at {K : PySem.W.Frag} {mg : Str → Option Value} {T : Fns K mg} {H : Hp} {Q : Hp → Prop} {E : XK} {x dx : Addr} (hx : H x = none) (hdx : H dx = none) (h : ∀ H' r, Same H H' → H r = none → KAt K T.a_Kept H' x dx r [] st0 → Q H') :
    sp_Kept___init__ T [.ref x] (upd (upd H dx (.own x)) x (.ins T.a_Kept dx [])) (fun v H2 => v = .non ∧ Q H2) E := by
  refine ⟨x, dx, rfl, upd_same, fun H' r f nr k => ⟨rfl, ?_⟩⟩
  have nrx : r ≠ x := fun e => by rw [e, upd_same] at nr; cases nr
  rw [upd_ne nrx] at nr
  have nrd : r ≠ dx := fun e => by rw [e, upd_same] at nr; cases nr
  rw [upd_ne nrd] at nr
  refine h H' r (fun b o e => ?_) nr k
  have nbx : b ≠ x := ne_of_none e hx
  exact f b o nbx (by rw [upd_ne nbx, upd_ne (ne_of_none e hdx)]; exact e)
/-- who sat by the turn t -/
def satsQ (q : List Int) : Nat → List (Int × Int)
  | 0 => []
  | t + 1 => satsQ q t ++ (dnQ (KQ q t)).map fun x => ((t : Int) + 1, x)
def atQ (q : List Int) (t : Nat) : KSt := ⟨KQ q t, satsQ q t, t⟩
theorem atQ_turn (q : List Int) (t : Nat) : turnS (atQ q t) = atQ q (t + 1) := by
  unfold atQ turnS
  rw [KQ_succ]
  rfl
theorem eqv_pairs : ∀ a : List (Int × Int), PyData.eqvAll (a.map pairD) (a.map pairD) = true
  | [] => rfl
  | x :: a => by
    rw [List.map_cons, PyData.eqvAll, eqv_pairs a]
    show ((x.1 == x.1) && ((x.2 == x.2) && true) && true) = true
    simp
theorem nf_self {K : PySem.W.Frag} {C : Addr} : PySem.W.notFirst K C (.ref C) = true := by
  unfold PySem.W.notFirst
  have : ((Value.ref C) == (Value.ref C)) = true := by simp
  rw [this]
  rfl
theorem sh_pairs (l : List (Int × Int)) : SeqAt.shaped (.list (l.map pairD)) = true := by
  refine shaped_list (n := 1) (fun d h => ?_) (fun d h => ?_) (by omega)
  · obtain ⟨i, _, rfl⟩ := List.mem_map.mp h; rfl
  · obtain ⟨i, _, rfl⟩ := List.mem_map.mp h; exact Nat.le_refl 1
def sp_law_plain (K : PySem.W.Frag) : Sp := fun vs H Q _ => ∃ w : Addr, vs = [.ref w] ∧ WellAt H w ∧ ∀ H', Fr w H H' → Q (.bl true) H'
section
variable {P : Program} {w : World} {K : PySem.W.Frag} {mg : Str → Option Value} {base : Heap}
theorem ok_law_plain (T : Fns K mg) : FnOk P w K mg base CX0 6 T.a_law_plain T.d_law_plain ["well"] (sp_law_plain K) := by
  refine T.F_law_plain.ok sc_law_plain (fun vs H Q E h => ?_) (fun cdv A outer s H vs Q E hr h => ?_)
  · obtain ⟨wl, rfl, _⟩ := h
    rfl
  · obtain ⟨wl, rfl, hw, k⟩ := h
    refine ⟨_, (pss_cons (ps_par rfl sc_law_plain.nd (i := 2) (j := 6) rfl rfl (by decide) rfl rfl (pa_cons (pe_call (E := E0) (ok_law_queue T) (hr.mono (by decide)) (by rfl) T.g_law_queue T.F_law_queue.kp T.b_law_queue .nil pass0 (pa_cons (pv 0) (pa_cons pe_int pa_nil))) (pa_cons (pe_make0 (E := E0) T.mk_Kept (ok_Kept___init__ T) (hr.mono (by decide)) (by rfl) T.g_Kept T.b_Kept___init__ .nil pass0) pa_nil)) (by rfl))
    (pss_cons (ps_for PassesOwn.never rfl (pi_tup (pv 2)) (pg_name (i := 1) sc_law_plain.nd rfl (.inl rfl))
      (pss_one (ps_expr (pe_meth (E := E0) (pv 6) T.cl_Kept T.m_Kept_join (ok_Kept_join T) (hr.mono (by decide)) T.b_Kept_join .nil passN (pa_cons (pv 1) pa_nil)))))
    (pss_cons (ps_asg (pe_tup (pa_cons (pe_lst pa_nil) (pa_cons pe_int pa_nil))) (pg_tup rfl (pgs_cons (pg_name (i := 7) sc_law_plain.nd rfl (.inl rfl)) (pgs_cons (pg_name (i := 5) sc_law_plain.nd rfl (by first | exact .inl rfl | exact .inr rfl)) pgs_nil))))
    (pss_cons (ps_while PassesOwn.never (pt_cmpR op_gt (pe_callB (call_lenOwn (ok_Kept___len__ T) (hr.mono (by decide)) T.m_Kept___len__.at_ T.m_Kept___len__.fn T.b_Kept___len__) (by rfl) T.n_len PySem.boot_len (pa_cons (pv 6) pa_nil)) pe_int (nomark _)) (pss_cons (ps_set (i := 5) sc_law_plain.nd rfl (.inr rfl) (pe_op op_add (pv 5) pe_int))
      (pss_cons (ps_expr (pe_meth0 (E := E0) (pv 6) T.cl_Kept T.m_Kept_turn (ok_Kept_turn T) (hr.mono (by decide)) T.b_Kept_turn .nil pass0))
      (pss_one (ps_set (i := 7) sc_law_plain.nd rfl (.inl rfl) (pe_op op_cat (pv 7) (pe_lc (own := [("row", 1), ("own", 8)]) (g := gTup K 2 (gCons (gName 1) (gCons (gName 8) gNil))) rfl sc_law_plain.nd (pi_zipM (by rfl) T.n_zip (pa_cons (pv 2) (pa_cons (pe_call (E := E0) (ok_turns T) (hr.mono (by decide)) (by rfl) T.g_turns T.F_turns.kp T.b_turns .nil passN (pa_cons (pv 2) pa_nil)) pa_nil))) (blkOk_by (N := ["well", "row", "queue", "idle", "full", "turn", "kept", "due", "own"]) (sc := defScope s_law_plain) (by decide +kernel)) (fun _ _ _ _ _ => (pg_tup rfl (pgs_cons (pg_name (i := 1) sc_law_plain.nd rfl (by first | exact .inl rfl | exact .inr rfl)) (pgs_cons (pg_name (i := 8) sc_law_plain.nd rfl (by first | exact .inl rfl | exact .inr rfl)) pgs_nil)))) (fun _ _ _ _ _ => pts_one (pt_cmpR op_eq (pv 8) (pv 5) (nomark _))) (fun _ _ _ _ _ => (pe_tup (pa_cons (pv 5) (pa_cons (pv 1) pa_nil)))))))))))
    (pss_cons (ps_if (PW.pt (pw_or (pt_cmpR (op_neD hr.units) (pe_meth0 (E := E0) (pv 6) T.cl_Kept T.m_Kept_sat (ok_Kept_sat T) (hr.mono (by decide)) T.b_Kept_sat .nil pass0) (pv 7) (nomark _)) (pw_or (pt_cmpR op_ne (pe_meth0 (E := E0) (pv 6) T.cl_Kept T.m_Kept_now (ok_Kept_now T) (hr.mono (by decide)) T.b_Kept_now .nil pass0) (pe_call (E := E0) (ok_how_long T) (hr.mono (by decide)) (by rfl) T.g_how_long T.F_how_long.kp T.b_how_long .nil passN (pa_cons (pv 2) pa_nil)) (nomark _)) (pw_or1 (pt_cmpR (op_neD hr.units) (pe_meth0 (E := E0) (pv 6) T.cl_Kept T.m_Kept_turn (ok_Kept_turn T) (hr.mono (by decide)) T.b_Kept_turn .nil pass0) (pe_tup pa_nil) (nomark _)))))) (pss_one (ps_ret pe_bl)) pss_nil)
    (pss_cons (ps_set (i := 3) sc_law_plain.nd rfl (.inl rfl) (pe_make0 (E := E0) T.mk_Kept (ok_Kept___init__ T) (hr.mono (by decide)) (by rfl) T.g_Kept T.b_Kept___init__ .nil pass0))
    (pss_cons (ps_if (PW.pt (pw_or (pt_cmpR (op_neD hr.units) (pe_meth0 (E := E0) (pv 3) T.cl_Kept T.m_Kept_turn (ok_Kept_turn T) (hr.mono (by decide)) T.b_Kept_turn .nil pass0) (pe_tup pa_nil) (nomark _)) (pw_or1 (pt_cmpR (op_eqOwn (ok_Kept___eq__ T) (hr.mono (by decide)) T.m_Kept___eq__.at_ T.m_Kept___eq__.fn T.b_Kept___eq__) (pv 3) (pe_make0 (E := E0) T.mk_Kept (ok_Kept___init__ T) (hr.mono (by decide)) (by rfl) T.g_Kept T.b_Kept___init__ .nil pass0) (nomark _))))) (pss_one (ps_ret pe_bl)) pss_nil)
    (pss_cons (ps_set (i := 4) sc_law_plain.nd rfl (.inr rfl) (pe_make0 (E := E0) T.mk_Kept (ok_Kept___init__ T) (hr.mono (by decide)) (by rfl) T.g_Kept T.b_Kept___init__ .nil pass0))
    (pss_cons (ps_for PassesOwn.never rfl (pi_range1 (by rfl) T.n_range (pa_cons pe_int pa_nil)) (pg_name (i := 5) sc_law_plain.nd rfl (by first | exact .inl rfl | exact .inr rfl))
      (pss_one (ps_expr (pe_meth (E := E0) (pv 4) T.cl_Kept T.m_Kept_join (ok_Kept_join T) (hr.mono (by decide)) T.b_Kept_join .nil passN (pa_cons pe_int pa_nil)))))
    (pss_one (ps_ret (pe_cmpR (op_eqD hr.units) (pe_lc (own := [("row", 1)]) (g := gName 1) (tt := tYes) rfl sc_law_plain.nd (pi_list (pe_lst (pa_cons pe_int (pa_cons pe_non pa_nil)))) (blkOk_by (N := ["well", "row", "queue", "idle", "full", "turn", "kept", "due", "own"]) (sc := defScope s_law_plain) (by decide +kernel)) (fun _ _ _ _ _ => (pg_name (i := 1) sc_law_plain.nd rfl (by first | exact .inl rfl | exact .inr rfl))) (fun _ _ _ _ _ => pts_nil) (fun _ _ _ _ _ => (pe_call (E := E0) (ok_law_done T) (hr.mono (by decide)) (by rfl) T.g_law_done T.F_law_done.kp T.b_law_done .nil pass0 (pa_cons (pv 4) (pa_cons (pe_tup (pa_cons pe_str (pa_cons (pv 1) pa_nil))) pa_nil))))) (pe_lst (pa_cons pe_str (pa_cons pe_str pa_nil))) (nomark _))))))))))))), ?_⟩
    refine ⟨_, rfl, wl, 40, rfl, hw, by decide, fun H1 t q s1 ok1 hq' hlen rows => ?_⟩
    have G0 : Same (hid H wl) H1 := s1.trans (hid_same _ _)
    have hq1 := (hid_same H1 wl).tup hq'
    refine fun o dx ho hdx _ => make_at ho hdx fun H2 r s2 nr ka => ⟨_, _, rfl, ?_⟩
    have hq2 := s2.tup hq1
    -- for row in queue
    have at_i : ∀ {i : Nat} {x : V}, (q.map V.int)[i]? = some x → ∃ y, q[i]? = some y ∧ x = .int y ∧ 1 ≤ y ∧ y ≤ 99 := fun {i x} h => by
      rw [List.getElem?_map] at h
      cases e : q[i]? with
      | none => rw [e] at h; cases h
      | some y =>
        rw [e] at h
        have := rows y (List.mem_of_getElem? e)
        exact ⟨y, rfl, (Option.some.inj h).symm, this.1, this.2⟩
    refine ⟨_, rfl, t, rfl, ⟨_, hq2⟩, for_it (walk_tup (K := K)) (fun i σ H' => ∃ (x1 : Option V) (pre : List KSt), σ = [some (.ref wl), x1, some (.ref t), none, none, none, some (.ref o), none, none] ∧ Same H1 H' ∧ KAt K T.a_Kept H' o dx r pre ⟨q.take i, [], 0⟩ ∧ pre.length = i)
      ⟨none, [], rfl, s2, ka, rfl⟩ (fun i σ H' _ ⟨_, _, _, z, _⟩ => z.tup hq1) ?_ ?_⟩
    · rintro i x σ H3 H3' hi ⟨x1, pre, rfl, s3, ka, lp⟩ ⟨rfl, hx⟩
      obtain ⟨y, hy, rfl, y1, y2⟩ := at_i hx
      have hi' : i < q.length := (List.getElem?_eq_some_iff.mp hy).1
      refine ⟨_, rfl, o, dx, _, rfl, ka.ins, rfl, _, rfl, o, dx, r, pre, _, .int y, .int y, rfl, ka, .int _, by omega, fun e => ?_, fun _ e => ?_, fun z e _ _ _ H4 f4 k4 => ?_⟩
      · rw [rowD_int.mpr ⟨y1, y2⟩] at e
        cases e
      · exfalso
        have : (q.take i).length = 40 := e
        rw [List.length_take] at this
        omega
      · obtain rfl := PyData.int.inj e
        refine ⟨_, pre ++ [⟨q.take i, [], 0⟩], rfl, s3.fr nr f4, ?_, by rw [List.length_append, lp]; rfl⟩
        have et : q.take (i + 1) = q.take i ++ [y] := take_succ_of hy
        rw [et]
        exact k4
    · rintro σ H3 ⟨x1, pre, rfl, s3, ka, lp⟩
      rw [List.length_map] at ka lp
      rw [List.take_length] at ka
      have e0 : (⟨q, [], 0⟩ : KSt) = atQ q 0 := by unfold atQ; rw [KQ_zero]; rfl
      rw [e0] at ka
      -- due, turn
      refine ⟨Nat.zero_le _, fun D hD => ⟨(by show 2 ≤ sizeLine; decide), fun z hz => ⟨z, _, rfl, .of upd_same, rfl, _, _, rfl, _, _, rfl, rfl, ?_⟩⟩⟩
      have s4 : Same H1 (upd (upd H3 D (.lst [])) z (.tup [.ref D, .int 0])) := (s3.new hD).new hz
      have k4 := ka.same ((same_new (o := .lst []) hD).new (o := .tup [.ref D, .int 0]) hz)
      have hD4 : (upd (upd H3 D (.lst [])) z (.tup [V.ref D, V.int 0])) D = some (.lst []) := (same_new hz) _ _ upd_same
      have nDr : D ≠ r := fun e => by
        obtain ⟨vs, h1, _⟩ := ka.dat
        rw [← e, hD] at h1
        cases h1
      generalize upd (upd H3 D (.lst [])) z (.tup [V.ref D, V.int 0]) = H4 at s4 k4 hD4
      have ok1 : QOk q := ⟨hlen, rows⟩
      have hLL := LL_le q
      refine ⟨fun m σ H' => ∃ (t0 : Nat) (D : Addr) (cs : List V) (pre : List KSt) (x1 x8 : Option V), t0 + m = LL q ∧ σ = [some (.ref wl), x1, some (.ref t), none, none, some (.int t0), some (.ref o), some (.ref D), x8] ∧ Same H1 H' ∧ KAt K T.a_Kept H' o dx r pre (atQ q t0) ∧ pre.length = q.length + t0 ∧ H' D = some (.lst cs) ∧ D ≠ r ∧ DpAll K H' cs ((satsQ q t0).map pairD),
        ⟨LL q, 0, D, [], pre, x1, none, by omega, rfl, s4, k4, by omega, hD4, nDr, .nil⟩, ?_⟩
      rintro m σ H5 ⟨t0, D, cs, pre, x1, x8, em, rfl, s5, k5, lp5, hD5, nDr, hcs5⟩
      have lK : (KQ q t0).length ≤ q.length := KQ_length q t0
      refine ⟨_, rfl, o, dx, _, rfl, k5.ins, o, dx, r, pre, _, rfl, k5, (KQ q t0).length, rfl, by omega, _, _, rfl, rfl, _, rfl, ?_⟩
      have tOs : tOnlyA ((satsQ q t0).map pairD) = true := tOnly_all fun d h => by obtain ⟨p, _, rfl⟩ := List.mem_map.mp h; rfl
      have lcs := dps_length hcs5
      rw [List.length_map] at lcs
      have hss : (satsQ q t0).length ≤ 40 * t0 := k5.cur.sat
      refine ite2 (fun c => ?_) (fun c => ?_)
      · have c1 : 0 < (KQ q t0).length := by have := of_decide_eq_true c; omega
        have ht : t0 < LL q := Decidable.byContradiction fun z => by
          rw [(KQ_nil rows (t := t0)).mpr (by omega)] at c1
          cases c1
        refine ⟨_, fun σ' H' z => ⟨m - 1, by omega, z⟩, ?_⟩
        refine ⟨_, rfl, _, _, rfl, rfl, ?_⟩
        obtain ⟨vs5, hr5, _⟩ := k5.dat
        refine ⟨_, rfl, o, dx, _, rfl, k5.ins, rfl, o, dx, r, pre, _, rfl, k5, by omega, (by show t0 < 200; omega), fun H6 b f6 k6 hb => ?_⟩
        rw [atQ_turn] at k6
        have s6 := s5.fr nr f6
        have hD6 : H6 D = some (.lst cs) := f6 _ _ nDr hD5
        have hcs6 := dps_fr hr5 f6 _ _ tOs hcs5
        have hq6 := s6.tup hq1
        refine ⟨_, rfl, _, rfl, _, rfl, .ref t, tupI q, rfl, dp_intsT hq6, fun e => ?_, fun q' e ok' H7 p s7 np hp => ?_⟩
        · rw [show queueD (tupI q) = true from queueD_of ok1] at e
          cases e
        · obtain rfl := tup_inj e
          refine ⟨t, p, _, _, rfl, s7.tup hq6, .of hp, fun D2 hD2 => ?_⟩
          rw [show min (q.map V.int).length ((TT q).map V.int).length = q.length by rw [List.length_map, List.length_map, TT_length, Nat.min_self]]
          have qat : ∀ i, i < q.length → (q.map V.int)[i]? = some (V.int (q.getD i 0)) := fun i hi => by rw [List.getElem?_map, List.getD_eq_getElem?_getD, List.getElem?_eq_getElem hi]; rfl
          have tat : ∀ i, i < q.length → ((TT q).map V.int)[i]? = some (V.int (Tn q i)) := fun i hi => by rw [List.getElem?_map, TT_at hi]; rfl
          refine lc_data2 (K := K) (walk_zipM (xs := q.map V.int) (ys := (TT q).map V.int) (n := q.length) (by rw [List.length_map, List.length_map, TT_length, Nat.min_self])) (fun i => .int (q.getD i 0)) (fun i => .int (Tn q i)) qat tat
            (fun i => decide (Tn q i = t0 + 1)) (fun i => pairD ((t0 : Int) + 1, q.getD i 0)) (by omega) hD2 (fun H' s8 => ⟨s8.tup (s7.tup hq6), .of (s8 _ _ hp)⟩) (fun x y => rfl) (fun i H' hi s8 Q kq => ?_) (fun i H' hi _ s8 hDz Q kq => ?_) (fun H8 ws s8 hw hws => ?_)
          · refine ⟨_, rfl, _, rfl, rfl, _, rfl, ?_⟩
            have ed : decide (V.int ((Tn q i : Nat) : Int) = V.int ((t0 : Int) + 1)) = decide (Tn q i = t0 + 1) := decide_eq_decide.mpr ⟨fun z => by have := V.int.inj z; omega, fun z => by rw [z]; rfl⟩
            rw [ed]
            exact kq H' (Same.refl _)
          · obtain ⟨us, hus⟩ := hDz
            refine ⟨_, rfl, _, rfl, (by show 2 ≤ sizeLine; decide), fun u hu => kq _ _ (same_new hu) (.tup (tup_hid ⟨us, (same_new hu) _ _ hus⟩ (.of upd_same)) (.cons (.int _) (.cons (.int _) .nil)))⟩
          · have ez : ((List.range q.length).filter fun i => decide (Tn q i = t0 + 1)).map (fun i => pairD ((t0 : Int) + 1, q.getD i 0)) = ((dnQ (KQ q t0)).map (fun x => ((t0 : Int) + 1, x))).map pairD := by
              rw [KQ_down rows, List.map_map, List.map_map]
              rfl
            rw [ez] at hws
            have lws := dps_length hws
            rw [List.length_map, List.length_map] at lws
            have ldn := dnQ_length (KQ q t0)
            have s68 := s7.trans s8
            have hbig : (100000 : Nat) < sizeLine := by decide
            refine ⟨D, D2, _, _, rfl, rfl, s68 _ _ hD6, hw, (by omega), fun g hg => ?_⟩
            have s9 : Same H6 (upd H8 g (.lst (cs ++ ws))) := s68.new hg
            have ngr : g ≠ r := fun e => by
              obtain ⟨vs, h1, _⟩ := k6.dat
              rw [e, s68 _ _ h1] at hg
              cases hg
            refine ⟨t0 + 1, g, cs ++ ws, pre ++ [atQ q t0], x1, x8, by omega, rfl, s6.trans s9, k6.same s9, by rw [List.length_append, lp5]; rfl, upd_same, ngr, ?_⟩
            show DpAll K _ (cs ++ ws) ((satsQ q t0 ++ _).map pairD)
            rw [List.map_append]
            exact dps_append (s9.dp' hcs6) ((same_new hg).dp' hws)
      · have e1 : KQ q t0 = [] := List.eq_nil_of_length_eq_zero (Decidable.byContradiction fun z => c (decide_eq_true (by omega)))
        have e2 : t0 = LL q := by have := (KQ_nil rows).mp e1; omega
        refine ⟨_, rfl, o, dx, _, rfl, k5.ins, rfl, o, dx, r, pre, _, rfl, k5, fun H6 l cs6 s6 nl hl hcs6 => ?_⟩
        refine ⟨_, rfl, _, _, .lst (.of hl) (s6.dp' hcs6), .lst (.of (s6 _ _ hD5)) (s6.dp' hcs5), sh_pairs _, sh_pairs _, _, rfl, ?_⟩
        rw [show PyData.eqv (.list ((atQ q t0).sat.map pairD)) (.list ((satsQ q t0).map pairD)) = true from eqv_pairs _]
        refine ite2 (fun c => nomatch c) (fun _ => ?_)
        have k6 := k5.same s6
        have s16 := s5.trans s6
        refine ⟨_, rfl, o, dx, _, rfl, k6.ins, rfl, o, dx, r, pre, _, rfl, k6, ?_⟩
        refine ⟨_, rfl, .ref t, tupI q, rfl, dp_intsT (s16.tup hq1), fun e => ?_, fun q' e ok' H7 s7 => ?_⟩
        · rw [show queueD (tupI q) = true from queueD_of ok1] at e
          cases e
        obtain rfl := tup_inj e
        refine ⟨rfl, _, rfl, ?_⟩
        refine ite2 (fun c => ?_) (fun _ => ?_)
        · have : decide (V.int ((atQ q t0).now : Int) = V.int (LL q : Int)) = true := decide_eq_true (by rw [← e2]; rfl)
          rw [this] at c
          cases c
        have k7 := k6.same s7
        have s17 := s16.trans s7
        refine ⟨_, rfl, o, dx, _, rfl, k7.ins, rfl, o, dx, r, pre, _, rfl, k7, by omega, (by show t0 < 200; omega), fun H8 b f8 k8 hb => ?_⟩
        have e3 : dnQ (atQ q t0).q = [] := by
          show dnQ (KQ q t0) = []
          rw [e1]
          rfl
        rw [e3] at hb
        have s18 := s17.fr nr f8
        refine ⟨Nat.zero_le _, fun u hu => ⟨_, _, dp_intsT (ns := []) ((same_new hu).tup hb), dp_intsT (ns := []) (.of upd_same), sh_intsT [], sh_intsT [], _, rfl, ?_⟩⟩
        refine ite2 (fun c => nomatch c) (fun _ => ?_)
        have s19 := s18.new (o := .tup []) hu
        generalize upd H8 u (.tup []) = H9 at s19
        -- idle
        refine fun o2 dx2 ho2 hdx2 _ => make_at ho2 hdx2 fun H10 r2 s10 nr2 k10 => ?_
        refine ⟨_, rfl, o2, dx2, _, rfl, k10.ins, rfl, o2, dx2, r2, [], st0, rfl, k10, by decide, by decide, fun H11 b2 f11 k11 hb2 => ?_⟩
        have s1b := (s19.trans s10).fr (s19.free nr2) f11
        refine ⟨Nat.zero_le _, fun u2 hu2 => ⟨_, _, dp_intsT (ns := []) ((same_new hu2).tup hb2), dp_intsT (ns := []) (.of upd_same), sh_intsT [], sh_intsT [], _, rfl, ?_⟩⟩
        refine ite2 (fun c => nomatch c) (fun _ => ?_)
        have s1c := s1b.new (o := .tup []) hu2
        have k12 := k11.same (same_new (o := .tup []) hu2)
        generalize upd H11 u2 (.tup []) = H12 at s1c k12
        refine ⟨_, rfl, fun o3 dx3 ho3 hdx3 _ => make_at ho3 hdx3 fun H13 r3 s13 nr3 k13 => ?_⟩
        have k12' := k12.same s13
        refine ⟨o2, dx2, _, .ref T.a_Kept, rfl, k12'.ins, .base (.ins k13.ins T.cl_Kept T.ha_Kept T.hn_Kept T.ht_Kept T.hm_Kept), nf_self, o2, dx2, r2, [] ++ [st0], turnS st0, .ref o3, rfl, k12', .inr ⟨o3, dx3, r3, [], st0, rfl, k13, _, rfl, _, rfl, ?_⟩⟩
        refine ite2 (fun c => ?_) (fun _ => ?_)
        · have := (of_decide_eq_true c).2.2
          exact absurd this (by decide)
        have s1d := s1c.trans s13
        -- full
        refine fun o4 dx4 ho4 hdx4 _ => make_at ho4 hdx4 fun H14 r4 s14 nr4 k14 => ?_
        have n4 : H1 r4 = none := s1d.free nr4
        refine ⟨_, rfl, by decide, by decide, for_it walk_range (fun i σ H' => ∃ (x5 : Option V) (pre : List KSt), σ = [some (.ref wl), x1, some (.ref t), some (.ref o2), some (.ref o4), x5, some (.ref o), some (.ref D), x8] ∧ Same H1 H' ∧ KAt K T.a_Kept H' o4 dx4 r4 pre ⟨List.replicate i 9, [], 0⟩ ∧ pre.length = i)
          ⟨_, [], rfl, s1d.trans s14, k14, rfl⟩ (fun _ _ _ _ _ => True.intro) ?_ ?_⟩
        · rintro i x σ H15 H15' hi ⟨x5, pre4, rfl, s15, k15, lp⟩ ⟨rfl, ex⟩
          have hi40 : i < 40 := hi
          refine ⟨_, rfl, o4, dx4, _, rfl, k15.ins, rfl, o4, dx4, r4, pre4, _, .int 9, .int 9, rfl, k15, .int _, by omega, fun e => absurd e (by decide), fun _ e => ?_, fun z e _ _ _ H16 f16 k16 => ?_⟩
          · exfalso
            have : (List.replicate i (9 : Int)).length = 40 := e
            rw [List.length_replicate] at this
            omega
          · obtain rfl := PyData.int.inj e
            refine ⟨_, pre4 ++ [⟨List.replicate i 9, [], 0⟩], rfl, s15.fr n4 f16, ?_, by rw [List.length_append, lp]; rfl⟩
            rw [List.replicate_succ']
            exact k16
        · rintro σ H15 ⟨x5, pre4, rfl, s15, k15, lp⟩
          have lp4 : pre4.length = 40 := lp
          have k15 : KAt K T.a_Kept H15 o4 dx4 r4 pre4 ⟨List.replicate 40 9, [], 0⟩ := k15
          have e40 : ([PyData.int 9, .none].map fun e => (stepD (.join .non e) pre4 ⟨List.replicate 40 9, [], 0⟩).1) = [.str (wordN 6), .str (wordN 4)] := rfl
          refine ⟨(by show 2 ≤ sizeLine; decide), fun l hl => ⟨l, rfl, ⟨_, .of upd_same⟩, fun D5 hD5 => ?_⟩⟩
          have s16 : Same H1 (upd H15 l (.lst [.int 9, .non])) := s15.new hl
          have k16 := k15.same (same_new (o := .lst [.int 9, .non]) hl)
          have hl16 : (upd H15 l (.lst [V.int 9, V.non])) l = some (.lst [.int 9, .non]) := upd_same
          generalize upd H15 l (.lst [V.int 9, V.non]) = H16 at s16 k16 hl16 hD5
          refine lc_data (K := K) walk_list (fun i => [V.int 9, V.non].getD i .non) (fun i H x H' hi _ y => ⟨y.1, ?_⟩) (fun _ => true) (fun i => [PyData.str (wordN 6), .str (wordN 4)].getD i .none) (by decide) hD5 (fun H' s7 => .of (s7 _ _ hl16)) (fun x => rfl) (fun i H' hi s7 Q kq => kq H' (Same.refl _)) (fun i H' hi _ s7 hDz Q kq => ?_) (fun H17 ws s17 hw hws => ?_)
          · rw [List.getD_eq_getElem?_getD, y.2]; rfl
          · have k17 := k16.same s7
            have go : ∀ (u : V) (e : PyData) (w : Str), (∀ H, Dp K H u e) → (stepD (.join u e) pre4 ⟨List.replicate 40 9, [], 0⟩) = (.str w, pre4, ⟨List.replicate 40 9, [], 0⟩) → [PyData.str (wordN 6), .str (wordN 4)].getD i .none = .str w →
              (tCall (sp_law_done T) [] E0 (tCons (tVar 4) (tCons (tTup (tCons (tC (.str "join")) (tCons (tVar 1) tNil))) tNil))) [some (.ref wl), some u, some (.ref t), some (.ref o2), some (.ref o4), x5, some (.ref o), some (.ref D), x8] H' Q := fun u e w hu he hi2 => by
              refine ⟨_, rfl, _, rfl, (by show 2 ≤ sizeLine; decide), fun t1 ht1 => ?_⟩
              refine ⟨o4, dx4, r4, t1, pre4, _, .join u e, rfl, k17.same (same_new ht1), .of upd_same, hu, by omega, by decide, fun H18 v f18 sm _ hv => ?_⟩
              rw [he] at sm hv
              refine kq v H18 ((same_new ht1).trans (sm w rfl)) ?_
              rw [hi2]
              cases hv
              exact .str _
            have h2 : i = 0 ∨ i = 1 := by
              have : i < 2 := hi
              omega
            rcases h2 with rfl | rfl
            · exact go (.int 9) (.int 9) (wordN 6) (fun H => .int _) rfl rfl
            · exact go .non .none (wordN 4) (fun H => .non) rfl rfl
          · refine ⟨(by show 2 ≤ sizeLine; decide), fun l2 hl2 => ?_⟩
            have s18 : Same H1 (upd H17 l2 (.lst [.str (wordN 6), .str (wordN 4)])) := (s16.trans s17).new hl2
            have hl18 : (upd H17 l2 (.lst [.str (wordN 6), .str (wordN 4)])) l2 = some (.lst [.str (wordN 6), .str (wordN 4)]) := upd_same
            have G18 := G0.trans s18
            refine ⟨_, .list [.str (wordN 6), .str (wordN 4)], .lst (.of ((same_new hl2) _ _ hw)) ((same_new hl2).dp' hws), .lst (.of hl18) (.cons (.str _) (.cons (.str _) .nil)), by decide +kernel, by decide +kernel, ?_⟩
            have ee : PyData.eqv (.list (((List.range ([V.int 9, V.non] : List V).length).filter fun _ => true).map fun i => [PyData.str (wordN 6), .str (wordN 4)].getD i .none)) (.list [.str (wordN 6), .str (wordN 4)]) = true := by decide +kernel
            rw [ee]
            exact k _ fun b o n e => G18 b o (by rw [hid_ne n]; exact e)
end
end Ai
namespace Ai
open PySem PySem.Spec PyProof.Rows L2
/-- what a deed tells is in tuples only, is shaped, is alike itself -/
theorem step_data (d : Deed) (pre : List KSt) (s : KSt) : tOnly (stepD d pre s).1 = true ∧ SeqAt.shaped (stepD d pre s).1 = true ∧ PyData.eqv (stepD d pre s).1 (stepD d pre s).1 = true := by
  have st : ∀ x : Str, PyData.eqv (.str x) (.str x) = true := fun x => by
    show (x == x) = true
    exact beq_self_eq_true x
  have sh : ∀ i, SeqAt.shaped (.str (wordN i)) = true := fun i => by
    by_cases c : i < 10
    · have : ∀ j, j < 10 → SeqAt.shaped (.str (wordN j)) = true := by decide +kernel
      exact this i c
    · obtain ⟨j, rfl⟩ : ∃ j, i = j + 10 := ⟨i - 10, by omega⟩
      show SeqAt.shaped (.str (wordN 9)) = true
      decide +kernel
  have nn : tOnly .none = true ∧ SeqAt.shaped .none = true ∧ PyData.eqv .none .none = true := ⟨rfl, rfl, rfl⟩
  cases d with
  | join u e =>
    simp only [stepD]
    split
    · exact ⟨rfl, sh _, st _⟩
    · split
      · exact ⟨rfl, sh _, st _⟩
      · exact nn
  | leave u e =>
    simp only [stepD]
    split
    · exact ⟨rfl, sh _, st _⟩
    · exact nn
  | turn =>
    simp only [stepD]
    refine ⟨tOnly_ints _, sh_intsT _, ?_⟩
    show PyData.eqvAll ((dnQ s.q).map PyData.int) ((dnQ s.q).map PyData.int) = true
    rw [eqv_ints, decide_eq_true rfl]
  | back =>
    simp only [stepD]
    split
    · exact ⟨rfl, sh _, st _⟩
    · exact nn
/-- what is kept as the law's turns go -/
structure Run (i : Nat) (pre : List KSt) (s : KSt) : Prop where
  now : ∀ x ∈ pre ++ [s], x.now ≤ i
  len : pre.length ≤ i
  hd : (pre ++ [s]).head? = some st0
theorem Run.push {i : Nat} {pre : List KSt} {s s' : KSt} (r : Run i pre s) (h : s'.now ≤ i + 1) : Run (i + 1) (pre ++ [s]) s' := by
  refine ⟨fun x hx => ?_, ?_, ?_⟩
  · rcases List.mem_append.mp hx with h1 | h1
    · have := r.now x h1
      omega
    · have : x = s' := by simpa using h1
      rw [this]
      exact h
  · have := r.len
    rw [List.length_append]
    show pre.length + 1 ≤ i + 1
    omega
  · rw [List.head?_append, r.hd]
    rfl
theorem Run.stay {i : Nat} {pre : List KSt} {s : KSt} (r : Run i pre s) : Run (i + 1) pre s := ⟨fun x hx => by have := r.now x hx; omega, by have := r.len; omega, r.hd⟩
theorem Run.back {i : Nat} {pre : List KSt} {s s' : KSt} (r : Run i (pre ++ [s]) s') : Run i pre s := by
  refine ⟨fun x hx => r.now x (List.mem_append_left _ hx), ?_, ?_⟩
  · have := r.len
    rw [List.length_append] at this
    omega
  · have := r.hd
    rw [List.head?_append] at this
    cases e : (pre ++ [s]).head? with
    | none =>
      rw [List.head?_eq_none_iff] at e
      simp at e
    | some z =>
      rw [e] at this
      exact this
theorem Run.step {i : Nat} {pre : List KSt} {s : KSt} (d : Deed) (r : Run i pre s) : Run (i + 1) (stepD d pre s).2.1 (stepD d pre s).2.2 := by
  have hs := r.now s (by simp)
  cases d with
  | join u e =>
    simp only [stepD]
    split
    · exact r.stay
    · split
      · exact r.stay
      · exact r.push (by show s.now ≤ i + 1; omega)
  | leave u e =>
    simp only [stepD]
    split
    · exact r.stay
    · exact r.push (by show s.now ≤ i + 1; omega)
  | turn =>
    simp only [stepD]
    exact r.push (by show s.now + 1 ≤ i + 1; omega)
  | back =>
    simp only [stepD]
    split
    · exact r.stay
    · rename_i c
      obtain ⟨pre', s', rfl⟩ : ∃ pre' s', pre = pre' ++ [s'] := ⟨pre.dropLast, pre.getLast c, (List.dropLast_concat_getLast c).symm⟩
      show Run (i + 1) (pre' ++ [s']).dropLast ((pre' ++ [s']).getLastD s)
      rw [List.dropLast_concat, List.getLastD_concat]
      exact r.back.stay
theorem RAt.first {K : PySem.W.Frag} {G : Hp} {R : Addr} {v : V} {s : KSt} (h : G R = none) (hv : RlAt K G v s) : RAt K (upd G R (.lst [v])) R [R] [s] := by
  refine ⟨by simp, fun b hb => ⟨[v], ?_⟩, [v], upd_same, .cons (hv.same fun b o e => ?_) .nil⟩
  · have : b = R := by simpa using hb
    rw [this]
    exact upd_same
  · have n : b ≠ R := ne_of_none e h
    rw [hidL_out (by simpa using n), upd_ne n]
    exact e
theorem fr_hid {w : Addr} {H H' : Hp} (s : Same (hid H w) (hid H' w)) : Fr w H H' := fun b o n e => by
  have := s b o (by rw [hid_ne n]; exact e)
  rw [hid_ne n] at this
  exact this
def sp_law (K : PySem.W.Frag) : Sp := fun vs H Q _ => ∃ (a : Addr) (ns : List Int), vs = [.ref a] ∧ SqL K H a (ns.map V.int) ∧ ns.length ≤ 63 ∧ ∀ H', Q (.bl true) H'
section
variable {P : Program} {w : World} {K : PySem.W.Frag} {mg : Str → Option Value} {base : Heap}
theorem ok_law (T : Fns K mg) : FnOk P w K mg base CX0 7 T.a_law T.d_law ["script"] (sp_law K) := by
  refine T.F_law.ok sc_law (fun vs H Q E h => ?_) (fun cdv A outer s H vs Q E hr h => ?_)
  · obtain ⟨a, ns, rfl, _⟩ := h
    rfl
  · obtain ⟨a, ns, rfl, hS, hns, q⟩ := h
    refine ⟨_, (pss_cons (ps_par rfl sc_law.nd (i := 2) (j := 3) rfl rfl (by decide) rfl rfl (pa_cons (pe_lst (pa_cons (pe_tup (pa_cons (pe_tup pa_nil) (pa_cons (pe_lst pa_nil) (pa_cons pe_int pa_nil)))) pa_nil)) (pa_cons (pe_make0 (E := E0) T.mk_Kept (ok_Kept___init__ T) (hr.mono (by decide)) (by rfl) T.g_Kept T.b_Kept___init__ .nil pass0) pa_nil)) (by rfl))
    (pss_cons (ps_for PassesOwn.never rfl (pi_range1 (by rfl) T.n_range (pa_cons (pe_callB (call_max2 rfl) (by rfl) T.n_max (by decide +kernel) (pa_cons pe_int (pa_cons (pe_callB (call_min2 rfl) (by rfl) T.n_min (by decide +kernel) (pa_cons pe_int (pa_cons (pe_callB call_len_seq (by rfl) T.n_len PySem.boot_len (pa_cons (pv 0) pa_nil)) pa_nil))) pa_nil))) pa_nil)) (pg_name (i := 1) sc_law.nd rfl (.inl rfl))
      (pss_cons (ps_set (i := 4) sc_law.nd rfl (.inl rfl) (pe_call (E := E0) (ok_law_well T) (hr.mono (by decide)) (by rfl) T.g_law_well T.F_law_well.kp T.b_law_well .nil pass0 (pa_cons (pv 0) (pa_cons (pv 1) pa_nil))))
      (pss_cons (ps_set (i := 5) sc_law.nd rfl (.inl rfl) (pe_call (E := E0) (ok_law_deed T) (hr.mono (by decide)) (by rfl) T.g_law_deed T.F_law_deed.kp T.b_law_deed .nil pass0 (pa_cons (pv 4) (pa_cons (pe_callB call_len_seq (by rfl) T.n_len PySem.boot_len (pa_cons (pe_ix ix_tup (pe_ix ix_list (pv 2) (pe_un un_neg pe_int) (fun _ _ => rfl)) pe_int (fun _ _ => rfl)) pa_nil)) pa_nil))))
      (pss_cons (ps_if (PW.pt (pw_or (pt_cmpR (op_neD hr.units) (pe_call (E := E0) (ok_law_done T) (hr.mono (by decide)) (by rfl) T.g_law_done T.F_law_done.kp T.b_law_done .nil pass0 (pa_cons (pv 3) (pa_cons (pv 5) pa_nil))) (pe_call (E := E0) (ok_law_due T) (hr.mono (by decide)) (by rfl) T.g_law_due T.F_law_due.kp T.b_law_due .nil pass0 (pa_cons (pv 2) (pa_cons (pv 5) pa_nil))) (nomark _)) (pw_or1 (pt_not (pt_val (pe_call (E := E0) (ok_law_stands T) (hr.mono (by decide)) (by rfl) T.g_law_stands T.F_law_stands.kp T.b_law_stands .nil pass0 (pa_cons (pv 3) (pa_cons (pe_ix ix_list (pv 2) (pe_un un_neg pe_int) (fun _ _ => rfl)) pa_nil)))))))) (pss_one (ps_ret pe_bl)) pss_nil)
      (pss_cons (ps_if (PW.pt (pw_or (pt_cmpR (op_eqOwn (ok_Kept___eq__ T) (hr.mono (by decide)) T.m_Kept___eq__.at_ T.m_Kept___eq__.fn T.b_Kept___eq__) (pv 3) (pe_ix ix_list (pv 2) (pe_un un_neg pe_int) (fun _ _ => rfl)) (nomark _)) (pw_or1 (pt_cmpR op_ne (pe_cmpR (op_eqOwn (ok_Kept___eq__ T) (hr.mono (by decide)) T.m_Kept___eq__.at_ T.m_Kept___eq__.fn T.b_Kept___eq__) (pv 3) (pe_make0 (E := E0) T.mk_Kept (ok_Kept___init__ T) (hr.mono (by decide)) (by rfl) T.g_Kept T.b_Kept___init__ .nil pass0) (nomark _)) (pe_cmpR (op_eqD hr.units) (pe_ix ix_list (pv 2) (pe_un un_neg pe_int) (fun _ _ => rfl)) (pe_tup (pa_cons (pe_tup pa_nil) (pa_cons (pe_lst pa_nil) (pa_cons pe_int pa_nil)))) (nomark _)) (nomark _))))) (pss_one (ps_ret pe_bl)) pss_nil)
      (pss_one (ps_expr (pe_bm PySem.F.plainAttrs_list PySem.F.slot_list_append PySem.F.type_list_append mt_append (pe_meth0 (E := E0) (pv 3) T.cl_Kept T.m_Kept_sat (ok_Kept_sat T) (hr.mono (by decide)) T.b_Kept_sat .nil pass0) (pa_cons pe_int pa_nil)))))))))
    (pss_cons (ps_if (pt_not (pt_val (pe_call (E := E0) (ok_law_plain T) (hr.mono (by decide)) (by rfl) T.g_law_plain T.F_law_plain.kp T.b_law_plain .nil pass0 (pa_cons (pe_call (E := E0) (ok_law_well T) (hr.mono (by decide)) (by rfl) T.g_law_well T.F_law_well.kp T.b_law_well .nil pass0 (pa_cons (pv 0) (pa_cons pe_int pa_nil))) pa_nil)))) (pss_one (ps_ret pe_bl)) pss_nil)
    (pss_cons (ps_while PassesOwn.never (pt_cmpR op_gt (pe_callB call_len_seq (by rfl) T.n_len PySem.boot_len (pa_cons (pv 2) pa_nil)) pe_int (nomark _)) (pss_cons (ps_expr (pe_bm0 PySem.F.plainAttrs_list PySem.F.slot_list_pop PySem.F.type_list_pop mt_pop (pv 2)))
      (pss_one (ps_if (PW.pt (pw_or (pt_cmpR op_notN (pe_meth0 (E := E0) (pv 3) T.cl_Kept T.m_Kept_back (ok_Kept_back T) (hr.mono (by decide)) T.b_Kept_back .nil passN) pe_non (nomark _)) (pw_or1 (pt_not (pt_val (pe_call (E := E0) (ok_law_stands T) (hr.mono (by decide)) (by rfl) T.g_law_stands T.F_law_stands.kp T.b_law_stands .nil pass0 (pa_cons (pv 3) (pa_cons (pe_ix ix_list (pv 2) (pe_un un_neg pe_int) (fun _ _ => rfl)) pa_nil)))))))) (pss_one (ps_ret pe_bl)) pss_nil))))
    (pss_one (ps_ret (pe_and (pe_cmpR (op_eqD hr.units) (pe_call (E := E0) (ok_law_done T) (hr.mono (by decide)) (by rfl) T.g_law_done T.F_law_done.kp T.b_law_done .nil pass0 (pa_cons (pv 3) (pa_cons (pe_tup (pa_cons pe_str pa_nil)) pa_nil))) pe_str (nomark _)) (pe_one (pe_cmpR (op_eqOwn (ok_Kept___eq__ T) (hr.mono (by decide)) T.m_Kept___eq__.at_ T.m_Kept___eq__.fn T.b_Kept___eq__) (pv 3) (pe_make0 (E := E0) T.mk_Kept (ok_Kept___init__ T) (hr.mono (by decide)) (by rfl) T.g_Kept T.b_Kept___init__ .nil pass0) (nomark _)))))))))), ?_⟩
    refine ⟨Nat.zero_le _, fun e0 he0 => ⟨Nat.zero_le _, fun c0 hc0 => ⟨(by show 3 ≤ sizeLine; decide), fun t0 ht0 => ⟨(by show 1 ≤ sizeLine; decide), fun R hR => ?_⟩⟩⟩⟩
    have g1 : Same H (upd (upd (upd H e0 (.tup [])) c0 (.lst [])) t0 (.tup [.ref e0, .ref c0, .int 0])) := ((same_new he0).new hc0).new ht0
    have ra0 := RAt.first (K := K) (s := st0) (v := .ref t0) hR ⟨t0, e0, c0, [], rfl, .of upd_same, .of ((same_new ht0) _ _ ((same_new hc0) _ _ upd_same)), (same_new ht0) _ _ upd_same, .nil⟩
    have g2 := g1.new (o := .lst [.ref t0]) hR
    have nHR : H R = none := g1.free hR
    generalize upd (upd (upd (upd H e0 (.tup [])) c0 (.lst [])) t0 (.tup [V.ref e0, V.ref c0, V.int 0])) R (.lst [V.ref t0]) = H1 at ra0 g2
    refine fun o dx ho hdx _ => make_at ho hdx fun H2 r s2 nr ka => ⟨_, _, rfl, ?_⟩
    have ra2 : RAt K H2 R [r, R] [st0] := by
      obtain ⟨vs, hr, _⟩ := ka.dat
      exact ra0.add s2 nr hr
    have g3 := g2.trans s2
    have nHr : H r = none := g2.free nr
    have nRr : R ≠ r := by
      obtain ⟨vs, h1, _⟩ := ra0.dat
      exact ne_of_none h1 nr
    have mR : R ∈ [r, R] := by simp
    have mr : r ∈ [r, R] := by simp
    obtain ⟨m, hm, hm60⟩ : ∃ m : Nat, (if (if ((ns.map V.int).length : Int) < 60 then ((ns.map V.int).length : Int) else 60) > 20 then (if ((ns.map V.int).length : Int) < 60 then ((ns.map V.int).length : Int) else 60) else 20) = (m : Int) ∧ m ≤ 60 := by
      rw [List.length_map]
      refine ⟨(if (if (ns.length : Int) < 60 then (ns.length : Int) else 60) > 20 then (if (ns.length : Int) < 60 then (ns.length : Int) else 60) else 20).toNat, ?_, ?_⟩ <;> split <;> split <;> omega
    refine ⟨_, rfl, a, _, rfl, .inl (g3.seq hS), _, _, rfl, _, _, rfl, ?_⟩
    rw [hm]
    refine ⟨_, rfl, by omega, by omega, for_it walk_range (fun i σ H' => ∃ (x1 x4 x5 : Option V) (pre : List KSt) (s : KSt), σ = [some (.ref a), x1, some (.ref R), some (.ref o), x4, x5] ∧ Same H H' ∧ KAt K T.a_Kept H' o dx r pre s ∧ RAt K H' R [r, R] (pre ++ [s]) ∧ Run i pre s)
      ⟨none, none, none, [], st0, rfl, g3, ka, ra2, ⟨fun x hx => by
        have : x = st0 := by simpa using hx
        rw [this]
        exact Nat.zero_le _, Nat.zero_le _, rfl⟩⟩ (fun _ _ _ _ _ => True.intro) ?_ ?_⟩
    · rintro i x σ H3 H3' hi ⟨x1, x4, x5, pre, s, rfl, s3, k3, ra3, run⟩ ⟨rfl, ex⟩
      obtain rfl := ex.trans (congrArg V.int (Int.zero_add _))
      rw [Int.toNat_natCast] at hi
      have r1 := run.len
      have r2 := run.now s (by simp)
      -- well
      refine ⟨_, rfl, _, rfl, a, i, ns, rfl, s3.seq hS, by omega, fun H4 wl s4 nw hw => ?_⟩
      have k4 := k3.same s4
      have ra4 : RAt K H4 R [wl, r, R] (pre ++ [s]) := by
        obtain ⟨c, s, z, _, hw'⟩ := hw
        exact ra3.add s4 nw hw'
      have nwr : r ≠ wl := by
        obtain ⟨vs, h1, _⟩ := k3.dat
        exact ne_of_none h1 nw
      have nwR : R ≠ wl := by
        obtain ⟨vs, h1, _⟩ := ra3.dat
        exact ne_of_none h1 nw
      have nHw : H wl = none := s3.free nw
      have s04 := s3.trans s4
      clear k3 ra3
      -- deed
      obtain ⟨vp, v, hR4, _, _, hv⟩ := ra4.top
      obtain ⟨u, ua, uc, ucs, rfl, hu', ha', _, _⟩ := hv
      have hu := (hidL_same _ _).tup hu'
      have ha := (hidL_same _ _).tup ha'
      refine ⟨_, rfl, _, rfl, _, rfl, R, _, _, _, rfl, rfl, .of hR4, atI_last _ _, u, _, _, _, rfl, rfl, hu, atI_nat (j := 0) rfl, ua, _, rfl, .inr ha, wl, s.q.length, by rw [List.length_map]; rfl, hw, k4.cur.len, fun H5 t d s5 ok5 ht' dok => ?_⟩
      have ht := (hid_same _ _).tup ht'
      have f5 := fr_hid s5
      obtain ⟨c4, e4, z4, _, hw4⟩ := hw
      obtain ⟨c5, e5, z5, _, hw5⟩ := ok5
      have k5 := k4.fr hw4 nwr f5
      have ra5 := ra4.fr (p := wl) (by simp) nwR f5 hw5
      have s05 : Same H H5 := s04.fr nHw f5
      clear ra4 k4 hu' ha' hu ha ht'
      -- done, due
      refine ⟨_, rfl, _, rfl, o, dx, r, t, pre, s, d, rfl, k5, ht, dok, by omega, by omega, fun H6 v f6 _ k6 hv6 => ?_⟩
      obtain ⟨vs5, hr5, _⟩ := k5.dat
      obtain ⟨vs6, hr6, _⟩ := k6.dat
      have ra6 := ra5.fr (p := r) (by simp) nRr f6 hr6
      have ht6 := sqt_fr hr5 f6 ht
      have s06 : Same H H6 := s05.fr nHr f6
      refine ⟨_, rfl, _, rfl, R, t, _, pre, s, d, rfl, ra6, ht6, dok, k5.cur, by omega, by omega, fun H7 u f7 ra7 hu7 => ?_⟩
      obtain ⟨vs6', hR6, _⟩ := ra6.dat
      have k7 := k6.fr hR6 nRr.symm f7
      obtain ⟨d1, d2, d3⟩ := step_data d pre s
      have hv7 := dp_fr hR6 f7 _ _ d1 hv6
      have s07 : Same H H7 := s06.fr nHR f7
      have run7 := run.step d
      refine ⟨_, _, hv7, hu7, d2, d2, _, rfl, ?_⟩
      rw [d3]
      refine ite2 (fun c => nomatch c) (fun _ => ?_)
      generalize (stepD d pre s).2.1 = pre7 at k7 ra7 run7
      generalize (stepD d pre s).2.2 = s7 at k7 ra7 run7
      clear k6 ra6 ra5 k5
      -- stands
      obtain ⟨vp7, v7, hR7, _, _, hv7'⟩ := ra7.top
      have dv7 := (hidL_same _ _).dp hv7'.dp
      refine ⟨_, rfl, _, rfl, _, rfl, R, _, _, _, rfl, rfl, .of hR7, atI_last _ _, o, dx, r, pre7, s7, v7, rfl, k7, dv7, fun H8 s8 => ?_⟩
      have k8 := k7.same s8
      have ra8 := ra7.same s8
      have dv8 := s8.dp dv7
      have hR8 := s8 _ _ hR7
      have s08 := s07.trans s8
      refine ⟨true, rfl, ?_⟩
      refine ite2 (fun c => nomatch c) (fun _ => ?_)
      -- kept == rows[-1]
      refine ⟨_, rfl, _, rfl, _, rfl, R, _, _, _, rfl, rfl, .of hR8, atI_last _ _, o, dx, _, _, rfl, k8.ins, dp_ty dv8, T.nf_Kept, o, dx, r, pre7, s7, v7, rfl, k8, .inl ⟨_, dv8, false, rfl, _, rfl, ?_⟩⟩
      refine ite2 (fun c => nomatch c) (fun _ => ?_)
      refine ⟨_, rfl, fun o2 dx2 ho2 hdx2 _ => make_at ho2 hdx2 fun H9 r2 s9 nr2 k2 => ?_⟩
      have k9 := k8.same s9
      have dv9 := s9.dp dv8
      have hR9 := s9 _ _ hR8
      refine ⟨o, dx, _, .ref T.a_Kept, rfl, k9.ins, .base (.ins k2.ins T.cl_Kept T.ha_Kept T.hn_Kept T.ht_Kept T.hm_Kept), nf_self, o, dx, r, pre7, s7, .ref o2, rfl, k9, .inr ⟨o2, dx2, r2, [], st0, rfl, k2, _, rfl, ?_⟩⟩
      refine ⟨_, rfl, _, rfl, R, _, _, _, rfl, rfl, .of hR9, atI_last _ _, Nat.zero_le _, fun e1 he1 => ⟨Nat.zero_le _, fun c1 hc1 => ⟨(by show 3 ≤ sizeLine; decide), fun t1 ht1 => ?_⟩⟩⟩
      have s10 : Same H9 (upd (upd (upd H9 e1 (.tup [])) c1 (.lst [])) t1 (.tup [.ref e1, .ref c1, .int 0])) := ((same_new he1).new hc1).new ht1
      have d0 : Dp K (upd (upd (upd H9 e1 (.tup [])) c1 (.lst [])) t1 (.tup [.ref e1, .ref c1, .int 0])) (.ref t1) (rlD st0) :=
        .tup (.of upd_same) (.cons (dp_intsT (ns := []) (.of ((same_new ht1) _ _ ((same_new hc1) _ _ upd_same)))) (.cons (.lst (.of ((same_new ht1) _ _ upd_same)) .nil) (.cons (.int _) .nil)))
      generalize upd (upd (upd H9 e1 (.tup [])) c1 (.lst [])) t1 (.tup [V.ref e1, V.ref c1, V.int 0]) = H10 at s10 d0
      refine ⟨_, _, s10.dp dv9, d0, sh_rl _, sh_rl st0, ?_⟩
      rw [eq_rlD]
      refine ⟨rfl, _, rfl, ?_⟩
      refine ite2 (fun c => absurd c (by simp)) (fun _ => ?_)
      -- kept.sat().append(1)
      have k10 := k9.same s10
      refine ⟨_, rfl, o, dx, _, rfl, k10.ins, rfl, o, dx, r, pre7, s7, rfl, k10, fun H11 l cs s11 nl hl hcs => ?_⟩
      have lcs := dps_length hcs
      rw [List.length_map] at lcs
      have hss := k10.cur.sat
      have hnn := k10.cur.now
      have hbig : (100000 : Nat) < sizeLine := by decide
      refine ⟨.inl ⟨rfl, _, .of hl⟩, l, _, _, rfl, rfl, hl, (by omega), ?_⟩
      have s12 : Same H10 (upd H11 l (.lst (cs ++ [.int 1]))) := s11.mut nl
      have s712 := (((s8.trans s9).trans s10).trans s12)
      exact ⟨_, _, _, pre7, s7, rfl, s07.trans s712, k7.same s712, (ra7.same s712).drop mR, run7⟩
    · rintro σ H3 ⟨x1, x4, x5, pre, s, rfl, s3, k3, ra3, run⟩
      refine ⟨_, rfl, a, 0, ns, rfl, s3.seq hS, by omega, fun H4 wl s4 nw hw => ⟨wl, rfl, hw, fun H5 f5 => ⟨true, rfl, ?_⟩⟩⟩
      refine ite2 (fun c => nomatch c) (fun _ => ?_)
      have s35 : Same H3 H5 := s4.fr nw f5
      have k5 := k3.same s35
      have ra5 := ra3.same s35
      clear k3 ra3
      refine ⟨fun n σ H' => ∃ (x1 x4 x5 : Option V) (pre : List KSt) (s : KSt), n = pre.length ∧ σ = [some (.ref a), x1, some (.ref R), some (.ref o), x4, x5] ∧ KAt K T.a_Kept H' o dx r pre s ∧ RAt K H' R [r, R] (pre ++ [s]) ∧ Run m pre s,
        ⟨pre.length, x1, x4, x5, pre, s, rfl, rfl, k5, ra5, by rw [Int.toNat_natCast] at run; exact run⟩, ?_⟩
      rintro n σ H6 ⟨x1, x4, x5, pre, s, rfl, rfl, k6, ra6, run⟩
      obtain ⟨vp, v, hR6, hvp, lvp, hv⟩ := ra6.top
      refine ⟨_, rfl, R, _, rfl, .inl (.of hR6), _, _, rfl, rfl, _, rfl, ?_⟩
      have lR : (vp ++ [v]).length = pre.length + 1 := by rw [List.length_append, lvp]; rfl
      rw [lR]
      refine ite2 (fun c => ?_) (fun c => ?_)
      · have c2 : pre ≠ [] := fun z => by
          have c3 := of_decide_eq_true c
          rw [z] at c3
          exact absurd c3 (by decide)
        obtain ⟨pre', s', rfl⟩ : ∃ pre' s', pre = pre' ++ [s'] := ⟨pre.dropLast, pre.getLast c2, (List.dropLast_concat_getLast c2).symm⟩
        refine ⟨_, fun σ' H' z => ⟨pre'.length, by rw [List.length_append]; exact Nat.lt_succ_self _, z⟩, ?_⟩
        refine ⟨_, rfl, .inl ⟨rfl, _, .of hR6⟩, R, _, v, rfl, rfl, hR6, (by simp), ?_⟩
        rw [List.dropLast_concat]
        have ra7 := ra6.set hvp
        have k7 : KAt K T.a_Kept (upd H6 R (.lst vp)) o dx r (pre' ++ [s']) s := k6.fr hR6 nRr.symm (Fr.mut fun _ _ _ e => e)
        generalize upd H6 R (.lst vp) = H7 at ra7 k7
        refine ⟨_, rfl, o, dx, _, rfl, k7.ins, rfl, o, dx, r, _, s, rfl, k7, fun e => absurd e (by simp), fun pre1 s1 e1 H8 f8 k8 => ?_⟩
        obtain ⟨rfl, e2⟩ := List.append_inj' e1 rfl
        obtain rfl := (List.cons.inj e2).1
        obtain ⟨vs8, hr8, _⟩ := k8.dat
        have ra8 := ra7.fr (p := r) mr nRr f8 hr8
        refine ⟨rfl, _, rfl, ?_⟩
        refine ite2 (fun c => nomatch c) (fun _ => ?_)
        obtain ⟨vp8, v8, hR8, _, _, hv8⟩ := ra8.top
        refine ⟨_, rfl, _, rfl, _, rfl, R, _, _, _, rfl, rfl, .of hR8, atI_last _ _, o, dx, r, pre', s', v8, rfl, k8, (hidL_same _ _).dp hv8.dp, fun H9 s9 => ⟨true, rfl, ?_⟩⟩
        refine ite2 (fun c => nomatch c) (fun _ => ?_)
        exact ⟨_, _, _, pre', s', rfl, rfl, k8.same s9, ra8.same s9, run.back⟩
      · have c2 : pre = [] := List.eq_nil_of_length_eq_zero (Decidable.byContradiction fun z => c (decide_eq_true (by omega)))
        subst c2
        obtain rfl : s = st0 := Option.some.inj run.hd
        refine ⟨_, rfl, (by show 1 ≤ sizeLine; decide), fun t ht => ?_⟩
        have k7 := k6.same (same_new (o := .tup [.str "back"]) ht)
        refine ⟨o, dx, r, t, [], st0, .back, rfl, k7, .of upd_same, trivial, Nat.zero_lt_succ _, Nat.zero_lt_succ _, fun H8 v f8 _ k8 hv8 => ?_⟩
        have hv9 : Dp K H8 v (.str (wordN 7)) := hv8
        have k8 : KAt K T.a_Kept H8 o dx r [] st0 := k8
        cases hv9
        refine ⟨.str (wordN 7), .str "left", .str _, .str _, by decide +kernel, by decide +kernel, _, rfl, ?_⟩
        refine ite2 (fun _ => ?_) (fun c => absurd (by decide +kernel) c)
        refine ⟨_, rfl, fun o2 dx2 ho2 hdx2 _ => make_at ho2 hdx2 fun H9 r2 s9 nr2 k9 => ?_⟩
        have k89 := k8.same s9
        refine ⟨o, dx, _, .ref T.a_Kept, rfl, k89.ins, .base (.ins k9.ins T.cl_Kept T.ha_Kept T.hn_Kept T.ht_Kept T.hm_Kept), nf_self, o, dx, r, [], st0, .ref o2, rfl, k89, .inr ⟨o2, dx2, r2, [], st0, rfl, k9, _, rfl, ?_⟩⟩
        rw [decide_eq_true ⟨rfl, rfl, rfl⟩]
        exact q _
end

end Ai
namespace Ai
open PySem PySem.Spec PyProof.Rows L2
theorem all_mk {P : Program} {w : World} {K : PySem.W.Frag} {h : Heap} {mg : Str → Option Value} {fa : Addr} (X : K.In h) (G : h.Ns mainGlobals mg) (hfa : mg "law" = some (.ref fa))
    {tk_MOST_FOLK : Tok}
    {tk_MOST_ROW : Tok}
    {f_is_whole : Addr} {od_is_whole an_is_whole : Option Addr} {sl_is_whole : Array (Option Value)} {oc_is_whole kV_is_whole dc_is_whole pm_is_whole cd_is_whole ct_is_whole : Value}
    {f_is_row : Addr} {od_is_row an_is_row : Option Addr} {sl_is_row : Array (Option Value)} {oc_is_row kV_is_row dc_is_row pm_is_row cd_is_row ct_is_row : Value}
    {f_is_queue : Addr} {od_is_queue an_is_queue : Option Addr} {sl_is_queue : Array (Option Value)} {oc_is_queue kV_is_queue dc_is_queue pm_is_queue cd_is_queue ct_is_queue : Value}
    {f_need_queue : Addr} {od_need_queue an_need_queue : Option Addr} {sl_need_queue : Array (Option Value)} {oc_need_queue kV_need_queue dc_need_queue pm_need_queue cd_need_queue ct_need_queue : Value}
    {f_stands : Addr} {od_stands an_stands : Option Addr} {sl_stands : Array (Option Value)} {oc_stands kV_stands dc_stands pm_stands cd_stands ct_stands : Value}
    {f_turns_of : Addr} {od_turns_of an_turns_of : Option Addr} {sl_turns_of : Array (Option Value)} {oc_turns_of kV_turns_of dc_turns_of pm_turns_of cd_turns_of ct_turns_of : Value}
    {f_turns : Addr} {od_turns an_turns : Option Addr} {sl_turns : Array (Option Value)} {oc_turns kV_turns dc_turns pm_turns cd_turns ct_turns : Value}
    {f_long_of : Addr} {od_long_of an_long_of : Option Addr} {sl_long_of : Array (Option Value)} {oc_long_of kV_long_of dc_long_of pm_long_of cd_long_of ct_long_of : Value}
    {f_how_long : Addr} {od_how_long an_how_long : Option Addr} {sl_how_long : Array (Option Value)} {oc_how_long kV_how_long dc_how_long pm_how_long cd_how_long ct_how_long : Value}
    {f_law_well : Addr} {od_law_well an_law_well : Option Addr} {sl_law_well : Array (Option Value)} {oc_law_well kV_law_well dc_law_well pm_law_well cd_law_well ct_law_well : Value}
    {f_law_take : Addr} {od_law_take an_law_take : Option Addr} {sl_law_take : Array (Option Value)} {oc_law_take kV_law_take dc_law_take pm_law_take cd_law_take ct_law_take : Value}
    {f_law_is_int : Addr} {od_law_is_int an_law_is_int : Option Addr} {sl_law_is_int : Array (Option Value)} {oc_law_is_int kV_law_is_int dc_law_is_int pm_law_is_int cd_law_is_int ct_law_is_int : Value}
    {f_law_kinds : Addr} {od_law_kinds an_law_kinds : Option Addr} {sl_law_kinds : Array (Option Value)} {oc_law_kinds kV_law_kinds dc_law_kinds pm_law_kinds cd_law_kinds ct_law_kinds : Value}
    {f_law_refusal : Addr} {od_law_refusal an_law_refusal : Option Addr} {sl_law_refusal : Array (Option Value)} {oc_law_refusal kV_law_refusal dc_law_refusal pm_law_refusal cd_law_refusal ct_law_refusal : Value}
    {f_law_queue : Addr} {od_law_queue an_law_queue : Option Addr} {sl_law_queue : Array (Option Value)} {oc_law_queue kV_law_queue dc_law_queue pm_law_queue cd_law_queue ct_law_queue : Value}
    {f_law_spots : Addr} {od_law_spots an_law_spots : Option Addr} {sl_law_spots : Array (Option Value)} {oc_law_spots kV_law_spots dc_law_spots pm_law_spots cd_law_spots ct_law_spots : Value}
    {f_law_done : Addr} {od_law_done an_law_done : Option Addr} {sl_law_done : Array (Option Value)} {oc_law_done kV_law_done dc_law_done pm_law_done cd_law_done ct_law_done : Value}
    {f_law_deed : Addr} {od_law_deed an_law_deed : Option Addr} {sl_law_deed : Array (Option Value)} {oc_law_deed kV_law_deed dc_law_deed pm_law_deed cd_law_deed ct_law_deed : Value}
    {f_law_due : Addr} {od_law_due an_law_due : Option Addr} {sl_law_due : Array (Option Value)} {oc_law_due kV_law_due dc_law_due pm_law_due cd_law_due ct_law_due : Value}
    {f_law_stands : Addr} {od_law_stands an_law_stands : Option Addr} {sl_law_stands : Array (Option Value)} {oc_law_stands kV_law_stands dc_law_stands pm_law_stands cd_law_stands ct_law_stands : Value}
    {f_law_plain : Addr} {od_law_plain an_law_plain : Option Addr} {sl_law_plain : Array (Option Value)} {oc_law_plain kV_law_plain dc_law_plain pm_law_plain cd_law_plain ct_law_plain : Value}
    {f_law : Addr} {od_law an_law : Option Addr} {sl_law : Array (Option Value)} {oc_law kV_law dc_law pm_law cd_law ct_law : Value}
    {e_AisleError : Addr}
    {e_NoQueue : Addr}
    {e_NoTurn : Addr}
    {e_NoFolk : Addr}
    {e_NoSeen : Addr}
    {e_NoRow : Addr}
    {e_NoPlace : Addr}
    {e_Full : Addr}
    {e_NothingLeft : Addr}
    {e_Kept : Addr}
    {f_Kept___init__ : Addr} {od_Kept___init__ an_Kept___init__ : Option Addr} {sl_Kept___init__ : Array (Option Value)} {oc_Kept___init__ kV_Kept___init__ dc_Kept___init__ pm_Kept___init__ cd_Kept___init__ ct_Kept___init__ : Value}
    {f_Kept___len__ : Addr} {od_Kept___len__ an_Kept___len__ : Option Addr} {sl_Kept___len__ : Array (Option Value)} {oc_Kept___len__ kV_Kept___len__ dc_Kept___len__ pm_Kept___len__ cd_Kept___len__ ct_Kept___len__ : Value}
    {f_Kept___eq__ : Addr} {od_Kept___eq__ an_Kept___eq__ : Option Addr} {sl_Kept___eq__ : Array (Option Value)} {oc_Kept___eq__ kV_Kept___eq__ dc_Kept___eq__ pm_Kept___eq__ cd_Kept___eq__ ct_Kept___eq__ : Value}
    {f_Kept_join : Addr} {od_Kept_join an_Kept_join : Option Addr} {sl_Kept_join : Array (Option Value)} {oc_Kept_join kV_Kept_join dc_Kept_join pm_Kept_join cd_Kept_join ct_Kept_join : Value}
    {f_Kept_leave : Addr} {od_Kept_leave an_Kept_leave : Option Addr} {sl_Kept_leave : Array (Option Value)} {oc_Kept_leave kV_Kept_leave dc_Kept_leave pm_Kept_leave cd_Kept_leave ct_Kept_leave : Value}
    {f_Kept_turn : Addr} {od_Kept_turn an_Kept_turn : Option Addr} {sl_Kept_turn : Array (Option Value)} {oc_Kept_turn kV_Kept_turn dc_Kept_turn pm_Kept_turn cd_Kept_turn ct_Kept_turn : Value}
    {f_Kept_back : Addr} {od_Kept_back an_Kept_back : Option Addr} {sl_Kept_back : Array (Option Value)} {oc_Kept_back kV_Kept_back dc_Kept_back pm_Kept_back cd_Kept_back ct_Kept_back : Value}
    {f_Kept_queue : Addr} {od_Kept_queue an_Kept_queue : Option Addr} {sl_Kept_queue : Array (Option Value)} {oc_Kept_queue kV_Kept_queue dc_Kept_queue pm_Kept_queue cd_Kept_queue ct_Kept_queue : Value}
    {f_Kept_sat : Addr} {od_Kept_sat an_Kept_sat : Option Addr} {sl_Kept_sat : Array (Option Value)} {oc_Kept_sat kV_Kept_sat dc_Kept_sat pm_Kept_sat cd_Kept_sat ct_Kept_sat : Value}
    {f_Kept_now : Addr} {od_Kept_now an_Kept_now : Option Addr} {sl_Kept_now : Array (Option Value)} {oc_Kept_now kV_Kept_now dc_Kept_now pm_Kept_now cd_Kept_now ct_Kept_now : Value}
    (z_ValueError : PySem.W.nsIn K mainGlobals "ValueError" = some none)
    (z_all : PySem.W.nsIn K mainGlobals "all" = some none)
    (z_bool : PySem.W.nsIn K mainGlobals "bool" = some none)
    (z_enumerate : PySem.W.nsIn K mainGlobals "enumerate" = some none)
    (z_int : PySem.W.nsIn K mainGlobals "int" = some none)
    (z_isinstance : PySem.W.nsIn K mainGlobals "isinstance" = some none)
    (z_len : PySem.W.nsIn K mainGlobals "len" = some none)
    (z_list : PySem.W.nsIn K mainGlobals "list" = some none)
    (z_max : PySem.W.nsIn K mainGlobals "max" = some none)
    (z_min : PySem.W.nsIn K mainGlobals "min" = some none)
    (z_range : PySem.W.nsIn K mainGlobals "range" = some none)
    (z_sorted : PySem.W.nsIn K mainGlobals "sorted" = some none)
    (z_tuple : PySem.W.nsIn K mainGlobals "tuple" = some none)
    (z_zip : PySem.W.nsIn K mainGlobals "zip" = some none)
    (k_MOST_FOLK : PySem.W.nsIn K mainGlobals "MOST_FOLK" = some (some (.int 40 tk_MOST_FOLK)))
    (k_MOST_ROW : PySem.W.nsIn K mainGlobals "MOST_ROW" = some (some (.int 99 tk_MOST_ROW)))
    (a_is_whole : PySem.W.nsIn K mainGlobals "is_whole" = some (some (.ref f_is_whole)))
    (l_is_whole : K.lookup f_is_whole = some ⟨oc_is_whole, od_is_whole, .func (PySem.W.fnOf "is_whole" "is_whole" (defArgs s_is_whole) (defBody s_is_whole) (defScope s_is_whole) .none kV_is_whole dc_is_whole pm_is_whole an_is_whole cd_is_whole ct_is_whole), sl_is_whole⟩)
    (c_is_whole : PySem.W.codeIn K cd_is_whole "is_whole" = true)
    (k_is_whole : PySem.W.keepIn K (.ref f_is_whole) = true)
    (a_is_row : PySem.W.nsIn K mainGlobals "is_row" = some (some (.ref f_is_row)))
    (l_is_row : K.lookup f_is_row = some ⟨oc_is_row, od_is_row, .func (PySem.W.fnOf "is_row" "is_row" (defArgs s_is_row) (defBody s_is_row) (defScope s_is_row) .none kV_is_row dc_is_row pm_is_row an_is_row cd_is_row ct_is_row), sl_is_row⟩)
    (c_is_row : PySem.W.codeIn K cd_is_row "is_row" = true)
    (k_is_row : PySem.W.keepIn K (.ref f_is_row) = true)
    (a_is_queue : PySem.W.nsIn K mainGlobals "is_queue" = some (some (.ref f_is_queue)))
    (l_is_queue : K.lookup f_is_queue = some ⟨oc_is_queue, od_is_queue, .func (PySem.W.fnOf "is_queue" "is_queue" (defArgs s_is_queue) (defBody s_is_queue) (defScope s_is_queue) .none kV_is_queue dc_is_queue pm_is_queue an_is_queue cd_is_queue ct_is_queue), sl_is_queue⟩)
    (c_is_queue : PySem.W.codeIn K cd_is_queue "is_queue" = true)
    (k_is_queue : PySem.W.keepIn K (.ref f_is_queue) = true)
    (a_need_queue : PySem.W.nsIn K mainGlobals "need_queue" = some (some (.ref f_need_queue)))
    (l_need_queue : K.lookup f_need_queue = some ⟨oc_need_queue, od_need_queue, .func (PySem.W.fnOf "need_queue" "need_queue" (defArgs s_need_queue) (defBody s_need_queue) (defScope s_need_queue) .none kV_need_queue dc_need_queue pm_need_queue an_need_queue cd_need_queue ct_need_queue), sl_need_queue⟩)
    (c_need_queue : PySem.W.codeIn K cd_need_queue "need_queue" = true)
    (k_need_queue : PySem.W.keepIn K (.ref f_need_queue) = true)
    (a_stands : PySem.W.nsIn K mainGlobals "stands" = some (some (.ref f_stands)))
    (l_stands : K.lookup f_stands = some ⟨oc_stands, od_stands, .func (PySem.W.fnOf "stands" "stands" (defArgs s_stands) (defBody s_stands) (defScope s_stands) .none kV_stands dc_stands pm_stands an_stands cd_stands ct_stands), sl_stands⟩)
    (c_stands : PySem.W.codeIn K cd_stands "stands" = true)
    (k_stands : PySem.W.keepIn K (.ref f_stands) = true)
    (a_turns_of : PySem.W.nsIn K mainGlobals "turns_of" = some (some (.ref f_turns_of)))
    (l_turns_of : K.lookup f_turns_of = some ⟨oc_turns_of, od_turns_of, .func (PySem.W.fnOf "turns_of" "turns_of" (defArgs s_turns_of) (defBody s_turns_of) (defScope s_turns_of) .none kV_turns_of dc_turns_of pm_turns_of an_turns_of cd_turns_of ct_turns_of), sl_turns_of⟩)
    (c_turns_of : PySem.W.codeIn K cd_turns_of "turns_of" = true)
    (k_turns_of : PySem.W.keepIn K (.ref f_turns_of) = true)
    (a_turns : PySem.W.nsIn K mainGlobals "turns" = some (some (.ref f_turns)))
    (l_turns : K.lookup f_turns = some ⟨oc_turns, od_turns, .func (PySem.W.fnOf "turns" "turns" (defArgs s_turns) (defBody s_turns) (defScope s_turns) .none kV_turns dc_turns pm_turns an_turns cd_turns ct_turns), sl_turns⟩)
    (c_turns : PySem.W.codeIn K cd_turns "turns" = true)
    (k_turns : PySem.W.keepIn K (.ref f_turns) = true)
    (a_long_of : PySem.W.nsIn K mainGlobals "long_of" = some (some (.ref f_long_of)))
    (l_long_of : K.lookup f_long_of = some ⟨oc_long_of, od_long_of, .func (PySem.W.fnOf "long_of" "long_of" (defArgs s_long_of) (defBody s_long_of) (defScope s_long_of) .none kV_long_of dc_long_of pm_long_of an_long_of cd_long_of ct_long_of), sl_long_of⟩)
    (c_long_of : PySem.W.codeIn K cd_long_of "long_of" = true)
    (k_long_of : PySem.W.keepIn K (.ref f_long_of) = true)
    (a_how_long : PySem.W.nsIn K mainGlobals "how_long" = some (some (.ref f_how_long)))
    (l_how_long : K.lookup f_how_long = some ⟨oc_how_long, od_how_long, .func (PySem.W.fnOf "how_long" "how_long" (defArgs s_how_long) (defBody s_how_long) (defScope s_how_long) .none kV_how_long dc_how_long pm_how_long an_how_long cd_how_long ct_how_long), sl_how_long⟩)
    (c_how_long : PySem.W.codeIn K cd_how_long "how_long" = true)
    (k_how_long : PySem.W.keepIn K (.ref f_how_long) = true)
    (a_law_well : PySem.W.nsIn K mainGlobals "_law_well" = some (some (.ref f_law_well)))
    (l_law_well : K.lookup f_law_well = some ⟨oc_law_well, od_law_well, .func (PySem.W.fnOf "_law_well" "_law_well" (defArgs s_law_well) (defBody s_law_well) (defScope s_law_well) .none kV_law_well dc_law_well pm_law_well an_law_well cd_law_well ct_law_well), sl_law_well⟩)
    (c_law_well : PySem.W.codeIn K cd_law_well "_law_well" = true)
    (k_law_well : PySem.W.keepIn K (.ref f_law_well) = true)
    (a_law_take : PySem.W.nsIn K mainGlobals "_law_take" = some (some (.ref f_law_take)))
    (l_law_take : K.lookup f_law_take = some ⟨oc_law_take, od_law_take, .func (PySem.W.fnOf "_law_take" "_law_take" (defArgs s_law_take) (defBody s_law_take) (defScope s_law_take) .none kV_law_take dc_law_take pm_law_take an_law_take cd_law_take ct_law_take), sl_law_take⟩)
    (c_law_take : PySem.W.codeIn K cd_law_take "_law_take" = true)
    (k_law_take : PySem.W.keepIn K (.ref f_law_take) = true)
    (a_law_is_int : PySem.W.nsIn K mainGlobals "_law_is_int" = some (some (.ref f_law_is_int)))
    (l_law_is_int : K.lookup f_law_is_int = some ⟨oc_law_is_int, od_law_is_int, .func (PySem.W.fnOf "_law_is_int" "_law_is_int" (defArgs s_law_is_int) (defBody s_law_is_int) (defScope s_law_is_int) .none kV_law_is_int dc_law_is_int pm_law_is_int an_law_is_int cd_law_is_int ct_law_is_int), sl_law_is_int⟩)
    (c_law_is_int : PySem.W.codeIn K cd_law_is_int "_law_is_int" = true)
    (k_law_is_int : PySem.W.keepIn K (.ref f_law_is_int) = true)
    (a_law_kinds : PySem.W.nsIn K mainGlobals "_law_kinds" = some (some (.ref f_law_kinds)))
    (l_law_kinds : K.lookup f_law_kinds = some ⟨oc_law_kinds, od_law_kinds, .func (PySem.W.fnOf "_law_kinds" "_law_kinds" (defArgs s_law_kinds) (defBody s_law_kinds) (defScope s_law_kinds) .none kV_law_kinds dc_law_kinds pm_law_kinds an_law_kinds cd_law_kinds ct_law_kinds), sl_law_kinds⟩)
    (c_law_kinds : PySem.W.codeIn K cd_law_kinds "_law_kinds" = true)
    (k_law_kinds : PySem.W.keepIn K (.ref f_law_kinds) = true)
    (a_law_refusal : PySem.W.nsIn K mainGlobals "_law_refusal" = some (some (.ref f_law_refusal)))
    (l_law_refusal : K.lookup f_law_refusal = some ⟨oc_law_refusal, od_law_refusal, .func (PySem.W.fnOf "_law_refusal" "_law_refusal" (defArgs s_law_refusal) (defBody s_law_refusal) (defScope s_law_refusal) .none kV_law_refusal dc_law_refusal pm_law_refusal an_law_refusal cd_law_refusal ct_law_refusal), sl_law_refusal⟩)
    (c_law_refusal : PySem.W.codeIn K cd_law_refusal "_law_refusal" = true)
    (k_law_refusal : PySem.W.keepIn K (.ref f_law_refusal) = true)
    (a_law_queue : PySem.W.nsIn K mainGlobals "_law_queue" = some (some (.ref f_law_queue)))
    (l_law_queue : K.lookup f_law_queue = some ⟨oc_law_queue, od_law_queue, .func (PySem.W.fnOf "_law_queue" "_law_queue" (defArgs s_law_queue) (defBody s_law_queue) (defScope s_law_queue) .none kV_law_queue dc_law_queue pm_law_queue an_law_queue cd_law_queue ct_law_queue), sl_law_queue⟩)
    (c_law_queue : PySem.W.codeIn K cd_law_queue "_law_queue" = true)
    (k_law_queue : PySem.W.keepIn K (.ref f_law_queue) = true)
    (a_law_spots : PySem.W.nsIn K mainGlobals "_law_spots" = some (some (.ref f_law_spots)))
    (l_law_spots : K.lookup f_law_spots = some ⟨oc_law_spots, od_law_spots, .func (PySem.W.fnOf "_law_spots" "_law_spots" (defArgs s_law_spots) (defBody s_law_spots) (defScope s_law_spots) .none kV_law_spots dc_law_spots pm_law_spots an_law_spots cd_law_spots ct_law_spots), sl_law_spots⟩)
    (c_law_spots : PySem.W.codeIn K cd_law_spots "_law_spots" = true)
    (k_law_spots : PySem.W.keepIn K (.ref f_law_spots) = true)
    (a_law_done : PySem.W.nsIn K mainGlobals "_law_done" = some (some (.ref f_law_done)))
    (l_law_done : K.lookup f_law_done = some ⟨oc_law_done, od_law_done, .func (PySem.W.fnOf "_law_done" "_law_done" (defArgs s_law_done) (defBody s_law_done) (defScope s_law_done) .none kV_law_done dc_law_done pm_law_done an_law_done cd_law_done ct_law_done), sl_law_done⟩)
    (c_law_done : PySem.W.codeIn K cd_law_done "_law_done" = true)
    (k_law_done : PySem.W.keepIn K (.ref f_law_done) = true)
    (a_law_deed : PySem.W.nsIn K mainGlobals "_law_deed" = some (some (.ref f_law_deed)))
    (l_law_deed : K.lookup f_law_deed = some ⟨oc_law_deed, od_law_deed, .func (PySem.W.fnOf "_law_deed" "_law_deed" (defArgs s_law_deed) (defBody s_law_deed) (defScope s_law_deed) .none kV_law_deed dc_law_deed pm_law_deed an_law_deed cd_law_deed ct_law_deed), sl_law_deed⟩)
    (c_law_deed : PySem.W.codeIn K cd_law_deed "_law_deed" = true)
    (k_law_deed : PySem.W.keepIn K (.ref f_law_deed) = true)
    (a_law_due : PySem.W.nsIn K mainGlobals "_law_due" = some (some (.ref f_law_due)))
    (l_law_due : K.lookup f_law_due = some ⟨oc_law_due, od_law_due, .func (PySem.W.fnOf "_law_due" "_law_due" (defArgs s_law_due) (defBody s_law_due) (defScope s_law_due) .none kV_law_due dc_law_due pm_law_due an_law_due cd_law_due ct_law_due), sl_law_due⟩)
    (c_law_due : PySem.W.codeIn K cd_law_due "_law_due" = true)
    (k_law_due : PySem.W.keepIn K (.ref f_law_due) = true)
    (a_law_stands : PySem.W.nsIn K mainGlobals "_law_stands" = some (some (.ref f_law_stands)))
    (l_law_stands : K.lookup f_law_stands = some ⟨oc_law_stands, od_law_stands, .func (PySem.W.fnOf "_law_stands" "_law_stands" (defArgs s_law_stands) (defBody s_law_stands) (defScope s_law_stands) .none kV_law_stands dc_law_stands pm_law_stands an_law_stands cd_law_stands ct_law_stands), sl_law_stands⟩)
    (c_law_stands : PySem.W.codeIn K cd_law_stands "_law_stands" = true)
    (k_law_stands : PySem.W.keepIn K (.ref f_law_stands) = true)
    (a_law_plain : PySem.W.nsIn K mainGlobals "_law_plain" = some (some (.ref f_law_plain)))
    (l_law_plain : K.lookup f_law_plain = some ⟨oc_law_plain, od_law_plain, .func (PySem.W.fnOf "_law_plain" "_law_plain" (defArgs s_law_plain) (defBody s_law_plain) (defScope s_law_plain) .none kV_law_plain dc_law_plain pm_law_plain an_law_plain cd_law_plain ct_law_plain), sl_law_plain⟩)
    (c_law_plain : PySem.W.codeIn K cd_law_plain "_law_plain" = true)
    (k_law_plain : PySem.W.keepIn K (.ref f_law_plain) = true)
    (a_law : PySem.W.nsIn K mainGlobals "law" = some (some (.ref f_law)))
    (l_law : K.lookup f_law = some ⟨oc_law, od_law, .func (PySem.W.fnOf "law" "law" (defArgs s_law) (defBody s_law) (defScope s_law) .none kV_law dc_law pm_law an_law cd_law ct_law), sl_law⟩)
    (c_law : PySem.W.codeIn K cd_law "law" = true)
    (k_law : PySem.W.keepIn K (.ref f_law) = true)
    (h_AisleError : PySem.W.nsIn K mainGlobals "AisleError" = some (some (.ref e_AisleError)))
    (p_AisleError : PySem.W.keepIn K (.ref e_AisleError) = true)
    (x_AisleError : PySem.W.excIn K e_AisleError [.type "ValueError", .type "Exception", .type "BaseException", .type "object"] "ValueError.__new__" = true)
    (s_AisleError : PySem.W.subIn K (.ref e_AisleError) (.type "BaseException") = some true)
    (t_AisleError : PySem.W.typeIn K (.ref e_AisleError) = some (.type "type"))
    (h_NoQueue : PySem.W.nsIn K mainGlobals "NoQueue" = some (some (.ref e_NoQueue)))
    (p_NoQueue : PySem.W.keepIn K (.ref e_NoQueue) = true)
    (x_NoQueue : PySem.W.excIn K e_NoQueue [.type "ValueError", .type "Exception", .type "BaseException", .type "object"] "ValueError.__new__" = true)
    (s_NoQueue : PySem.W.subIn K (.ref e_NoQueue) (.type "BaseException") = some true)
    (t_NoQueue : PySem.W.typeIn K (.ref e_NoQueue) = some (.type "type"))
    (h_NoTurn : PySem.W.nsIn K mainGlobals "NoTurn" = some (some (.ref e_NoTurn)))
    (p_NoTurn : PySem.W.keepIn K (.ref e_NoTurn) = true)
    (x_NoTurn : PySem.W.excIn K e_NoTurn [.type "ValueError", .type "Exception", .type "BaseException", .type "object"] "ValueError.__new__" = true)
    (s_NoTurn : PySem.W.subIn K (.ref e_NoTurn) (.type "BaseException") = some true)
    (t_NoTurn : PySem.W.typeIn K (.ref e_NoTurn) = some (.type "type"))
    (h_NoFolk : PySem.W.nsIn K mainGlobals "NoFolk" = some (some (.ref e_NoFolk)))
    (p_NoFolk : PySem.W.keepIn K (.ref e_NoFolk) = true)
    (x_NoFolk : PySem.W.excIn K e_NoFolk [.type "ValueError", .type "Exception", .type "BaseException", .type "object"] "ValueError.__new__" = true)
    (s_NoFolk : PySem.W.subIn K (.ref e_NoFolk) (.type "BaseException") = some true)
    (t_NoFolk : PySem.W.typeIn K (.ref e_NoFolk) = some (.type "type"))
    (h_NoSeen : PySem.W.nsIn K mainGlobals "NoSeen" = some (some (.ref e_NoSeen)))
    (p_NoSeen : PySem.W.keepIn K (.ref e_NoSeen) = true)
    (x_NoSeen : PySem.W.excIn K e_NoSeen [.type "ValueError", .type "Exception", .type "BaseException", .type "object"] "ValueError.__new__" = true)
    (s_NoSeen : PySem.W.subIn K (.ref e_NoSeen) (.type "BaseException") = some true)
    (t_NoSeen : PySem.W.typeIn K (.ref e_NoSeen) = some (.type "type"))
    (h_NoRow : PySem.W.nsIn K mainGlobals "NoRow" = some (some (.ref e_NoRow)))
    (p_NoRow : PySem.W.keepIn K (.ref e_NoRow) = true)
    (x_NoRow : PySem.W.excIn K e_NoRow [.type "ValueError", .type "Exception", .type "BaseException", .type "object"] "ValueError.__new__" = true)
    (s_NoRow : PySem.W.subIn K (.ref e_NoRow) (.type "BaseException") = some true)
    (t_NoRow : PySem.W.typeIn K (.ref e_NoRow) = some (.type "type"))
    (h_NoPlace : PySem.W.nsIn K mainGlobals "NoPlace" = some (some (.ref e_NoPlace)))
    (p_NoPlace : PySem.W.keepIn K (.ref e_NoPlace) = true)
    (x_NoPlace : PySem.W.excIn K e_NoPlace [.type "ValueError", .type "Exception", .type "BaseException", .type "object"] "ValueError.__new__" = true)
    (s_NoPlace : PySem.W.subIn K (.ref e_NoPlace) (.type "BaseException") = some true)
    (t_NoPlace : PySem.W.typeIn K (.ref e_NoPlace) = some (.type "type"))
    (h_Full : PySem.W.nsIn K mainGlobals "Full" = some (some (.ref e_Full)))
    (p_Full : PySem.W.keepIn K (.ref e_Full) = true)
    (x_Full : PySem.W.excIn K e_Full [.type "ValueError", .type "Exception", .type "BaseException", .type "object"] "ValueError.__new__" = true)
    (s_Full : PySem.W.subIn K (.ref e_Full) (.type "BaseException") = some true)
    (t_Full : PySem.W.typeIn K (.ref e_Full) = some (.type "type"))
    (h_NothingLeft : PySem.W.nsIn K mainGlobals "NothingLeft" = some (some (.ref e_NothingLeft)))
    (p_NothingLeft : PySem.W.keepIn K (.ref e_NothingLeft) = true)
    (x_NothingLeft : PySem.W.excIn K e_NothingLeft [.type "ValueError", .type "Exception", .type "BaseException", .type "object"] "ValueError.__new__" = true)
    (s_NothingLeft : PySem.W.subIn K (.ref e_NothingLeft) (.type "BaseException") = some true)
    (t_NothingLeft : PySem.W.typeIn K (.ref e_NothingLeft) = some (.type "type"))
    (K_aC : PySem.W.nsIn K mainGlobals "Kept" = some (some (.ref e_Kept)))
    (K_pg : PySem.W.plainGet K e_Kept Str.empty = true)
    (K_hd : PySem.W.hasDictIn K e_Kept = true)
    (K_po : PySem.W.plainOver K e_Kept = true)
    (K_sa : PySem.W.findIn K (.ref e_Kept) "__setattr__" = some (some (.builtin "object.__setattr__")))
    (K_mk : PySem.W.makesIn K e_Kept = true)
    (K_kc : PySem.W.keepIn K (.ref e_Kept) = true)
    (K_nr : PySem.W.findIn K (.ref e_Kept) "rows" = some none)
    (K_ha : PySem.W.findIn K (.ref e_Kept) "__class__" = some (some (.builtin "object.__class__")))
    (K_hn : PySem.W.specialIn K (.builtin "object.__class__") "__get__" = some (some (.builtin "getset_descriptor.__get__")))
    (K_ht : PySem.W.takesIn K (.builtin "object.__class__") = some true)
    (K_hm : PySem.W.mroIn K e_Kept (.type "object") = some true)
    (K_su : PySem.W.subIn K (.type "tuple") (.ref e_Kept) = some false)
    (K_ty : PySem.W.typeIn K (.ref e_Kept) = some (.type "type"))
    (a_Kept___init__ : PySem.W.findIn K (.ref e_Kept) "__init__" = some (some (.ref f_Kept___init__)))
    (i_Kept___init__ : PySem.W.isFn K (.ref f_Kept___init__) = true)
    (l_Kept___init__ : K.lookup f_Kept___init__ = some ⟨oc_Kept___init__, od_Kept___init__, .func (PySem.W.fnOf "__init__" "Kept.__init__" (defArgs s_Kept___init__) (defBody s_Kept___init__) (defScope s_Kept___init__) .none kV_Kept___init__ dc_Kept___init__ pm_Kept___init__ an_Kept___init__ cd_Kept___init__ ct_Kept___init__), sl_Kept___init__⟩)
    (c_Kept___init__ : PySem.W.codeIn K cd_Kept___init__ "Kept.__init__" = true)
    (k_Kept___init__ : PySem.W.keepIn K (.ref f_Kept___init__) = true)
    (a_Kept___len__ : PySem.W.findIn K (.ref e_Kept) "__len__" = some (some (.ref f_Kept___len__)))
    (i_Kept___len__ : PySem.W.isFn K (.ref f_Kept___len__) = true)
    (l_Kept___len__ : K.lookup f_Kept___len__ = some ⟨oc_Kept___len__, od_Kept___len__, .func (PySem.W.fnOf "__len__" "Kept.__len__" (defArgs s_Kept___len__) (defBody s_Kept___len__) (defScope s_Kept___len__) .none kV_Kept___len__ dc_Kept___len__ pm_Kept___len__ an_Kept___len__ cd_Kept___len__ ct_Kept___len__), sl_Kept___len__⟩)
    (c_Kept___len__ : PySem.W.codeIn K cd_Kept___len__ "Kept.__len__" = true)
    (k_Kept___len__ : PySem.W.keepIn K (.ref f_Kept___len__) = true)
    (a_Kept___eq__ : PySem.W.findIn K (.ref e_Kept) "__eq__" = some (some (.ref f_Kept___eq__)))
    (i_Kept___eq__ : PySem.W.isFn K (.ref f_Kept___eq__) = true)
    (l_Kept___eq__ : K.lookup f_Kept___eq__ = some ⟨oc_Kept___eq__, od_Kept___eq__, .func (PySem.W.fnOf "__eq__" "Kept.__eq__" (defArgs s_Kept___eq__) (defBody s_Kept___eq__) (defScope s_Kept___eq__) .none kV_Kept___eq__ dc_Kept___eq__ pm_Kept___eq__ an_Kept___eq__ cd_Kept___eq__ ct_Kept___eq__), sl_Kept___eq__⟩)
    (c_Kept___eq__ : PySem.W.codeIn K cd_Kept___eq__ "Kept.__eq__" = true)
    (k_Kept___eq__ : PySem.W.keepIn K (.ref f_Kept___eq__) = true)
    (a_Kept_join : PySem.W.findIn K (.ref e_Kept) "join" = some (some (.ref f_Kept_join)))
    (i_Kept_join : PySem.W.isFn K (.ref f_Kept_join) = true)
    (l_Kept_join : K.lookup f_Kept_join = some ⟨oc_Kept_join, od_Kept_join, .func (PySem.W.fnOf "join" "Kept.join" (defArgs s_Kept_join) (defBody s_Kept_join) (defScope s_Kept_join) .none kV_Kept_join dc_Kept_join pm_Kept_join an_Kept_join cd_Kept_join ct_Kept_join), sl_Kept_join⟩)
    (c_Kept_join : PySem.W.codeIn K cd_Kept_join "Kept.join" = true)
    (k_Kept_join : PySem.W.keepIn K (.ref f_Kept_join) = true)
    (a_Kept_leave : PySem.W.findIn K (.ref e_Kept) "leave" = some (some (.ref f_Kept_leave)))
    (i_Kept_leave : PySem.W.isFn K (.ref f_Kept_leave) = true)
    (l_Kept_leave : K.lookup f_Kept_leave = some ⟨oc_Kept_leave, od_Kept_leave, .func (PySem.W.fnOf "leave" "Kept.leave" (defArgs s_Kept_leave) (defBody s_Kept_leave) (defScope s_Kept_leave) .none kV_Kept_leave dc_Kept_leave pm_Kept_leave an_Kept_leave cd_Kept_leave ct_Kept_leave), sl_Kept_leave⟩)
    (c_Kept_leave : PySem.W.codeIn K cd_Kept_leave "Kept.leave" = true)
    (k_Kept_leave : PySem.W.keepIn K (.ref f_Kept_leave) = true)
    (a_Kept_turn : PySem.W.findIn K (.ref e_Kept) "turn" = some (some (.ref f_Kept_turn)))
    (i_Kept_turn : PySem.W.isFn K (.ref f_Kept_turn) = true)
    (l_Kept_turn : K.lookup f_Kept_turn = some ⟨oc_Kept_turn, od_Kept_turn, .func (PySem.W.fnOf "turn" "Kept.turn" (defArgs s_Kept_turn) (defBody s_Kept_turn) (defScope s_Kept_turn) .none kV_Kept_turn dc_Kept_turn pm_Kept_turn an_Kept_turn cd_Kept_turn ct_Kept_turn), sl_Kept_turn⟩)
    (c_Kept_turn : PySem.W.codeIn K cd_Kept_turn "Kept.turn" = true)
    (k_Kept_turn : PySem.W.keepIn K (.ref f_Kept_turn) = true)
    (a_Kept_back : PySem.W.findIn K (.ref e_Kept) "back" = some (some (.ref f_Kept_back)))
    (i_Kept_back : PySem.W.isFn K (.ref f_Kept_back) = true)
    (l_Kept_back : K.lookup f_Kept_back = some ⟨oc_Kept_back, od_Kept_back, .func (PySem.W.fnOf "back" "Kept.back" (defArgs s_Kept_back) (defBody s_Kept_back) (defScope s_Kept_back) .none kV_Kept_back dc_Kept_back pm_Kept_back an_Kept_back cd_Kept_back ct_Kept_back), sl_Kept_back⟩)
    (c_Kept_back : PySem.W.codeIn K cd_Kept_back "Kept.back" = true)
    (k_Kept_back : PySem.W.keepIn K (.ref f_Kept_back) = true)
    (a_Kept_queue : PySem.W.findIn K (.ref e_Kept) "queue" = some (some (.ref f_Kept_queue)))
    (i_Kept_queue : PySem.W.isFn K (.ref f_Kept_queue) = true)
    (l_Kept_queue : K.lookup f_Kept_queue = some ⟨oc_Kept_queue, od_Kept_queue, .func (PySem.W.fnOf "queue" "Kept.queue" (defArgs s_Kept_queue) (defBody s_Kept_queue) (defScope s_Kept_queue) .none kV_Kept_queue dc_Kept_queue pm_Kept_queue an_Kept_queue cd_Kept_queue ct_Kept_queue), sl_Kept_queue⟩)
    (c_Kept_queue : PySem.W.codeIn K cd_Kept_queue "Kept.queue" = true)
    (k_Kept_queue : PySem.W.keepIn K (.ref f_Kept_queue) = true)
    (a_Kept_sat : PySem.W.findIn K (.ref e_Kept) "sat" = some (some (.ref f_Kept_sat)))
    (i_Kept_sat : PySem.W.isFn K (.ref f_Kept_sat) = true)
    (l_Kept_sat : K.lookup f_Kept_sat = some ⟨oc_Kept_sat, od_Kept_sat, .func (PySem.W.fnOf "sat" "Kept.sat" (defArgs s_Kept_sat) (defBody s_Kept_sat) (defScope s_Kept_sat) .none kV_Kept_sat dc_Kept_sat pm_Kept_sat an_Kept_sat cd_Kept_sat ct_Kept_sat), sl_Kept_sat⟩)
    (c_Kept_sat : PySem.W.codeIn K cd_Kept_sat "Kept.sat" = true)
    (k_Kept_sat : PySem.W.keepIn K (.ref f_Kept_sat) = true)
    (a_Kept_now : PySem.W.findIn K (.ref e_Kept) "now" = some (some (.ref f_Kept_now)))
    (i_Kept_now : PySem.W.isFn K (.ref f_Kept_now) = true)
    (l_Kept_now : K.lookup f_Kept_now = some ⟨oc_Kept_now, od_Kept_now, .func (PySem.W.fnOf "now" "Kept.now" (defArgs s_Kept_now) (defBody s_Kept_now) (defScope s_Kept_now) .none kV_Kept_now dc_Kept_now pm_Kept_now an_Kept_now cd_Kept_now ct_Kept_now), sl_Kept_now⟩)
    (c_Kept_now : PySem.W.codeIn K cd_Kept_now "Kept.now" = true)
    (k_Kept_now : PySem.W.keepIn K (.ref f_Kept_now) = true)
    (w_NoRow : KnD K [e_NoQueue, e_NoTurn, e_NoFolk, e_NoSeen, e_NoRow, e_NoPlace, e_Full, e_NothingLeft] e_AisleError e_NoRow 4)
    (w_NoPlace : KnD K [e_NoQueue, e_NoTurn, e_NoFolk, e_NoSeen, e_NoRow, e_NoPlace, e_Full, e_NothingLeft] e_AisleError e_NoPlace 5)
    (w_Full : KnD K [e_NoQueue, e_NoTurn, e_NoFolk, e_NoSeen, e_NoRow, e_NoPlace, e_Full, e_NothingLeft] e_AisleError e_Full 6)
    (w_NothingLeft : KnD K [e_NoQueue, e_NoTurn, e_NoFolk, e_NoSeen, e_NoRow, e_NoPlace, e_Full, e_NothingLeft] e_AisleError e_NothingLeft 7)
    : ∃ fd : FuncData, (∀ (s : Shared) (v : Value), BindsTo s fd ⟨[v], []⟩ [("script", v)]) ∧ ∀ base : Heap, K.In base → base.Ns mainGlobals mg → FnOk P w K mg base CX0 7 fa fd ["script"] (sp_law K) := by
  have e := hfa.symm.trans (PySem.W.mg_of X G a_law)
  cases e
  let T : Fns K mg := {
    n_ValueError := PySem.W.mg_none_of X G z_ValueError,
    n_all := PySem.W.mg_none_of X G z_all,
    n_bool := PySem.W.mg_none_of X G z_bool,
    n_enumerate := PySem.W.mg_none_of X G z_enumerate,
    n_int := PySem.W.mg_none_of X G z_int,
    n_isinstance := PySem.W.mg_none_of X G z_isinstance,
    n_len := PySem.W.mg_none_of X G z_len,
    n_list := PySem.W.mg_none_of X G z_list,
    n_max := PySem.W.mg_none_of X G z_max,
    n_min := PySem.W.mg_none_of X G z_min,
    n_range := PySem.W.mg_none_of X G z_range,
    n_sorted := PySem.W.mg_none_of X G z_sorted,
    n_tuple := PySem.W.mg_none_of X G z_tuple,
    n_zip := PySem.W.mg_none_of X G z_zip,
    tk_MOST_FOLK := tk_MOST_FOLK,
    c_MOST_FOLK := PySem.W.mg_of X G k_MOST_FOLK,
    tk_MOST_ROW := tk_MOST_ROW,
    c_MOST_ROW := PySem.W.mg_of X G k_MOST_ROW,
    a_is_whole := f_is_whole,
    d_is_whole := _,
    F_is_whole := fun_mk (st := s_is_whole) l_is_whole c_is_whole k_is_whole,
    b_is_whole := (fun_mk (st := s_is_whole) l_is_whole c_is_whole k_is_whole).binds (ps := ["thing"]) fun _ _ _ _ _ _ us hl => match us, hl with | [_], _ => rfl,
    g_is_whole := PySem.W.mg_of X G a_is_whole,
    a_is_row := f_is_row,
    d_is_row := _,
    F_is_row := fun_mk (st := s_is_row) l_is_row c_is_row k_is_row,
    b_is_row := (fun_mk (st := s_is_row) l_is_row c_is_row k_is_row).binds (ps := ["thing"]) fun _ _ _ _ _ _ us hl => match us, hl with | [_], _ => rfl,
    g_is_row := PySem.W.mg_of X G a_is_row,
    a_is_queue := f_is_queue,
    d_is_queue := _,
    F_is_queue := fun_mk (st := s_is_queue) l_is_queue c_is_queue k_is_queue,
    b_is_queue := (fun_mk (st := s_is_queue) l_is_queue c_is_queue k_is_queue).binds (ps := ["thing"]) fun _ _ _ _ _ _ us hl => match us, hl with | [_], _ => rfl,
    g_is_queue := PySem.W.mg_of X G a_is_queue,
    a_need_queue := f_need_queue,
    d_need_queue := _,
    F_need_queue := fun_mk (st := s_need_queue) l_need_queue c_need_queue k_need_queue,
    b_need_queue := (fun_mk (st := s_need_queue) l_need_queue c_need_queue k_need_queue).binds (ps := ["queue"]) fun _ _ _ _ _ _ us hl => match us, hl with | [_], _ => rfl,
    g_need_queue := PySem.W.mg_of X G a_need_queue,
    a_stands := f_stands,
    d_stands := _,
    F_stands := fun_mk (st := s_stands) l_stands c_stands k_stands,
    b_stands := (fun_mk (st := s_stands) l_stands c_stands k_stands).binds (ps := ["queue", "there"]) fun _ _ _ _ _ _ us hl => match us, hl with | [_, _], _ => rfl,
    g_stands := PySem.W.mg_of X G a_stands,
    a_turns_of := f_turns_of,
    d_turns_of := _,
    F_turns_of := fun_mk (st := s_turns_of) l_turns_of c_turns_of k_turns_of,
    b_turns_of := (fun_mk (st := s_turns_of) l_turns_of c_turns_of k_turns_of).binds (ps := ["queue"]) fun _ _ _ _ _ _ us hl => match us, hl with | [_], _ => rfl,
    g_turns_of := PySem.W.mg_of X G a_turns_of,
    a_turns := f_turns,
    d_turns := _,
    F_turns := fun_mk (st := s_turns) l_turns c_turns k_turns,
    b_turns := (fun_mk (st := s_turns) l_turns c_turns k_turns).binds (ps := ["queue"]) fun _ _ _ _ _ _ us hl => match us, hl with | [_], _ => rfl,
    g_turns := PySem.W.mg_of X G a_turns,
    a_long_of := f_long_of,
    d_long_of := _,
    F_long_of := fun_mk (st := s_long_of) l_long_of c_long_of k_long_of,
    b_long_of := (fun_mk (st := s_long_of) l_long_of c_long_of k_long_of).binds (ps := ["queue"]) fun _ _ _ _ _ _ us hl => match us, hl with | [_], _ => rfl,
    g_long_of := PySem.W.mg_of X G a_long_of,
    a_how_long := f_how_long,
    d_how_long := _,
    F_how_long := fun_mk (st := s_how_long) l_how_long c_how_long k_how_long,
    b_how_long := (fun_mk (st := s_how_long) l_how_long c_how_long k_how_long).binds (ps := ["queue"]) fun _ _ _ _ _ _ us hl => match us, hl with | [_], _ => rfl,
    g_how_long := PySem.W.mg_of X G a_how_long,
    a_law_well := f_law_well,
    d_law_well := _,
    F_law_well := fun_mk (st := s_law_well) l_law_well c_law_well k_law_well,
    b_law_well := (fun_mk (st := s_law_well) l_law_well c_law_well k_law_well).binds (ps := ["script", "k"]) fun _ _ _ _ _ _ us hl => match us, hl with | [_, _], _ => rfl,
    g_law_well := PySem.W.mg_of X G a_law_well,
    a_law_take := f_law_take,
    d_law_take := _,
    F_law_take := fun_mk (st := s_law_take) l_law_take c_law_take k_law_take,
    b_law_take := (fun_mk (st := s_law_take) l_law_take c_law_take k_law_take).binds (ps := ["well", "many"]) fun _ _ _ _ _ _ us hl => match us, hl with | [_, _], _ => rfl,
    g_law_take := PySem.W.mg_of X G a_law_take,
    a_law_is_int := f_law_is_int,
    d_law_is_int := _,
    F_law_is_int := fun_mk (st := s_law_is_int) l_law_is_int c_law_is_int k_law_is_int,
    b_law_is_int := (fun_mk (st := s_law_is_int) l_law_is_int c_law_is_int k_law_is_int).binds (ps := ["thing", "low", "high"]) fun _ _ _ _ _ _ us hl => match us, hl with | [_, _, _], _ => rfl,
    g_law_is_int := PySem.W.mg_of X G a_law_is_int,
    a_law_kinds := f_law_kinds,
    d_law_kinds := _,
    F_law_kinds := fun_mk (st := s_law_kinds) l_law_kinds c_law_kinds k_law_kinds,
    b_law_kinds := (fun_mk (st := s_law_kinds) l_law_kinds c_law_kinds k_law_kinds).binds (ps := ["e"]) fun _ _ _ _ _ _ us hl => match us, hl with | [_], _ => rfl,
    g_law_kinds := PySem.W.mg_of X G a_law_kinds,
    a_law_refusal := f_law_refusal,
    d_law_refusal := _,
    F_law_refusal := fun_mk (st := s_law_refusal) l_law_refusal c_law_refusal k_law_refusal,
    b_law_refusal := (fun_mk (st := s_law_refusal) l_law_refusal c_law_refusal k_law_refusal).binds (ps := ["e"]) fun _ _ _ _ _ _ us hl => match us, hl with | [_], _ => rfl,
    g_law_refusal := PySem.W.mg_of X G a_law_refusal,
    a_law_queue := f_law_queue,
    d_law_queue := _,
    F_law_queue := fun_mk (st := s_law_queue) l_law_queue c_law_queue k_law_queue,
    b_law_queue := (fun_mk (st := s_law_queue) l_law_queue c_law_queue k_law_queue).binds (ps := ["well", "most"]) fun _ _ _ _ _ _ us hl => match us, hl with | [_, _], _ => rfl,
    g_law_queue := PySem.W.mg_of X G a_law_queue,
    a_law_spots := f_law_spots,
    d_law_spots := _,
    F_law_spots := fun_mk (st := s_law_spots) l_law_spots c_law_spots k_law_spots,
    b_law_spots := (fun_mk (st := s_law_spots) l_law_spots c_law_spots k_law_spots).binds (ps := ["queue", "there"]) fun _ _ _ _ _ _ us hl => match us, hl with | [_, _], _ => rfl,
    g_law_spots := PySem.W.mg_of X G a_law_spots,
    a_law_done := f_law_done,
    d_law_done := _,
    F_law_done := fun_mk (st := s_law_done) l_law_done c_law_done k_law_done,
    b_law_done := (fun_mk (st := s_law_done) l_law_done c_law_done k_law_done).binds (ps := ["kept", "deed"]) fun _ _ _ _ _ _ us hl => match us, hl with | [_, _], _ => rfl,
    g_law_done := PySem.W.mg_of X G a_law_done,
    a_law_deed := f_law_deed,
    d_law_deed := _,
    F_law_deed := fun_mk (st := s_law_deed) l_law_deed c_law_deed k_law_deed,
    b_law_deed := (fun_mk (st := s_law_deed) l_law_deed c_law_deed k_law_deed).binds (ps := ["well", "many"]) fun _ _ _ _ _ _ us hl => match us, hl with | [_, _], _ => rfl,
    g_law_deed := PySem.W.mg_of X G a_law_deed,
    a_law_due := f_law_due,
    d_law_due := _,
    F_law_due := fun_mk (st := s_law_due) l_law_due c_law_due k_law_due,
    b_law_due := (fun_mk (st := s_law_due) l_law_due c_law_due k_law_due).binds (ps := ["rows", "deed"]) fun _ _ _ _ _ _ us hl => match us, hl with | [_, _], _ => rfl,
    g_law_due := PySem.W.mg_of X G a_law_due,
    a_law_stands := f_law_stands,
    d_law_stands := _,
    F_law_stands := fun_mk (st := s_law_stands) l_law_stands c_law_stands k_law_stands,
    b_law_stands := (fun_mk (st := s_law_stands) l_law_stands c_law_stands k_law_stands).binds (ps := ["kept", "row"]) fun _ _ _ _ _ _ us hl => match us, hl with | [_, _], _ => rfl,
    g_law_stands := PySem.W.mg_of X G a_law_stands,
    a_law_plain := f_law_plain,
    d_law_plain := _,
    F_law_plain := fun_mk (st := s_law_plain) l_law_plain c_law_plain k_law_plain,
    b_law_plain := (fun_mk (st := s_law_plain) l_law_plain c_law_plain k_law_plain).binds (ps := ["well"]) fun _ _ _ _ _ _ us hl => match us, hl with | [_], _ => rfl,
    g_law_plain := PySem.W.mg_of X G a_law_plain,
    a_law := fa,
    d_law := _,
    F_law := fun_mk (st := s_law) l_law c_law k_law,
    b_law := (fun_mk (st := s_law) l_law c_law k_law).binds (ps := ["script"]) fun _ _ _ _ _ _ us hl => match us, hl with | [_], _ => rfl,
    g_law := PySem.W.mg_of X G a_law,
    a_AisleError := e_AisleError,
    g_AisleError := PySem.W.mg_of X G h_AisleError,
    kp_AisleError := p_AisleError,
    x_AisleError := x_AisleError,
    sb_AisleError := s_AisleError,
    ty_AisleError := t_AisleError,
    a_NoQueue := e_NoQueue,
    g_NoQueue := PySem.W.mg_of X G h_NoQueue,
    kp_NoQueue := p_NoQueue,
    x_NoQueue := x_NoQueue,
    sb_NoQueue := s_NoQueue,
    ty_NoQueue := t_NoQueue,
    a_NoTurn := e_NoTurn,
    g_NoTurn := PySem.W.mg_of X G h_NoTurn,
    kp_NoTurn := p_NoTurn,
    x_NoTurn := x_NoTurn,
    sb_NoTurn := s_NoTurn,
    ty_NoTurn := t_NoTurn,
    a_NoFolk := e_NoFolk,
    g_NoFolk := PySem.W.mg_of X G h_NoFolk,
    kp_NoFolk := p_NoFolk,
    x_NoFolk := x_NoFolk,
    sb_NoFolk := s_NoFolk,
    ty_NoFolk := t_NoFolk,
    a_NoSeen := e_NoSeen,
    g_NoSeen := PySem.W.mg_of X G h_NoSeen,
    kp_NoSeen := p_NoSeen,
    x_NoSeen := x_NoSeen,
    sb_NoSeen := s_NoSeen,
    ty_NoSeen := t_NoSeen,
    a_NoRow := e_NoRow,
    g_NoRow := PySem.W.mg_of X G h_NoRow,
    kp_NoRow := p_NoRow,
    x_NoRow := x_NoRow,
    sb_NoRow := s_NoRow,
    ty_NoRow := t_NoRow,
    a_NoPlace := e_NoPlace,
    g_NoPlace := PySem.W.mg_of X G h_NoPlace,
    kp_NoPlace := p_NoPlace,
    x_NoPlace := x_NoPlace,
    sb_NoPlace := s_NoPlace,
    ty_NoPlace := t_NoPlace,
    a_Full := e_Full,
    g_Full := PySem.W.mg_of X G h_Full,
    kp_Full := p_Full,
    x_Full := x_Full,
    sb_Full := s_Full,
    ty_Full := t_Full,
    a_NothingLeft := e_NothingLeft,
    g_NothingLeft := PySem.W.mg_of X G h_NothingLeft,
    kp_NothingLeft := p_NothingLeft,
    x_NothingLeft := x_NothingLeft,
    sb_NothingLeft := s_NothingLeft,
    ty_NothingLeft := t_NothingLeft,
    a_Kept := e_Kept,
    g_Kept := PySem.W.mg_of X G K_aC,
    cl_Kept := ⟨K_pg, K_hd, K_po, K_sa⟩,
    na_rows := K_nr,
    ha_Kept := K_ha,
    hn_Kept := K_hn,
    ht_Kept := K_ht,
    hm_Kept := K_hm,
    nf_Kept := by unfold PySem.W.notFirst; rw [K_su]; rfl,
    kt_Kept := kit_own rfl K_hd K_ty K_su,
    a_Kept___init__ := f_Kept___init__,
    d_Kept___init__ := _,
    F_Kept___init__ := fun_mk (st := s_Kept___init__) l_Kept___init__ c_Kept___init__ k_Kept___init__,
    b_Kept___init__ := (fun_mk (st := s_Kept___init__) l_Kept___init__ c_Kept___init__ k_Kept___init__).binds (ps := ["self"]) fun _ _ _ _ _ _ us hl => match us, hl with | [_], _ => rfl,
    m_Kept___init__ := ⟨a_Kept___init__, i_Kept___init__, k_Kept___init__⟩,
    a_Kept___len__ := f_Kept___len__,
    d_Kept___len__ := _,
    F_Kept___len__ := fun_mk (st := s_Kept___len__) l_Kept___len__ c_Kept___len__ k_Kept___len__,
    b_Kept___len__ := (fun_mk (st := s_Kept___len__) l_Kept___len__ c_Kept___len__ k_Kept___len__).binds (ps := ["self"]) fun _ _ _ _ _ _ us hl => match us, hl with | [_], _ => rfl,
    m_Kept___len__ := ⟨a_Kept___len__, i_Kept___len__, k_Kept___len__⟩,
    a_Kept___eq__ := f_Kept___eq__,
    d_Kept___eq__ := _,
    F_Kept___eq__ := fun_mk (st := s_Kept___eq__) l_Kept___eq__ c_Kept___eq__ k_Kept___eq__,
    b_Kept___eq__ := (fun_mk (st := s_Kept___eq__) l_Kept___eq__ c_Kept___eq__ k_Kept___eq__).binds (ps := ["self", "other"]) fun _ _ _ _ _ _ us hl => match us, hl with | [_, _], _ => rfl,
    m_Kept___eq__ := ⟨a_Kept___eq__, i_Kept___eq__, k_Kept___eq__⟩,
    a_Kept_join := f_Kept_join,
    d_Kept_join := _,
    F_Kept_join := fun_mk (st := s_Kept_join) l_Kept_join c_Kept_join k_Kept_join,
    b_Kept_join := (fun_mk (st := s_Kept_join) l_Kept_join c_Kept_join k_Kept_join).binds (ps := ["self", "row"]) fun _ _ _ _ _ _ us hl => match us, hl with | [_, _], _ => rfl,
    m_Kept_join := ⟨a_Kept_join, i_Kept_join, k_Kept_join⟩,
    a_Kept_leave := f_Kept_leave,
    d_Kept_leave := _,
    F_Kept_leave := fun_mk (st := s_Kept_leave) l_Kept_leave c_Kept_leave k_Kept_leave,
    b_Kept_leave := (fun_mk (st := s_Kept_leave) l_Kept_leave c_Kept_leave k_Kept_leave).binds (ps := ["self", "place"]) fun _ _ _ _ _ _ us hl => match us, hl with | [_, _], _ => rfl,
    m_Kept_leave := ⟨a_Kept_leave, i_Kept_leave, k_Kept_leave⟩,
    a_Kept_turn := f_Kept_turn,
    d_Kept_turn := _,
    F_Kept_turn := fun_mk (st := s_Kept_turn) l_Kept_turn c_Kept_turn k_Kept_turn,
    b_Kept_turn := (fun_mk (st := s_Kept_turn) l_Kept_turn c_Kept_turn k_Kept_turn).binds (ps := ["self"]) fun _ _ _ _ _ _ us hl => match us, hl with | [_], _ => rfl,
    m_Kept_turn := ⟨a_Kept_turn, i_Kept_turn, k_Kept_turn⟩,
    a_Kept_back := f_Kept_back,
    d_Kept_back := _,
    F_Kept_back := fun_mk (st := s_Kept_back) l_Kept_back c_Kept_back k_Kept_back,
    b_Kept_back := (fun_mk (st := s_Kept_back) l_Kept_back c_Kept_back k_Kept_back).binds (ps := ["self"]) fun _ _ _ _ _ _ us hl => match us, hl with | [_], _ => rfl,
    m_Kept_back := ⟨a_Kept_back, i_Kept_back, k_Kept_back⟩,
    a_Kept_queue := f_Kept_queue,
    d_Kept_queue := _,
    F_Kept_queue := fun_mk (st := s_Kept_queue) l_Kept_queue c_Kept_queue k_Kept_queue,
    b_Kept_queue := (fun_mk (st := s_Kept_queue) l_Kept_queue c_Kept_queue k_Kept_queue).binds (ps := ["self"]) fun _ _ _ _ _ _ us hl => match us, hl with | [_], _ => rfl,
    m_Kept_queue := ⟨a_Kept_queue, i_Kept_queue, k_Kept_queue⟩,
    a_Kept_sat := f_Kept_sat,
    d_Kept_sat := _,
    F_Kept_sat := fun_mk (st := s_Kept_sat) l_Kept_sat c_Kept_sat k_Kept_sat,
    b_Kept_sat := (fun_mk (st := s_Kept_sat) l_Kept_sat c_Kept_sat k_Kept_sat).binds (ps := ["self"]) fun _ _ _ _ _ _ us hl => match us, hl with | [_], _ => rfl,
    m_Kept_sat := ⟨a_Kept_sat, i_Kept_sat, k_Kept_sat⟩,
    a_Kept_now := f_Kept_now,
    d_Kept_now := _,
    F_Kept_now := fun_mk (st := s_Kept_now) l_Kept_now c_Kept_now k_Kept_now,
    b_Kept_now := (fun_mk (st := s_Kept_now) l_Kept_now c_Kept_now k_Kept_now).binds (ps := ["self"]) fun _ _ _ _ _ _ us hl => match us, hl with | [_], _ => rfl,
    m_Kept_now := ⟨a_Kept_now, i_Kept_now, k_Kept_now⟩,
    mk_Kept := ⟨K_mk, a_Kept___init__, i_Kept___init__, K_kc⟩,
    kn_NoRow := w_NoRow,
    kn_NoPlace := w_NoPlace,
    kn_Full := w_Full,
    kn_NothingLeft := w_NothingLeft }
  exact ⟨_, fun s v => .of_eq rfl, fun base _ _ => ok_law (P := P) (w := w) (base := base) T⟩
end Ai
open PySem PySem.W PyProof.Rows
set_option maxHeartbeats 0 in
theorem PySem.Challenge.cw_aisleturns_k51_queues_kept_by_hand_holds : PySem.Challenge.rw_aisleturns_k51_queues_kept_by_hand.Holds := by
  w_on; o_law; k_head; (case hw => w_witness2)
  k_fill
  refine L2.walk_of (l := PySem.Challenge.rw_aisleturns_k51_queues_kept_by_hand) (n := 63) (k := 7) (x := "script") (CX := fun _ => L2.CX0) (sp := fun w => Ai.sp_law _) rfl (by decide) rfl ⟨rfl, by decide, by decide⟩ (fun w h Y => PySem.W.kIn_of Y) ?F (fun _ _ a ns hl _ hS => ⟨a, ns, rfl, hS, hl, fun _ => rfl⟩) (fun _ _ _ _ _ h => h)
  case F =>
    intro w mg fa h KX G hmg
    refine' Ai.all_mk KX G hmg ?z_ValueError ?z_all ?z_bool ?z_enumerate ?z_int ?z_isinstance ?z_len ?z_list ?z_max ?z_min ?z_range ?z_sorted ?z_tuple ?z_zip ?k_MOST_FOLK ?k_MOST_ROW ?a_is_whole ?l_is_whole ?c_is_whole ?k_is_whole ?a_is_row ?l_is_row ?c_is_row ?k_is_row ?a_is_queue ?l_is_queue ?c_is_queue ?k_is_queue ?a_need_queue ?l_need_queue ?c_need_queue ?k_need_queue ?a_stands ?l_stands ?c_stands ?k_stands ?a_turns_of ?l_turns_of ?c_turns_of ?k_turns_of ?a_turns ?l_turns ?c_turns ?k_turns ?a_long_of ?l_long_of ?c_long_of ?k_long_of ?a_how_long ?l_how_long ?c_how_long ?k_how_long ?a_law_well ?l_law_well ?c_law_well ?k_law_well ?a_law_take ?l_law_take ?c_law_take ?k_law_take ?a_law_is_int ?l_law_is_int ?c_law_is_int ?k_law_is_int ?a_law_kinds ?l_law_kinds ?c_law_kinds ?k_law_kinds ?a_law_refusal ?l_law_refusal ?c_law_refusal ?k_law_refusal ?a_law_queue ?l_law_queue ?c_law_queue ?k_law_queue ?a_law_spots ?l_law_spots ?c_law_spots ?k_law_spots ?a_law_done ?l_law_done ?c_law_done ?k_law_done ?a_law_deed ?l_law_deed ?c_law_deed ?k_law_deed ?a_law_due ?l_law_due ?c_law_due ?k_law_due ?a_law_stands ?l_law_stands ?c_law_stands ?k_law_stands ?a_law_plain ?l_law_plain ?c_law_plain ?k_law_plain ?a_law ?l_law ?c_law ?k_law ?h_AisleError ?p_AisleError ?x_AisleError ?s_AisleError ?t_AisleError ?h_NoQueue ?p_NoQueue ?x_NoQueue ?s_NoQueue ?t_NoQueue ?h_NoTurn ?p_NoTurn ?x_NoTurn ?s_NoTurn ?t_NoTurn ?h_NoFolk ?p_NoFolk ?x_NoFolk ?s_NoFolk ?t_NoFolk ?h_NoSeen ?p_NoSeen ?x_NoSeen ?s_NoSeen ?t_NoSeen ?h_NoRow ?p_NoRow ?x_NoRow ?s_NoRow ?t_NoRow ?h_NoPlace ?p_NoPlace ?x_NoPlace ?s_NoPlace ?t_NoPlace ?h_Full ?p_Full ?x_Full ?s_Full ?t_Full ?h_NothingLeft ?p_NothingLeft ?x_NothingLeft ?s_NothingLeft ?t_NothingLeft ?K_aC ?K_pg ?K_hd ?K_po ?K_sa ?K_mk ?K_kc ?K_nr ?K_ha ?K_hn ?K_ht ?K_hm ?K_su ?K_ty ?a_Kept___init__ ?i_Kept___init__ ?l_Kept___init__ ?c_Kept___init__ ?k_Kept___init__ ?a_Kept___len__ ?i_Kept___len__ ?l_Kept___len__ ?c_Kept___len__ ?k_Kept___len__ ?a_Kept___eq__ ?i_Kept___eq__ ?l_Kept___eq__ ?c_Kept___eq__ ?k_Kept___eq__ ?a_Kept_join ?i_Kept_join ?l_Kept_join ?c_Kept_join ?k_Kept_join ?a_Kept_leave ?i_Kept_leave ?l_Kept_leave ?c_Kept_leave ?k_Kept_leave ?a_Kept_turn ?i_Kept_turn ?l_Kept_turn ?c_Kept_turn ?k_Kept_turn ?a_Kept_back ?i_Kept_back ?l_Kept_back ?c_Kept_back ?k_Kept_back ?a_Kept_queue ?i_Kept_queue ?l_Kept_queue ?c_Kept_queue ?k_Kept_queue ?a_Kept_sat ?i_Kept_sat ?l_Kept_sat ?c_Kept_sat ?k_Kept_sat ?a_Kept_now ?i_Kept_now ?l_Kept_now ?c_Kept_now ?k_Kept_now ?w_NoRow ?w_NoPlace ?w_Full ?w_NothingLeft
    (case z_ValueError => k_is)
    (case z_all => k_is)
    (case z_bool => k_is)
    (case z_enumerate => k_is)
    (case z_int => k_is)
    (case z_isinstance => k_is)
    (case z_len => k_is)
    (case z_list => k_is)
    (case z_max => k_is)
    (case z_min => k_is)
    (case z_range => k_is)
    (case z_sorted => k_is)
    (case z_tuple => k_is)
    (case z_zip => k_is)
    (case k_MOST_FOLK => k_is)
    (case k_MOST_ROW => k_is)
    (case a_is_whole => k_is)
    (case l_is_whole => k_is)
    (case c_is_whole => k_is)
    (case k_is_whole => k_is)
    (case a_is_row => k_is)
    (case l_is_row => k_is)
    (case c_is_row => k_is)
    (case k_is_row => k_is)
    (case a_is_queue => k_is)
    (case l_is_queue => k_is)
    (case c_is_queue => k_is)
    (case k_is_queue => k_is)
    (case a_need_queue => k_is)
    (case l_need_queue => k_is)
    (case c_need_queue => k_is)
    (case k_need_queue => k_is)
    (case a_stands => k_is)
    (case l_stands => k_is)
    (case c_stands => k_is)
    (case k_stands => k_is)
    (case a_turns_of => k_is)
    (case l_turns_of => k_is)
    (case c_turns_of => k_is)
    (case k_turns_of => k_is)
    (case a_turns => k_is)
    (case l_turns => k_is)
    (case c_turns => k_is)
    (case k_turns => k_is)
    (case a_long_of => k_is)
    (case l_long_of => k_is)
    (case c_long_of => k_is)
    (case k_long_of => k_is)
    (case a_how_long => k_is)
    (case l_how_long => k_is)
    (case c_how_long => k_is)
    (case k_how_long => k_is)
    (case a_law_well => k_is)
    (case l_law_well => k_is)
    (case c_law_well => k_is)
    (case k_law_well => k_is)
    (case a_law_take => k_is)
    (case l_law_take => k_is)
    (case c_law_take => k_is)
    (case k_law_take => k_is)
    (case a_law_is_int => k_is)
    (case l_law_is_int => k_is)
    (case c_law_is_int => k_is)
    (case k_law_is_int => k_is)
    (case a_law_kinds => k_is)
    (case l_law_kinds => k_is)
    (case c_law_kinds => k_is)
    (case k_law_kinds => k_is)
    (case a_law_refusal => k_is)
    (case l_law_refusal => k_is)
    (case c_law_refusal => k_is)
    (case k_law_refusal => k_is)
    (case a_law_queue => k_is)
    (case l_law_queue => k_is)
    (case c_law_queue => k_is)
    (case k_law_queue => k_is)
    (case a_law_spots => k_is)
    (case l_law_spots => k_is)
    (case c_law_spots => k_is)
    (case k_law_spots => k_is)
    (case a_law_done => k_is)
    (case l_law_done => k_is)
    (case c_law_done => k_is)
    (case k_law_done => k_is)
    (case a_law_deed => k_is)
    (case l_law_deed => k_is)
    (case c_law_deed => k_is)
    (case k_law_deed => k_is)
    (case a_law_due => k_is)
    (case l_law_due => k_is)
    (case c_law_due => k_is)
    (case k_law_due => k_is)
    (case a_law_stands => k_is)
    (case l_law_stands => k_is)
    (case c_law_stands => k_is)
    (case k_law_stands => k_is)
    (case a_law_plain => k_is)
    (case l_law_plain => k_is)
    (case c_law_plain => k_is)
    (case k_law_plain => k_is)
    (case a_law => k_is)
    (case l_law => k_is)
    (case c_law => k_is)
    (case k_law => k_is)
    (case h_AisleError => k_is)
    (case p_AisleError => k_is)
    (case x_AisleError => k_exc)
    (case s_AisleError => k_is)
    (case t_AisleError => k_is)
    (case h_NoQueue => k_is)
    (case p_NoQueue => k_is)
    (case x_NoQueue => k_exc)
    (case s_NoQueue => k_is)
    (case t_NoQueue => k_is)
    (case h_NoTurn => k_is)
    (case p_NoTurn => k_is)
    (case x_NoTurn => k_exc)
    (case s_NoTurn => k_is)
    (case t_NoTurn => k_is)
    (case h_NoFolk => k_is)
    (case p_NoFolk => k_is)
    (case x_NoFolk => k_exc)
    (case s_NoFolk => k_is)
    (case t_NoFolk => k_is)
    (case h_NoSeen => k_is)
    (case p_NoSeen => k_is)
    (case x_NoSeen => k_exc)
    (case s_NoSeen => k_is)
    (case t_NoSeen => k_is)
    (case h_NoRow => k_is)
    (case p_NoRow => k_is)
    (case x_NoRow => k_exc)
    (case s_NoRow => k_is)
    (case t_NoRow => k_is)
    (case h_NoPlace => k_is)
    (case p_NoPlace => k_is)
    (case x_NoPlace => k_exc)
    (case s_NoPlace => k_is)
    (case t_NoPlace => k_is)
    (case h_Full => k_is)
    (case p_Full => k_is)
    (case x_Full => k_exc)
    (case s_Full => k_is)
    (case t_Full => k_is)
    (case h_NothingLeft => k_is)
    (case p_NothingLeft => k_is)
    (case x_NothingLeft => k_exc)
    (case s_NothingLeft => k_is)
    (case t_NothingLeft => k_is)
    (case K_aC => k_is)
    (case K_pg => k_is)
    (case K_hd => k_is)
    (case K_po => k_is)
    (case K_sa => k_is)
    (case K_mk => k_is)
    (case K_kc => k_is)
    (case K_nr => k_is)
    (case K_ha => k_is)
    (case K_hn => k_is)
    (case K_ht => k_is)
    (case K_hm => k_is)
    (case K_su => k_is)
    (case K_ty => k_is)
    (case a_Kept___init__ => k_is)
    (case i_Kept___init__ => k_is)
    (case l_Kept___init__ => k_is)
    (case c_Kept___init__ => k_is)
    (case k_Kept___init__ => k_is)
    (case a_Kept___len__ => k_is)
    (case i_Kept___len__ => k_is)
    (case l_Kept___len__ => k_is)
    (case c_Kept___len__ => k_is)
    (case k_Kept___len__ => k_is)
    (case a_Kept___eq__ => k_is)
    (case i_Kept___eq__ => k_is)
    (case l_Kept___eq__ => k_is)
    (case c_Kept___eq__ => k_is)
    (case k_Kept___eq__ => k_is)
    (case a_Kept_join => k_is)
    (case i_Kept_join => k_is)
    (case l_Kept_join => k_is)
    (case c_Kept_join => k_is)
    (case k_Kept_join => k_is)
    (case a_Kept_leave => k_is)
    (case i_Kept_leave => k_is)
    (case l_Kept_leave => k_is)
    (case c_Kept_leave => k_is)
    (case k_Kept_leave => k_is)
    (case a_Kept_turn => k_is)
    (case i_Kept_turn => k_is)
    (case l_Kept_turn => k_is)
    (case c_Kept_turn => k_is)
    (case k_Kept_turn => k_is)
    (case a_Kept_back => k_is)
    (case i_Kept_back => k_is)
    (case l_Kept_back => k_is)
    (case c_Kept_back => k_is)
    (case k_Kept_back => k_is)
    (case a_Kept_queue => k_is)
    (case i_Kept_queue => k_is)
    (case l_Kept_queue => k_is)
    (case c_Kept_queue => k_is)
    (case k_Kept_queue => k_is)
    (case a_Kept_sat => k_is)
    (case i_Kept_sat => k_is)
    (case l_Kept_sat => k_is)
    (case c_Kept_sat => k_is)
    (case k_Kept_sat => k_is)
    (case a_Kept_now => k_is)
    (case i_Kept_now => k_is)
    (case l_Kept_now => k_is)
    (case c_Kept_now => k_is)
    (case k_Kept_now => k_is)
    (case w_NoRow =>
      refine' Ai.knd_of ⟨?g1, ?g2, ?g3, ?g4, ?g5, ?g6, ?g7, ?g8⟩ ?k0 ?k1 ?k2 ?k3 ?k4 ?k5 ?k6 ?k7 ?ka ?kv ?ex
      (case g1 => k_is)
      (case g2 => k_is)
      (case g3 => k_is)
      (case g4 => k_is)
      (case g5 => k_is)
      (case g6 => k_is)
      (case g7 => k_is)
      (case g8 => k_is)
      (case k0 => exact Ai.kit_own (by rfl) (by k_is) (by k_is) (by k_is))
      (case k1 => exact Ai.kit_own (by rfl) (by k_is) (by k_is) (by k_is))
      (case k2 => exact Ai.kit_own (by rfl) (by k_is) (by k_is) (by k_is))
      (case k3 => exact Ai.kit_own (by rfl) (by k_is) (by k_is) (by k_is))
      (case k4 => exact Ai.kit_self _ _)
      (case k5 => exact Ai.kit_own (by rfl) (by k_is) (by k_is) (by k_is))
      (case k6 => exact Ai.kit_own (by rfl) (by k_is) (by k_is) (by k_is))
      (case k7 => exact Ai.kit_own (by rfl) (by k_is) (by k_is) (by k_is))
      (case ka => exact Ai.kit_own (by rfl) (by k_is) (by k_is) (by k_is))
      (case kv => exact Ai.kit_vt (by k_is))
      (case ex => exact PySem.W.exm_ref (by k_is) (by k_is) (by k_is) (by k_is)))
    (case w_NoPlace =>
      refine' Ai.knd_of ⟨?g1, ?g2, ?g3, ?g4, ?g5, ?g6, ?g7, ?g8⟩ ?k0 ?k1 ?k2 ?k3 ?k4 ?k5 ?k6 ?k7 ?ka ?kv ?ex
      (case g1 => k_is)
      (case g2 => k_is)
      (case g3 => k_is)
      (case g4 => k_is)
      (case g5 => k_is)
      (case g6 => k_is)
      (case g7 => k_is)
      (case g8 => k_is)
      (case k0 => exact Ai.kit_own (by rfl) (by k_is) (by k_is) (by k_is))
      (case k1 => exact Ai.kit_own (by rfl) (by k_is) (by k_is) (by k_is))
      (case k2 => exact Ai.kit_own (by rfl) (by k_is) (by k_is) (by k_is))
      (case k3 => exact Ai.kit_own (by rfl) (by k_is) (by k_is) (by k_is))
      (case k4 => exact Ai.kit_own (by rfl) (by k_is) (by k_is) (by k_is))
      (case k5 => exact Ai.kit_self _ _)
      (case k6 => exact Ai.kit_own (by rfl) (by k_is) (by k_is) (by k_is))
      (case k7 => exact Ai.kit_own (by rfl) (by k_is) (by k_is) (by k_is))
      (case ka => exact Ai.kit_own (by rfl) (by k_is) (by k_is) (by k_is))
      (case kv => exact Ai.kit_vt (by k_is))
      (case ex => exact PySem.W.exm_ref (by k_is) (by k_is) (by k_is) (by k_is)))
    (case w_Full =>
      refine' Ai.knd_of ⟨?g1, ?g2, ?g3, ?g4, ?g5, ?g6, ?g7, ?g8⟩ ?k0 ?k1 ?k2 ?k3 ?k4 ?k5 ?k6 ?k7 ?ka ?kv ?ex
      (case g1 => k_is)
      (case g2 => k_is)
      (case g3 => k_is)
      (case g4 => k_is)
      (case g5 => k_is)
      (case g6 => k_is)
      (case g7 => k_is)
      (case g8 => k_is)
      (case k0 => exact Ai.kit_own (by rfl) (by k_is) (by k_is) (by k_is))
      (case k1 => exact Ai.kit_own (by rfl) (by k_is) (by k_is) (by k_is))
      (case k2 => exact Ai.kit_own (by rfl) (by k_is) (by k_is) (by k_is))
      (case k3 => exact Ai.kit_own (by rfl) (by k_is) (by k_is) (by k_is))
      (case k4 => exact Ai.kit_own (by rfl) (by k_is) (by k_is) (by k_is))
      (case k5 => exact Ai.kit_own (by rfl) (by k_is) (by k_is) (by k_is))
      (case k6 => exact Ai.kit_self _ _)
      (case k7 => exact Ai.kit_own (by rfl) (by k_is) (by k_is) (by k_is))
      (case ka => exact Ai.kit_own (by rfl) (by k_is) (by k_is) (by k_is))
      (case kv => exact Ai.kit_vt (by k_is))
      (case ex => exact PySem.W.exm_ref (by k_is) (by k_is) (by k_is) (by k_is)))
    (case w_NothingLeft =>
      refine' Ai.knd_of ⟨?g1, ?g2, ?g3, ?g4, ?g5, ?g6, ?g7, ?g8⟩ ?k0 ?k1 ?k2 ?k3 ?k4 ?k5 ?k6 ?k7 ?ka ?kv ?ex
      (case g1 => k_is)
      (case g2 => k_is)
      (case g3 => k_is)
      (case g4 => k_is)
      (case g5 => k_is)
      (case g6 => k_is)
      (case g7 => k_is)
      (case g8 => k_is)
      (case k0 => exact Ai.kit_own (by rfl) (by k_is) (by k_is) (by k_is))
      (case k1 => exact Ai.kit_own (by rfl) (by k_is) (by k_is) (by k_is))
      (case k2 => exact Ai.kit_own (by rfl) (by k_is) (by k_is) (by k_is))
      (case k3 => exact Ai.kit_own (by rfl) (by k_is) (by k_is) (by k_is))
      (case k4 => exact Ai.kit_own (by rfl) (by k_is) (by k_is) (by k_is))
      (case k5 => exact Ai.kit_own (by rfl) (by k_is) (by k_is) (by k_is))
      (case k6 => exact Ai.kit_own (by rfl) (by k_is) (by k_is) (by k_is))
      (case k7 => exact Ai.kit_self _ _)
      (case ka => exact Ai.kit_own (by rfl) (by k_is) (by k_is) (by k_is))
      (case kv => exact Ai.kit_vt (by k_is))
      (case ex => exact PySem.W.exm_ref (by k_is) (by k_is) (by k_is) (by k_is)))
