import PyProof.Rows.All
import Wide.All
import OpenK.AllK
import Wide.FinOn
import HandS.ForMost
import HandS.IsInst
import HandS.DictComp
import HandS.Conv
import HandS.More
import HandS.Walk
import KE.SortData
import KE.GoesNew
import HandS.Codes
import PySem.Challenge.RW_syncedwords_k09_whole_unique_and_strings
set_option Elab.async false
set_option linter.all false
set_option maxRecDepth 100000
/-! ## SWMath -/
section
set_option autoImplicit false
namespace SW
abbrev Wd := List Nat

/-! ### shortlex -/
def Sl (a b : Wd) : Prop := a.length < b.length ∨ (a.length = b.length ∧ ¬ b < a)
theorem lt_app : ∀ {a b : Wd} (s : Wd), a.length = b.length → a ++ s < b ++ s → a < b
  | [], [], s, _, h => absurd h (List.lt_irrefl _)
  | [], _ :: _, _, e, _ => by simp at e
  | _ :: _, [], _, e, _ => by simp at e
  | x :: a, y :: b, s, e, h => by
    rw [List.cons_append, List.cons_append, List.cons_lt_cons_iff] at h
    rw [List.cons_lt_cons_iff]
    rcases h with h | ⟨h1, h2⟩
    · exact .inl h
    · exact .inr ⟨h1, lt_app s (by simpa using e) h2⟩
theorem Sl.refl (a : Wd) : Sl a a := .inr ⟨rfl, List.lt_irrefl _⟩
theorem Sl.trans {a b c : Wd} (h : Sl a b) (k : Sl b c) : Sl a c := by
  rcases h with h | ⟨h1, h2⟩ <;> rcases k with k | ⟨k1, k2⟩
  · exact .inl (Nat.lt_trans h k)
  · exact .inl (by omega)
  · exact .inl (by omega)
  · refine .inr ⟨by omega, ?_⟩
    rw [List.not_lt] at h2 k2 ⊢
    exact List.le_trans h2 k2
theorem Sl.app {a b : Wd} (s : Wd) (h : Sl a b) : Sl (a ++ s) (b ++ s) := by
  rcases h with h | ⟨h1, h2⟩
  · exact .inl (by simp; omega)
  · exact .inr ⟨by simp [h1], fun q => h2 (lt_app s h1.symm q)⟩
theorem Sl.pre (a s : Wd) : Sl a (a ++ s) := by
  cases s with
  | nil => rw [List.append_nil]; exact Sl.refl a
  | cons x s => exact .inl (by simp)
theorem Sl.antisymm {a b : Wd} (h : Sl a b) (k : Sl b a) : a = b := by
  rcases h with h | ⟨h1, h2⟩ <;> rcases k with k | ⟨k1, k2⟩
  · omega
  · omega
  · omega
  · exact List.le_antisymm (List.not_lt.mp h2) (List.not_lt.mp k2)
theorem Sl.len {a b : Wd} (h : Sl a b) : a.length ≤ b.length := by
  rcases h with h | ⟨h, _⟩ <;> omega

/-! ### rests and completions -/
section
variable (code : List Wd)
/-- from a rest the two readings can meet, s letters on -/
inductive Fin : Wd → Wd → Prop
  | nil : Fin [] []
  | drop {r r' s w : Wd} : r ≠ [] → w ∈ code → r = w ++ r' → Fin r' s → Fin r s
  | ext {r m s w : Wd} : r ≠ [] → w ∈ code → w = r ++ m → m ≠ [] → Fin m s → Fin r (m ++ s)
inductive Reach : Wd → Prop
  | first {p q r : Wd} : p ∈ code → q ∈ code → p ≠ q → p = q ++ r → Reach r
  | drop {r r' w : Wd} : Reach r → r ≠ [] → w ∈ code → r = w ++ r' → Reach r'
  | ext {r m w : Wd} : Reach r → r ≠ [] → w ∈ code → w = r ++ m → m ≠ [] → Reach m
def Complete (t : Wd) : Prop := ∃ p q r s : Wd, p ∈ code ∧ q ∈ code ∧ p ≠ q ∧ p = q ++ r ∧ Fin code r s ∧ t = p ++ s
def Amb (t : Wd) : Prop := ∃ P Q : List Wd, P ≠ Q ∧ (∀ w ∈ P, w ∈ code) ∧ (∀ w ∈ Q, w ∈ code) ∧ P.flatten = t ∧ Q.flatten = t
def Par (t : Wd) : Prop := ∃ P : List Wd, (∀ w ∈ P, w ∈ code) ∧ P.flatten = t
variable {code}
theorem Fin.two {r s : Wd} (h : Fin code r s) : ∃ A B : List Wd, (∀ w ∈ A, w ∈ code) ∧ (∀ w ∈ B, w ∈ code) ∧ A.flatten = s ∧ B.flatten = r ++ s := by
  induction h with
  | nil => exact ⟨[], [], by simp, by simp, rfl, rfl⟩
  | @drop r r' s w h1 h2 h3 _ ih =>
    obtain ⟨A, B, a1, b1, a2, b2⟩ := ih
    refine ⟨A, w :: B, a1, ?_, a2, ?_⟩
    · intro w hw
      rcases List.mem_cons.mp hw with e | hw
      · rw [e]; exact h2
      · exact b1 w hw
    · rw [List.flatten_cons, b2, h3, List.append_assoc]
  | @ext r m s w h1 h2 h3 h4 _ ih =>
    obtain ⟨A, B, a1, b1, a2, b2⟩ := ih
    refine ⟨B, w :: A, b1, ?_, b2, ?_⟩
    · intro w hw
      rcases List.mem_cons.mp hw with e | hw
      · rw [e]; exact h2
      · exact a1 w hw
    · rw [List.flatten_cons, a2, h3, List.append_assoc]
theorem Complete.amb {t : Wd} (h : Complete code t) : Amb code t := by
  obtain ⟨p, q, r, s, hp, hq, hne, e, f, et⟩ := h
  obtain ⟨A, B, a1, b1, a2, b2⟩ := f.two
  refine ⟨p :: A, q :: B, fun z => hne (List.cons.inj z).1, ?_, ?_, ?_, ?_⟩
  · intro w hw
    rcases List.mem_cons.mp hw with e | hw
    · rw [e]; exact hp
    · exact a1 w hw
  · intro w hw
    rcases List.mem_cons.mp hw with e | hw
    · rw [e]; exact hq
    · exact b1 w hw
  · rw [List.flatten_cons, a2, et]
  · rw [List.flatten_cons, b2, et, e, List.append_assoc]
theorem fin_of : ∀ (n : Nat) (r : Wd) (A B : List Wd), A.length + B.length ≤ n → (∀ w ∈ A, w ∈ code) → (∀ w ∈ B, w ∈ code) → r ++ A.flatten = B.flatten → ∃ s, Fin code r s ∧ s <+: A.flatten := by
  intro n
  induction n with
  | zero =>
    intro r A B hn _ _ e
    have hA : A = [] := List.eq_nil_of_length_eq_zero (by omega)
    have hB : B = [] := List.eq_nil_of_length_eq_zero (by omega)
    subst hA hB
    have hr : r = [] := by simpa using e
    subst hr
    exact ⟨[], .nil, List.nil_prefix⟩
  | succ n ih =>
    intro r A B hn hA hB e
    by_cases hr : r = []
    · subst hr
      exact ⟨[], .nil, List.nil_prefix⟩
    · cases B with
      | nil =>
        exfalso
        have e' : r ++ A.flatten = [] := e
        exact hr (List.append_eq_nil_iff.mp e').1
      | cons w B =>
        have hw : w ∈ code := hB w List.mem_cons_self
        have hB' : ∀ v ∈ B, v ∈ code := fun v hv => hB v (List.mem_cons_of_mem _ hv)
        rw [List.flatten_cons] at e
        simp only [List.length_cons] at hn
        rcases List.append_eq_append_iff.mp e with ⟨m, e1, e2⟩ | ⟨r', e1, e2⟩
        · by_cases hm : m = []
          · subst hm
            rw [List.append_nil] at e1
            exact ⟨[], .drop hr hw (r' := []) (by rw [List.append_nil]; exact e1.symm) .nil, List.nil_prefix⟩
          · obtain ⟨s, f, p⟩ := ih m B A (by omega) hB' hA e2.symm
            refine ⟨m ++ s, .ext hr hw e1 hm f, ?_⟩
            rw [e2]
            exact (List.prefix_append_right_inj m).mpr p
        · obtain ⟨s, f, p⟩ := ih r' A B (by omega) hA hB' e2.symm
          exact ⟨s, .drop hr hw e1 f, p⟩
theorem pre_len {t u : Wd} (h : t <+: u) : t.length < u.length ∨ t = u := by
  obtain ⟨s, e⟩ := h
  cases s with
  | nil => rw [List.append_nil] at e; exact .inr e
  | cons x s => left; rw [← e]; simp
theorem amb_complete (hne : ∀ w ∈ code, w ≠ []) {u : Wd} (h : Amb code u) : ∃ t, Complete code t ∧ (t.length < u.length ∨ t = u) := by
  obtain ⟨P, Q, hpq, hP, hQ, e1, e2⟩ := h
  have no : ∀ (q : Wd) (Q : List Wd), q ∈ code → (q :: Q).flatten ≠ [] := fun q Q hq z => by
    rw [List.flatten_cons] at z
    exact hne q hq (List.append_eq_nil_iff.mp z).1
  induction P generalizing Q u with
  | nil =>
    cases Q with
    | nil => exact absurd rfl hpq
    | cons q Q => exact absurd (e2.trans e1.symm) (no q Q (hQ q List.mem_cons_self))
  | cons p P ih =>
    cases Q with
    | nil => exact absurd (e1.trans e2.symm) (no p P (hP p List.mem_cons_self))
    | cons q Q =>
      have hp : p ∈ code := hP p List.mem_cons_self
      have hq : q ∈ code := hQ q List.mem_cons_self
      have hP' : ∀ v ∈ P, v ∈ code := fun v hv => hP v (List.mem_cons_of_mem _ hv)
      have hQ' : ∀ v ∈ Q, v ∈ code := fun v hv => hQ v (List.mem_cons_of_mem _ hv)
      by_cases hh : p = q
      · subst hh
        have hpq' : P ≠ Q := fun z => hpq (by rw [z])
        rw [List.flatten_cons] at e1 e2
        have e3 : P.flatten = Q.flatten := List.append_cancel_left (e1.trans e2.symm)
        obtain ⟨t, c, l⟩ := ih Q hpq' hP' hQ' rfl e3.symm
        refine ⟨t, c, .inl ?_⟩
        have hl : 0 < p.length := List.length_pos_iff.mpr (hne p hp)
        have : u.length = p.length + P.flatten.length := by rw [← e1, List.length_append]
        rcases l with l | l
        · omega
        · rw [l]; omega
      · rw [List.flatten_cons] at e1 e2
        rcases List.append_eq_append_iff.mp (e1.trans e2.symm) with ⟨r, f1, f2⟩ | ⟨r, f1, f2⟩
        · obtain ⟨s, f, pr⟩ := fin_of _ r Q P (Nat.le_refl _) hQ' hP' f2.symm
          refine ⟨q ++ s, ⟨q, p, r, s, hq, hp, fun z => hh z.symm, f1, f, rfl⟩, pre_len ?_⟩
          rw [← e2]
          exact (List.prefix_append_right_inj q).mpr pr
        · obtain ⟨s, f, pr⟩ := fin_of _ r P Q (Nat.le_refl _) hP' hQ' f2.symm
          refine ⟨p ++ s, ⟨p, q, r, s, hp, hq, hh, f1, f, rfl⟩, pre_len ?_⟩
          rw [← e1]
          exact (List.prefix_append_right_inj p).mpr pr
theorem Reach.complete {r : Wd} (h : Reach code r) : ∀ s, Fin code r s → ∃ t, Complete code t := by
  induction h with
  | first h1 h2 h3 h4 => exact fun s f => ⟨_, _, _, _, s, h1, h2, h3, h4, f, rfl⟩
  | drop _ h1 h2 h3 ih => exact fun s f => ih s (.drop h1 h2 h3 f)
  | ext _ h1 h2 h3 h4 ih => exact fun s f => ih _ (.ext h1 h2 h3 h4 f)
theorem Fin.reach {r s : Wd} (h : Fin code r s) : Reach code r → Reach code [] := by
  induction h with
  | nil => exact fun z => z
  | drop h1 h2 h3 _ ih => exact fun z => ih (.drop z h1 h2 h3)
  | ext h1 h2 h3 h4 _ ih => exact fun z => ih (.ext z h1 h2 h3 h4)
theorem reach_nil_iff : Reach code [] ↔ ∃ t, Complete code t := by
  refine ⟨fun h => h.complete [] .nil, fun ⟨t, p, q, r, s, hp, hq, hne, e, f, _⟩ => f.reach (.first hp hq hne e)⟩

/-- the ends of a word -/
def sufs : Wd → List Wd
  | [] => [[]]
  | a :: l => (a :: l) :: sufs l
theorem sufs_len : ∀ w : Wd, (sufs w).length = w.length + 1
  | [] => rfl
  | _ :: l => by rw [sufs, List.length_cons, sufs_len l, List.length_cons]
theorem mem_sufs {r : Wd} : ∀ {w : Wd}, r ∈ sufs w ↔ r <:+ w
  | [] => by simp [sufs]
  | a :: l => by
    rw [sufs, List.mem_cons, mem_sufs, List.suffix_cons_iff]
def univ (code : List Wd) : List Wd := code.flatMap sufs
theorem univ_len {L : Nat} : ∀ {code : List Wd}, (∀ w ∈ code, w.length ≤ L) → (univ code).length ≤ code.length * (L + 1)
  | [], _ => by simp [univ]
  | w :: c, h => by
    have ih := univ_len (code := c) fun v hv => h v (List.mem_cons_of_mem _ hv)
    have h1 := h w List.mem_cons_self
    unfold univ at ih ⊢
    rw [List.flatMap_cons, List.length_append, sufs_len, List.length_cons, Nat.succ_mul]
    omega
theorem Reach.suf {r : Wd} (h : Reach code r) : ∃ w ∈ code, r <:+ w := by
  induction h with
  | first h1 h2 h3 h4 => exact ⟨_, h1, ⟨_, h4.symm⟩⟩
  | drop _ h1 h2 h3 ih =>
    obtain ⟨v, hv, s⟩ := ih
    exact ⟨v, hv, List.IsSuffix.trans ⟨_, h3.symm⟩ s⟩
  | ext _ h1 h2 h3 h4 ih => exact ⟨_, h2, ⟨_, h3.symm⟩⟩
theorem Reach.univ {r : Wd} (h : Reach code r) : r ∈ univ code := by
  obtain ⟨w, hw, s⟩ := h.suf
  exact List.mem_flatMap.mpr ⟨w, hw, mem_sufs.mpr s⟩
theorem nodup_len : ∀ (l D : List Wd), l.Nodup → (∀ x ∈ l, x ∈ D) → l.length ≤ D.length
  | [], D, _, _ => Nat.zero_le _
  | x :: l, D, hn, hs => by
    have hx : x ∈ D := hs x List.mem_cons_self
    have h1 := nodup_len l (D.erase x) (List.nodup_cons.mp hn).2 fun y hy => by
      have hne : y ≠ x := fun e => (List.nodup_cons.mp hn).1 (e ▸ hy)
      exact (List.mem_erase_of_ne hne).mpr (hs y (List.mem_cons_of_mem _ hy))
    rw [List.length_erase_of_mem hx] at h1
    have := List.length_pos_of_mem hx
    rw [List.length_cons]
    omega
end
end SW
end
/-! ## SWMath2 -/
section
set_option autoImplicit false
namespace SW
/-! ### mirrors -/
def row1 (code : List Wd) (i j : Nat) : List (Nat × Nat × Wd) :=
  if j ≠ i ∧ (code.getD j []).isPrefixOf (code.getD i []) = true then [(i, j, (code.getD i []).drop (code.getD j []).length)] else []
def firstRow (code : List Wd) (i : Nat) : Nat → List (Nat × Nat × Wd)
  | 0 => []
  | j + 1 => firstRow code i j ++ row1 code i j
def firstTo (code : List Wd) : Nat → List (Nat × Nat × Wd)
  | 0 => []
  | i + 1 => firstTo code i ++ firstRow code i code.length
def firstSteps (code : List Wd) : List (Nat × Nat × Wd) := firstTo code code.length
def step1 (w rest : Wd) (k : Nat) : List (Nat × Bool × Wd) :=
  if w.isPrefixOf rest = true then [(k, false, rest.drop w.length)] else if rest.isPrefixOf w = true then [(k, true, w.drop rest.length)] else []
def stepsTo (code : List Wd) (rest : Wd) : Nat → List (Nat × Bool × Wd)
  | 0 => []
  | k + 1 => stepsTo code rest k ++ step1 (code.getD k []) rest k
def stepsFrom (code : List Wd) (rest : Wd) : List (Nat × Bool × Wd) := stepsTo code rest code.length
structure Way where
  text : Wd
  rest : Wd
  front : List Nat
  back : List Nat
def onStep (y : Way) (q : Nat × Bool × Wd) : Way :=
  if q.2.1 = true then ⟨y.text ++ q.2.2, q.2.2, y.back ++ [q.1], y.front⟩ else ⟨y.text, q.2.2, y.front, y.back ++ [q.1]⟩
def waysOn (code : List Wd) (y : Way) : List Way := (stepsFrom code y.rest).map (onStep y)
def startWay (code : List Wd) (q : Nat × Nat × Wd) : Way := ⟨code.getD q.1 [], q.2.2, [q.1], [q.2.1]⟩
def startWays (code : List Wd) : List Way := (firstSteps code).map (startWay code)

theorem pre_drop {a b : Wd} (h : a.isPrefixOf b = true) : b = a ++ b.drop a.length := by
  obtain ⟨s, e⟩ := List.isPrefixOf_iff_prefix.mp h
  rw [← e, List.drop_left]
theorem pre_app (a b : Wd) : a.isPrefixOf (a ++ b) = true := List.isPrefixOf_iff_prefix.mpr ⟨b, rfl⟩
theorem getD_some {code : List Wd} {i : Nat} (h : i < code.length) : code.getD i [] ∈ code := by
  rw [List.getD_eq_getElem?_getD, List.getElem?_eq_getElem h]
  exact List.getElem_mem h
theorem getD_of_mem {code : List Wd} {w : Wd} (h : w ∈ code) : ∃ i, i < code.length ∧ code.getD i [] = w := by
  obtain ⟨i, hi, e⟩ := List.getElem_of_mem h
  exact ⟨i, hi, by rw [List.getD_eq_getElem?_getD, List.getElem?_eq_getElem hi]; exact e⟩
theorem getD_inj {code : List Wd} (hn : code.Nodup) {i j : Nat} (hi : i < code.length) (hj : j < code.length) (h : code.getD i [] = code.getD j []) : i = j := by
  rw [List.getD_eq_getElem?_getD, List.getElem?_eq_getElem hi, List.getD_eq_getElem?_getD, List.getElem?_eq_getElem hj] at h
  exact (List.getElem_inj hn).mp h

theorem mem_firstRow {code : List Wd} {i : Nat} {q : Nat × Nat × Wd} : ∀ {n : Nat}, q ∈ firstRow code i n ↔ ∃ j, j < n ∧ q ∈ row1 code i j
  | 0 => by simp [firstRow]
  | n + 1 => by
    rw [firstRow, List.mem_append, mem_firstRow]
    constructor
    · rintro (⟨j, h, m⟩ | m)
      · exact ⟨j, by omega, m⟩
      · exact ⟨n, by omega, m⟩
    · rintro ⟨j, h, m⟩
      by_cases e : j = n
      · subst e; exact .inr m
      · exact .inl ⟨j, by omega, m⟩
theorem mem_firstTo {code : List Wd} {q : Nat × Nat × Wd} : ∀ {n : Nat}, q ∈ firstTo code n ↔ ∃ i, i < n ∧ q ∈ firstRow code i code.length
  | 0 => by simp [firstTo]
  | n + 1 => by
    rw [firstTo, List.mem_append, mem_firstTo]
    constructor
    · rintro (⟨j, h, m⟩ | m)
      · exact ⟨j, by omega, m⟩
      · exact ⟨n, by omega, m⟩
    · rintro ⟨j, h, m⟩
      by_cases e : j = n
      · subst e; exact .inr m
      · exact .inl ⟨j, by omega, m⟩
theorem mem_stepsTo {code : List Wd} {rest : Wd} {q : Nat × Bool × Wd} : ∀ {n : Nat}, q ∈ stepsTo code rest n ↔ ∃ i, i < n ∧ q ∈ step1 (code.getD i []) rest i
  | 0 => by simp [stepsTo]
  | n + 1 => by
    rw [stepsTo, List.mem_append, mem_stepsTo]
    constructor
    · rintro (⟨j, h, m⟩ | m)
      · exact ⟨j, by omega, m⟩
      · exact ⟨n, by omega, m⟩
    · rintro ⟨j, h, m⟩
      by_cases e : j = n
      · subst e; exact .inr m
      · exact .inl ⟨j, by omega, m⟩
theorem firstSteps_mem {code : List Wd} (hn : code.Nodup) {q : Nat × Nat × Wd} (h : q ∈ firstSteps code) :
    q.1 < code.length ∧ q.2.1 < code.length ∧ code.getD q.1 [] ≠ code.getD q.2.1 [] ∧ code.getD q.1 [] = code.getD q.2.1 [] ++ q.2.2 := by
  obtain ⟨i, hi, h⟩ := mem_firstTo.mp h
  obtain ⟨j, hj, h⟩ := mem_firstRow.mp h
  unfold row1 at h
  split at h
  · rename_i c
    have e : q = (i, j, (code.getD i []).drop (code.getD j []).length) := by simpa using h
    subst e
    exact ⟨hi, hj, fun z => c.1 (getD_inj hn hj hi z.symm), pre_drop c.2⟩
  · simp at h
theorem firstSteps_all {code : List Wd} {p q r : Wd} (hp : p ∈ code) (hq : q ∈ code) (hne : p ≠ q) (e : p = q ++ r) : ∃ i j, (i, j, r) ∈ firstSteps code ∧ code.getD i [] = p := by
  obtain ⟨i, hi, ei⟩ := getD_of_mem hp
  obtain ⟨j, hj, ej⟩ := getD_of_mem hq
  refine ⟨i, j, mem_firstTo.mpr ⟨i, hi, mem_firstRow.mpr ⟨j, hj, ?_⟩⟩, ei⟩
  unfold row1
  rw [ei, ej, if_pos ⟨fun z => hne (by rw [← ei, ← ej, z]), by rw [e]; exact pre_app _ _⟩, e, List.drop_left]
  exact List.mem_singleton.mpr rfl
theorem stepsFrom_mem {code : List Wd} {rest : Wd} {q : Nat × Bool × Wd} (h : q ∈ stepsFrom code rest) :
    q.1 < code.length ∧ ((q.2.1 = false ∧ rest = code.getD q.1 [] ++ q.2.2) ∨ (q.2.1 = true ∧ code.getD q.1 [] = rest ++ q.2.2 ∧ q.2.2 ≠ [])) := by
  obtain ⟨i, hi, h⟩ := mem_stepsTo.mp h
  unfold step1 at h
  split at h
  · rename_i c
    have e : q = (i, false, rest.drop (code.getD i []).length) := by simpa using h
    subst e
    exact ⟨hi, .inl ⟨rfl, pre_drop c⟩⟩
  · rename_i c
    split at h
    · rename_i d
      have e : q = (i, true, (code.getD i []).drop rest.length) := by simpa using h
      subst e
      refine ⟨hi, .inr ⟨rfl, pre_drop d, fun z => c ?_⟩⟩
      have z' : (code.getD i []).drop rest.length = [] := z
      have f := pre_drop d
      rw [z', List.append_nil] at f
      rw [f]
      exact List.isPrefixOf_iff_prefix.mpr ⟨[], List.append_nil _⟩
    · simp at h
theorem stepsFrom_drop {code : List Wd} {rest w r : Wd} (hw : w ∈ code) (e : rest = w ++ r) : ∃ k, (k, false, r) ∈ stepsFrom code rest := by
  obtain ⟨i, hi, ei⟩ := getD_of_mem hw
  refine ⟨i, mem_stepsTo.mpr ⟨i, hi, ?_⟩⟩
  unfold step1
  rw [ei, if_pos (by rw [e]; exact pre_app _ _), e, List.drop_left]
  exact List.mem_singleton.mpr rfl
theorem stepsFrom_ext {code : List Wd} {rest w m : Wd} (hw : w ∈ code) (e : w = rest ++ m) (hm : m ≠ []) : ∃ k, (k, true, m) ∈ stepsFrom code rest := by
  obtain ⟨i, hi, ei⟩ := getD_of_mem hw
  refine ⟨i, mem_stepsTo.mpr ⟨i, hi, ?_⟩⟩
  unfold step1
  rw [ei, if_neg (fun z => ?_), if_pos (by rw [e]; exact pre_app _ _), e, List.drop_left]
  · exact List.mem_singleton.mpr rfl
  · obtain ⟨s, f⟩ := List.isPrefixOf_iff_prefix.mp z
    have hl := congrArg List.length f
    rw [e, List.length_append, List.length_append] at hl
    exact hm (List.eq_nil_of_length_eq_zero (by omega))
theorem row1_len (code : List Wd) (i j : Nat) : (row1 code i j).length ≤ 1 := by unfold row1; split <;> simp
theorem firstRow_len (code : List Wd) (i : Nat) : ∀ n, (firstRow code i n).length ≤ n
  | 0 => Nat.le_refl _
  | n + 1 => by
    have := firstRow_len code i n
    have := row1_len code i n
    rw [firstRow, List.length_append]; omega
theorem firstTo_len (code : List Wd) : ∀ n, (firstTo code n).length ≤ n * code.length
  | 0 => by simp [firstTo]
  | n + 1 => by
    have := firstTo_len code n
    have := firstRow_len code n code.length
    rw [firstTo, List.length_append, Nat.succ_mul]; omega
theorem stepsTo_len (code : List Wd) (rest : Wd) : ∀ n, (stepsTo code rest n).length ≤ n
  | 0 => Nat.le_refl _
  | n + 1 => by
    have := stepsTo_len code rest n
    have h : (step1 (code.getD n []) rest n).length ≤ 1 := by
      unfold step1
      split
      · simp
      · split <;> simp
    rw [stepsTo, List.length_append]; omega

/-! ### the search for the first ambiguous string -/
structure WOk (code : List Wd) (L c : Nat) (y : Way) : Prop where
  good : ∀ s, Fin code y.rest s → Complete code (y.text ++ s)
  reach : Reach code y.rest
  len : y.text.length ≤ L * (c + 1)
  ix : y.front.length + y.back.length ≤ c + 2
  fne : y.front ≠ []
  bne : y.back ≠ []
def Cov (W : List Way) (K : List Wd) (T : Wd → Wd) (x r : Wd) : Prop := (∃ y ∈ W, y.rest = r ∧ Sl y.text x) ∨ (r ∈ K ∧ Sl (T r) x)
structure DInv (code : List Wd) (L : Nat) (W : List Way) (K : List Wd) (T : Wd → Wd) : Prop where
  nd : K.Nodup
  ku : ∀ r ∈ K, Reach code r ∧ r ≠ []
  ok : ∀ y ∈ W, WOk code L K.length y
  fst : ∀ p q r, p ∈ code → q ∈ code → p ≠ q → p = q ++ r → Cov W K T p r
  nx1 : ∀ r ∈ K, ∀ w r', w ∈ code → r = w ++ r' → Cov W K T (T r) r'
  nx2 : ∀ r ∈ K, ∀ w m, w ∈ code → w = r ++ m → m ≠ [] → Cov W K T (T r ++ m) m
  mono : ∀ r ∈ K, ∀ y ∈ W, Sl (T r) y.text
  size : W.length ≤ code.length * code.length + code.length * K.length
section
variable {code : List Wd} {L : Nat} {W W' : List Way} {K : List Wd} {T : Wd → Wd}
theorem DInv.perm (d : DInv code L W K T) (hm : ∀ y, y ∈ W' ↔ y ∈ W) (hl : W'.length = W.length) : DInv code L W' K T := by
  have c : ∀ {x r}, Cov W K T x r → Cov W' K T x r := fun h => by
    rcases h with ⟨y, hy, h⟩ | h
    · exact .inl ⟨y, (hm y).mpr hy, h⟩
    · exact .inr h
  exact ⟨d.nd, d.ku, fun y hy => d.ok y ((hm y).mp hy), fun p q r h1 h2 h3 h4 => c (d.fst p q r h1 h2 h3 h4), fun r h1 w r' h2 h3 => c (d.nx1 r h1 w r' h2 h3), fun r h1 w m h2 h3 h4 => c (d.nx2 r h1 w m h2 h3 h4),
    fun r h y hy => d.mono r h y ((hm y).mp hy), by rw [hl]; exact d.size⟩
theorem DInv.cov_fin (d : DInv code L W K T) {r s : Wd} (f : Fin code r s) : ∀ x, Cov W K T x r → ∃ y ∈ W, ∃ s', Fin code y.rest s' ∧ Sl (y.text ++ s') (x ++ s) := by
  induction f with
  | nil =>
    rintro x (⟨y, hy, e, h⟩ | ⟨h, _⟩)
    · exact ⟨y, hy, [], by rw [e]; exact .nil, h.app []⟩
    · exact absurd rfl (d.ku [] h).2
  | @drop r r' s w h1 h2 h3 f ih =>
    rintro x (⟨y, hy, e, h⟩ | ⟨h, l⟩)
    · exact ⟨y, hy, s, by rw [e]; exact .drop h1 h2 h3 f, h.app s⟩
    · obtain ⟨y, hy, s', f', l'⟩ := ih _ (d.nx1 r h w r' h2 h3)
      exact ⟨y, hy, s', f', l'.trans (l.app s)⟩
  | @ext r m s w h1 h2 h3 h4 f ih =>
    rintro x (⟨y, hy, e, h⟩ | ⟨h, l⟩)
    · exact ⟨y, hy, m ++ s, by rw [e]; exact .ext h1 h2 h3 h4 f, h.app _⟩
    · obtain ⟨y, hy, s', f', l'⟩ := ih _ (d.nx2 r h w m h2 h3 h4)
      refine ⟨y, hy, s', f', l'.trans ?_⟩
      rw [List.append_assoc]
      exact l.app _
theorem DInv.cov (d : DInv code L W K T) {t : Wd} (h : Complete code t) : ∃ y ∈ W, ∃ s', Fin code y.rest s' ∧ Sl (y.text ++ s') t := by
  obtain ⟨p, q, r, s, hp, hq, hne, e, f, et⟩ := h
  rw [et]
  exact d.cov_fin f p (d.fst p q r hp hq hne e)
theorem DInv.none (d : DInv code L [] K T) (t : Wd) : ¬ Complete code t := fun h => by
  obtain ⟨y, hy, _⟩ := d.cov h
  exact absurd hy (by simp)
theorem DInv.found {y0 : Way} (d : DInv code L W K T) (h0 : y0 ∈ W) (hmin : ∀ y ∈ W, Sl y0.text y.text) (hr : y0.rest = []) : Complete code y0.text ∧ ∀ t, Complete code t → Sl y0.text t := by
  refine ⟨?_, fun t h => ?_⟩
  · have := (d.ok y0 h0).good [] (by rw [hr]; exact .nil)
    rwa [List.append_nil] at this
  · obtain ⟨y, hy, s', _, l⟩ := d.cov h
    exact (hmin y hy).trans ((Sl.pre _ _).trans l)
theorem DInv.skip {y0 : Way} (d : DInv code L (y0 :: W) K T) (hk : y0.rest ∈ K) : DInv code L W K T := by
  have hs := d.size
  rw [List.length_cons] at hs
  have c : ∀ {x r}, Cov (y0 :: W) K T x r → Cov W K T x r := fun {x r} h => by
    rcases h with ⟨y, hy, e, h⟩ | h
    · rcases List.mem_cons.mp hy with q | hy
      · subst q
        refine .inr ⟨e ▸ hk, ?_⟩
        rw [← e]
        exact (d.mono _ hk y List.mem_cons_self).trans h
      · exact .inl ⟨y, hy, e, h⟩
    · exact .inr h
  exact ⟨d.nd, d.ku, fun y hy => d.ok y (List.mem_cons_of_mem _ hy), fun p q r h1 h2 h3 h4 => c (d.fst p q r h1 h2 h3 h4), fun r h1 w r' h2 h3 => c (d.nx1 r h1 w r' h2 h3), fun r h1 w m h2 h3 h4 => c (d.nx2 r h1 w m h2 h3 h4),
    fun r h y hy => d.mono r h y (List.mem_cons_of_mem _ hy), by omega⟩
theorem WOk.up {c c' : Nat} {y : Way} (h : WOk code L c y) (l : c ≤ c') : WOk code L c' y :=
  ⟨h.good, h.reach, Nat.le_trans h.len (Nat.mul_le_mul_left _ (by omega)), by have := h.ix; omega, h.fne, h.bne⟩
theorem WOk.on {c : Nat} {y : Way} (hL : ∀ w ∈ code, w.length ≤ L) (h : WOk code L c y) (hr : y.rest ≠ []) {q : Nat × Bool × Wd} (hq : q ∈ stepsFrom code y.rest) : WOk code L (c + 1) (onStep y q) ∧ Sl y.text (onStep y q).text := by
  obtain ⟨h1, h2⟩ := stepsFrom_mem hq
  have hw := getD_some h1
  have hix := h.ix
  have hlen := h.len
  rcases h2 with ⟨e, h2⟩ | ⟨e, h2, h3⟩
  · unfold onStep
    rw [if_neg (by rw [e]; decide)]
    refine ⟨⟨fun s f => h.good s (.drop hr hw h2 f), .drop h.reach hr hw h2, Nat.le_trans hlen (Nat.mul_le_mul_left _ (by omega)), ?_, h.fne, by simp⟩, Sl.refl _⟩
    show y.front.length + (y.back ++ [q.1]).length ≤ _
    rw [List.length_append, List.length_singleton]; omega
  · unfold onStep
    rw [if_pos e]
    refine ⟨⟨fun s f => ?_, .ext h.reach hr hw h2 h3, ?_, ?_, by simp, h.fne⟩, Sl.pre _ _⟩
    · show Complete code ((y.text ++ q.2.2) ++ s)
      rw [List.append_assoc]
      exact h.good _ (.ext hr hw h2 h3 f)
    · show (y.text ++ q.2.2).length ≤ L * (c + 1 + 1)
      have hl := hL _ hw
      rw [h2, List.length_append] at hl
      rw [List.length_append, Nat.mul_succ]
      omega
    · show (y.back ++ [q.1]).length + y.front.length ≤ _
      rw [List.length_append, List.length_singleton]; omega
theorem DInv.new {y0 : Way} (hL : ∀ w ∈ code, w.length ≤ L) (d : DInv code L (y0 :: W) K T) (hmin : ∀ y ∈ W, Sl y0.text y.text) (hk : y0.rest ∉ K) (hr : y0.rest ≠ []) :
    DInv code L (W ++ waysOn code y0) (K ++ [y0.rest]) (fun r => if r = y0.rest then y0.text else T r) := by
  have hs := d.size
  rw [List.length_cons] at hs
  have ok0 := d.ok y0 List.mem_cons_self
  have hne : ∀ r ∈ K, r ≠ y0.rest := fun r h e => hk (e ▸ h)
  have old : ∀ r ∈ K, (if r = y0.rest then y0.text else T r) = T r := fun r h => if_neg (hne r h)
  have c : ∀ {x r}, Cov (y0 :: W) K T x r → Cov (W ++ waysOn code y0) (K ++ [y0.rest]) (fun r => if r = y0.rest then y0.text else T r) x r := fun {x r} h => by
    rcases h with ⟨y, hy, e, h⟩ | ⟨h, l⟩
    · rcases List.mem_cons.mp hy with q | hy
      · subst q
        refine .inr ⟨by rw [← e]; simp, ?_⟩
        show Sl (if r = y.rest then y.text else T r) x
        rw [if_pos e.symm]
        exact h
      · exact .inl ⟨y, List.mem_append_left _ hy, e, h⟩
    · refine .inr ⟨List.mem_append_left _ h, ?_⟩
      show Sl (if r = y0.rest then y0.text else T r) x
      rw [old r h]
      exact l
  have on : ∀ {q}, q ∈ stepsFrom code y0.rest → onStep y0 q ∈ W ++ waysOn code y0 := fun hq => List.mem_append_right _ (List.mem_map.mpr ⟨_, hq, rfl⟩)
  have hlen : (K ++ [y0.rest]).length = K.length + 1 := by simp
  refine ⟨?_, ?_, ?_, fun p q r h1 h2 h3 h4 => c (d.fst p q r h1 h2 h3 h4), ?_, ?_, ?_, ?_⟩
  · rw [List.nodup_append]
    refine ⟨d.nd, by simp, fun a ha b hb => ?_⟩
    rw [List.mem_singleton.mp hb]
    exact hne a ha
  · intro r h
    rcases List.mem_append.mp h with h | h
    · exact d.ku r h
    · rw [List.mem_singleton.mp h]
      exact ⟨ok0.reach, hr⟩
  · intro y hy
    rw [hlen]
    rcases List.mem_append.mp hy with hy | hy
    · exact (d.ok y (List.mem_cons_of_mem _ hy)).up (Nat.le_succ _)
    · obtain ⟨q, hq, e⟩ := List.mem_map.mp hy
      rw [← e]
      exact (ok0.on hL hr hq).1
  · intro r h w r' h2 h3
    rcases List.mem_append.mp h with h | h
    · show Cov _ _ _ (if r = y0.rest then y0.text else T r) r'
      rw [old r h]
      exact c (d.nx1 r h w r' h2 h3)
    · have e := List.mem_singleton.mp h
      show Cov _ _ _ (if r = y0.rest then y0.text else T r) r'
      rw [if_pos e]
      rw [e] at h3
      obtain ⟨k, hq⟩ := stepsFrom_drop h2 h3
      exact .inl ⟨_, on hq, rfl, Sl.refl _⟩
  · intro r h w m h2 h3 h4
    rcases List.mem_append.mp h with h | h
    · show Cov _ _ _ ((if r = y0.rest then y0.text else T r) ++ m) m
      rw [old r h]
      exact c (d.nx2 r h w m h2 h3 h4)
    · have e := List.mem_singleton.mp h
      show Cov _ _ _ ((if r = y0.rest then y0.text else T r) ++ m) m
      rw [if_pos e]
      rw [e] at h3
      obtain ⟨k, hq⟩ := stepsFrom_ext h2 h3 h4
      exact .inl ⟨_, on hq, rfl, Sl.refl _⟩
  · intro r h y hy
    have low : Sl (if r = y0.rest then y0.text else T r) y0.text := by
      rcases List.mem_append.mp h with h | h
      · rw [old r h]
        exact d.mono r h y0 List.mem_cons_self
      · rw [if_pos (List.mem_singleton.mp h)]
        exact Sl.refl _
    refine low.trans ?_
    rcases List.mem_append.mp hy with hy | hy
    · exact hmin y hy
    · obtain ⟨q, hq, e⟩ := List.mem_map.mp hy
      rw [← e]
      exact (ok0.on hL hr hq).2
  · have h1 : (waysOn code y0).length ≤ code.length := by
      unfold waysOn
      rw [List.length_map]
      exact stepsTo_len _ _ _
    rw [hlen, List.length_append, Nat.mul_succ]
    omega
theorem DInv.start (hn : code.Nodup) (hL : ∀ w ∈ code, w.length ≤ L) : DInv code L (startWays code) [] (fun _ => []) := by
  refine ⟨List.nodup_nil, by simp, ?_, ?_, by simp, by simp, by simp, ?_⟩
  · intro y hy
    obtain ⟨q, hq, e⟩ := List.mem_map.mp hy
    obtain ⟨h1, h2, h3, h4⟩ := firstSteps_mem hn hq
    subst e
    exact ⟨fun s f => ⟨_, _, _, s, getD_some h1, getD_some h2, h3, h4, f, rfl⟩, .first (getD_some h1) (getD_some h2) h3 h4, by have := hL _ (getD_some h1); show (code.getD q.1 []).length ≤ L * (0 + 1); omega, by simp [startWay], by simp [startWay], by simp [startWay]⟩
  · intro p q r hp hq hne e
    obtain ⟨i, j, h, ei⟩ := firstSteps_all hp hq hne e
    exact .inl ⟨startWay code (i, j, r), List.mem_map.mpr ⟨_, h, rfl⟩, rfl, by show Sl (code.getD i []) p; rw [ei]; exact Sl.refl _⟩
  · unfold startWays
    rw [List.length_map]
    have : (firstSteps code).length ≤ code.length * code.length := firstTo_len code code.length
    simp
    omega
theorem DInv.kLen (d : DInv code L W K T) : K.length ≤ (univ code).length := nodup_len K _ d.nd fun r h => (d.ku r h).1.univ
end

/-! ### the rests -/
/-- cur: the rest whose steps are being gone through, its first i steps done -/
structure RInv (code : List Wd) (F S : List Wd) (cur : Option (Wd × Nat)) : Prop where
  nd : F.Nodup
  rch : ∀ r ∈ F, Reach code r
  sub : ∀ r ∈ S, r ∈ F
  at_ : ∀ c i, cur = some (c, i) → c ∈ F ∧ ∀ q ∈ (stepsFrom code c).take i, q.2.2 ∈ F
  fst : ∀ q ∈ firstSteps code, q.2.2 ∈ F
  cls : ∀ r ∈ F, r ∈ S ∨ r = [] ∨ (∃ i, cur = some (r, i)) ∨ ∀ q ∈ stepsFrom code r, q.2.2 ∈ F
section
variable {code : List Wd} {F S : List Wd}
theorem RInv.len {cur : Option (Wd × Nat)} (v : RInv code F S cur) : F.length ≤ (univ code).length := nodup_len F _ v.nd fun r h => (v.rch r h).univ
theorem RInv.done (v : RInv code F [] none) {r : Wd} : r ∈ F ↔ Reach code r := by
  refine ⟨v.rch r, fun h => ?_⟩
  have cl : ∀ r ∈ F, r ≠ [] → ∀ q ∈ stepsFrom code r, q.2.2 ∈ F := fun r h hr => by
    rcases v.cls r h with z | z | ⟨i, z⟩ | z
    · simp at z
    · exact absurd z hr
    · simp at z
    · exact z
  induction h with
  | first h1 h2 h3 h4 =>
    obtain ⟨i, j, h, _⟩ := firstSteps_all h1 h2 h3 h4
    exact v.fst _ h
  | drop _ h1 h2 h3 ih =>
    obtain ⟨k, h⟩ := stepsFrom_drop h2 h3
    exact cl _ ih h1 _ h
  | ext _ h1 h2 h3 h4 ih =>
    obtain ⟨k, h⟩ := stepsFrom_ext h2 h3 h4
    exact cl _ ih h1 _ h
/-- the last of the stack is taken -/
theorem RInv.pop {c : Wd} (v : RInv code F (S ++ [c]) none) : RInv code F S (some (c, 0)) := by
  refine ⟨v.nd, v.rch, fun r h => v.sub r (List.mem_append_left _ h), ?_, v.fst, ?_⟩
  · intro c' i e
    cases e
    exact ⟨v.sub c (by simp), by simp⟩
  · intro r h
    rcases v.cls r h with z | z | ⟨i, z⟩ | z
    · rcases List.mem_append.mp z with z | z
      · exact .inl z
      · exact .inr (.inr (.inl ⟨0, by rw [List.mem_singleton.mp z]⟩))
    · exact .inr (.inl z)
    · simp at z
    · exact .inr (.inr (.inr z))
theorem RInv.empty {i : Nat} (v : RInv code F S (some ([], i))) : RInv code F S none := by
  refine ⟨v.nd, v.rch, v.sub, by simp, v.fst, ?_⟩
  intro r h
  rcases v.cls r h with z | z | ⟨j, z⟩ | z
  · exact .inl z
  · exact .inr (.inl z)
  · simp at z
    exact .inr (.inl (by rw [z.1]))
  · exact .inr (.inr (.inr z))
theorem take_one {α : Type} {l : List α} {i : Nat} {x : α} (h : l[i]? = some x) : l.take (i + 1) = l.take i ++ [x] := by
  rw [List.take_add_one, h]; rfl
theorem step_reach {c : Wd} (hc : Reach code c) (hne : c ≠ []) {q : Nat × Bool × Wd} (hq : q ∈ stepsFrom code c) : Reach code q.2.2 := by
  obtain ⟨h1, h2 | h2⟩ := stepsFrom_mem hq
  · exact .drop hc hne (getD_some h1) h2.2
  · exact .ext hc hne (getD_some h1) h2.2.1 h2.2.2
/-- a step to a rest that is there -/
theorem RInv.old {c : Wd} {i : Nat} {q : Nat × Bool × Wd} (v : RInv code F S (some (c, i))) (hq : (stepsFrom code c)[i]? = some q) (hm : q.2.2 ∈ F) : RInv code F S (some (c, i + 1)) := by
  refine ⟨v.nd, v.rch, v.sub, ?_, v.fst, ?_⟩
  · intro c' j e
    cases e
    refine ⟨(v.at_ c i rfl).1, fun p hp => ?_⟩
    rw [take_one hq] at hp
    rcases List.mem_append.mp hp with hp | hp
    · exact (v.at_ c i rfl).2 p hp
    · rw [List.mem_singleton.mp hp]; exact hm
  · intro r h
    rcases v.cls r h with z | z | ⟨j, z⟩ | z
    · exact .inl z
    · exact .inr (.inl z)
    · simp at z
      exact .inr (.inr (.inl ⟨i + 1, by rw [z.1]⟩))
    · exact .inr (.inr (.inr z))
/-- a step to a new rest -/
theorem RInv.new {c : Wd} {i : Nat} {q : Nat × Bool × Wd} (v : RInv code F S (some (c, i))) (hne : c ≠ []) (hq : (stepsFrom code c)[i]? = some q) (hm : q.2.2 ∉ F) : RInv code (F ++ [q.2.2]) (S ++ [q.2.2]) (some (c, i + 1)) := by
  have hin : q.2.2 ∈ F ++ [q.2.2] := by simp
  have up : ∀ {r}, r ∈ F → r ∈ F ++ [q.2.2] := fun h => List.mem_append_left _ h
  refine ⟨?_, ?_, ?_, ?_, fun p hp => up (v.fst p hp), ?_⟩
  · rw [List.nodup_append]
    refine ⟨v.nd, by simp, fun a ha b hb e => ?_⟩
    rw [List.mem_singleton.mp hb] at e
    exact hm (e ▸ ha)
  · intro r h
    rcases List.mem_append.mp h with h | h
    · exact v.rch r h
    · rw [List.mem_singleton.mp h]
      exact step_reach (v.rch c (v.at_ c i rfl).1) hne (List.mem_of_getElem? hq)
  · intro r h
    rcases List.mem_append.mp h with h | h
    · exact up (v.sub r h)
    · exact List.mem_append_right _ h
  · intro c' j e
    cases e
    refine ⟨up (v.at_ c i rfl).1, fun p hp => ?_⟩
    rw [take_one hq] at hp
    rcases List.mem_append.mp hp with hp | hp
    · exact up ((v.at_ c i rfl).2 p hp)
    · rw [List.mem_singleton.mp hp]; exact hin
  · intro r h
    rcases List.mem_append.mp h with h | h
    · rcases v.cls r h with z | z | ⟨j, z⟩ | z
      · exact .inl (List.mem_append_left _ z)
      · exact .inr (.inl z)
      · simp at z
        exact .inr (.inr (.inl ⟨i + 1, by rw [z.1]⟩))
      · exact .inr (.inr (.inr fun p hp => up (z p hp)))
    · exact .inl (List.mem_append_right _ h)
/-- all steps done -/
theorem RInv.next {c : Wd} {i : Nat} (v : RInv code F S (some (c, i))) (hi : (stepsFrom code c).length ≤ i) : RInv code F S none := by
  refine ⟨v.nd, v.rch, v.sub, by simp, v.fst, ?_⟩
  intro r h
  rcases v.cls r h with z | z | ⟨j, z⟩ | z
  · exact .inl z
  · exact .inr (.inl z)
  · simp at z
    refine .inr (.inr (.inr fun q hq => (v.at_ c i rfl).2 q ?_))
    rw [List.take_of_length_le hi, z.1]
    exact hq
  · exact .inr (.inr (.inr z))
end
end SW
end
/-! ## SWMath3 -/
section
set_option autoImplicit false
namespace SW
/-! ### the law's own count of parses -/
def seg (s : Wd) (a b : Nat) : Wd := (s.drop a).take (b - a)
def sumTo (code : List Wd) (s : Wd) (ways : List Nat) (e : Nat) : Nat → Nat
  | 0 => 0
  | j + 1 => sumTo code s ways e j + (if (code.getD j []).length ≤ e ∧ seg s (e - (code.getD j []).length) e = code.getD j [] then ways.getD (e - (code.getD j []).length) 0 else 0)
def waysTo (code : List Wd) (s : Wd) : Nat → List Nat
  | 0 => [1]
  | n + 1 => waysTo code s n ++ [sumTo code s (waysTo code s n) (n + 1) code.length]
def cnt (code : List Wd) (s : Wd) (k : Nat) : Nat := (waysTo code s k).getD k 0
def parses (code : List Wd) (s : Wd) : Nat := cnt code s s.length
theorem waysTo_len (code : List Wd) (s : Wd) : ∀ n, (waysTo code s n).length = n + 1
  | 0 => rfl
  | n + 1 => by rw [waysTo, List.length_append, waysTo_len code s n]; rfl
theorem waysTo_at (code : List Wd) (s : Wd) {k : Nat} : ∀ {n}, k ≤ n → (waysTo code s n).getD k 0 = cnt code s k := by
  intro n
  induction n with
  | zero => intro h; have : k = 0 := by omega
            subst this; rfl
  | succ n ih =>
    intro h
    by_cases e : k = n + 1
    · subst e; rfl
    · rw [waysTo, List.getD_eq_getElem?_getD, List.getElem?_append_left (by rw [waysTo_len]; omega), ← List.getD_eq_getElem?_getD]
      exact ih (by omega)
theorem waysTo_last (code : List Wd) (s : Wd) (n : Nat) : ∃ A, waysTo code s n = A ++ [cnt code s n] := by
  cases n with
  | zero => exact ⟨[], rfl⟩
  | succ n =>
    refine ⟨waysTo code s n, ?_⟩
    unfold cnt
    rw [waysTo, List.getD_eq_getElem?_getD, List.getElem?_append_right (by rw [waysTo_len]; omega), waysTo_len]
    simp
def sufTerm (code : List Wd) (s : Wd) (k : Nat) (w : Wd) : Nat := if w.length ≤ k ∧ seg s (k - w.length) k = w then cnt code s (k - w.length) else 0
theorem sumTo_eq {code : List Wd} (hne : ∀ w ∈ code, w ≠ []) (s : Wd) (n : Nat) : ∀ j, j ≤ code.length → sumTo code s (waysTo code s n) (n + 1) j = ((code.take j).map (sufTerm code s (n + 1))).sum
  | 0, _ => by simp [sumTo]
  | j + 1, h => by
    have hj : j < code.length := by omega
    have e : code[j]? = some (code.getD j []) := by rw [List.getD_eq_getElem?_getD, List.getElem?_eq_getElem hj]; rfl
    rw [sumTo, sumTo_eq hne s n j (by omega), take_one e, List.map_append, List.sum_append]
    congr 1
    have hw : 0 < (code.getD j []).length := List.length_pos_iff.mpr (hne _ (getD_some hj))
    simp only [List.map_cons, List.map_nil, List.sum_cons, List.sum_nil, Nat.add_zero]
    unfold sufTerm
    split
    · rw [waysTo_at code s (by omega)]
    · rfl
theorem cnt_succ {code : List Wd} (hne : ∀ w ∈ code, w ≠ []) (s : Wd) (n : Nat) : cnt code s (n + 1) = (code.map (sufTerm code s (n + 1))).sum := by
  have e : cnt code s (n + 1) = sumTo code s (waysTo code s n) (n + 1) code.length := by
    unfold cnt
    rw [waysTo, List.getD_eq_getElem?_getD, List.getElem?_append_right (by rw [waysTo_len]; omega), waysTo_len]
    simp
  rw [e, sumTo_eq hne s n _ (Nat.le_refl _), List.take_length]
theorem sum1 {α : Type} (f : α → Nat) : ∀ l : List α, 1 ≤ (l.map f).sum ↔ ∃ w ∈ l, 1 ≤ f w
  | [] => by simp
  | x :: l => by
    rw [List.map_cons, List.sum_cons]
    have ih := sum1 f l
    constructor
    · intro h
      by_cases hx : 1 ≤ f x
      · exact ⟨x, List.mem_cons_self, hx⟩
      · obtain ⟨w, hw, h⟩ := ih.mp (by omega)
        exact ⟨w, List.mem_cons_of_mem _ hw, h⟩
    · rintro ⟨w, hw, h⟩
      rcases List.mem_cons.mp hw with e | hw
      · subst e; omega
      · have := ih.mpr ⟨w, hw, h⟩; omega
theorem sum2 {α : Type} (f : α → Nat) : ∀ l : List α, l.Nodup → (2 ≤ (l.map f).sum ↔ (∃ w ∈ l, 2 ≤ f w) ∨ ∃ w ∈ l, ∃ v ∈ l, w ≠ v ∧ 1 ≤ f w ∧ 1 ≤ f v)
  | [], _ => by simp
  | x :: l, hn => by
    rw [List.map_cons, List.sum_cons]
    have ih := sum2 f l (List.nodup_cons.mp hn).2
    have i1 := sum1 f l
    have hx : x ∉ l := (List.nodup_cons.mp hn).1
    constructor
    · intro h
      by_cases h2 : 2 ≤ f x
      · exact .inl ⟨x, List.mem_cons_self, h2⟩
      · by_cases h1 : 1 ≤ f x
        · obtain ⟨w, hw, h⟩ := i1.mp (by omega)
          exact .inr ⟨x, List.mem_cons_self, w, List.mem_cons_of_mem _ hw, fun e => hx (e ▸ hw), h1, h⟩
        · rcases ih.mp (by omega) with ⟨w, hw, h⟩ | ⟨w, hw, v, hv, h⟩
          · exact .inl ⟨w, List.mem_cons_of_mem _ hw, h⟩
          · exact .inr ⟨w, List.mem_cons_of_mem _ hw, v, List.mem_cons_of_mem _ hv, h⟩
    · rintro (⟨w, hw, h⟩ | ⟨w, hw, v, hv, hne, h1, h2⟩)
      · rcases List.mem_cons.mp hw with e | hw
        · subst e; omega
        · have := ih.mpr (.inl ⟨w, hw, h⟩); omega
      · rcases List.mem_cons.mp hw with e | hw' <;> rcases List.mem_cons.mp hv with e' | hv'
        · exact absurd (e.trans e'.symm) hne
        · have := i1.mpr ⟨v, hv', h2⟩
          rw [e] at h1; omega
        · have := i1.mpr ⟨w, hw', h1⟩
          rw [e'] at h2; omega
        · have := ih.mpr (.inr ⟨w, hw', v, hv', hne, h1, h2⟩); omega
/-- the first k letters end with w -/
def Ends (s : Wd) (k : Nat) (w : Wd) : Prop := w.length ≤ k ∧ s.take k = s.take (k - w.length) ++ w
theorem ends_iff {s : Wd} {k : Nat} (w : Wd) (_hk : k ≤ s.length) : (w.length ≤ k ∧ seg s (k - w.length) k = w) ↔ Ends s k w := by
  unfold Ends seg
  constructor
  · rintro ⟨h1, h2⟩
    refine ⟨h1, ?_⟩
    have e : s.take k = s.take ((k - w.length) + (k - (k - w.length))) := by congr 1; omega
    rw [e, List.take_add, h2]
  · rintro ⟨h1, h2⟩
    refine ⟨h1, ?_⟩
    have e : s.take k = s.take ((k - w.length) + (k - (k - w.length))) := by congr 1; omega
    rw [e, List.take_add] at h2
    exact List.append_cancel_left h2
theorem ends_of {s a w : Wd} {k : Nat} (hk : k ≤ s.length) (h : a ++ w = s.take k) : Ends s k w ∧ a = s.take (k - w.length) := by
  have hl := congrArg List.length h
  rw [List.length_append, List.length_take] at hl
  have ha : a = s.take (k - w.length) := by
    have e := congrArg (List.take a.length) h
    rw [List.take_left, List.take_take] at e
    rw [e]
    congr 1
    omega
  exact ⟨⟨by omega, by rw [← ha]; exact h.symm⟩, ha⟩
section
variable {code : List Wd}
theorem snoc_ne {P : List Wd} {w : Wd} (h : ∀ v ∈ P ++ [w], v ∈ code) : (∀ v ∈ P, v ∈ code) ∧ w ∈ code := ⟨fun v hv => h v (List.mem_append_left _ hv), h w (by simp)⟩
theorem last_of {P : List Wd} {t : Wd} (ht : t ≠ []) (e : P.flatten = t) : ∃ P' w, P = P' ++ [w] := by
  rcases List.eq_nil_or_concat P with z | ⟨P', w, z⟩
  · subst z; exact absurd e.symm ht
  · exact ⟨P', w, by simpa using z⟩
theorem flat_snoc (P : List Wd) (w : Wd) : (P ++ [w]).flatten = P.flatten ++ w := by simp
theorem in_snoc {P : List Wd} {w : Wd} (hP : ∀ v ∈ P, v ∈ code) (hw : w ∈ code) : ∀ v ∈ P ++ [w], v ∈ code := fun v hv => by
  rcases List.mem_append.mp hv with h | h
  · exact hP v h
  · rw [List.mem_singleton.mp h]; exact hw
theorem take_ne {s : Wd} {k : Nat} (hk : k + 1 ≤ s.length) : s.take (k + 1) ≠ [] := fun z => by
  have := congrArg List.length z
  rw [List.length_take, List.length_nil] at this
  omega
theorem cnt_spec (hne : ∀ w ∈ code, w ≠ []) (hn : code.Nodup) (s : Wd) : ∀ k, k ≤ s.length → ((1 ≤ cnt code s k ↔ Par code (s.take k)) ∧ (2 ≤ cnt code s k ↔ Amb code (s.take k))) := by
  intro k
  induction k using Nat.strongRecOn with
  | ind k ih =>
    intro hk
    cases k with
    | zero =>
      have e : cnt code s 0 = 1 := rfl
      rw [e, List.take_zero]
      refine ⟨⟨fun _ => ⟨[], by simp, rfl⟩, fun _ => Nat.le_refl _⟩, ⟨fun h => absurd h (by decide), fun h => ?_⟩⟩
      obtain ⟨P, Q, hpq, hP, hQ, e1, e2⟩ := h
      have nil : ∀ P : List Wd, (∀ w ∈ P, w ∈ code) → P.flatten = [] → P = [] := fun P hP e => by
        cases P with
        | nil => rfl
        | cons p P =>
          rw [List.flatten_cons] at e
          exact absurd (List.append_eq_nil_iff.mp e).1 (hne p (hP p List.mem_cons_self))
      exact absurd ((nil P hP e1).trans (nil Q hQ e2).symm) hpq
    | succ k =>
      have low : ∀ w ∈ code, k + 1 - w.length < k + 1 := fun w hw => by
        have := List.length_pos_iff.mpr (hne w hw)
        omega
      have i1 : ∀ w ∈ code, (1 ≤ cnt code s (k + 1 - w.length) ↔ Par code (s.take (k + 1 - w.length))) := fun w hw => (ih _ (low w hw) (by omega)).1
      have i2 : ∀ w ∈ code, (2 ≤ cnt code s (k + 1 - w.length) ↔ Amb code (s.take (k + 1 - w.length))) := fun w hw => (ih _ (low w hw) (by omega)).2
      have t1 : ∀ w ∈ code, (1 ≤ sufTerm code s (k + 1) w ↔ Ends s (k + 1) w ∧ Par code (s.take (k + 1 - w.length))) := fun w hw => by
        unfold sufTerm
        by_cases c : w.length ≤ k + 1 ∧ seg s (k + 1 - w.length) (k + 1) = w
        · rw [if_pos c]
          exact ⟨fun h => ⟨(ends_iff w hk).mp c, (i1 w hw).mp h⟩, fun h => (i1 w hw).mpr h.2⟩
        · rw [if_neg c]
          exact ⟨fun h => absurd h (by omega), fun h => absurd ((ends_iff w hk).mpr h.1) c⟩
      have t2 : ∀ w ∈ code, (2 ≤ sufTerm code s (k + 1) w ↔ Ends s (k + 1) w ∧ Amb code (s.take (k + 1 - w.length))) := fun w hw => by
        unfold sufTerm
        by_cases c : w.length ≤ k + 1 ∧ seg s (k + 1 - w.length) (k + 1) = w
        · rw [if_pos c]
          exact ⟨fun h => ⟨(ends_iff w hk).mp c, (i2 w hw).mp h⟩, fun h => (i2 w hw).mpr h.2⟩
        · rw [if_neg c]
          exact ⟨fun h => absurd h (by omega), fun h => absurd ((ends_iff w hk).mpr h.1) c⟩
      rw [cnt_succ hne]
      constructor
      · rw [sum1]
        constructor
        · rintro ⟨w, hw, h⟩
          obtain ⟨he, P, hP, e⟩ := (t1 w hw).mp h
          exact ⟨P ++ [w], in_snoc hP hw, by rw [flat_snoc, e]; exact he.2.symm⟩
        · rintro ⟨P, hP, e⟩
          obtain ⟨P', w, rfl⟩ := last_of (take_ne hk) e
          rw [flat_snoc] at e
          obtain ⟨he, ea⟩ := ends_of hk e
          exact ⟨w, (snoc_ne hP).2, (t1 w (snoc_ne hP).2).mpr ⟨he, P', (snoc_ne hP).1, ea⟩⟩
      · rw [sum2 _ _ hn]
        constructor
        · rintro (⟨w, hw, h⟩ | ⟨w, hw, v, hv, hwv, h1, h2⟩)
          · obtain ⟨he, P, Q, hpq, hP, hQ, e1, e2⟩ := (t2 w hw).mp h
            exact ⟨P ++ [w], Q ++ [w], fun z => hpq (List.append_cancel_right z), in_snoc hP hw, in_snoc hQ hw, by rw [flat_snoc, e1]; exact he.2.symm, by rw [flat_snoc, e2]; exact he.2.symm⟩
          · obtain ⟨he, P, hP, e1⟩ := (t1 w hw).mp h1
            obtain ⟨he', Q, hQ, e2⟩ := (t1 v hv).mp h2
            refine ⟨P ++ [w], Q ++ [v], fun z => hwv ?_, in_snoc hP hw, in_snoc hQ hv, by rw [flat_snoc, e1]; exact he.2.symm, by rw [flat_snoc, e2]; exact he'.2.symm⟩
            have := congrArg List.getLast? z
            simpa using this
        · rintro ⟨P, Q, hpq, hP, hQ, e1, e2⟩
          obtain ⟨P', w, rfl⟩ := last_of (take_ne hk) e1
          obtain ⟨Q', v, rfl⟩ := last_of (take_ne hk) e2
          rw [flat_snoc] at e1 e2
          obtain ⟨he, ea⟩ := ends_of hk e1
          obtain ⟨he', ea'⟩ := ends_of hk e2
          have hw := (snoc_ne hP).2
          have hv := (snoc_ne hQ).2
          by_cases hwv : w = v
          · subst hwv
            exact .inl ⟨w, hw, (t2 w hw).mpr ⟨he, P', Q', fun z => hpq (by rw [z]), (snoc_ne hP).1, (snoc_ne hQ).1, ea, ea'⟩⟩
          · exact .inr ⟨w, hw, v, hv, hwv, (t1 w hw).mpr ⟨he, P', (snoc_ne hP).1, ea⟩, (t1 v hv).mpr ⟨he', Q', (snoc_ne hQ).1, ea'⟩⟩
theorem parses_two (hne : ∀ w ∈ code, w ≠ []) (hn : code.Nodup) (s : Wd) : 2 ≤ parses code s ↔ Amb code s := by
  have := (cnt_spec hne hn s s.length (Nat.le_refl _)).2
  rw [List.take_length] at this
  exact this
end

/-! ### the law's strings -/
def lev (x y : Nat) : Nat → List Wd
  | 0 => [[]]
  | k + 1 => (lev x y k).flatMap fun s => [s ++ [x], s ++ [y]]
def strsTo (x y : Nat) : Nat → List Wd
  | 0 => [[]]
  | k + 1 => strsTo x y k ++ lev x y (k + 1)
theorem mem_lev {x y : Nat} : ∀ {k : Nat} {t : Wd}, t ∈ lev x y k ↔ t.length = k ∧ ∀ c ∈ t, c = x ∨ c = y
  | 0, t => by
    constructor
    · intro h
      have e : t = [] := by simpa [lev] using h
      subst e
      simp
    · rintro ⟨h, _⟩
      have e : t = [] := List.eq_nil_of_length_eq_zero h
      subst e
      simp [lev]
  | k + 1, t => by
    rw [lev, List.mem_flatMap]
    constructor
    · rintro ⟨s, hs, h⟩
      obtain ⟨h1, h2⟩ := mem_lev.mp hs
      have h' : t = s ++ [x] ∨ t = s ++ [y] := by simpa using h
      rcases h' with e | e
      · subst e
        refine ⟨by simp [h1], fun c hc => ?_⟩
        rcases List.mem_append.mp hc with hc | hc
        · exact h2 c hc
        · exact .inl (List.mem_singleton.mp hc)
      · subst e
        refine ⟨by simp [h1], fun c hc => ?_⟩
        rcases List.mem_append.mp hc with hc | hc
        · exact h2 c hc
        · exact .inr (List.mem_singleton.mp hc)
    · rintro ⟨h1, h2⟩
      rcases List.eq_nil_or_concat t with z | ⟨s, c, z⟩
      · subst z; simp at h1
      · have z' : t = s ++ [c] := by simpa using z
        subst z'
        refine ⟨s, mem_lev.mpr ⟨by simpa using h1, fun d hd => h2 d (List.mem_append_left _ hd)⟩, ?_⟩
        rcases h2 c (by simp) with e | e
        · subst e; simp
        · subst e; simp
theorem mem_strs {x y : Nat} {t : Wd} : ∀ {n : Nat}, t ∈ strsTo x y n ↔ t.length ≤ n ∧ ∀ c ∈ t, c = x ∨ c = y
  | 0 => by
    have := mem_lev (x := x) (y := y) (k := 0) (t := t)
    rw [show strsTo x y 0 = lev x y 0 from rfl, this]
    constructor
    · rintro ⟨a, b⟩; exact ⟨by omega, b⟩
    · rintro ⟨a, b⟩; exact ⟨by omega, b⟩
  | n + 1 => by
    rw [strsTo, List.mem_append, mem_strs, mem_lev]
    constructor
    · rintro (⟨a, b⟩ | ⟨a, b⟩)
      · exact ⟨by omega, b⟩
      · exact ⟨by omega, b⟩
    · rintro ⟨a, b⟩
      by_cases h : t.length = n + 1
      · exact .inr ⟨h, b⟩
      · exact .inl ⟨by omega, b⟩
theorem lt_snoc : ∀ {a b : Wd} (c d : Nat), a.length = b.length → a < b → a ++ [c] < b ++ [d]
  | [], [], c, d, _, h => absurd h (List.lt_irrefl _)
  | [], _ :: _, _, _, e, _ => by simp at e
  | _ :: _, [], _, _, e, _ => by simp at e
  | x :: a, y :: b, c, d, e, h => by
    rw [List.cons_lt_cons_iff] at h
    rw [List.cons_append, List.cons_append, List.cons_lt_cons_iff]
    rcases h with h | ⟨h1, h2⟩
    · exact .inl h
    · exact .inr ⟨h1, lt_snoc c d (by simpa using e) h2⟩
theorem lt_last : ∀ (a : Wd) {c d : Nat}, c < d → a ++ [c] < a ++ [d]
  | [], c, d, h => by
    rw [List.nil_append, List.nil_append, List.cons_lt_cons_iff]
    exact .inl h
  | x :: a, c, d, h => by
    rw [List.cons_append, List.cons_append, List.cons_lt_cons_iff]
    exact .inr ⟨rfl, lt_last a h⟩
theorem lev_lt {x y : Nat} (h : x < y) : ∀ k, (lev x y k).Pairwise (· < ·)
  | 0 => List.pairwise_singleton _ _
  | k + 1 => by
    rw [lev, List.pairwise_flatMap]
    refine ⟨fun a _ => ?_, ?_⟩
    · rw [List.pairwise_cons]
      refine ⟨fun b hb => ?_, List.pairwise_singleton _ _⟩
      rw [List.mem_singleton.mp hb]
      exact lt_last a h
    · refine List.Pairwise.imp_of_mem ?_ (lev_lt h k)
      intro a b ha hb hab u hu v hv
      have e : a.length = b.length := (mem_lev.mp ha).1.trans (mem_lev.mp hb).1.symm
      have hu' : u = a ++ [x] ∨ u = a ++ [y] := by simpa using hu
      have hv' : v = b ++ [x] ∨ v = b ++ [y] := by simpa using hv
      rcases hu' with rfl | rfl <;> rcases hv' with rfl | rfl <;> exact lt_snoc _ _ e hab
/-- strictly before, in order by length -/
def Sb (a b : Wd) : Prop := a.length < b.length ∨ (a.length = b.length ∧ a < b)
theorem Sb.not {a b : Wd} (h : Sb a b) : ¬ Sl b a := by
  rintro (k | ⟨k1, k2⟩) <;> rcases h with h | ⟨h1, h2⟩
  · omega
  · omega
  · omega
  · exact k2 h2
theorem strs_lt {x y : Nat} (h : x < y) : ∀ n, (strsTo x y n).Pairwise Sb
  | 0 => List.pairwise_singleton _ _
  | n + 1 => by
    rw [strsTo, List.pairwise_append]
    refine ⟨strs_lt h n, ?_, ?_⟩
    · refine List.Pairwise.imp_of_mem ?_ (lev_lt h (n + 1))
      intro a b ha hb hab
      exact .inr ⟨(mem_lev.mp ha).1.trans (mem_lev.mp hb).1.symm, hab⟩
    · intro a ha b hb
      have h1 := (mem_strs.mp ha).1
      have h2 := (mem_lev.mp hb).1
      exact .inl (by omega)
theorem lev_len (x y : Nat) : ∀ k, (lev x y k).length = 2 ^ k
  | 0 => rfl
  | k + 1 => by
    have h : ∀ l : List Wd, (l.flatMap fun s => [s ++ [x], s ++ [y]]).length = 2 * l.length := by
      intro l
      induction l with
      | nil => rfl
      | cons a l ih => rw [List.flatMap_cons, List.length_append, ih, List.length_cons]; simp; omega
    rw [lev, h, lev_len x y k, Nat.pow_succ]; omega

/-! ### what the search has told -/
def Told (code : List Wd) : Option Wd → Prop
  | none => ∀ t, ¬ Complete code t
  | some t => Complete code t ∧ ∀ u, Complete code u → Sl t u
section
variable {code : List Wd} {x y : Nat}
theorem amb_letters {t : Wd} (hl : ∀ w ∈ code, ∀ c ∈ w, c = x ∨ c = y) (h : Amb code t) : ∀ c ∈ t, c = x ∨ c = y := by
  obtain ⟨P, _, _, hP, _, e, _⟩ := h
  intro c hc
  rw [← e] at hc
  obtain ⟨w, hw, hc⟩ := List.mem_flatten.mp hc
  exact hl w (hP w hw) c hc
theorem told_first (hne : ∀ w ∈ code, w ≠ []) (hl : ∀ w ∈ code, ∀ c ∈ w, c = x ∨ c = y) (hxy : x < y) {told : Option Wd} (ht : Told code told) {A B : List Wd} {s : Wd} {n : Nat} (e : strsTo x y n = A ++ s :: B) (hA : ∀ a ∈ A, ¬ Amb code a) (hs : Amb code s) : told = some s := by
  obtain ⟨u, hu, lu⟩ := amb_complete hne hs
  cases told with
  | none => exact absurd hu (ht u)
  | some t =>
    obtain ⟨h1, h2⟩ := ht
    have hs1 : Sl t s := by
      refine (h2 u hu).trans ?_
      rcases lu with l | l
      · exact .inl l
      · rw [l]; exact Sl.refl s
    have hin : s ∈ strsTo x y n := by rw [e]; simp
    have ht1 : t ∈ strsTo x y n := mem_strs.mpr ⟨Nat.le_trans hs1.len (mem_strs.mp hin).1, amb_letters hl h1.amb⟩
    rw [e] at ht1
    have pw := strs_lt hxy n
    rw [e, List.pairwise_append] at pw
    rcases List.mem_append.mp ht1 with h | h
    · exact absurd h1.amb (hA t h)
    · rcases List.mem_cons.mp h with h | h
      · rw [h]
      · exact absurd hs1 ((List.pairwise_cons.mp pw.2.1).1 t h).not
theorem told_last (hl : ∀ w ∈ code, ∀ c ∈ w, c = x ∨ c = y) {t : Wd} (ht : Told code (some t)) {n : Nat} (hA : ∀ a ∈ strsTo x y n, ¬ Amb code a) : n < t.length ∧ Amb code t := by
  refine ⟨?_, ht.1.amb⟩
  by_cases h : t.length ≤ n
  · exact absurd ht.1.amb (hA t (mem_strs.mpr ⟨h, amb_letters hl ht.1.amb⟩))
  · omega
theorem told_none_iff {told : Option Wd} (ht : Told code told) : told = none ↔ ¬ Reach code [] := by
  rw [reach_nil_iff]
  cases told with
  | none => exact ⟨fun _ ⟨t, h⟩ => ht t h, fun _ => rfl⟩
  | some t => exact ⟨fun h => (by cases h), fun h => absurd ⟨t, ht.1⟩ h⟩
end
end SW
end
/-! ## SWEnum -/
section
/-! enumerate over a tuple that is tracked -/
namespace SWR
open PySem L2 PyProof.Rows
/-- the tuple's iterator at its start; the enumerate object over an iterator -/
abbrev tupIt (t : Addr) : Obj := { cls := .type "tuple_iterator", data := .fields #[.ref t, .int 0 0] }
abbrev enumOn (it : Addr) : Obj := { cls := .type "enumerate", data := .fields #[.none, .bool false, .ref it, rawInt 0, .none, .none] }

set_option maxHeartbeats 4000000 in
/-- enumerate(t) makes the two -/
theorem new_enum_tup (t : Addr) (items : Array Value) :
    Meets (Builtin.«enumerate.__new__» ⟨[.type "enumerate", .ref t], []⟩) fun _ out st => st.heap.IsTuple t items ∧
      out (.ok (.ret (.ref (st.heap.push (tupIt t)).objs.size))) { st with heap := (st.heap.push (tupIt t)).push (enumOn st.heap.objs.size) } := by
  refine Meets.of_wp fun P W B out st both => ?_
  obtain ⟨tup, fin⟩ := both
  rcases st with ⟨heap, gens, drawn, toks, os⟩
  have known := sub_enumerate
  have iter : ∀ {C : Around} {bad q : Value → Shared → Prop}, q (.ref heap.objs.size) ⟨heap.push (tupIt t), gens, drawn, toks, os⟩ → wpAny (model P W) C (pyIter (.ref t)) q bad ⟨heap, gens, drawn, toks, os⟩ := fun x => wpAny_pyIter_tuple tup x
  wp_walk using iter
  refine wpAny_stack_any fun frames => ?_
  refine wpAny_pure ?_
  split <;> first
    | (wp_walk using iter; exact ⟨_, rfl, fin⟩)
    | (rename_i cls _ _ _ _ _
       generalize (cls == Value.type "enumerate") = same
       cases same <;> (wp_walk using iter; exact ⟨_, rfl, fin⟩))
/-- the call: the iterator stands at the heap's end, the enumerate object behind it -/
theorem call_enum_tup {P : Program} {W : World} {B : Around} {bad q : Value → Shared → Prop} {st : Shared} {t : Addr} {items : Array Value} (tup : st.heap.IsTuple t items)
    (fin : ∀ g : Heap, g.get? st.heap.objs.size = some (tupIt t) → g.get? (st.heap.objs.size + 1) = some (enumOn st.heap.objs.size) → (∀ b o, st.heap.get? b = some o → g.get? b = some o) →
      q (.ref (st.heap.objs.size + 1)) { st with heap := g }) : wpAny (model P W) B (call (.type "enumerate") [.ref t]) q bad st := by
  have one : (st.heap.push (tupIt t)).objs.size = st.heap.objs.size + 1 := Heap.size_push ..
  have two : ((st.heap.push (tupIt t)).push (enumOn st.heap.objs.size)).get? (st.heap.objs.size + 1) = some (enumOn st.heap.objs.size) := one ▸ Heap.get?_push_size (st.heap.push (tupIt t)) rfl
  have built := new_enum_tup t items
  refine callType_new F.called_enumerate (by decide) (F.typeCall_enumerate_1 _) (F.newCall_enumerate_1 _) (fun made => F.args_object_init_2 made _) F.entry_enumerate_new built ⟨tup, ?_⟩
  rw [one]
  exact ⟨⟨_, two, rfl⟩, fin _ (Heap.get?_push_of_some _ (Heap.get?_push_size _ rfl)) two fun b o old => Heap.get?_push_of_some _ (Heap.get?_push_of_some _ old)⟩
end SWR
end
/-! ## SWRules -/
section
set_option maxHeartbeats 4000000
namespace SWR
open PySem L2 PyProof.Rows
/-- an enumerate object at e over the tuple at a, its iterator at it, i items gone -/
structure EnumAt (h : Heap) (a e it : Addr) (i : Nat) : Prop where
  en : ∃ old, IsEnum h e it ((i : Nat) : Int) old
  ti : h.IsTupleIter it a i
  ne : e ≠ it
theorem EnumAt.keeps {h g : Heap} {a e it : Addr} {i : Nat} (x : EnumAt h a e it i) (kp : ∀ b ∈ [e, it], ∀ o, h.get? b = some o → g.get? b = some o) : EnumAt g a e it i :=
  ⟨x.en.imp fun old y => kp e (.head _) _ y, x.ti.at fun o y => kp it (.tail _ (.head _)) o y, x.ne⟩
theorem EnumAt.live {h : Heap} {a e it : Addr} {i : Nat} (x : EnumAt h a e it i) : ∀ b ∈ [e, it], ∃ o, h.get? b = some o ∧ ∀ v, o.data ≠ .cell v := by
  intro b mem
  rcases List.mem_cons.mp mem with rfl | mem
  · exact x.en.elim fun old y => ⟨_, y, fun v z => by cases z⟩
  · obtain rfl := List.mem_singleton.mp mem
    exact x.ti.elim fun o y => ⟨o, y.1, fun v z => by rw [y.2.2] at z; cases z⟩
/-- the walk of enumerate(t): each item of the tuple at a in a new pair with its number -/
def IteT (a : Addr) : It where
  go i H := ∃ xs v, H a = some (.tup xs) ∧ xs[i]? = some v
  yld i H p H' := ∃ T v, p = .ref T ∧ H T = none ∧ H' = upd H T (.tup [.int (i : Nat), v]) ∧ ∀ xs, H a = some (.tup xs) → xs[i]? = some v
  stop i H := ∃ xs, H a = some (.tup xs) ∧ xs.length ≤ i
section
variable {X : Cx} {pins : List (Addr × Obj)} {st : Shared} {σ : L2.St} {H : Hp} {a e it : Addr} {i : Nat} {bad : Value → Shared → Prop}
/-- neither of the two is the tuple, which is tracked -/
theorem off_tup {xs : List V} {b : Addr} (free : ∀ b ∈ [e, it], FpOk X pins H b) (at_ : H a = some (.tup xs)) (mem : b ∈ [e, it]) : b ≠ a := by
  rintro rfl
  have z := (free b mem).1
  rw [at_] at z
  cases z
theorem enum_item {elts : List Expr} {k : Nat} {pos : Pos} (I : L2.Inv X pins σ H st) (calm : X.calm = true) (free : ∀ b ∈ [e, it], FpOk X pins H b) (x : EnumAt st.heap a e it i) (more : (IteT a).go i H) :
    wpAny (model X.prog X.w) X.A (pyNext (.ref e)) (fun r s1 => ∃ u, r = some u ∧ wpAny (model X.prog X.w) X.A (letOwnedTupleGo (.Tuple elts k pos) (.ref e) u)
      (fun _ s2 => ∃ p H', L2.Inv X pins σ H' s2 ∧ RelV p u ∧ (IteT a).yld i H p H' ∧ EnumAt s2.heap a e it (i + 1) ∧ ∀ b ∈ [e, it], H' b = none) bad s1) bad st := by
  obtain ⟨xs, v, at_, vi⟩ := more
  obtain ⟨vals, rel, tup, _⟩ := I.tuple (SqT.of at_)
  obtain ⟨u, ui, rv⟩ := rel.get vi
  have e1 : e ∈ [e, it] := .head _
  have e2 : it ∈ [e, it] := .tail _ (.head _)
  obtain ⟨old, en⟩ := x.en
  have below : ∀ b ∈ [e, it], b < st.heap.objs.size := fun b mem => (x.live b mem).elim fun o y => Heap.lt_size y.1
  have draws := Draws.tuple (prog := X.prog) (w := X.w) (A := X.A.in1) (I.ok.hd calm) it a (off_tup free at_ e2).symm vals.toArray
  have inside : i < vals.toArray.size := by
    rw [List.size_toArray]
    exact (List.getElem?_eq_some_iff.mp ui).1
  have apart : e ∉ [it, a] := fun mem => by
    rcases List.mem_cons.mp mem with z | z
    · exact x.ne z
    · exact off_tup free at_ e1 (List.mem_singleton.mp z)
  refine wpAny_pyNext_enum_itemD draws en ⟨x.ti, tup⟩ inside x.ne apart fun u' g tk ud out st' pair _ kept => ⟨_, rfl, ?_⟩
  have same : u' = u := by
    have z : vals.toArray[i]? = some u' := ud
    rw [List.getElem?_toArray, ui] at z
    exact (Option.some.inj z).symm
  subst same
  refine wpAny_letOwnedTupleGo_enum (s := { st with heap := g, toks := tk + 1 }) out fun g2 en2 but => ?_
  have pair2 := (but.2 _ (Nat.ne_of_gt (below e e1))).trans pair
  have fresh : H st.heap.objs.size = none := I.hok.fresh (Nat.le_refl _)
  have I2 : L2.Inv X pins σ (upd H st.heap.objs.size (.tup [.int (i : Nat), v])) { st with heap := g2, toks := tk + 1 } := by
    refine I.turnedNew (ch := [e, it]) (fun b o off stood => ?_) free (Nat.le_refl _) ⟨by show 2 ≤ sizeLine; decide, _, .cons ⟨_, rfl⟩ (.cons rv .nil), _, pair2, rfl, _, rfl⟩
    have o1 : b ≠ e := fun z => off (z ▸ e1)
    have o2 : b ≠ it := fun z => off (z ▸ e2)
    exact (but.2 b o1).trans (kept b o o1 o2 stood)
  refine ⟨.ref st.heap.objs.size, _, I2, rfl, ⟨_, v, rfl, fresh, rfl, fun ys z => ?_⟩, ⟨⟨u', ?_⟩, st'.1.at fun o y => (but.2 it x.ne.symm).trans y, x.ne⟩, fun b mem => ?_⟩
  · rw [at_] at z
    cases z
    exact vi
  · rw [Int.natCast_succ]
    exact en2
  · rw [upd_ne (Nat.ne_of_lt (below b mem))]
    exact (free b mem).1
theorem enum_stop (I : L2.Inv X pins σ H st) (calm : X.calm = true) (free : ∀ b ∈ [e, it], FpOk X pins H b) (x : EnumAt st.heap a e it i) (over : (IteT a).stop i H) :
    wpAny (model X.prog X.w) X.A (pyNext (.ref e)) (fun r s1 => r = none ∧ L2.Inv X pins σ H s1) bad st := by
  obtain ⟨xs, at_, long⟩ := over
  obtain ⟨vals, rel, tup, _⟩ := I.tuple (SqT.of at_)
  obtain ⟨old, en⟩ := x.en
  have none_ : vals.toArray[i]? = none := by
    rw [List.getElem?_toArray]
    exact List.getElem?_eq_none (rel.length ▸ long)
  have kind : st.TypeIs (.ref e) "enumerate" := ⟨_, en, rfl⟩
  obtain ⟨f0, f1, _, f3, f4, f5⟩ := free it (.tail _ (.head _))
  unfold pyNext
  have inner : wpAny (model X.prog X.w) X.A.in1 (Builtin.«enumerate.__next__» ⟨[.ref e], []⟩) (fun _ _ => False)
      (fun x s1 => ∃ b g, x = .ref b ∧ s1 = { st with heap := g } ∧ Heap.ExtBut it st.heap g ∧ ∃ o, g.get? b = some o ∧ o.cls = .type "StopIteration") st := by
    show wpAny _ _ (field (.ref e) 2 >>= fun _ => _) _ _ st
    exact wpAny_bind (wpAny_field en rfl (x := .ref it) rfl (wpAny_bind (wpAny_nextOf_tuple_end (I.ok.hd calm) x.ti tup none_ fun g b ext stopped => ⟨b, g, rfl, rfl, ext, stopped⟩)))
  refine wpAny_bind (wpAny_attempt (wpAny_callSpecial?_slot (name := Str.ofString "__next__") kind F.slot_enumerate_next (wpAny_call_entry F.slot_enumerate_next kind F.entry_enumerate_next
    (wpAny_mono inner (fun _ _ z => z.elim) fun x s1 y => ?_) (F.args_enumerate_next_1 _))))
  obtain ⟨b, g, rfl, rfl, ext, o, ob, oc⟩ := y
  exact wpAny_bind (wpAny_isInstance (T := "StopIteration") (b := true) ⟨o, ob, oc⟩ isSubtype_stop (wpAny_pure ⟨rfl, I.turned (t' := st.toks) (fun c oc ne z => ext c oc ne z) f0 f1 f3 f4 f5⟩))
end
theorem turn_enumT {P : Program} {W : World} {K : PySem.W.Frag} {elts : List Expr} {k : Nat} {pos : Pos} (a e it : Addr) : Turn P W K (.Tuple elts k pos) (IteT a) [e, it] e fun i h => EnumAt h a e it i where
  mem := .head _
  obj := fun _ _ x => x.live
  keep := fun _ _ _ x kp => x.keeps kp
  item := fun X p1 p2 p3 calm i pins st σ H bad I free x more => by subst p1 p2 p3; exact enum_item I calm free x more
  done := fun X p1 p2 p3 calm i pins st σ H bad I free x over => by subst p1 p2 p3; exact enum_stop I calm free x over
  self := fun _ _ _ _ _ x z => x.en.elim fun _ y => wpAny_pyIter_enum y z
def iEnumT (ta : TA) : TI := fun σ H R => ta σ H fun vs H1 => ∃ a xs, vs = [.ref a] ∧ H1 a = some (.tup xs) ∧ R (IteT a) H1
/-- for .., .. in enumerate(t) -/
theorem pi_enumT {X : Cx} {arg : Expr} {ta : TA} {p pos tpos : Pos} {elts : List Expr} {k : Nat} (gl : Gl X "enumerate") (own : X.mg "enumerate" = none) (ha : PA X [arg] ta) (one : starEach [arg] X.env = [(false, eval arg X.env)] := by rfl) :
    PI X (.Tuple elts k tpos) (.Call (.Name "enumerate" p) [arg] [] pos) (iEnumT ta) where
  run pins st σ H R I want := by
    refine Call_ (ld_blt I gl own boot_enumerate (PyProof.Rows.callWith_type1 (thn (ha.run pos pins st σ H _ I want) fun us s1 got => ?_) one rfl))
    obtain ⟨vs, H1, I1, rel, a, xs, rfl, at_, q⟩ := got
    obtain ⟨u, rfl, ru⟩ := vals1 rel
    obtain rfl : u = Value.ref a := ru
    obtain ⟨vals, _, tup, _⟩ := I1.tuple (SqT.of at_)
    refine call_enum_tup (items := vals.toArray) tup fun g hit hen kept => wpAny_pyIter_enum (i := 0) (old := .none) hen ?_
    refine ⟨_, [s1.heap.objs.size + 1, s1.heap.objs.size], _, _, H1, rfl, I1.kept (t' := s1.toks) kept, turn_enumT a _ _, ⟨⟨.none, hen⟩, ⟨_, hit, rfl, rfl⟩, Nat.succ_ne_self _⟩, fun b mem => ?_, q⟩
    have high : s1.heap.objs.size ≤ b := by
      rcases List.mem_cons.mp mem with rfl | mem
      · exact Nat.le_succ _
      · exact Nat.le_of_eq (List.mem_singleton.mp mem).symm
    exact I1.fpOk high (I1.hok.fresh high)
theorem walk_enumT {a : Addr} {xs : List V} : Walk (IteT a) xs.length (fun H => H a = some (.tup xs)) (YPair (fun i => some (.int (i : Nat))) (fun i => xs[i]?)) where
  goes i H lt at_ := ⟨xs, xs[i], at_, List.getElem?_eq_getElem lt⟩
  stops H at_ := ⟨xs, at_, Nat.le_refl _⟩
  yields i H p H' lt at_ := fun ⟨T, v, e1, e2, e3, e4⟩ => ⟨T, _, v, e1, e2, e3, rfl, e4 xs at_⟩

/-! ### sorted of data -/
/-- sorted(xs), the items told as data: the one sorted list -/
def rSortedDt (K : PySem.W.Frag) : List V → Hp → VK → Prop := fun vs H Q => ∃ (β : Type) (a : Addr) (bs : List β) (val : β → V) (enc : β → PyData), vs = [V.ref a] ∧ SqL K H a (bs.map val) ∧ (∀ b ∈ bs, Dp K H (val b) (enc b)) ∧
  PySem.W.AllAlike (bs.map enc) ∧ PySem.W.Sortable (bs.map enc) ∧ (∀ b ∈ bs, (enc b).depth ≤ 8) ∧ ∀ p, H p = none → Q (.ref p) (upd H p (.lst ((bs.mergeSort (PySem.W.dataLe false enc)).map val)))
theorem each_of_vals {β : Type} {val : β → V} : ∀ {bs : List β} {us : List Value}, Vals (bs.map val) us → PySem.W.EachIs (fun v b => RelV (val b) v) us bs
  | [], _, r => by
    have r' : Vals [] _ := r
    cases r'
    exact .nil
  | b :: bs, _, r => by
    have r' : Vals (val b :: bs.map val) _ := r
    cases r' with
    | cons h1 h2 => exact .cons h1 (each_of_vals h2)
theorem vals_of_each {β : Type} {val : β → V} : ∀ {us : List Value} {bs : List β}, PySem.W.EachIs (fun v b => RelV (val b) v) us bs → Vals (bs.map val) us
  | _, _, .nil => .nil
  | _, _, .cons h1 t => .cons h1 (vals_of_each t)
theorem cr_sortedDt {X : Cx} (room : X.A.units + 64 < cLine) : CallR X (.builtin "sorted") (rSortedDt X.K) := by
  rintro pins st σ H _ us Q I rel ⟨β, a, bs, val, enc, rfl, sq, data, al, so, deep, q⟩
  obtain ⟨vals, rv, pl, len⟩ := I.list sq
  rw [List.length_map] at len
  rw [Vals.ref1 rel]
  have each := each_of_vals rv
  have reads : PySem.W.EachIs (fun v b => ∃ as, Reads st.heap v (enc b) as) vals bs := (PySem.W.each_mem each).mono fun v b x => (data b x.2).reads I _ _ _ x.1
  refine PySem.W.sorted_data (R := fun v b => RelV (val b) v) pl.isList each reads al so len (fun b mem => by have := deep b mem; omega) fun out _ sorted => ?_
  obtain ⟨ep, stands⟩ := PyProof.Rows.sortedAll_at st.heap vals (List.toArray out)
  have made : L2.Inv X pins σ (upd H (st.heap.objs.size + 1) (.lst ((bs.mergeSort (PySem.W.dataLe false enc)).map val))) { st with heap := PyProof.Rows.sortedAll st.heap vals (List.toArray out) } :=
    I.laid (t' := st.toks) (fun _ _ => PyProof.Rows.sortedAll_old) (Nat.le_succ _) ⟨by rw [List.length_map, List.length_mergeSort]; exact len, out, ep, vals_of_each sorted, stands⟩
  exact ⟨.ref _, _, made, rfl, q _ (I.hok.fresh (Nat.le_succ _))⟩
end SWR
end
/-! ## SWRules2 -/
section
set_option maxHeartbeats 4000000
namespace SWR
open PySem L2 PyProof.Rows

/-! ### sorted of a text -/
def signs (z : Str) : List Str := z.cps.toList.map fun c => (⟨#[c]⟩ : Str)
theorem signs_len (z : Str) : (signs z).length = z.cps.size := by
  unfold signs
  rw [List.length_map, Array.length_toList]
/-- what a text yields, as its signs -/
theorem signs_are {z : Str} {acc : Array Value} (items : ItemsOf (SignAt z) acc z.cps.size) : StrsAre acc.toList (signs z) := by
  refine strs_at (by rw [signs_len, Array.length_toList, items.1]) fun j v at_ => ?_
  obtain ⟨c, t, cj, ev⟩ := items.2 j v (Array.getElem?_toList ▸ at_)
  exact ⟨_, t, by unfold signs; rw [List.getElem?_map, Array.getElem?_toList, cj]; rfl, ev⟩
section
variable {P : Program} {W : World} {A : Around} {bad : Value → Shared → Prop} {st : Shared}
/-- a new list of fewer than 64 texts is made and sorted -/
theorem list_then_sort {vs : List Value} {ss : List Str} {q : Value → Shared → Prop} (are : StrsAre vs ss) (few : ss.length < 64)
    (fin : ∀ (g : Heap) (out : List Value) (ys : List Str) (ep : Nat), StrsAre out ys → ys.Perm ss → sortedS ys = true → g.get? st.heap.objs.size = some (seqObj "list" out.toArray ep) →
      (∀ b o, st.heap.get? b = some o → g.get? b = some o) → q (.ref st.heap.objs.size) { st with heap := g }) :
    wpAny (model P W) A (do let l ← newList vs; let _ ← holding [l] (call (.builtin "list.sort") [l] []); ret l) (fun f s => ∃ v, f = .done (.ret v) ∧ q v s) bad st := by
  have size : vs.length = ss.length := are.length
  refine wpAny_bind (wpAny_newList ?_ (by rw [size, sizeLine_eq]; omega))
  have there : (st.heap.push (seqObj "list" vs.toArray 0)).get? st.heap.objs.size = some (seqObj "list" vs.toArray 0) := Heap.get?_push_size _ rfl
  have kind : Shared.TypeIs { st with heap := st.heap.push (seqObj "list" vs.toArray 0) } (.ref st.heap.objs.size) "list" := ⟨_, there, rfl⟩
  refine wpAny_bind (wpAny_holding (wpAny_call_entry (s := { st with heap := st.heap.push (seqObj "list" vs.toArray 0) }) slot_list_sort kind entry_list_sort ?_ (args_list_sort _)))
  refine list_sort_treeK strKind_oneLt (s := { st with heap := st.heap.push (seqObj "list" vs.toArray 0) }) there are.keysOf (fun v1 v2 more e => keyKind_strs (e ▸ are)) (size ▸ few) fun done perm rising => ⟨_, rfl, wpAny_pure ⟨_, rfl, ?_⟩⟩
  obtain ⟨ys, y1, y2, y3⟩ := sorted_out_str are perm rising
  obtain ⟨ep, at_⟩ := sortedHeap_at (vs := vs) (out := (arrOf done).map (·.2)) there
  refine fin _ ((arrOf done).map (·.2)).toList ys ep y1 y2 y3 (by rw [Array.toArray_toList]; exact at_) fun b o old => ?_
  have lt := Heap.lt_size old
  exact (sortedHeap_old (Nat.ne_of_lt lt) (size_push' .. ▸ Nat.lt_succ_of_lt lt)).trans (Heap.get?_push_of_some _ old)
end
/-- sorted(text), fewer than 64 signs -/
def rSortedTx : List V → Hp → VK → Prop := fun vs H Q => ∃ z : Str, vs = [.str z] ∧ z.length < 64 ∧ ∀ ys p, ys.Perm (signs z) → sortedS ys = true → H p = none → Q (.ref p) (upd H p (.lst (ys.map V.str)))
theorem cr_sortedTx {X : Cx} (calm : X.calm = true) : CallR X (.builtin "sorted") rSortedTx := by
  rintro pins st σ H _ us Q I rel ⟨z, rfl, few, q⟩
  obtain ⟨_, rfl, t, rfl⟩ := vals1 rel
  have fits : z.cps.size ≤ sizeLine := Nat.le_trans (Nat.le_of_lt few) (by decide)
  have few' : (signs z).length < 64 := (signs_len z).symm ▸ few
  have enter := Calls.call_function_entry (prog := X.prog) (w := X.w) (A := X.A) (E := X.xe) (s := st) (Q := EP X pins σ Q) kind_sorted plain_sorted entry_sorted (args_sorted1 (.str z t))
  refine enter ?_
  unfold Builtin.«sorted»
  refine wpAny_bind (m := checkCount "sorted" 1 1 _) (wpAny_pure (wpAny_bind (wpAny_collect_str (A := X.A.in1) (I.ok.hd calm) z t (fun mid acc kept g1 g2 g3 items => ?_) fits)))
  rcases mid with ⟨g, gens, drawn, tk, os⟩
  cases g1; cases g2; cases g3
  have I1 : L2.Inv X pins σ H { st with heap := g, toks := tk } := I.kept kept
  refine list_then_sort (st := { st with heap := g, toks := tk }) (signs_are items) few' fun g2 out ys ep are perm rising at_ old => ?_
  have short : (ys.map V.str).length ≤ sizeLine := by
    rw [List.length_map, perm.length_eq]
    exact Nat.le_trans (Nat.le_of_lt few') (by decide)
  exact ⟨.ref _, _, I1.laid (o := .lst (ys.map V.str)) (t' := tk) old (Nat.le_refl _) ⟨short, out, ep, vals_of_strs are, at_⟩, rfl, q ys _ perm rising I1.fresh⟩

/-! ### a dict comprehension over a walk -/
/-- one turn: N is what it comes to -/
abbrev dcTurn (g : TG) (tt : TT) (tk tv : TE) (vs : List Nat) (σ : L2.St) (D : Addr) (N : Hp → Prop) (x : V) (H : Hp) : Prop :=
  g x (wipe σ vs) H fun σ2 H2 => wipe σ2 vs = wipe σ vs ∧ tt σ2 H2 fun b H3 => if b = true then
    tk σ2 H3 fun y H4 => tv σ2 H4 fun z H5 => ∃ kvs k, y = kV k ∧ H5 D = some (.dK kvs) ∧ kvs.length < sizeLine ∧ N (upd H5 D (.dK (putK kvs k z)))
  else N H3
/-- the whole walk, the new dict at D -/
abbrev DcWalk (J : It) (g : TG) (tt : TT) (tk tv : TE) (vs : List Nat) (σ : L2.St) (D : Addr) (H1 : Hp) (Qd : Hp → Prop) : Prop :=
  ∃ word : Nat → Nat → Hp → Prop, (∃ m, word 0 m (upd H1 D (.dK []))) ∧ ∀ i m H, word i m H → (J.stop i H ∧ Qd H) ∨
    (J.go i H ∧ ∃ N : Hp → Prop, (∀ H', N H' → ∃ less, less < m ∧ word (i + 1) less H') ∧ ∀ x H', J.yld i H x H' → dcTurn g tt tk tv vs σ D N x H')
theorem dc_it {J : It} {n : Nat} {G : Hp → Prop} {Y : Nat → Hp → V → Hp → Prop} (walk : Walk J n G Y) {g : TG} {tt : TT} {tk tv : TE} {vs : List Nat} {σ : L2.St} {H1 : Hp} {D : Addr} {Qd : Hp → Prop} (Pv : Nat → Hp → Prop)
    (zero : Pv 0 (upd H1 D (.dK []))) (stays : ∀ i H, i ≤ n → Pv i H → G H) (turn : ∀ i x H H', i < n → Pv i H → Y i H x H' → dcTurn g tt tk tv vs σ D (Pv (i + 1)) x H') (last : ∀ H, Pv n H → Qd H) :
    DcWalk J g tt tk tv vs σ D H1 Qd := by
  refine ⟨fun i m H => (m = n - i ∧ i ≤ n) ∧ Pv i H, ⟨n, ⟨rfl, Nat.zero_le _⟩, zero⟩, fun i m H ⟨⟨em, le⟩, p⟩ => ?_⟩
  rcases Nat.lt_or_eq_of_le le with lt | rfl
  · refine .inr ⟨walk.goes i H lt (stays i H le p), Pv (i + 1), fun H' p' => ?_, fun x H' y => turn i x H H' lt p (walk.yields i H x H' lt (stays i H le p) y)⟩
    exact ⟨n - (i + 1), by omega, ⟨rfl, lt⟩, p'⟩
  · exact .inl ⟨walk.stops H (stays i H le p), last H p⟩
end SWR
end
/-! ## SWRules3 -/
section
set_option maxHeartbeats 4000000
namespace SWR
open PySem L2
/-- so in each block that the comprehension's scope may run in -/
abbrev InBlk (X : Cx) (scope : Scope) (p : Cx → Prop) : Prop := ∀ (s : Shared) (H : Hp) (C : Addr) (cl : List (Str × Addr)) (fp : List Addr), p (X.blk s H scope (compEnvC scope cl C X.env) fp)
section
variable {X : Cx} {kx vx tg iter : Expr} {ifs : List Expr} {scope : Scope} {pos py spos : Pos} {y : Str}
/-- a dict comprehension given to a local name swaps as a list comprehension does -/
theorem sw_trueD {gs : List Comprehension} {line : Nat} {env : Env} (k : env.scope.kind = .function) (l : env.scope.names.lookup y = some .local) (same : (py.line == pos.line) = true)
    (foreign : (scope.names.any fun (n, k) => n == y && (k == .local || k == .cell)) = false) : swapsWith (.DictComp kx vx gs scope pos) (some (.Name y py)) line env = pure true :=
  Eq.trans (b := swapsWith (.ListComp kx gs scope pos) (some (.Name y py)) line env) rfl (sw_true k l same foreign)
/-- y = {k: v for ..} in a def's body -/
theorem ps_setDc {i : Nat} {own : List (Str × Nat)} {wi : TI} {g : TG} {tt : TT} {tk tv : TE} (calm : X.calm = true) (once : X.N.Nodup) (slot : X.N[i]? = some y) (loc : X.env.scope.names.lookup y = some .local)
    (swap : swapsWith (.DictComp kx vx [⟨tg, iter, ifs, 0⟩] scope pos) (some (.Name y py)) spos.line X.env = pure true) (src : PI X tg iter wi) (blk : BlkOk X.N X.env.scope scope own)
    (pg : InBlk X scope fun Z => PG Z tg g) (pt : InBlk X scope fun Z => PTs Z ifs tt) (pk : InBlk X scope fun Z => PE Z kx tk) (pv : InBlk X scope fun Z => PE Z vx tv) (plain : ∀ x, foldedSetIterable iter X.env x = pure x := by intro _; rfl) :
    PS X (.Assign [.Name y py] (.DictComp kx vx [⟨tg, iter, ifs, 0⟩] scope pos) spos) (tAsg (tDc wi g tt tk tv (own.map (·.2))) (gName i)) where
  run pins st σ H D I want := by
    have stored : ∀ (d C : Addr) (s1 : Shared) (m : Str → Option Value) (H1 : Hp), L2.Inv X pins σ H1 s1 → gName i (.ref d) σ H1 D.nx → s1.heap.Ns C m → FpOk X pins H1 C →
        compPost (model X.prog X.w) X.A X.xe (some (assign (.Name y py) X.env)) (fun _ s2 => SP X pins D .next s2) (.ref d) C (.ok .next) s1 := by
      intro d C s1 m H1 I1 q ns off
      refine wpAny_assign_Name (store_ok2 (v := V.ref d) (u := .ref d) I1 once slot (.inl loc) rfl (fun s2 I2 but => ?_) (.inr loc))
      obtain ⟨b, chg, who⟩ := but
      obtain ⟨o1, o2, _, o3, o4, o5⟩ := off
      have apart : C ≠ b := by
        rintro rfl
        exact who.elim o2 fun cell => o4 y C cell rfl
      exact ⟨m, ns.sameBut chg apart, fun g sb => ⟨_, H1, I2.turned (t' := s2.toks) (fun b o ne old => (sb.2 b ne).trans old) o1 o2 o3 o4 o5, q⟩⟩
    have body := dc_core (Qf := fun _ s2 => SP X pins D .next s2) (use := some (assign (.Name y py) X.env)) (pos := pos) (pos' := firstIterPos [⟨tg, iter, ifs, 0⟩] pos) (Q := fun v H1 => gName i v σ H1 D.nx) calm once I src blk pg pt pk pv plain want
      fun d C s1 m H1 I1 q ns off => stored d C s1 m H1 I1 q ns off
    rw [exec_Assign_Name_used _ _ _ _ swap]
    exact wpAny_bind (wpAny_standAt (wpAny_bind (wpAny_bind (thn body fun _ s2 done => wpAny_pure (wpAny_pure done)))))
end
end SWR
end
/-! ## SWTxt -/
section
set_option maxHeartbeats 2000000
/-! ### the text by places, texts as lists of letters -/
namespace SWP
open PySem L2 SW SWR
def topS (i : Nat) : Stmt := PySem.Challenge.pw_syncedwords_k09_whole_unique_and_strings.main.body.getD i (.Pass ⟨0, 0, 0, 0⟩)
abbrev sSpelled : Stmt := topS 7
abbrev sIsCode : Stmt := topS 8
abbrev sCheck : Stmt := topS 10
abbrev sFirst : Stmt := topS 11
abbrev sSteps : Stmt := topS 12
abbrev sRests : Stmt := topS 13
abbrev sUnique : Stmt := topS 14
abbrev sWaysOn : Stmt := topS 15
abbrev sFirstWay : Stmt := topS 16
abbrev sIsUnique : Stmt := topS 17
abbrev sFirstAmb : Stmt := topS 18
abbrev sStream : Stmt := topS 20
abbrev sNext : Stmt := topS 21
abbrev sIsInt : Stmt := topS 22
abbrev sEqual : Stmt := topS 23
abbrev sCode : Stmt := topS 24
abbrev sParses : Stmt := topS 25
abbrev sStrings : Stmt := topS 26
abbrev sLaw : Stmt := topS 27
/-- a text of these letters -/
def tx (w : Wd) : Str := ⟨w.toArray⟩
def cv (w : Wd) : V := .str (tx w)
theorem tx_len (w : Wd) : (tx w).length = w.length := by show w.toArray.size = _; simp
theorem tx_tl (w : Wd) : (tx w).cps.toList = w := by show w.toArray.toList = w; simp
theorem tx_app (a b : Wd) : tx a ++ tx b = tx (a ++ b) := by
  show (⟨a.toArray ++ b.toArray⟩ : Str) = ⟨(a ++ b).toArray⟩
  simp
theorem tx_nil : (Str.ofString "") = tx [] := by decide +kernel
theorem tx_inj {a b : Wd} (h : tx a = tx b) : a = b := by
  have := congrArg (fun s : Str => s.cps.toList) h
  simpa [tx_tl] using this
theorem tx_of (z : Str) : z = tx z.cps.toList := by
  cases z with
  | mk c => show (⟨c⟩ : Str) = ⟨c.toList.toArray⟩; simp
theorem cv_inj {a b : Wd} (h : cv a = cv b) : a = b := tx_inj (V.str.inj h)
theorem cv_eq (a b : Wd) : decide (cv a = cv b) = decide (a = b) := by
  by_cases h : a = b
  · subst h; simp
  · have : ¬ cv a = cv b := fun z => h (cv_inj z)
    simp [h, this]
theorem starts (a b : Wd) : Txt.startswith (tx a) (tx b) = b.isPrefixOf a := by
  unfold Txt.startswith
  rw [tx_len, tx_len]
  have e : Builtin.Str.subAt (tx a) (tx b) 0 = decide (a.take b.length = b) := by
    unfold Builtin.Str.subAt
    rw [tx_len]
    show ((a.toArray.extract 0 (0 + b.length)) == b.toArray) = _
    rw [Nat.zero_add, List.extract_toArray]
    simp only [List.extract_eq_take_drop, List.drop_zero, Nat.sub_zero]
    by_cases h : a.take b.length = b
    · simp [h]
    · rw [decide_eq_false h]
      exact beq_eq_false_iff_ne.mpr fun z => h (by simpa using z)
  rw [e]
  by_cases h : b.isPrefixOf a = true
  · rw [h]
    obtain ⟨s, q⟩ := List.isPrefixOf_iff_prefix.mp h
    rw [← q]
    simp
  · have hf : b.isPrefixOf a = false := Bool.eq_false_iff.mpr h
    rw [hf]
    have : ¬ a.take b.length = b := fun z => h (List.isPrefixOf_iff_prefix.mpr ⟨a.drop b.length, by
      have := List.take_append_drop b.length a
      rw [z] at this
      exact this⟩)
    simp [this]
theorem cut_from (w : Wd) (k : Nat) : cutS (tx w) (some (k : Int)) none = tx (w.drop k) := by
  unfold cutS
  rw [tx_len, tx_tl, HT.sIx_nat, HT.sIx_none]
  show (⟨((w.drop (min k w.length)).take (w.length - min k w.length)).toArray⟩ : Str) = ⟨(w.drop k).toArray⟩
  congr 2
  rw [List.take_of_length_le (by rw [List.length_drop]; omega)]
  by_cases h : k ≤ w.length
  · rw [Nat.min_eq_left h]
  · rw [Nat.min_eq_right (by omega), List.drop_of_length_le (Nat.le_refl _), List.drop_of_length_le (by omega)]
theorem cut_seg (w : Wd) {a b : Nat} (ha : a ≤ w.length) (hb : b ≤ w.length) : cutS (tx w) (some (a : Int)) (some (b : Int)) = tx (seg w a b) := by
  unfold cutS seg
  rw [tx_len, tx_tl, HT.sIx_nat, HT.sIx_nat, Nat.min_eq_left ha, Nat.min_eq_left hb]
  rfl
theorem small {n : Nat} (h : n ≤ 100000) : n ≤ sizeLine := by rw [sizeLine_eq]; omega
theorem smallLt {n : Nat} (h : n ≤ 100000) : n < sizeLine := by rw [sizeLine_eq]; omega

/-! ### heaps -/
theorem same_upd {H : Hp} {p : Addr} {o : HO} (h : H p = none) : Same H (upd H p o) := fun b x e => by
  rw [upd_ne (ne_of_none e h)]
  exact e
/-- all but one thing is as it was -/
def SameBut (p : Addr) (H H' : Hp) : Prop := ∀ b o, b ≠ p → H b = some o → H' b = some o
theorem same_of_but {H H' : Hp} {p : Addr} (h : SameBut p H H') (hp : H p = none) : Same H H' := fun b o e => h b o (ne_of_none e hp) e
end SWP
end
/-! ## SWHeap -/
section
set_option maxHeartbeats 2000000
namespace SWP
open PySem L2 SW SWR
theorem pair_snoc {α β : Type} {R : α → β → Prop} {x : α} {y : β} (r : R x y) : ∀ {l : List α} {m : List β}, Paired R l m → Paired R (l ++ [x]) (m ++ [y])
  | _, _, .nil => .cons r .nil
  | _, _, .cons h t => .cons h (pair_snoc r t)
theorem pair_get {α β : Type} {R : α → β → Prop} : ∀ {l : List α} {m : List β} {i : Nat} {x : α}, Paired R l m → l[i]? = some x → ∃ y, m[i]? = some y ∧ R x y
  | _, _, _, _, .nil, e => by simp at e
  | _, _, 0, _, .cons h _, e => by
    simp at e; subst e; exact ⟨_, rfl, h⟩
  | _, _, i + 1, x, .cons _ t, e => by
    obtain ⟨y, h1, h2⟩ := pair_get (i := i) (x := x) t (by simpa using e)
    exact ⟨y, by simpa using h1, h2⟩
theorem pair_app {α β : Type} {R : α → β → Prop} : ∀ {l l' : List α} {m m' : List β}, Paired R l m → Paired R l' m' → Paired R (l ++ l') (m ++ m')
  | _, _, _, _, .nil, s => s
  | _, _, _, _, .cons h t, s => .cons h (pair_app t s)
/-- the tuples stay -/
def Tups (H H' : Hp) : Prop := ∀ b xs, H b = some (.tup xs) → H' b = some (.tup xs)
theorem Tups.refl (H : Hp) : Tups H H := fun _ _ h => h
theorem Tups.trans {A B C : Hp} (a : Tups A B) (b : Tups B C) : Tups A C := fun p xs h => b p xs (a p xs h)
theorem Tups.same {H H' : Hp} (h : Same H H') : Tups H H' := fun b xs e => h b _ e
theorem Tups.new {H : Hp} {p : Addr} {o : HO} (h : H p = none) : Tups H (upd H p o) := .same (same_upd h)
theorem Tups.lst {H : Hp} {l : Addr} {xs : List V} {o : HO} (h : H l = some (.lst xs)) : Tups H (upd H l o) := fun b ys e => by
  rw [upd_ne (ne_of e h (by intro z; cases z))]; exact e
theorem Tups.dk {H : Hp} {l : Addr} {kvs : List (Key × V)} {o : HO} (h : H l = some (.dK kvs)) : Tups H (upd H l o) := fun b ys e => by
  rw [upd_ne (ne_of e h (by intro z; cases z))]; exact e
/-- what is said of an item leans on tuples alone -/
def Leans {α : Type} (R : Hp → Addr → α → Prop) : Prop := ∀ H H' p q, Tups H H' → R H p q → R H' p q
/-- at l, new since H0, stands a list of references to what L says -/
structure LstOf {α : Type} (R : Hp → Addr → α → Prop) (H0 H : Hp) (l : Addr) (L : List α) : Prop where
  same : Same H0 H
  l0 : H0 l = none
  ex : ∃ ps : List Addr, H l = some (.lst (ps.map V.ref)) ∧ Paired (R H) ps L
section
variable {α : Type} {R : Hp → Addr → α → Prop} {H0 H : Hp} {l : Addr} {L : List α}
theorem LstOf.laid (x : LstOf R H0 H l L) (hR : Leans R) {T : Addr} {o : HO} (h : H T = none) : LstOf R H0 (upd H T o) l L := by
  obtain ⟨s, l0, ps, h1, h2⟩ := x
  exact ⟨s.trans (same_upd h), l0, ps, by rw [upd_ne (ne_of_none h1 h)]; exact h1, L2.Paired.mapP h2 fun a b r => hR _ _ _ _ (.new h) r⟩
theorem LstOf.push (x : LstOf R H0 H l L) (hR : Leans R) {p : Addr} {q : α} {xs : List V} (h1 : H l = some (.lst xs)) (r : R H p q) : LstOf R H0 (upd H l (.lst (xs ++ [.ref p]))) l (L ++ [q]) := by
  obtain ⟨s, l0, ps, h1', h2⟩ := x
  rw [h1] at h1'
  cases h1'
  refine ⟨fun b o e => ?_, l0, ps ++ [p], by rw [upd_same, List.map_append] <;> rfl, pair_snoc (hR _ _ _ _ (.lst h1) r) (L2.Paired.mapP h2 fun a b r => hR _ _ _ _ (.lst h1) r)⟩
  rw [upd_ne (ne_of_none e l0)]
  exact s b o e
theorem LstOf.len (x : LstOf R H0 H l L) {xs : List V} (h : H l = some (.lst xs)) : xs.length = L.length := by
  obtain ⟨s, l0, ps, h1, h2⟩ := x
  rw [h1] at h
  cases h
  rw [List.length_map]
  exact Paired.length h2
end
/-- the triple (number, number, rest) -/
def At3 (H : Hp) (p : Addr) (q : Nat × Nat × Wd) : Prop := H p = some (.tup [.int (q.1 : Nat), .int (q.2.1 : Nat), cv q.2.2])
/-- the triple (number, beyond, rest) -/
def AtS (H : Hp) (p : Addr) (q : Nat × Bool × Wd) : Prop := H p = some (.tup [.int (q.1 : Nat), .bl q.2.1, cv q.2.2])
theorem leans3 : Leans At3 := fun _ _ _ _ t h => t _ _ h
theorem leansS : Leans AtS := fun _ _ _ _ t h => t _ _ h
/-- the code, as its tuple -/
structure CodeAt (H : Hp) (a : Addr) (code : List Wd) : Prop where
  at_ : H a = some (.tup (code.map cv))
  len : code.length ≤ 6
  wl : ∀ w ∈ code, w.length ≤ 5
theorem CodeAt.mono {H H' : Hp} {a : Addr} {code : List Wd} (c : CodeAt H a code) (h : Tups H H') : CodeAt H' a code := ⟨h _ _ c.at_, c.len, c.wl⟩
theorem map_at {code : List Wd} {i : Nat} {x : V} (h : (code.map cv)[i]? = some x) : i < code.length ∧ x = cv (code.getD i []) := by
  rw [List.getElem?_map] at h
  cases e : code[i]? with
  | none => rw [e] at h; cases h
  | some w =>
    rw [e] at h
    have hi := (List.getElem?_eq_some_iff.mp e).1
    refine ⟨hi, ?_⟩
    rw [List.getD_eq_getElem?_getD, e]
    exact (Option.some.inj h).symm
theorem ints_ne {i j : Nat} : (!decide (V.int (i : Int) = V.int (j : Int))) = decide (i ≠ j) := by
  by_cases h : i = j
  · subst h; simp
  · have : ¬ V.int (i : Int) = V.int (j : Int) := fun z => h (by injection z with z; omega)
    simp [h, this]
/-- the built-ins are the built-ins -/
structure Txt (mg : Str → Option Value) : Prop where
  enumerate : mg "enumerate" = none
  len : mg "len" = none
  list : mg "list" = none
  sorted : mg "sorted" = none
  isinstance : mg "isinstance" = none
  tuple : mg "tuple" = none
  all : mg "all" = none
  abs : mg "abs" = none
  int : mg "int" = none
  range : mg "range" = none
  str : mg "str" = none
  bool : mg "bool" = none
end SWP
end
/-! ## SWDf -/
section
set_option maxHeartbeats 2000000
namespace SWP
open PySem L2 SW SWR
/-- the module's name x holds a def that keeps the promise sp -/
def Df (P : Program) (w : World) (K : PySem.W.Frag) (mg : Str → Option Value) (base : Heap) (k : Nat) (x : Str) (ps : List Str) (sp : Sp) : Prop :=
  ∃ (f : Addr) (fd : FuncData), FnOk P w K mg base CX0 k f fd ps sp ∧ mg x = some (.ref f) ∧ PySem.W.keepIn K (.ref f) = true ∧ Binds K fd ps []
section
variable {X : Cx} {k : Nat} {ps : List Str} {sp : Sp} {x : Str} {p pos : Pos} {e : Expr} {es : List Expr} {t : TA}
theorem pe_df (D : Df X.prog X.w X.K X.mg X.base k x ps sp) (hr : Room k X.A) (hg : Gl X x) (ha : PA X (e :: es) t) (hpass : Passes CX0 X E0 := by exact pass0) (hdb : (x == ("__debug__" : Str)) = false := by decide)
    (he : starEach (e :: es) X.env = (false, eval e X.env) :: starEach es X.env := by rfl) (hpl : (backTo pos (starEach es X.env)).any (·.1) = false := by rfl) : PE X (.Call (.Name x p) (e :: es) [] pos) (tCall sp [] E0 t) := by
  obtain ⟨f, fd, F, m, kp, b⟩ := D
  exact pe_call F hr hg m kp b .nil hpass ha hdb he hpl
end
def nv (n : Nat) : V := .int (n : Nat)
/-- a way of the search, as its tuple -/
def WayAt (H : Hp) (p : Addr) (y : Way) : Prop := ∃ fa ba, H p = some (.tup [.int (y.text.length : Nat), cv y.text, cv y.rest, .ref fa, .ref ba]) ∧ H fa = some (.tup (y.front.map nv)) ∧ H ba = some (.tup (y.back.map nv))
theorem leansW : Leans WayAt := fun _ _ _ _ t ⟨fa, ba, h1, h2, h3⟩ => ⟨fa, ba, t _ _ h1, t _ _ h2, t _ _ h3⟩
/-- what is asked of the ways' sizes -/
structure WSmall (y : Way) : Prop where
  tl : y.text.length ≤ 1000
  rl : y.rest.length ≤ 1000
  ix : y.front.length + y.back.length ≤ 1000
  fne : y.front ≠ []
  bne : y.back ≠ []
end SWP
end
/-! ## SWFirst -/
section
set_option maxHeartbeats 4000000
namespace SWP
open PySem L2 SW SWR
def spFirst : Sp := fun vs H Q _ => ∃ (a : Addr) (code : List Wd), vs = [.ref a] ∧ CodeAt H a code ∧ ∀ H' p, LstOf At3 H H' p (firstSteps code) → Q (.ref p) H'
section
variable {P : Program} {w : World} {K : PySem.W.Frag} {mg : Str → Option Value} {base : Heap}
theorem scFirst : FnScope ["code", "found", "one", "word", "other", "part"] ["code"] (defScope sFirst) := ⟨rfl, rfl, rfl, by decide +kernel, rfl, by decide +kernel, by decide +kernel⟩
theorem firstTo_small {code : List Wd} (hc : code.length ≤ 6) {n : Nat} (hn : n ≤ code.length) : (firstTo code n).length ≤ 36 := by
  have h1 := firstTo_len code n
  have : n * code.length ≤ 6 * 6 := Nat.mul_le_mul (by omega) hc
  omega
theorem ok_first {f : Addr} {fd : FuncData} (F : Fun K "first_steps" "first_steps" sFirst f fd) (T : Txt mg) : FnOk P w K mg base CX0 1 f fd ["code"] spFirst := by
  refine F.ok scFirst (fun vs H Q E h => ?_) (fun cdv A outer s H vs Q E hr h => ?_)
  · obtain ⟨a, code, rfl, _⟩ := h
    rfl
  · obtain ⟨a, code, rfl, C, k⟩ := h
    have nd := scFirst.nd
    refine ⟨_, pss_cons (ps_set (i := 1) nd rfl (.inl rfl) (pe_lst pa_nil))
      (pss_cons (ps_for PassesOwn.never rfl (pi_enumT (by rfl) T.enumerate (pa_cons (pv 0) pa_nil))
        (pg_tup rfl (pgs_cons (pg_name (i := 2) nd rfl (.inl rfl)) (pgs_cons (pg_name (i := 3) nd rfl (.inl rfl)) pgs_nil)))
        (pss_one (ps_for PassesOwn.never rfl (pi_enumT (by rfl) T.enumerate (pa_cons (pv 0) pa_nil))
          (pg_tup rfl (pgs_cons (pg_name (i := 4) nd rfl (.inl rfl)) (pgs_cons (pg_name (i := 5) nd rfl (.inl rfl)) pgs_nil)))
          (pss_one (ps_if (PW.pt (pw_and (pt_cmpR op_ne (pv 4) (pv 2) (nomark _)) (pw_and1 (pt_val (pe_m1 PySem.F.slot_str_startswith PySem.F.type_str_startswith mt_startswith (pv 3) (pv 5))))))
            (pss_one (ps_expr (pe_bm PySem.F.plainAttrs_list PySem.F.slot_list_append PySem.F.type_list_append mt_append (pv 1)
              (pa_cons (pe_tup (pa_cons (pv 2) (pa_cons (pv 4) (pa_cons (pe_slice sl_str (pv 3) (po_some (pe_callB call_len_str (by rfl) T.len PySem.boot_len (pa_cons (pv 5) pa_nil))) po_none) pa_nil)))) pa_nil))))
            pss_nil)))))
      (pss_one (ps_ret (pv 1)))), ?_⟩
    refine ⟨Nat.zero_le _, fun l hl => ?_⟩
    refine ⟨_, rfl, a, _, rfl, (C.mono (.new hl)).at_, ?_⟩
    have hlen : (code.map cv).length = code.length := List.length_map _
    refine for_it (walk_enumT (xs := code.map cv)) (fun i σ H1 => ∃ y2 y3 y4 y5, σ = [some (.ref a), some (.ref l), y2, y3, y4, y5] ∧ LstOf At3 H H1 l (firstTo code i)) ⟨_, _, _, _, rfl, same_upd hl, hl, [], upd_same, .nil⟩ (fun i σ H1 _ p => ?_) (fun i x σ H1 H2 hi p y => ?_) (fun σ H1 p => ?_)
    · obtain ⟨_, _, _, _, _, p⟩ := p
      exact p.same _ _ C.at_
    · obtain ⟨y2, y3, y4, y5, rfl, p⟩ := p
      obtain ⟨T2, x1, x2, rfl, hT, rfl, e1, e2⟩ := y
      cases e1
      obtain ⟨hi, rfl⟩ := map_at e2
      refine ⟨T2, _, rfl, SqT.of upd_same, rfl, _, _, rfl, _, _, rfl, rfl, ?_⟩
      have p := p.laid leans3 (o := .tup [.int (i : Nat), cv (code.getD i [])]) hT
      refine ⟨_, rfl, a, _, rfl, p.same _ _ C.at_, ?_⟩
      refine for_it (walk_enumT (xs := code.map cv)) (fun j σ H1 => ∃ y4 y5, σ = [some (.ref a), some (.ref l), some (.int (i : Nat)), some (cv (code.getD i [])), y4, y5] ∧ LstOf At3 H H1 l (firstTo code i ++ firstRow code i j)) ⟨_, _, rfl, by rw [firstRow, List.append_nil]; exact p⟩ (fun j σ H1 _ p => ?_) (fun j x σ H1 H2 hj p y => ?_) (fun σ H1 p => ?_)
      · obtain ⟨_, _, _, p⟩ := p
        exact p.same _ _ C.at_
      · obtain ⟨y4, y5, rfl, p⟩ := p
        obtain ⟨T3, x1, x2, rfl, hT3, rfl, e1, e2⟩ := y
        cases e1
        obtain ⟨hj, rfl⟩ := map_at e2
        refine ⟨T3, _, rfl, SqT.of upd_same, rfl, _, _, rfl, _, _, rfl, rfl, ?_⟩
        have p := p.laid leans3 (o := .tup [.int (j : Nat), cv (code.getD j [])]) hT3
        -- other != one and word.startswith(part)
        refine ⟨_, rfl, _, rfl, rfl, _, rfl, ?_⟩
        rw [ints_ne]
        have stay : row1 code i j = [] → ∃ y4 y5, [some (V.ref a), some (V.ref l), some (V.int (i : Nat)), some (cv (code.getD i [])), some (V.int (j : Nat)), some (cv (code.getD j []))] = [some (.ref a), some (.ref l), some (.int (i : Nat)), some (cv (code.getD i [])), y4, y5] ∧
            LstOf At3 H (upd H1 T3 (.tup [.int (j : Nat), cv (code.getD j [])])) l (firstTo code i ++ firstRow code i (j + 1)) := fun e => ⟨_, _, rfl, by rw [firstRow, e, List.append_nil]; exact p⟩
        refine ite2 (fun c1 => ?_) (fun c1 => ?_)
        · refine ⟨_, rfl, ⟨_, rfl⟩, _, rfl, _, _, rfl, rfl, _, rfl, ?_⟩
          rw [starts]
          refine ite2 (fun c2 => ?_) (fun c2 => ?_)
          · -- found.append((one, other, word[len(part):]))
            obtain ⟨xs, hxs⟩ : ∃ xs, (upd H1 T3 (.tup [.int (j : Nat), cv (code.getD j [])])) l = some (.lst xs) := let ⟨ps, h, _⟩ := p.ex; ⟨_, h⟩
            have wl : (code.getD i []).length ≤ 5 := C.wl _ (getD_some hi)
            have wl2 : (code.getD j []).length ≤ 5 := C.wl _ (getD_some hj)
            refine ⟨_, rfl, .inl ⟨rfl, _, SqL.of hxs⟩, _, rfl, _, rfl, _, rfl, _, rfl, _, rfl, by rw [tx_len]; exact small (by omega), _, rfl, _, rfl, by rw [tx_len]; exact small (by omega), ?_⟩
            refine ⟨by show 3 ≤ sizeLine; decide, fun t ht => ?_⟩
            have hxs' : ∀ o, (upd (upd H1 T3 (.tup [.int (j : Nat), cv (code.getD j [])])) t o) l = some (.lst xs) := fun o => by rw [upd_ne (ne_of_none hxs ht)]; exact hxs
            have pl := p.len hxs
            have hsm := firstTo_small C.len (n := i) (by omega)
            have hrow := firstRow_len code i j
            rw [List.length_append] at pl
            refine ⟨l, xs, _, rfl, rfl, hxs' _, smallLt (by have := C.len; omega), ?_⟩
            have hrow1 : row1 code i j = [(i, j, (code.getD i []).drop (code.getD j []).length)] := by
              unfold row1
              rw [if_pos ⟨of_decide_eq_true c1, c2⟩]
            refine ⟨_, _, rfl, ?_⟩
            rw [firstRow, hrow1, ← List.append_assoc]
            refine (p.laid leans3 ht).push leans3 (hxs' _) ?_
            show (upd _ t _) t = _
            rw [upd_same, tx_len, cut_from]
            rfl
          · refine stay ?_
            unfold row1
            rw [if_neg (fun z => c2 z.2)]
        · refine stay ?_
          unfold row1
          rw [if_neg (fun z => c1 (decide_eq_true z.1))]
      · obtain ⟨y4, y5, rfl, p⟩ := p
        refine ⟨_, _, _, _, rfl, ?_⟩
        rw [firstTo]
        rw [hlen] at p
        exact p
    · obtain ⟨_, _, _, _, rfl, p⟩ := p
      rw [hlen] at p
      exact ⟨_, rfl, k _ _ p⟩
end
end SWP
end
/-! ## SWSteps -/
section
set_option maxHeartbeats 4000000
namespace SWP
open PySem L2 SW SWR
def spSteps : Sp := fun vs H Q _ => ∃ (a : Addr) (code : List Wd) (r : Wd), vs = [.ref a, cv r] ∧ CodeAt H a code ∧ r.length ≤ 1000 ∧ ∀ H' p, LstOf AtS H H' p (stepsFrom code r) → Q (.ref p) H'
section
variable {P : Program} {w : World} {K : PySem.W.Frag} {mg : Str → Option Value} {base : Heap}
theorem scSteps : FnScope ["code", "rest", "found", "number", "word"] ["code", "rest"] (defScope sSteps) := ⟨rfl, rfl, rfl, by decide +kernel, rfl, by decide +kernel, by decide +kernel⟩
theorem ok_steps {f : Addr} {fd : FuncData} (F : Fun K "steps_from" "steps_from" sSteps f fd) (T : Txt mg) : FnOk P w K mg base CX0 1 f fd ["code", "rest"] spSteps := by
  refine F.ok scSteps (fun vs H Q E h => ?_) (fun cdv A outer s H vs Q E hr h => ?_)
  · obtain ⟨a, code, r, rfl, _⟩ := h
    rfl
  · obtain ⟨a, code, r, rfl, C, hrl, k⟩ := h
    have nd := scSteps.nd
    refine ⟨_, pss_cons (ps_set (i := 2) nd rfl (.inl rfl) (pe_lst pa_nil))
      (pss_cons (ps_for PassesOwn.never rfl (pi_enumT (by rfl) T.enumerate (pa_cons (pv 0) pa_nil))
        (pg_tup rfl (pgs_cons (pg_name (i := 3) nd rfl (.inl rfl)) (pgs_cons (pg_name (i := 4) nd rfl (.inl rfl)) pgs_nil)))
        (pss_one (ps_if (pt_val (pe_m1 PySem.F.slot_str_startswith PySem.F.type_str_startswith mt_startswith (pv 1) (pv 4)))
            (pss_one (ps_expr (pe_bm PySem.F.plainAttrs_list PySem.F.slot_list_append PySem.F.type_list_append mt_append (pv 2)
              (pa_cons (pe_tup (pa_cons (pv 3) (pa_cons pe_bl (pa_cons (pe_slice sl_str (pv 1) (po_some (pe_callB call_len_str (by rfl) T.len PySem.boot_len (pa_cons (pv 4) pa_nil))) po_none) pa_nil)))) pa_nil))))
            (pss_one (ps_if (pt_val (pe_m1 PySem.F.slot_str_startswith PySem.F.type_str_startswith mt_startswith (pv 4) (pv 1)))
              (pss_one (ps_expr (pe_bm PySem.F.plainAttrs_list PySem.F.slot_list_append PySem.F.type_list_append mt_append (pv 2)
                (pa_cons (pe_tup (pa_cons (pv 3) (pa_cons pe_bl (pa_cons (pe_slice sl_str (pv 4) (po_some (pe_callB call_len_str (by rfl) T.len PySem.boot_len (pa_cons (pv 1) pa_nil))) po_none) pa_nil)))) pa_nil))))
              pss_nil)))))
      (pss_one (ps_ret (pv 2)))), ?_⟩
    refine ⟨Nat.zero_le _, fun l hl => ?_⟩
    refine ⟨_, rfl, a, _, rfl, (C.mono (.new hl)).at_, ?_⟩
    have hlen : (code.map cv).length = code.length := List.length_map _
    refine for_it (walk_enumT (xs := code.map cv)) (fun i σ H1 => ∃ y3 y4, σ = [some (.ref a), some (cv r), some (.ref l), y3, y4] ∧ LstOf AtS H H1 l (stepsTo code r i)) ⟨_, _, rfl, same_upd hl, hl, [], upd_same, .nil⟩ (fun i σ H1 _ p => ?_) (fun i x σ H1 H2 hi p y => ?_) (fun σ H1 p => ?_)
    · obtain ⟨_, _, _, p⟩ := p
      exact p.same _ _ C.at_
    · obtain ⟨y3, y4, rfl, p⟩ := p
      obtain ⟨T2, x1, x2, rfl, hT, rfl, e1, e2⟩ := y
      cases e1
      obtain ⟨hi, rfl⟩ := map_at e2
      refine ⟨T2, _, rfl, SqT.of upd_same, rfl, _, _, rfl, _, _, rfl, rfl, ?_⟩
      have p := p.laid leansS (o := .tup [.int (i : Nat), cv (code.getD i [])]) hT
      have wl : (code.getD i []).length ≤ 5 := C.wl _ (getD_some hi)
      have hsm := stepsTo_len code r i
      have hcl := C.len
      obtain ⟨xs, hxs⟩ : ∃ xs, (upd H1 T2 (.tup [.int (i : Nat), cv (code.getD i [])])) l = some (.lst xs) := let ⟨ps, h, _⟩ := p.ex; ⟨_, h⟩
      have pl := p.len hxs
      -- if rest.startswith(word)
      refine ⟨_, rfl, ⟨_, rfl⟩, _, rfl, _, _, rfl, rfl, _, rfl, ?_⟩
      rw [starts]
      refine ite2 (fun c1 => ?_) (fun c1 => ?_)
      · refine ⟨_, rfl, .inl ⟨rfl, _, SqL.of hxs⟩, _, rfl, _, rfl, _, rfl, _, rfl, by rw [tx_len]; exact small (by omega), _, rfl, _, rfl, by rw [tx_len]; exact small (by omega), ?_⟩
        refine ⟨by show 3 ≤ sizeLine; decide, fun t ht => ?_⟩
        have hxs' : ∀ o, (upd (upd H1 T2 (.tup [.int (i : Nat), cv (code.getD i [])])) t o) l = some (.lst xs) := fun o => by rw [upd_ne (ne_of_none hxs ht)]; exact hxs
        refine ⟨l, xs, _, rfl, rfl, hxs' _, smallLt (by omega), _, _, rfl, ?_⟩
        have e1 : step1 (code.getD i []) r i = [(i, false, r.drop (code.getD i []).length)] := by
          unfold step1
          rw [if_pos c1]
        rw [stepsTo, e1]
        refine (p.laid leansS ht).push leansS (hxs' _) ?_
        show (upd _ t _) t = _
        rw [upd_same, tx_len, cut_from]
        rfl
      · refine ⟨_, rfl, ⟨_, rfl⟩, _, rfl, _, _, rfl, rfl, _, rfl, ?_⟩
        rw [starts]
        refine ite2 (fun c2 => ?_) (fun c2 => ?_)
        · refine ⟨_, rfl, .inl ⟨rfl, _, SqL.of hxs⟩, _, rfl, _, rfl, _, rfl, _, rfl, by rw [tx_len]; exact small (by omega), _, rfl, _, rfl, by rw [tx_len]; exact small (by omega), ?_⟩
          refine ⟨by show 3 ≤ sizeLine; decide, fun t ht => ?_⟩
          have hxs' : ∀ o, (upd (upd H1 T2 (.tup [.int (i : Nat), cv (code.getD i [])])) t o) l = some (.lst xs) := fun o => by rw [upd_ne (ne_of_none hxs ht)]; exact hxs
          refine ⟨l, xs, _, rfl, rfl, hxs' _, smallLt (by omega), _, _, rfl, ?_⟩
          have e1 : step1 (code.getD i []) r i = [(i, true, (code.getD i []).drop r.length)] := by
            unfold step1
            rw [if_neg c1, if_pos c2]
          rw [stepsTo, e1]
          refine (p.laid leansS ht).push leansS (hxs' _) ?_
          show (upd _ t _) t = _
          rw [upd_same, tx_len, cut_from]
          rfl
        · refine ⟨_, _, rfl, ?_⟩
          have e1 : step1 (code.getD i []) r i = [] := by
            unfold step1
            rw [if_neg c1, if_neg c2]
          rw [stepsTo, e1, List.append_nil]
          exact p
    · obtain ⟨_, _, rfl, p⟩ := p
      rw [hlen] at p
      exact ⟨_, rfl, k _ _ p⟩
end
end SWP
end
/-! ## SWWaysOn -/
section
set_option maxHeartbeats 4000000
namespace SWP
open PySem L2 SW SWR
def spWaysOn : Sp := fun vs H Q _ => ∃ (a b : Addr) (code : List Wd) (y : Way), vs = [.ref a, .ref b] ∧ CodeAt H a code ∧ WayAt H b y ∧ WSmall y ∧ ∀ H' p, LstOf WayAt H H' p (waysOn code y) → Q (.ref p) H'
section
variable {P : Program} {w : World} {K : PySem.W.Frag} {mg : Str → Option Value} {base : Heap}
theorem df_steps {f : Addr} {fd : FuncData} (F : Fun K "steps_from" "steps_from" sSteps f fd) (T : Txt mg) (m : mg "steps_from" = some (.ref f)) : Df P w K mg base 1 "steps_from" ["code", "rest"] spSteps :=
  ⟨f, fd, ok_steps F T, m, F.kp, F.binds fun _ _ _ _ _ _ us hl => match us, hl with | [_, _], _ => rfl⟩
theorem scWaysOn : FnScope ["code", "way", "size", "text", "rest", "front", "back", "found", "number", "beyond", "more"] ["code", "way"] (defScope sWaysOn) := ⟨rfl, rfl, rfl, by decide +kernel, rfl, by decide +kernel, by decide +kernel⟩
theorem ok_waysOn {f : Addr} {fd : FuncData} (F : Fun K "ways_on" "ways_on" sWaysOn f fd) (T : Txt mg) (DS : Df P w K mg base 1 "steps_from" ["code", "rest"] spSteps) : FnOk P w K mg base CX0 2 f fd ["code", "way"] spWaysOn := by
  refine F.ok scWaysOn (fun vs H Q E h => ?_) (fun cdv A outer s H vs Q E hr h => ?_)
  · obtain ⟨a, b, code, y, rfl, _⟩ := h
    rfl
  · obtain ⟨a, b, code, y, rfl, C, ⟨fa, ba, hb, hfa, hba⟩, sm, k⟩ := h
    have nd := scWaysOn.nd
    refine ⟨_, pss_cons (ps_asg (pv 1) (pg_tup rfl (pgs_cons (pg_name (i := 2) nd rfl (.inl rfl)) (pgs_cons (pg_name (i := 3) nd rfl (.inl rfl)) (pgs_cons (pg_name (i := 4) nd rfl (.inl rfl)) (pgs_cons (pg_name (i := 5) nd rfl (.inl rfl)) (pgs_cons (pg_name (i := 6) nd rfl (.inl rfl)) pgs_nil)))))))
      (pss_cons (ps_set (i := 7) nd rfl (.inl rfl) (pe_lst pa_nil))
      (pss_cons (ps_for PassesOwn.never rfl (pi_list (pe_df DS hr (by rfl) (pa_cons (pv 0) (pa_cons (pv 4) pa_nil))))
        (pg_tup rfl (pgs_cons (pg_name (i := 8) nd rfl (.inl rfl)) (pgs_cons (pg_name (i := 9) nd rfl (.inl rfl)) (pgs_cons (pg_name (i := 10) nd rfl (.inl rfl)) pgs_nil))))
        (pss_one (ps_if (pt_val (pv 9))
          (pss_one (ps_expr (pe_bm PySem.F.plainAttrs_list PySem.F.slot_list_append PySem.F.type_list_append mt_append (pv 7)
            (pa_cons (pe_tup (pa_cons (pe_op op_add (pv 2) (pe_callB call_len_str (by rfl) T.len PySem.boot_len (pa_cons (pv 10) pa_nil))) (pa_cons (pe_op op_add_str (pv 3) (pv 10)) (pa_cons (pv 10)
              (pa_cons (pe_op op_catT (pv 6) (pe_tup (pa_cons (pv 8) pa_nil))) (pa_cons (pv 5) pa_nil)))))) pa_nil))))
          (pss_one (ps_expr (pe_bm PySem.F.plainAttrs_list PySem.F.slot_list_append PySem.F.type_list_append mt_append (pv 7)
            (pa_cons (pe_tup (pa_cons (pv 2) (pa_cons (pv 3) (pa_cons (pv 10) (pa_cons (pv 5)
              (pa_cons (pe_op op_catT (pv 6) (pe_tup (pa_cons (pv 8) pa_nil))) pa_nil)))))) pa_nil)))))))
      (pss_one (ps_ret (pv 7))))), ?_⟩
    refine ⟨_, rfl, b, _, rfl, SqT.of hb, rfl, _, _, rfl, _, _, rfl, _, _, rfl, _, _, rfl, _, _, rfl, rfl, ?_⟩
    refine ⟨Nat.zero_le _, fun l hl => ?_⟩
    refine ⟨_, rfl, _, rfl, a, code, y.rest, rfl, C.mono (.new hl), sm.rl, fun H1 ps S => ?_⟩
    obtain ⟨s1, p0, as, hps, hpr⟩ := S
    refine ⟨ps, rfl, ⟨_, SqL.of hps⟩, ?_⟩
    have npl : ps ≠ l := fun z => by
      rw [z, upd_same] at p0
      cases p0
    have hlen := hpr.length
    refine for_it (walk_list (xs := as.map V.ref)) (fun i σ H2 => ∃ y8 y9 y10, σ = [some (.ref a), some (.ref b), some (.int (y.text.length : Nat)), some (cv y.text), some (cv y.rest), some (.ref fa), some (.ref ba), some (.ref l), y8, y9, y10] ∧
      H2 ps = some (.lst (as.map V.ref)) ∧ Paired (AtS H2) as (stepsFrom code y.rest) ∧ LstOf WayAt H H2 l (((stepsFrom code y.rest).take i).map (onStep y))) ⟨_, _, _, rfl, hps, hpr, ?_⟩ (fun i σ H1 _ p => ?_) (fun i x σ H1 H2 hi p yy => ?_) (fun σ H1 p => ?_)
    · exact ⟨(same_upd hl).trans s1, hl, [], s1 _ _ upd_same, .nil⟩
    · obtain ⟨_, _, _, _, p, _⟩ := p
      exact SqL.of p
    · obtain ⟨y8, y9, y10, rfl, hps, hpr, p⟩ := p
      obtain ⟨rfl, hx⟩ := yy
      rw [List.getElem?_map] at hx
      cases eas : as[i]? with
      | none => rw [eas] at hx; cases hx
      | some pi =>
        rw [eas] at hx
        cases hx
        obtain ⟨q, hq, hpi⟩ := pair_get hpr eas
        obtain ⟨num, bey, more⟩ := q
        refine ⟨pi, _, rfl, SqT.of hpi, rfl, _, _, rfl, _, _, rfl, _, _, rfl, rfl, ?_⟩
        obtain ⟨xs, hxs⟩ : ∃ xs, H2 l = some (.lst xs) := let ⟨ps, h, _⟩ := p.ex; ⟨_, h⟩
        have pl := p.len hxs
        have hst : (stepsFrom code y.rest).length ≤ 6 := Nat.le_trans (stepsTo_len _ _ _) C.len
        have hxl : xs.length ≤ 1000 := by
          rw [pl, List.length_map, List.length_take]
          omega
        have hml : more.length ≤ 1000 := by
          obtain ⟨h1, h2⟩ := stepsFrom_mem (List.mem_of_getElem? hq)
          rcases h2 with ⟨_, h2⟩ | ⟨_, h2, _⟩
          · have := congrArg List.length h2
            rw [List.length_append] at this
            have := sm.rl
            show more.length ≤ 1000
            simp only at *
            omega
          · have := congrArg List.length h2
            rw [List.length_append] at this
            have := C.wl _ (getD_some h1)
            show more.length ≤ 1000
            simp only at *
            omega
        have h5 := sm.tl
        have h6 := sm.ix
        have hfa2 : H2 fa = some (.tup (y.front.map nv)) := p.same _ _ hfa
        have hba2 : H2 ba = some (.tup (y.back.map nv)) := p.same _ _ hba
        have bne : y.back.map nv ≠ [] := fun z => sm.bne (List.map_eq_nil_iff.mp z)
        have tk := take_one hq
        have back1 : (y.back ++ [num]).map nv = y.back.map nv ++ [.int (num : Nat)] := by rw [List.map_append]; rfl
        refine ⟨_, rfl, _, rfl, ?_⟩
        cases bey with
        | true =>
          refine iteT ?_
          refine ⟨_, rfl, .inl ⟨rfl, _, SqL.of hxs⟩, _, rfl, _, rfl, _, rfl, by rw [tx_len]; exact small (by show more.length ≤ 100000; omega), _, _, rfl, rfl, _, rfl, _, rfl, _, _, rfl, rfl, by rw [tx_len, tx_len]; exact small (by show y.text.length + more.length ≤ 100000; omega), _, rfl, _, rfl, _, rfl, ?_⟩
          refine ⟨by show 1 ≤ sizeLine; decide, fun t1 ht1 => ?_⟩
          refine ⟨ba, t1, _, _, rfl, rfl, SqT.of (by rw [upd_ne (ne_of_none hba2 ht1)]; exact hba2), SqT.of upd_same, bne, by show (y.back.map nv).length + 1 ≤ sizeLine; rw [List.length_map]; exact small (by omega), fun z => (by cases z), fun _ t2 ht2 => ?_⟩
          refine ⟨_, rfl, by show 5 ≤ sizeLine; decide, fun t3 ht3 => ?_⟩
          -- the new way at t3, its back at t2
          have n21 : t2 ≠ t1 := fun z => by rw [z, upd_same] at ht2; cases ht2
          have hxs3 : (upd (upd (upd H2 t1 (.tup [.int (num : Nat)])) t2 (.tup (y.back.map nv ++ [.int (num : Nat)]))) t3 (.tup [.int ((y.text.length : Nat) + (tx more).length), .str (tx y.text ++ tx more), cv more, .ref t2, .ref fa])) l = some (.lst xs) := by
            have l1 : l ≠ t1 := ne_of_none hxs ht1
            have l2 : l ≠ t2 := fun z => by
              rw [← z, upd_ne l1, hxs] at ht2; cases ht2
            have l3 : l ≠ t3 := fun z => by
              rw [← z, upd_ne l2, upd_ne l1, hxs] at ht3; cases ht3
            rw [upd_ne l3, upd_ne l2, upd_ne l1]; exact hxs
          have T1 : Tups H2 (upd H2 t1 (.tup [.int (num : Nat)])) := .new ht1
          have T2 := T1.trans (.new (o := .tup (y.back.map nv ++ [.int (num : Nat)])) ht2)
          have T3 := T2.trans (.new (o := .tup [.int ((y.text.length : Nat) + (tx more).length), .str (tx y.text ++ tx more), cv more, .ref t2, .ref fa]) ht3)
          refine ⟨l, xs, _, rfl, rfl, hxs3, smallLt (by omega), ?_⟩
          refine ⟨_, _, _, rfl, ?_, L2.Paired.mapP hpr fun c d r => leansS _ _ _ _ (T3.trans (.lst hxs3)) r, ?_⟩
          · rw [upd_ne npl]
            have l1 : ps ≠ t1 := ne_of_none hps ht1
            have l2 : ps ≠ t2 := fun z => by
              rw [← z, upd_ne l1, hps] at ht2; cases ht2
            have l3 : ps ≠ t3 := fun z => by
              rw [← z, upd_ne l2, upd_ne l1, hps] at ht3; cases ht3
            rw [upd_ne l3, upd_ne l2, upd_ne l1]; exact hps
          · rw [tk, List.map_append]
            refine (((p.laid leansW ht1).laid leansW ht2).laid leansW ht3).push leansW hxs3 ?_
            refine ⟨t2, fa, ?_, ?_, T3 _ _ hfa2⟩
            · rw [upd_same, tx_len, tx_app]
              show some (HO.tup [.int ((y.text.length : Nat) + (more.length : Nat)), cv (y.text ++ more), cv more, .ref t2, .ref fa]) = some (HO.tup [.int ((y.text ++ more).length : Nat), cv (y.text ++ more), cv more, .ref t2, .ref fa])
              rw [List.length_append]
              rfl
            · have n32 : t2 ≠ t3 := fun z => by rw [← z, upd_same] at ht3; cases ht3
              rw [upd_ne n32, upd_same]
              show some (HO.tup (y.back.map nv ++ [.int (num : Nat)])) = some (HO.tup ((y.back ++ [num]).map nv))
              rw [back1]
        | false =>
          refine iteF ?_
          refine ⟨_, rfl, .inl ⟨rfl, _, SqL.of hxs⟩, _, rfl, _, rfl, _, rfl, _, rfl, _, rfl, _, rfl, ?_⟩
          refine ⟨by show 1 ≤ sizeLine; decide, fun t1 ht1 => ?_⟩
          refine ⟨ba, t1, _, _, rfl, rfl, SqT.of (by rw [upd_ne (ne_of_none hba2 ht1)]; exact hba2), SqT.of upd_same, bne, by show (y.back.map nv).length + 1 ≤ sizeLine; rw [List.length_map]; exact small (by omega), fun z => (by cases z), fun _ t2 ht2 => ?_⟩
          refine ⟨by show 5 ≤ sizeLine; decide, fun t3 ht3 => ?_⟩
          have n21 : t2 ≠ t1 := fun z => by rw [z, upd_same] at ht2; cases ht2
          have hxs3 : (upd (upd (upd H2 t1 (.tup [.int (num : Nat)])) t2 (.tup (y.back.map nv ++ [.int (num : Nat)]))) t3 (.tup [.int (y.text.length : Nat), cv y.text, cv more, .ref fa, .ref t2])) l = some (.lst xs) := by
            have l1 : l ≠ t1 := ne_of_none hxs ht1
            have l2 : l ≠ t2 := fun z => by
              rw [← z, upd_ne l1, hxs] at ht2; cases ht2
            have l3 : l ≠ t3 := fun z => by
              rw [← z, upd_ne l2, upd_ne l1, hxs] at ht3; cases ht3
            rw [upd_ne l3, upd_ne l2, upd_ne l1]; exact hxs
          have T1 : Tups H2 (upd H2 t1 (.tup [.int (num : Nat)])) := .new ht1
          have T2 := T1.trans (.new (o := .tup (y.back.map nv ++ [.int (num : Nat)])) ht2)
          have T3 := T2.trans (.new (o := .tup [.int (y.text.length : Nat), cv y.text, cv more, .ref fa, .ref t2]) ht3)
          refine ⟨l, xs, _, rfl, rfl, hxs3, smallLt (by omega), ?_⟩
          refine ⟨_, _, _, rfl, ?_, L2.Paired.mapP hpr fun c d r => leansS _ _ _ _ (T3.trans (.lst hxs3)) r, ?_⟩
          · rw [upd_ne npl]
            have l1 : ps ≠ t1 := ne_of_none hps ht1
            have l2 : ps ≠ t2 := fun z => by
              rw [← z, upd_ne l1, hps] at ht2; cases ht2
            have l3 : ps ≠ t3 := fun z => by
              rw [← z, upd_ne l2, upd_ne l1, hps] at ht3; cases ht3
            rw [upd_ne l3, upd_ne l2, upd_ne l1]; exact hps
          · rw [tk, List.map_append]
            refine (((p.laid leansW ht1).laid leansW ht2).laid leansW ht3).push leansW hxs3 ?_
            refine ⟨fa, t2, ?_, T3 _ _ hfa2, ?_⟩
            · rw [upd_same]
              rfl
            · have n32 : t2 ≠ t3 := fun z => by rw [← z, upd_same] at ht3; cases ht3
              rw [upd_ne n32, upd_same]
              show some (HO.tup (y.back.map nv ++ [.int (num : Nat)])) = some (HO.tup ((y.back ++ [num]).map nv))
              rw [back1]
    · obtain ⟨_, _, _, rfl, _, _, p⟩ := p
      refine ⟨_, rfl, k _ _ ?_⟩
      rw [List.length_map, hlen, List.take_length] at p
      exact p
end
end SWP
end
/-! ## SWRests -/
section
set_option maxHeartbeats 4000000
namespace SWP
open PySem L2 SW SWR
/-! ### the dict of rests -/
def fk (r : Wd) : Key × V := (Sum.inr (tx r), .bl true)
theorem fk_key {r s : Wd} : (fk r).1 = (Sum.inr (tx s) : Key) ↔ r = s := by
  constructor
  · intro h
    exact tx_inj (Sum.inr.inj h)
  · intro h; rw [h]; rfl
theorem valV_fk (r : Wd) : ∀ F : List Wd, valV (F.map fk) (Sum.inr (tx r)) = if r ∈ F then some (.bl true) else none
  | [] => rfl
  | s :: F => by
    rw [List.map_cons]
    by_cases h : s = r
    · rw [valV_pos (fk_key.mpr h), if_pos (by rw [h]; simp)]
      rfl
    · rw [valV_neg (fun z => h (fk_key.mp z)), valV_fk r F]
      have : (r ∈ s :: F) ↔ r ∈ F := by
        rw [List.mem_cons]
        exact ⟨fun z => z.elim (fun z => absurd z.symm h) id, .inr⟩
      simp only [this]
theorem putK_old {F : List Wd} {r : Wd} (h : r ∈ F) : putK (F.map fk) (Sum.inr (tx r)) (.bl true) = F.map fk := by
  unfold putK
  rw [valV_any, valV_fk, if_pos h]
  rw [if_pos (by rfl), List.map_map]
  refine List.map_congr_left fun s _ => ?_
  show (if (fk s).1 = (Sum.inr (tx r) : Key) then ((fk s).1, V.bl true) else fk s) = fk s
  split <;> rfl
theorem putK_add {F : List Wd} {r : Wd} (h : r ∉ F) : putK (F.map fk) (Sum.inr (tx r)) (.bl true) = (F ++ [r]).map fk := by
  rw [putK_new _ (by rw [valV_fk, if_neg h]), List.map_append]
  rfl
theorem keys_fk (F : List Wd) : (F.map fk).map (·.1) = (F.map tx).map Sum.inr := by
  rw [List.map_map, List.map_map]
  rfl
theorem kV_fk (F : List Wd) : ((F.map fk).map fun kv => kV kv.1) = F.map cv := by
  rw [List.map_map]
  rfl
theorem list_pop (S : List Wd) (c : Wd) : ((S ++ [c]).map cv)[((S ++ [c]).map cv).length - 1]? = some (cv c) ∧ ((S ++ [c]).map cv).dropLast = S.map cv := by
  constructor
  · simp
  · simp
def spRests : Sp := fun vs H Q _ => ∃ (a : Addr) (code : List Wd), vs = [.ref a] ∧ CodeAt H a code ∧ code.Nodup ∧ ∀ H' p (ys : List Str), Same H H' → H p = none → H' p = some (.lst (ys.map V.str)) → (∀ r, tx r ∈ ys ↔ Reach code r) → Q (.ref p) H'
section
variable {P : Program} {w : World} {K : PySem.W.Frag} {mg : Str → Option Value} {base : Heap}
theorem df_first {f : Addr} {fd : FuncData} (F : Fun K "first_steps" "first_steps" sFirst f fd) (T : Txt mg) (m : mg "first_steps" = some (.ref f)) : Df P w K mg base 1 "first_steps" ["code"] spFirst :=
  ⟨f, fd, ok_first F T, m, F.kp, F.binds fun _ _ _ _ _ _ us hl => match us, hl with | [_], _ => rfl⟩
theorem scRests : FnScope ["code", "rest", "found", "waiting", "number", "beyond", "more", "one", "other"] ["code"] (defScope sRests) := ⟨rfl, rfl, rfl, by decide +kernel, rfl, by decide +kernel, by decide +kernel⟩
/-- between two turns of the while -/
structure RW (code : List Wd) (H0 H1 : Hp) (d l : Addr) (F S : List Wd) (cur : Option (Wd × Nat)) : Prop where
  same : Same H0 H1
  d0 : H0 d = none
  l0 : H0 l = none
  hd : H1 d = some (.dK (F.map fk))
  hl : H1 l = some (.lst (S.map cv))
  inv : RInv code F S cur
theorem RW.laid {code : List Wd} {H0 H1 : Hp} {d l : Addr} {F S : List Wd} {cur : Option (Wd × Nat)} (r : RW code H0 H1 d l F S cur) {H2 : Hp} (h : Same H1 H2) : RW code H0 H2 d l F S cur :=
  ⟨r.same.trans h, r.d0, r.l0, h _ _ r.hd, h _ _ r.hl, r.inv⟩
theorem ok_rests {f : Addr} {fd : FuncData} (F : Fun K "rests_of" "rests_of" sRests f fd) (T : Txt mg) (DF : Df P w K mg base 1 "first_steps" ["code"] spFirst) (DS : Df P w K mg base 1 "steps_from" ["code", "rest"] spSteps) : FnOk P w K mg base CX0 2 f fd ["code"] spRests := by
  refine F.ok scRests (fun vs H Q E h => ?_) (fun cdv A outer s H vs Q E hr h => ?_)
  · obtain ⟨a, code, rfl, _⟩ := h
    rfl
  · obtain ⟨a, code, rfl, C, hn, k⟩ := h
    have nd := scRests.nd
    have hu := hu_of hr
    refine ⟨_, pss_cons (ps_setDc (i := 2) (own := [("one", 7), ("other", 8), ("rest", 1)]) (g := gTup K 3 (gCons (gName 7) (gCons (gName 8) (gCons (gName 1) gNil)))) (tt := tYes) rfl nd rfl rfl (sw_trueD rfl rfl rfl (by decide +kernel)) (pi_list (pe_df DF hr (by rfl) (pa_cons (pv 0) pa_nil)))
        (blkOk_by (own := [("one", 7), ("other", 8), ("rest", 1)]) (N := ["code", "rest", "found", "waiting", "number", "beyond", "more", "one", "other"]) (sc := defScope sRests) (by decide +kernel))
        (fun _ _ _ _ _ => pg_tup rfl (pgs_cons (pg_name (i := 7) nd rfl (.inl rfl)) (pgs_cons (pg_name (i := 8) nd rfl (.inl rfl)) (pgs_cons (pg_name (i := 1) nd rfl (.inl rfl)) pgs_nil))))
        (fun _ _ _ _ _ => pts_nil) (fun _ _ _ _ _ => pv 1) (fun _ _ _ _ _ => pe_bl))
      (pss_cons (ps_set (i := 3) nd rfl (.inl rfl) (pe_callTy (call_list_dK rfl) (by rfl) T.list (by decide +kernel) (pa_cons (pv 2) pa_nil)))
      (pss_cons (ps_while PassesOwn.never (pt_truth (pv 3) (by intro _; rfl))
        (pss_cons (ps_set (i := 1) nd rfl (.inl rfl) (pe_bm0 PySem.F.plainAttrs_list PySem.F.slot_list_pop PySem.F.type_list_pop mt_pop (pv 3)))
        (pss_one (ps_if (pt_truth (pv 1) (by intro _; rfl))
          (pss_one (ps_for PassesOwn.never rfl (pi_list (pe_df DS hr (by rfl) (pa_cons (pv 0) (pa_cons (pv 1) pa_nil))))
            (pg_tup rfl (pgs_cons (pg_name (i := 4) nd rfl (.inl rfl)) (pgs_cons (pg_name (i := 5) nd rfl (.inl rfl)) (pgs_cons (pg_name (i := 6) nd rfl (.inl rfl)) pgs_nil))))
            (pss_one (ps_if (pt_cmp (pc_dnotin hu (pv 6) (pv 2)))
              (pss_cons (ps_dput hu (pv 2) (pv 6) pe_bl rfl) (pss_one (ps_expr (pe_bm PySem.F.plainAttrs_list PySem.F.slot_list_append PySem.F.type_list_append mt_append (pv 3) (pa_cons (pv 6) pa_nil)))))
              pss_nil))))
          pss_nil))))
      (pss_one (ps_ret (pe_callB (call_sortedD rfl) (by rfl) T.sorted (by decide +kernel) (pa_cons (pv 2) pa_nil)))))), ?_⟩
    have hU : (univ code).length ≤ 36 := by
      have h1 := univ_len C.wl
      have h2 : code.length * (5 + 1) ≤ 6 * 6 := Nat.mul_le_mul_right _ C.len
      omega
    -- first_steps
    refine ⟨_, rfl, a, code, rfl, C, fun H1 ps S1 => ?_⟩
    obtain ⟨s1, p0, as, hps, hpr⟩ := S1
    refine ⟨ps, rfl, ⟨_, SqL.of hps⟩, fun d hd => ?_⟩
    have hlen := hpr.length
    have fsl : (firstSteps code).length ≤ 36 := firstTo_small C.len (Nat.le_refl _)
    -- the comprehension
    refine dc_it (walk_list (xs := as.map V.ref)) (fun i H2 => H1 d = none ∧ Same H1 H2 ∧ ∃ F, H2 d = some (.dK (F.map fk)) ∧ F.Nodup ∧ F.length ≤ i ∧ (∀ q ∈ (firstSteps code).take i, q.2.2 ∈ F) ∧ ∀ r ∈ F, Reach code r) ⟨hd, same_upd hd, [], upd_same, List.nodup_nil, Nat.le_refl _, by simp, by simp⟩ (fun i H2 _ p => SqL.of (p.2.1 _ _ hps)) (fun i x H2 H3 hi p yy => ?_) (fun H2 p => ?_)
    · obtain ⟨d0, sm, F, hF, fnd, fl, fin, frc⟩ := p
      obtain ⟨rfl, hx⟩ := yy
      rw [List.getElem?_map] at hx
      cases eas : as[i]? with
      | none => rw [eas] at hx; cases hx
      | some pi =>
        rw [eas] at hx
        cases hx
        obtain ⟨q, hq, hpi⟩ := pair_get hpr eas
        have hil : i < 36 := by
          rw [List.length_map] at hi
          omega
        refine ⟨pi, _, rfl, SqT.of (sm _ _ hpi), rfl, _, _, rfl, _, _, rfl, _, _, rfl, rfl, rfl, ?_⟩
        refine ⟨_, rfl, F.map fk, Sum.inr (tx q.2.2), rfl, hF, by rw [List.length_map]; exact smallLt (by omega), ?_⟩
        have rq : Reach code q.2.2 := by
          obtain ⟨h1, h2, h3, h4⟩ := firstSteps_mem hn (List.mem_of_getElem? hq)
          exact .first (getD_some h1) (getD_some h2) h3 h4
        refine ⟨d0, fun b o e => ?_, ?_⟩
        · rw [upd_ne (ne_of_none e d0)]
          exact sm b o e
        · by_cases hm : q.2.2 ∈ F
          · refine ⟨F, by rw [upd_same, putK_old hm], fnd, by omega, fun z hz => ?_, frc⟩
            rw [take_one hq] at hz
            rcases List.mem_append.mp hz with hz | hz
            · exact fin z hz
            · rw [List.mem_singleton.mp hz]; exact hm
          · refine ⟨F ++ [q.2.2], by rw [upd_same, putK_add hm], ?_, by rw [List.length_append, List.length_singleton]; omega, fun z hz => ?_, fun r hr => ?_⟩
            · rw [List.nodup_append]
              refine ⟨fnd, by simp, fun x hx y hy e => ?_⟩
              rw [List.mem_singleton.mp hy] at e
              exact hm (e ▸ hx)
            · rw [take_one hq] at hz
              rcases List.mem_append.mp hz with hz | hz
              · exact List.mem_append_left _ (fin z hz)
              · rw [List.mem_singleton.mp hz]; simp
            · rcases List.mem_append.mp hr with hr | hr
              · exact frc r hr
              · rw [List.mem_singleton.mp hr]; exact rq
    -- waiting = list(found)
    obtain ⟨_, sm, F, hF, fnd, fl, fin, frc⟩ := p
    refine ⟨_, rfl, d, _, rfl, hF, fun l hl => ?_⟩
    rw [kV_fk]
    have d0 : H d = none := s1.free hd
    have l0 : H l = none := s1.free (sm.free hl)
    have nld : d ≠ l := ne_of_none hF hl
    have start : RW code H (upd H2 l (.lst (F.map cv))) d l F F none := by
      refine ⟨(s1.trans sm).trans (same_upd hl), d0, l0, by rw [upd_ne nld]; exact hF, upd_same, fnd, frc, fun r h => h, by simp, fun q hq => fin q ?_, fun r h => .inl h⟩
      rw [List.length_map, hlen, List.take_length]
      exact hq
    -- the while
    refine ⟨fun m σ H1 => ∃ y1 y4 y5 y6 y7 y8 F S, σ = [some (.ref a), y1, some (.ref d), some (.ref l), y4, y5, y6, y7, y8] ∧ RW code H H1 d l F S none ∧ m = 2 * ((univ code).length - F.length) + S.length ∧ m ≤ 200, ⟨_, _, _, _, _, _, _, F, F, rfl, start, rfl, ?_⟩, ?_⟩
    · have := start.inv.len
      omega
    · rintro m σ H3 ⟨y1, y4, y5, y6, y7, y8, F, S, rfl, R, rfl, hm⟩
      refine ⟨_, rfl, _, .inl ⟨_, SqL.of R.hl, rfl⟩, ?_⟩
      rcases List.eq_nil_or_concat S with e | ⟨S', c, e⟩
      · subst e
        refine iteF ?_
        -- return sorted(found)
        refine ⟨_, rfl, d, _, F.map tx, rfl, Rd.of R.hd, keys_fk F, by rw [List.length_map]; have := R.inv.len; omega, fun ys p hp _ p0 => ?_⟩
        refine k _ p ys (R.same.trans (same_upd p0)) (R.same.free p0) upd_same fun r => ?_
        rw [hp.mem_iff, ← R.inv.done]
        constructor
        · intro h
          obtain ⟨s, hs, e⟩ := List.mem_map.mp h
          rw [← tx_inj e]; exact hs
        · intro h
          exact List.mem_map.mpr ⟨r, h, rfl⟩
      · rw [List.concat_eq_append] at e
        subst e
        have hb : (!((S' ++ [c]).map cv).isEmpty) = true := by simp
        rw [hb]
        refine iteT ?_
        refine ⟨fun σ' H' => ∃ y1 y4 y5 y6 y7 y8 F' S'', σ' = [some (.ref a), y1, some (.ref d), some (.ref l), y4, y5, y6, y7, y8] ∧ RW code H H' d l F' S'' none ∧ 2 * ((univ code).length - F'.length) + S''.length ≤ 2 * ((univ code).length - F.length) + S'.length, fun σ' H' h => ?_, ?_⟩
        · obtain ⟨y1, y4, y5, y6, y7, y8, F', S'', rfl, R', hm'⟩ := h
          rw [List.length_append, List.length_singleton] at hm ⊢
          exact ⟨_, by omega, _, _, _, _, _, _, F', S'', rfl, R', rfl, by omega⟩
        · -- rest = waiting.pop()
          obtain ⟨e1, e2⟩ := list_pop S' c
          refine ⟨_, rfl, .inl ⟨rfl, _, SqL.of R.hl⟩, l, _, _, rfl, rfl, R.hl, e1, ?_⟩
          rw [e2]
          have R1 : RW code H (upd H3 l (.lst (S'.map cv))) d l F S' (some (c, 0)) := by
            refine ⟨fun b o e => ?_, R.d0, R.l0, ?_, upd_same, R.inv.pop⟩
            · rw [upd_ne (ne_of_none e R.l0)]
              exact R.same b o e
            · rw [upd_ne (ne_of R.hd R.hl (by intro z; cases z))]
              exact R.hd
          have rc : Reach code c := R.inv.rch c (R.inv.sub c (by simp))
          have hcl : c.length ≤ 1000 := by
            obtain ⟨v, hv, ⟨t, ht⟩⟩ := rc.suf
            have h1 := C.wl v hv
            rw [← ht, List.length_append] at h1
            omega
          refine ⟨_, rfl, _, ⟨by rw [tx_len]; exact small (by omega), rfl⟩, ?_⟩
          rw [tx_len]
          by_cases hc0 : c = []
          · subst hc0
            refine iteF ?_
            exact ⟨_, _, _, _, _, _, F, S', rfl, ⟨R1.same, R1.d0, R1.l0, R1.hd, R1.hl, R1.inv.empty⟩, Nat.le_refl _⟩
          · have hb2 : ((c.length : Int) != 0) = true := by
              have := List.length_pos_iff.mpr hc0
              simp
              exact hc0
            rw [hb2]
            refine iteT ?_
            -- steps_from(code, rest)
            refine ⟨_, rfl, _, rfl, a, code, c, rfl, ⟨R1.same _ _ C.at_, C.len, C.wl⟩, hcl, fun H4 ps2 S2 => ?_⟩
            obtain ⟨s2, q0, as2, hps2, hpr2⟩ := S2
            refine ⟨ps2, rfl, ⟨_, SqL.of hps2⟩, ?_⟩
            have hlen2 := hpr2.length
            have R2 := R1.laid s2
            have n1 : ps2 ≠ l := fun z => by
              rw [z, upd_same] at q0; cases q0
            have n2 : ps2 ≠ d := (ne_of_none R1.hd q0).symm
            refine for_it (walk_list (xs := as2.map V.ref)) (fun i σ H5 => ∃ y4 y5 y6 F' S'', σ = [some (.ref a), some (cv c), some (.ref d), some (.ref l), y4, y5, y6, y7, y8] ∧ RW code H H5 d l F' S'' (some (c, i)) ∧
              H5 ps2 = some (.lst (as2.map V.ref)) ∧ Paired (AtS H5) as2 (stepsFrom code c) ∧ 2 * ((univ code).length - F'.length) + S''.length ≤ 2 * ((univ code).length - F.length) + S'.length) ⟨_, _, _, F, S', rfl, R2, hps2, hpr2, Nat.le_refl _⟩ (fun i σ H5 _ p => ?_) (fun i x σ H5 H6 hi p yy => ?_) (fun σ H5 p => ?_)
            · obtain ⟨_, _, _, _, _, _, _, p, _⟩ := p
              exact SqL.of p
            · obtain ⟨y4, y5, y6, F', S'', rfl, R3, hps3, hpr3, hm3⟩ := p
              obtain ⟨rfl, hx⟩ := yy
              rw [List.getElem?_map] at hx
              cases eas : as2[i]? with
              | none => rw [eas] at hx; cases hx
              | some pi =>
                rw [eas] at hx
                cases hx
                obtain ⟨q, hq, hpi⟩ := pair_get hpr3 eas
                refine ⟨pi, _, rfl, SqT.of hpi, rfl, _, _, rfl, _, _, rfl, _, _, rfl, rfl, ?_⟩
                have fl3 := R3.inv.len
                rw [List.length_append, List.length_singleton] at hm
                -- if more not in found
                refine ⟨_, rfl, _, rfl, d, _, rfl, DGet.k (k := Sum.inr (tx q.2.2)) R3.hd, _, rfl, ?_⟩
                rw [valV_fk]
                by_cases hmem : q.2.2 ∈ F'
                · rw [if_pos hmem]
                  refine iteF ?_
                  exact ⟨_, _, _, F', S'', rfl, ⟨R3.same, R3.d0, R3.l0, R3.hd, R3.hl, R3.inv.old hq hmem⟩, hps3, hpr3, hm3⟩
                · rw [if_neg hmem]
                  refine iteT ?_
                  refine ⟨_, rfl, _, rfl, d, _, rfl, DPut.k (k := Sum.inr (tx q.2.2)) R3.hd (by rw [List.length_map]; exact smallLt (by omega)), ?_⟩
                  rw [putK_add hmem]
                  have nl : l ≠ d := ne_of R3.hl R3.hd (by intro z; cases z)
                  have hl4 : (upd H6 d (.dK ((F' ++ [q.2.2]).map fk))) l = some (.lst (S''.map cv)) := by rw [upd_ne nl]; exact R3.hl
                  refine ⟨_, rfl, .inl ⟨rfl, _, SqL.of hl4⟩, _, rfl, l, _, _, rfl, rfl, hl4, by rw [List.length_map]; exact smallLt (by omega), ?_⟩
                  have v := R3.inv.new hc0 hq hmem
                  have vl := v.len
                  rw [List.length_append, List.length_singleton] at vl
                  refine ⟨_, _, _, F' ++ [q.2.2], S'' ++ [q.2.2], rfl, ⟨fun b o e => ?_, R3.d0, R3.l0, ?_, ?_, v⟩, ?_, ?_, ?_⟩
                  · rw [upd_ne (ne_of_none e R3.l0), upd_ne (ne_of_none e R3.d0)]
                    exact R3.same b o e
                  · rw [upd_ne nl.symm, upd_same]
                  · rw [upd_same, List.map_append]
                    rfl
                  · rw [upd_ne n1, upd_ne n2]
                    exact hps3
                  · exact L2.Paired.mapP hpr3 fun x y r => leansS _ _ _ _ ((Tups.dk R3.hd).trans (Tups.lst hl4)) r
                  · rw [List.length_append, List.length_singleton, List.length_append, List.length_singleton]
                    omega
            · obtain ⟨y4, y5, y6, F', S'', rfl, R3, _, _, hm3⟩ := p
              refine ⟨_, _, _, _, _, _, F', S'', rfl, ⟨R3.same, R3.d0, R3.l0, R3.hd, R3.hl, R3.inv.next ?_⟩, hm3⟩
              rw [List.length_map, hlen2]
              exact Nat.le_refl _
end
end SWP
end
/-! ## SWSort -/
section
set_option maxHeartbeats 2000000
namespace SWP
open PySem L2 SW SWR
def ni (l : List Nat) : List Int := l.map fun n => ((n : Nat) : Int)
theorem ni_nv (l : List Nat) : l.map nv = (ni l).map V.int := by
  unfold ni
  rw [List.map_map]
  rfl
/-- a way as data -/
def wd (y : Way) : PyData := .tuple [.int (y.text.length : Nat), .str (tx y.text), .str (tx y.rest), .tuple ((ni y.front).map .int), .tuple ((ni y.back).map .int)]
theorem wd_alike (y z : Way) : PySem.W.alike (wd y) (wd z) = true := by
  unfold wd
  simp [PySem.W.alike, PySem.W.alikeAll, PySem.W.alike_ints]
theorem wd_depth (y : Way) : (wd y).depth ≤ 8 := by
  unfold wd
  simp [PyData.depth, PyData.depthAll, PySem.W.depth_ints]
theorem dpAll_ints {K : PySem.W.Frag} {H : Hp} : ∀ l : List Int, DpAll K H (l.map V.int) (l.map .int)
  | [] => .nil
  | i :: l => .cons (.int i) (dpAll_ints l)
theorem wd_dp {K : PySem.W.Frag} {H : Hp} {p : Addr} {y : Way} (h : WayAt H p y) : Dp K H (.ref p) (wd y) := by
  obtain ⟨fa, ba, h1, h2, h3⟩ := h
  rw [ni_nv] at h2 h3
  exact .tup (SqT.of h1) (.cons (.int _) (.cons (.str _) (.cons (.str _) (.cons (.tup (SqT.of h2) (dpAll_ints _)) (.cons (.tup (SqT.of h3) (dpAll_ints _)) .nil)))))
theorem wd_le {β : Type} {k : β → Way} {a b : β} (h : PySem.W.dataLe false (fun x => wd (k x)) a b = true) : Sl (k a).text (k b).text := by
  have h' : (!PySem.W.dataLt (wd (k b)) (wd (k a))) = true := h
  rw [Bool.not_eq_true'] at h'
  unfold wd at h'
  rw [PySem.W.dataLt_tuple, PySem.W.dataLt_cons (by simp [PySem.W.alike])] at h'
  by_cases e : (k b).text.length = (k a).text.length
  · rw [if_pos (by simp [PyData.eqv, e]), PySem.W.dataLt_cons (by simp [PySem.W.alike])] at h'
    by_cases e2 : (k b).text = (k a).text
    · rw [e2]; exact Sl.refl _
    · rw [if_neg (by simp only [PyData.eqv, beq_iff_eq]; exact fun z => e2 (tx_inj z)), PySem.W.dataLt_str, tx_tl, tx_tl] at h'
      exact .inr ⟨e.symm, of_decide_eq_false h'⟩
  · rw [if_neg (by simp only [PyData.eqv, beq_iff_eq]; omega), PySem.W.dataLt_int] at h'
    have := of_decide_eq_false h'
    exact .inl (by omega)
/-- the sorted list: the first is least -/
theorem sorted_ways {bs : List (Addr × Way)} : (∀ b, b ∈ bs.mergeSort (PySem.W.dataLe false fun x => wd x.2) ↔ b ∈ bs) ∧ (bs.mergeSort (PySem.W.dataLe false fun x => wd x.2)).length = bs.length ∧
    ∀ p r, bs.mergeSort (PySem.W.dataLe false fun x => wd x.2) = p :: r → ∀ q ∈ r, Sl p.2.text q.2.text := by
  refine ⟨fun b => List.mem_mergeSort, List.length_mergeSort _, fun p r e q hq => ?_⟩
  have h := PySem.W.sort_pairwise (PySem.W.sortLe_total (PyProof.Rows.listOrd PyProof.Rows.itemOrd) false fun x : Addr × Way => PySem.W.keyToks (wd x.2)) bs
  have e' : bs.mergeSort (PySem.W.sortLe (PyProof.Rows.listOrd PyProof.Rows.itemOrd) false fun x : Addr × Way => PySem.W.keyToks (wd x.2)) = p :: r := e
  rw [e'] at h
  exact wd_le (k := fun x : Addr × Way => x.2) ((List.pairwise_cons.mp h).1 q hq)
theorem zip_fst {R : Addr → Way → Prop} : ∀ {ps : List Addr} {ws : List Way}, Paired R ps ws → (ps.zip ws).map (fun b => V.ref b.1) = ps.map V.ref
  | _, _, .nil => rfl
  | _, _, .cons _ t => by rw [List.zip_cons_cons, List.map_cons, List.map_cons, zip_fst t]
theorem zip_snd {R : Addr → Way → Prop} : ∀ {ps : List Addr} {ws : List Way}, Paired R ps ws → (ps.zip ws).map (·.2) = ws
  | _, _, .nil => rfl
  | _, _, .cons _ t => by rw [List.zip_cons_cons, List.map_cons, zip_snd t]
theorem zip_mem {R : Addr → Way → Prop} : ∀ {ps : List Addr} {ws : List Way}, Paired R ps ws → ∀ b ∈ ps.zip ws, R b.1 b.2
  | _, _, .nil, b, h => absurd h (by simp)
  | _, _, .cons r t, b, h => by
    rw [List.zip_cons_cons] at h
    rcases List.mem_cons.mp h with e | h
    · rw [e]; exact r
    · exact zip_mem t b h
theorem pair_of {R : Addr → Way → Prop} : ∀ {bs : List (Addr × Way)}, (∀ b ∈ bs, R b.1 b.2) → Paired R (bs.map (·.1)) (bs.map (·.2))
  | [], _ => .nil
  | b :: bs, h => .cons (h b List.mem_cons_self) (pair_of fun c hc => h c (List.mem_cons_of_mem _ hc))
end SWP
end
/-! ## SWFirstWay -/
section
set_option maxHeartbeats 4000000
namespace SWP
open PySem L2 SW SWR
theorem ix_tupK {X : Cx} {K : PySem.W.Frag} (h : X.K = K) : IxR X (rIxT K) := by
  subst h
  exact ix_tup
theorem eq_nil_dec (r : Wd) : decide (cv r = V.str (Str.ofString "")) = decide (r = []) := by
  rw [tx_nil]
  exact cv_eq r []
def spFirstWay : Sp := fun vs H Q _ => ∃ (a : Addr) (code : List Wd), vs = [.ref a] ∧ CodeAt H a code ∧ code.Nodup ∧
  (∀ H', Same H H' → Told code none → Q .non H') ∧ ∀ H' b y, Same H H' → WayAt H' b y → Told code (some y.text) → y.text.length ≤ 1000 → Q (.ref b) H'
/-- between two turns of the while -/
structure FW (code : List Wd) (H0 H1 : Hp) (d l : Addr) (W : List Way) (Kn : List Wd) : Prop where
  same : Same H0 H1
  d0 : H0 d = none
  hd : H1 d = some (.dK (Kn.map fk))
  ls : LstOf WayAt H0 H1 l W
  inv : ∃ T, DInv code 5 W Kn T
section
variable {P : Program} {w : World} {K : PySem.W.Frag} {mg : Str → Option Value} {base : Heap}
theorem df_waysOn {f : Addr} {fd : FuncData} (F : Fun K "ways_on" "ways_on" sWaysOn f fd) (T : Txt mg) (DS : Df P w K mg base 1 "steps_from" ["code", "rest"] spSteps) (m : mg "ways_on" = some (.ref f)) : Df P w K mg base 2 "ways_on" ["code", "way"] spWaysOn :=
  ⟨f, fd, ok_waysOn F T DS, m, F.kp, F.binds fun _ _ _ _ _ _ us hl => match us, hl with | [_, _], _ => rfl⟩
theorem scFirstWay : FnScope ["code", "waiting", "known", "way", "one", "other", "rest"] ["code"] (defScope sFirstWay) := ⟨rfl, rfl, rfl, by decide +kernel, rfl, by decide +kernel, by decide +kernel⟩
theorem ok_firstWay {f : Addr} {fd : FuncData} (F : Fun K "first_way" "first_way" sFirstWay f fd) (T : Txt mg) (DF : Df P w K mg base 1 "first_steps" ["code"] spFirst) (DW : Df P w K mg base 2 "ways_on" ["code", "way"] spWaysOn) : FnOk P w K mg base CX0 3 f fd ["code"] spFirstWay := by
  refine F.ok scFirstWay (fun vs H Q E h => ?_) (fun cdv A outer s H vs Q E hr h => ?_)
  · obtain ⟨a, code, rfl, _⟩ := h
    rfl
  · obtain ⟨a, code, rfl, C, hn, kN, kS⟩ := h
    have nd := scFirstWay.nd
    have hu := hu_of hr
    refine ⟨_, pss_cons (ps_setLc (i := 1) (own := [("one", 4), ("other", 5), ("rest", 6)]) (g := gTup K 3 (gCons (gName 4) (gCons (gName 5) (gCons (gName 6) gNil)))) (tt := tYes) rfl nd rfl rfl (sw_true rfl rfl rfl (by decide +kernel)) (pi_list (pe_df DF (hr.mono (by decide)) (by rfl) (pa_cons (pv 0) pa_nil)))
        (blkOk_by (own := [("one", 4), ("other", 5), ("rest", 6)]) (N := ["code", "waiting", "known", "way", "one", "other", "rest"]) (sc := defScope sFirstWay) (by decide +kernel))
        (fun _ _ _ _ _ => pg_tup rfl (pgs_cons (pg_name (i := 4) nd rfl (.inl rfl)) (pgs_cons (pg_name (i := 5) nd rfl (.inl rfl)) (pgs_cons (pg_name (i := 6) nd rfl (.inl rfl)) pgs_nil))))
        (fun _ _ _ _ _ => pts_nil)
        (fun _ _ _ _ _ => pe_tup (pa_cons (pe_callB call_len_str (by rfl) T.len PySem.boot_len (pa_cons (pe_ix (ix_tupK (K := K) rfl) (pv 0) (pv 4) (fun _ _ => rfl)) pa_nil)) (pa_cons (pe_ix (ix_tupK (K := K) rfl) (pv 0) (pv 4) (fun _ _ => rfl))
          (pa_cons (pv 6) (pa_cons (pe_tup (pa_cons (pv 4) pa_nil)) (pa_cons (pe_tup (pa_cons (pv 5) pa_nil)) pa_nil)))))))
      (pss_cons (ps_set (i := 2) nd rfl (.inl rfl) pe_dnewK)
      (pss_cons (ps_while PassesOwn.never (pt_truth (pv 1) (by intro _; rfl))
        (pss_cons (ps_set (i := 1) nd rfl (.inl rfl) (pe_callB (cr_sortedDt hr.units) (by rfl) T.sorted PyProof.Rows.boot_sorted (pa_cons (pv 1) pa_nil)))
        (pss_cons (ps_set (i := 3) nd rfl (.inl rfl) (pe_bm PySem.F.plainAttrs_list PySem.F.slot_list_pop PySem.F.type_list_pop mt_popAt (pv 1) (pa_cons pe_int pa_nil)))
        (pss_cons (ps_if (pt_cmpR op_eq (pe_ix ix_tup (pv 3) pe_int (fun _ _ => rfl)) pe_str (nomark _)) (pss_one (ps_ret (pv 3))) pss_nil)
        (pss_one (ps_if (pt_cmp (pc_dnotin hu (pe_ix ix_tup (pv 3) pe_int (fun _ _ => rfl)) (pv 2)))
          (pss_cons (ps_dput hu (pv 2) (pe_ix ix_tup (pv 3) pe_int (fun _ _ => rfl)) pe_bl rfl)
            (pss_one (ps_expr (pe_bm PySem.F.plainAttrs_list PySem.F.slot_list_extend PySem.F.type_list_extend mt_extend (pv 1) (pa_cons (pe_df DW hr (by rfl) (pa_cons (pv 0) (pa_cons (pv 3) pa_nil))) pa_nil)))))
          pss_nil))))))
      (pss_one (ps_ret pe_non)))), ?_⟩
    have hU : (univ code).length ≤ 36 := by
      have h1 := univ_len C.wl
      have h2 : code.length * (5 + 1) ≤ 6 * 6 := Nat.mul_le_mul_right _ C.len
      omega
    have hcl := C.len
    -- first_steps
    refine ⟨_, rfl, a, code, rfl, C, fun H1 ps S1 => ?_⟩
    obtain ⟨s1, p0, as, hps, hpr⟩ := S1
    refine ⟨ps, rfl, ⟨_, SqL.of hps⟩, fun l hl => ?_⟩
    have hlen := hpr.length
    have fsl : (firstSteps code).length ≤ 36 := firstTo_small C.len (Nat.le_refl _)
    -- the comprehension
    refine lc_it (walk_list (xs := as.map V.ref)) (fun i H2 => LstOf WayAt H1 H2 l (((firstSteps code).take i).map (startWay code))) ⟨same_upd hl, hl, [], upd_same, .nil⟩ (fun i H2 _ p => SqL.of (p.same _ _ hps)) (fun i x H2 H3 hi p yy => ?_) (fun H2 p => ?_)
    · obtain ⟨rfl, hx⟩ := yy
      rw [List.getElem?_map] at hx
      cases eas : as[i]? with
      | none => rw [eas] at hx; cases hx
      | some pi =>
        rw [eas] at hx
        cases hx
        obtain ⟨q, hq, hpi⟩ := pair_get hpr eas
        have hil : i < 36 := by
          rw [List.length_map] at hi
          omega
        obtain ⟨hq1, hq2, hq3, hq4⟩ := firstSteps_mem hn (List.mem_of_getElem? hq)
        have ca : H3 a = some (.tup (code.map cv)) := p.same _ _ (s1 _ _ C.at_)
        have cat : atI (code.map cv) ((q.1 : Nat) : Int) = some (cv (code.getD q.1 [])) := atI_nat (by
          rw [List.getElem?_map, List.getD_eq_getElem?_getD, List.getElem?_eq_getElem hq1]
          rfl)
        have wl := C.wl _ (getD_some hq1)
        obtain ⟨xs, hxs⟩ : ∃ xs, H3 l = some (.lst xs) := let ⟨ps, h, _⟩ := p.ex; ⟨_, h⟩
        have pl := p.len hxs
        refine ⟨pi, _, rfl, SqT.of (p.same _ _ hpi), rfl, _, _, rfl, _, _, rfl, _, _, rfl, rfl, rfl, ?_⟩
        refine ⟨_, rfl, _, rfl, a, _, _, _, rfl, rfl, SqT.of ca, cat, _, rfl, by rw [tx_len]; exact small (by omega), ?_⟩
        refine ⟨_, rfl, _, rfl, a, _, _, _, rfl, rfl, SqT.of ca, cat, _, rfl, _, rfl, by show 1 ≤ sizeLine; decide, fun t1 ht1 => ⟨_, rfl, by show 1 ≤ sizeLine; decide, fun t2 ht2 => ⟨by show 5 ≤ sizeLine; decide, fun t3 ht3 => ?_⟩⟩⟩
        have n12 : t1 ≠ t2 := fun z => by rw [← z, upd_same] at ht2; cases ht2
        have n13 : t1 ≠ t3 := fun z => by rw [← z, upd_ne n12, upd_same] at ht3; cases ht3
        have n23 : t2 ≠ t3 := fun z => by rw [← z, upd_same] at ht3; cases ht3
        have l1 : l ≠ t1 := ne_of_none hxs ht1
        have l2 : l ≠ t2 := fun z => by
          rw [← z, upd_ne l1, hxs] at ht2; cases ht2
        have l3 : l ≠ t3 := fun z => by
          rw [← z, upd_ne l2, upd_ne l1, hxs] at ht3; cases ht3
        refine ⟨xs, by rw [upd_ne l3, upd_ne l2, upd_ne l1]; exact hxs, smallLt (by rw [pl, List.length_map, List.length_take]; omega), ?_⟩
        rw [take_one hq, List.map_append]
        refine (((p.laid leansW ht1).laid leansW ht2).laid leansW ht3).push leansW (by rw [upd_ne l3, upd_ne l2, upd_ne l1]; exact hxs) ?_
        refine ⟨t1, t2, ?_, ?_, ?_⟩
        · rw [upd_same, tx_len]
          rfl
        · rw [upd_ne n13, upd_ne n12, upd_same]
          rfl
        · rw [upd_ne n23, upd_same]
          rfl
    rw [List.length_map, hlen, List.take_length] at p
    -- known = {}
    intro d hd
    have hd' : H2 d = none := hd
    have start : FW code H (upd H2 d (.dK [])) d l (startWays code) [] := by
      have p1 := p.laid leansW (o := .dK []) hd'
      refine ⟨s1.trans p1.same, s1.free (p.same.free hd'), upd_same, ⟨s1.trans p1.same, s1.free p.l0, p1.ex⟩, _, DInv.start hn C.wl⟩
    -- the while
    refine ⟨fun m σ H3 => ∃ y3 y4 y5 y6 l W Kn, σ = [some (.ref a), some (.ref l), some (.ref d), y3, y4, y5, y6] ∧ FW code H H3 d l W Kn ∧ m = 7 * ((univ code).length - Kn.length) + W.length, ⟨_, _, _, _, _, l, _, [], rfl, start, rfl⟩, ?_⟩
    rintro m σ H3 ⟨y3, y4, y5, y6, l, W, Kn, rfl, R, rfl⟩
    obtain ⟨sm, d0, hd3, ⟨_, l0, qs, hqs, hqp⟩, Tx, D⟩ := R
    have hk := D.kLen
    have hwz := D.size
    have hWl : W.length ≤ 252 := by
      have h1 : code.length * code.length ≤ 6 * 6 := Nat.mul_le_mul hcl hcl
      have h2 : code.length * Kn.length ≤ 6 * 36 := Nat.mul_le_mul hcl (by omega)
      omega
    refine ⟨_, rfl, _, .inl ⟨_, SqL.of hqs, rfl⟩, ?_⟩
    cases W with
    | nil =>
      cases hqp
      refine iteF ?_
      exact kN _ sm D.none
    | cons y0 W0 =>
      cases hqp with
      | @cons q0 _ qs0 _ r0 rs0 =>
      refine iteT ?_
      have hqp : Paired (WayAt H3) (q0 :: qs0) (y0 :: W0) := .cons r0 rs0
      generalize hW : y0 :: W0 = W at D hqp hk hwz hWl ⊢
      generalize hqq : q0 :: qs0 = qs at hqs hqp
      have hWpos : 0 < W.length := by rw [← hW]; exact Nat.succ_pos _
      refine ⟨fun σ' H' => ∃ y3 y4 y5 y6 l W' Kn', σ' = [some (.ref a), some (.ref l), some (.ref d), y3, y4, y5, y6] ∧ FW code H H' d l W' Kn' ∧ 7 * ((univ code).length - Kn'.length) + W'.length < 7 * ((univ code).length - Kn.length) + W.length, fun σ' H' h => ?_, ?_⟩
      · obtain ⟨y3, y4, y5, y6, l, W', Kn', rfl, R', hm'⟩ := h
        exact ⟨_, hm', _, _, _, _, l, W', Kn', rfl, R', rfl⟩
      -- waiting = sorted(waiting)
      have hz := zip_mem hqp
      refine ⟨_, rfl, Addr × Way, l, qs.zip W, fun b => .ref b.1, fun b => wd b.2, rfl, SqL.of (by rw [zip_fst hqp]; exact hqs), fun b hb => wd_dp (hz b hb), PySem.W.AllAlike.of fun _ _ => wd_alike _ _, PySem.W.Sortable.tuples fun _ => ⟨_, _, rfl⟩, fun b _ => wd_depth _, fun l2 hl2 => ?_⟩
      obtain ⟨sw1, sw2, sw3⟩ := sorted_ways (bs := qs.zip W)
      generalize hbs : (qs.zip W).mergeSort (PySem.W.dataLe false fun b => wd b.2) = bs at sw1 sw2 sw3 ⊢
      have hzl : (qs.zip W).length = W.length := by
        have h1 := hqp.length
        rw [List.length_zip]; omega
      cases bs with
      | nil =>
        exfalso
        rw [List.length_nil] at sw2
        omega
      | cons b0 bs =>
        obtain ⟨q1, y1⟩ := b0
        have sw3 := sw3 _ _ rfl
        have hR : ∀ b ∈ (q1, y1) :: bs, WayAt H3 b.1 b.2 := fun b hb => hz b ((sw1 b).mp hb)
        have hW1 : ∀ y, y ∈ y1 :: bs.map (·.2) ↔ y ∈ W := by
          have e := zip_snd hqp
          intro y
          rw [show y1 :: bs.map (·.2) = ((q1, y1) :: bs).map (·.2) from rfl, List.mem_map]
          constructor
          · rintro ⟨b, hb, e2⟩
            rw [← e, ← e2]
            exact List.mem_map.mpr ⟨b, (sw1 b).mp hb, rfl⟩
          · intro h
            rw [← e] at h
            obtain ⟨b, hb, e2⟩ := List.mem_map.mp h
            exact ⟨b, (sw1 b).mpr hb, e2⟩
        have hWlen : (y1 :: bs.map (·.2)).length = W.length := by
          rw [List.length_cons, List.length_map, ← hzl, ← sw2, List.length_cons]
        have D1 := D.perm hW1 hWlen
        have hmin : ∀ y ∈ bs.map (·.2), Sl y1.text y.text := fun y hy => by
          obtain ⟨b, hb, e⟩ := List.mem_map.mp hy
          rw [← e]
          exact sw3 b hb
        have t2 : Tups H3 (upd H3 l2 (.lst (((q1, y1) :: bs).map fun b => V.ref b.1))) := .new hl2
        -- way = waiting.pop(0)
        refine ⟨_, rfl, .inl ⟨rfl, _, SqL.of upd_same⟩, l2, _, 0, 0, .ref q1, rfl, rfl, upd_same, by decide, by decide, ?_, rfl, ?_⟩
        · show seqIndex? 0 (((q1, y1) :: bs).map fun b => V.ref b.1).length = some 0
          rw [List.length_map, List.length_cons]
          unfold seqIndex?
          simp
          try omega
        rw [upd_upd]
        have e0 : (((q1, y1) :: bs).map fun b => V.ref b.1).eraseIdx 0 = (bs.map (·.1)).map V.ref := by
          rw [List.map_map]
          rfl
        rw [e0]
        have t3 : Tups H3 (upd H3 l2 (.lst ((bs.map (·.1)).map V.ref))) := .new hl2
        have s3 : Same H (upd H3 l2 (.lst ((bs.map (·.1)).map V.ref))) := sm.trans (same_upd hl2)
        have nd2 : d ≠ l2 := ne_of_none hd3 hl2
        have hd4 : (upd H3 l2 (.lst ((bs.map (·.1)).map V.ref))) d = some (.dK (Kn.map fk)) := by rw [upd_ne nd2]; exact hd3
        have w1 : WayAt (upd H3 l2 (.lst ((bs.map (·.1)).map V.ref))) q1 y1 := leansW _ _ _ _ t3 (hR _ List.mem_cons_self)
        have wp : Paired (WayAt (upd H3 l2 (.lst ((bs.map (·.1)).map V.ref)))) (bs.map (·.1)) (bs.map (·.2)) := pair_of fun b hb => leansW _ _ _ _ t3 (hR b (List.mem_cons_of_mem _ hb))
        have l20 : H l2 = none := sm.free hl2
        have ok1 := D1.ok y1 List.mem_cons_self
        have tl1 : y1.text.length ≤ 1000 := by
          have := ok1.len
          have : 5 * (Kn.length + 1) ≤ 5 * 37 := Nat.mul_le_mul_left _ (by omega)
          omega
        obtain ⟨fa, ba, hw1, hw2, hw3⟩ := id w1
        -- if way[2] == ""
        refine ⟨_, rfl, q1, _, _, _, rfl, rfl, SqT.of hw1, atI_nat (j := 2) rfl, rfl, _, rfl, ?_⟩
        rw [eq_nil_dec]
        refine ite2 (fun c => ?_) (fun c => ?_)
        · have c := of_decide_eq_true c
          refine ⟨_, rfl, ?_⟩
          obtain ⟨f1, f2⟩ := D1.found List.mem_cons_self (fun y hy => by
            rcases List.mem_cons.mp hy with e | hy
            · rw [e]; exact Sl.refl _
            · exact hmin y hy) c
          exact kS _ _ _ s3 w1 ⟨f1, f2⟩ tl1
        · have c : y1.rest ≠ [] := fun z => c (decide_eq_true z)
          -- if way[2] not in known
          refine ⟨_, rfl, q1, _, _, _, rfl, rfl, SqT.of hw1, atI_nat (j := 2) rfl, _, rfl, d, _, rfl, DGet.k (k := Sum.inr (tx y1.rest)) hd4, _, rfl, ?_⟩
          rw [valV_fk]
          rw [List.length_cons, List.length_map] at hWlen
          by_cases hmem : y1.rest ∈ Kn
          · rw [if_pos hmem]
            refine iteF ?_
            refine ⟨_, _, _, _, l2, bs.map (·.2), Kn, rfl, ⟨s3, d0, hd4, ⟨s3, l20, _, upd_same, wp⟩, Tx, D1.skip hmem⟩, ?_⟩
            rw [List.length_map]
            omega
          · rw [if_neg hmem]
            refine iteT ?_
            -- known[way[2]] = True
            refine ⟨_, rfl, _, rfl, q1, _, _, _, rfl, rfl, SqT.of hw1, atI_nat (j := 2) rfl, d, _, rfl, DPut.k (k := Sum.inr (tx y1.rest)) hd4 (by rw [List.length_map]; exact smallLt (by omega)), ?_⟩
            rw [putK_add hmem]
            have t5 := t3.trans (.dk (o := .dK ((Kn ++ [y1.rest]).map fk)) hd4)
            have s5 : Same H (upd (upd H3 l2 (.lst ((bs.map (·.1)).map V.ref))) d (.dK ((Kn ++ [y1.rest]).map fk))) := fun b o e => by
              rw [upd_ne (ne_of_none e d0)]
              exact s3 b o e
            have hl5 : (upd (upd H3 l2 (.lst ((bs.map (·.1)).map V.ref))) d (.dK ((Kn ++ [y1.rest]).map fk))) l2 = some (.lst ((bs.map (·.1)).map V.ref)) := by rw [upd_ne nd2.symm, upd_same]
            have w5 : WayAt (upd (upd H3 l2 (.lst ((bs.map (·.1)).map V.ref))) d (.dK ((Kn ++ [y1.rest]).map fk))) q1 y1 := leansW _ _ _ _ (.dk hd4) w1
            have rl1 : y1.rest.length ≤ 1000 := by
              obtain ⟨v, hv, ⟨t, ht⟩⟩ := ok1.reach.suf
              have h1 := C.wl v hv
              rw [← ht, List.length_append] at h1
              omega
            -- waiting.extend(ways_on(code, way))
            refine ⟨_, rfl, .inl ⟨rfl, _, SqL.of hl5⟩, _, rfl, _, rfl, a, q1, code, y1, rfl, ⟨s5 _ _ C.at_, C.len, C.wl⟩, w5, ⟨tl1, rl1, by have := ok1.ix; omega, ok1.fne, ok1.bne⟩, fun H6 p6 L6 => ?_⟩
            obtain ⟨s6, p60, ps6, hp6, hpp6⟩ := L6
            have hl6 := s6 _ _ hl5
            have hon : (waysOn code y1).length ≤ 6 := by
              unfold waysOn
              rw [List.length_map]
              exact Nat.le_trans (stepsTo_len _ _ _) C.len
            have hl6' := hpp6.length
            refine ⟨l2, p6, _, _, rfl, rfl, hl6, hp6, by rw [List.length_map, List.length_map, List.length_map]; exact small (by omega), ?_⟩
            have D2 := D1.new C.wl hmin hmem c
            have hk2 := D2.kLen
            rw [List.length_append, List.length_singleton] at hk2
            have t7 := (Tups.same s6).trans (.lst (o := .lst ((bs.map (·.1)).map V.ref ++ ps6.map V.ref)) hl6)
            refine ⟨_, _, _, _, l2, bs.map (·.2) ++ waysOn code y1, Kn ++ [y1.rest], rfl, ⟨fun b o e => ?_, d0, ?_, ⟨fun b o e => ?_, l20, bs.map (·.1) ++ ps6, ?_, ?_⟩, _, D2⟩, ?_⟩
            · rw [upd_ne (ne_of_none e l20)]
              exact s6 _ _ (s5 b o e)
            · rw [upd_ne nd2]
              exact s6 _ _ upd_same
            · rw [upd_ne (ne_of_none e l20)]
              exact s6 _ _ (s5 b o e)
            · rw [upd_same, List.map_append]
            · refine pair_app ?_ ?_
              · exact L2.Paired.mapP wp fun x y r => leansW _ _ _ _ ((Tups.dk hd4).trans t7) r
              · exact L2.Paired.mapP hpp6 fun x y r => leansW _ _ _ _ (.lst hl6) r
            · rw [List.length_append, List.length_append, List.length_singleton, List.length_map]
              omega
end
end SWP
end
/-! ## SWCheck -/
section
set_option maxHeartbeats 4000000
namespace SWP
open PySem L2 SW SWR
theorem op_notIn_seqK {X : Cx} {K : PySem.W.Frag} (h : X.K = K) : OpR X (compareOp .NotIn) (rIn K true) := by
  subst h
  exact op_notIn_seq
theorem sl_tupK {X : Cx} {K : PySem.W.Frag} (h : X.K = K) : SlR X (rSlT K) := by
  subst h
  exact sl_tup
/-- what the law's codes are -/
structure Good (code : List Wd) : Prop where
  nd : code.Nodup
  ne : ∀ w ∈ code, w ≠ []
  abc : ∀ w ∈ code, ∀ c ∈ w, c = 97 ∨ c = 98 ∨ c = 99
/-- the constants of the module -/
structure Cst (mg : Str → Option Value) : Prop where
  letters : ∃ t, mg "LETTERS" = some (.str (Str.ofString "abc") t)
  words : ∃ t, mg "MOST_WORDS" = some (.int 6 t)
  longest : ∃ t, mg "LONGEST_WORD" = some (.int 5 t)
def spSpelled : Sp := fun vs H Q _ => ∃ (z : Wd) (lo hi : Int), vs = [cv z, .int lo, .int hi] ∧ lo ≤ z.length ∧ (z.length : Int) ≤ hi ∧ z.length ≤ 1000 ∧ (∀ c ∈ z, c = 97 ∨ c = 98 ∨ c = 99) ∧ ∀ H', Same H H' → Q (.bl true) H'
theorem abc_tl : (Str.ofString "abc").cps.toList = [97, 98, 99] := by decide +kernel
theorem all_rep (n : Nat) : (List.replicate n true).all id = true := by
  rw [List.all_eq_true]
  intro x hx
  rw [List.eq_of_mem_replicate hx]
  rfl
/-- the list at D, made since H1: n times True -/
def TrueList (H1 H : Hp) (D : Addr) (n : Nat) : Prop := Same H1 H ∧ H1 D = none ∧ H D = some (.lst ((List.replicate n true).map V.bl))
theorem TrueList.push {H1 H : Hp} {D : Addr} {n : Nat} (t : TrueList H1 H D n) : TrueList H1 (upd H D (.lst ((List.replicate n true).map V.bl ++ [.bl true]))) D (n + 1) := by
  obtain ⟨s, d0, h⟩ := t
  refine ⟨fun b o e => ?_, d0, ?_⟩
  · rw [upd_ne (ne_of_none e d0)]
    exact s b o e
  · rw [upd_same, List.replicate_succ', List.map_append]
    rfl
theorem TrueList.laid {H1 H H2 : Hp} {D : Addr} {n : Nat} (t : TrueList H1 H D n) (s : Same H H2) : TrueList H1 H2 D n := ⟨t.1.trans s, t.2.1, s _ _ t.2.2⟩
section
variable {P : Program} {w : World} {K : PySem.W.Frag} {mg : Str → Option Value} {base : Heap}
theorem scSpelled : FnScope ["value", "low", "high", "letter"] ["value", "low", "high"] (defScope sSpelled) := ⟨rfl, rfl, rfl, by decide +kernel, rfl, by decide +kernel, by decide +kernel⟩
theorem ok_spelled {f : Addr} {fd : FuncData} (F : Fun K "is_spelled" "is_spelled" sSpelled f fd) (T : Txt mg) (B : Cst mg) : FnOk P w K mg base CX0 1 f fd ["value", "low", "high"] spSpelled := by
  refine F.ok scSpelled (fun vs H Q E h => ?_) (fun cdv A outer s H vs Q E hr h => ?_)
  · obtain ⟨z, lo, hi, rfl, _⟩ := h
    rfl
  · obtain ⟨z, lo, hi, rfl, hlo, hhi, hzl, habc, k⟩ := h
    have nd := scSpelled.nd
    obtain ⟨tL, mL⟩ := B.letters
    refine ⟨_, pss_one (ps_ret (pe_and (pe_callB call_isi (by rfl) T.isinstance PyProof.Rows.boot_isinstance (pa_cons (pv 0) (pa_cons (pe_bltn (v := .ty "str") (by rfl) T.str (by decide +kernel) rfl) pa_nil)))
      (pe_and (pe_chain op_le op_le (pv 1) (pe_callB call_len_str (by rfl) T.len PySem.boot_len (pa_cons (pv 0) pa_nil)) (pv 2))
      (pe_one (pe_callB (cr_all rfl) (by rfl) T.all (by decide +kernel) (pa_cons (pe_lc (own := [("letter", 3)]) (g := gName 3) (tt := tYes) (by rfl) nd (pi_str (pv 0)) (blkOk_by (own := [("letter", 3)]) (N := ["value", "low", "high", "letter"]) (sc := defScope sSpelled) (by decide +kernel))
        (fun _ _ _ _ _ => pg_name (i := 3) nd rfl (.inl rfl)) (fun _ _ _ _ _ => pts_nil) (fun _ _ _ _ _ => pe_cmpR op_in_sign (pv 3) (pe_glob (v := .str (Str.ofString "abc")) (by rfl) mL ⟨_, rfl⟩) rfl)) pa_nil)))))), ?_⟩
    refine ⟨_, rfl, _, _, _, _, true, rfl, .ty _, .base (.str _), kit_ty (by decide +kernel), _, rfl, ?_⟩
    refine iteT ?_
    refine ⟨_, rfl, _, rfl, _, rfl, by rw [tx_len]; exact small (by omega), _, _, rfl, rfl, _, rfl, ?_⟩
    rw [tx_len]
    rw [decide_eq_true hlo]
    refine iteT ?_
    refine ⟨_, rfl, _, _, rfl, rfl, _, rfl, ?_⟩
    rw [decide_eq_true hhi]
    refine iteT ?_
    refine ⟨_, rfl, _, rfl, fun D hD => ?_⟩
    have hsz : (tx z).cps.size = z.length := tx_len z
    refine lc_it (walk_str (z := tx z)) (fun i H2 => TrueList H H2 D i) ⟨same_upd hD, hD, upd_same⟩ (fun _ _ _ _ => trivial) (fun i x H2 H3 hi p yy => ?_) (fun H2 p => ?_)
    · obtain ⟨rfl, c, hc, rfl⟩ := yy
      have hcm : c ∈ z := by
        have := Array.mem_of_getElem? hc
        rw [← Array.mem_toList_iff, tx_tl] at this
        exact this
      have hi' : i < z.length := by rw [← hsz]; exact hi
      refine ⟨rfl, ?_⟩
      refine ⟨_, rfl, c, _, rfl, rfl, ?_⟩
      have e : decide (c ∈ (Str.ofString "abc").cps.toList) = true := by
        rw [abc_tl]
        refine decide_eq_true ?_
        rcases habc c hcm with e | e | e <;> subst e <;> decide
      rw [e]
      exact ⟨_, p.2.2, by rw [List.length_map, List.length_replicate]; exact smallLt (by omega), p.push⟩
    · exact ⟨D, _, rfl, SqL.of p.2.2, by rw [all_rep]; exact k _ p.1⟩
theorem df_spelled {f : Addr} {fd : FuncData} (F : Fun K "is_spelled" "is_spelled" sSpelled f fd) (T : Txt mg) (B : Cst mg) (m : mg "is_spelled" = some (.ref f)) : Df P w K mg base 1 "is_spelled" ["value", "low", "high"] spSpelled :=
  ⟨f, fd, ok_spelled F T B, m, F.kp, F.binds fun _ _ _ _ _ _ us hl => match us, hl with | [_, _, _], _ => rfl⟩
def spIsCode : Sp := fun vs H Q _ => ∃ (a : Addr) (code : List Wd), vs = [.ref a] ∧ CodeAt H a code ∧ Good code ∧ ∀ H', Same H H' → Q (.bl true) H'
theorem inV_take {code : List Wd} (hn : code.Nodup) {i : Nat} (hi : i < code.length) : inV (cv (code.getD i [])) ((code.take i).map cv) = false := by
  unfold inV
  rw [List.any_eq_false]
  intro y hy
  obtain ⟨v, hv, e⟩ := List.mem_map.mp hy
  subst e
  obtain ⟨j, hj, e⟩ := List.getElem_of_mem hv
  rw [List.length_take] at hj
  rw [List.getElem_take] at e
  intro q
  have q' : (tx v == tx (code.getD i [])) = true := q
  have e2 : v = code.getD i [] := tx_inj (by simpa using q')
  have e3 : code.getD j [] = code.getD i [] := by
    rw [← e2, ← e, List.getD_eq_getElem?_getD, List.getElem?_eq_getElem (by omega)]
    rfl
  have := getD_inj hn (by omega) hi e3
  omega
theorem flat_cv (l : List Wd) : (l.map cv).all flatV = true := by
  rw [List.all_eq_true]
  intro x hx
  obtain ⟨v, _, e⟩ := List.mem_map.mp hx
  rw [← e]
  rfl
theorem scIsCode : FnScope ["value", "word", "at"] ["value"] (defScope sIsCode) := ⟨rfl, rfl, rfl, by decide +kernel, rfl, by decide +kernel, by decide +kernel⟩
theorem ok_isCode {f : Addr} {fd : FuncData} (F : Fun K "is_code" "is_code" sIsCode f fd) (T : Txt mg) (B : Cst mg) (DP : Df P w K mg base 1 "is_spelled" ["value", "low", "high"] spSpelled) : FnOk P w K mg base CX0 2 f fd ["value"] spIsCode := by
  refine F.ok scIsCode (fun vs H Q E h => ?_) (fun cdv A outer s H vs Q E hr h => ?_)
  · obtain ⟨a, code, rfl, _⟩ := h
    rfl
  · obtain ⟨a, code, rfl, C, G, k⟩ := h
    have nd := scIsCode.nd
    obtain ⟨tW, mW⟩ := B.words
    obtain ⟨tL, mL⟩ := B.longest
    refine ⟨_, pss_cons (ps_if (PW.pt (pw_or (pt_not (pt_val (pe_callB call_isi (by rfl) T.isinstance PyProof.Rows.boot_isinstance (pa_cons (pv 0) (pa_cons (pe_bltn (v := .ty "tuple") (by rfl) T.tuple (by decide +kernel) rfl) pa_nil)))))
        (pw_or1 (pt_cmpR op_gt (pe_callB call_len_seq (by rfl) T.len PySem.boot_len (pa_cons (pv 0) pa_nil)) (pe_glob (v := .int 6) (by rfl) mW ⟨_, rfl⟩) (nomark _))))) (pss_one (ps_ret pe_bl)) pss_nil)
      (pss_cons (ps_if (pt_not (pt_val (pe_callB (cr_all rfl) (by rfl) T.all (by decide +kernel) (pa_cons (pe_lc (own := [("word", 1)]) (g := gName 1) (tt := tYes) (by rfl) nd (pi_tup (pv 0)) (blkOk_by (own := [("word", 1)]) (N := ["value", "word", "at"]) (sc := defScope sIsCode) (by decide +kernel))
          (fun _ _ _ _ _ => pg_name (i := 1) nd rfl (.inl rfl)) (fun _ _ _ _ _ => pts_nil)
          (fun _ _ _ _ _ => pe_df DP hr (by rfl) (pa_cons (pv 1) (pa_cons pe_int (pa_cons (pe_glob (v := .int 5) (by rfl) mL ⟨_, rfl⟩) pa_nil))))) pa_nil)))) (pss_one (ps_ret pe_bl)) pss_nil)
      (pss_one (ps_ret (pe_callB (cr_all rfl) (by rfl) T.all (by decide +kernel) (pa_cons (pe_lc (own := [("at", 2), ("word", 1)]) (g := gTup K 2 (gCons (gName 2) (gCons (gName 1) gNil))) (tt := tYes) (by rfl) nd (pi_enumT (by rfl) T.enumerate (pa_cons (pv 0) pa_nil))
          (blkOk_by (own := [("at", 2), ("word", 1)]) (N := ["value", "word", "at"]) (sc := defScope sIsCode) (by decide +kernel))
          (fun _ _ _ _ _ => pg_tup rfl (pgs_cons (pg_name (i := 2) nd rfl (.inl rfl)) (pgs_cons (pg_name (i := 1) nd rfl (.inl rfl)) pgs_nil))) (fun _ _ _ _ _ => pts_nil)
          (fun _ _ _ _ _ => pe_cmpR (op_notIn_seqK (K := K) rfl) (pv 1) (pe_slice (sl_tupK (K := K) rfl) (pv 0) po_none (po_some (pv 2))) rfl)) pa_nil))))), ?_⟩
    have hlen : (code.map cv).length = code.length := List.length_map _
    have hcl := C.len
    -- isinstance, the length
    refine ⟨_, rfl, _, _, _, _, true, rfl, .ty _, .base (.tup C.at_), kit_ty (by decide +kernel), _, rfl, ?_⟩
    refine iteF ?_
    refine ⟨_, rfl, a, _, rfl, .inr (SqT.of C.at_), _, _, rfl, rfl, _, rfl, ?_⟩
    rw [decide_eq_false (by rw [hlen]; omega)]
    refine iteF ?_
    -- each word is spelled
    refine ⟨_, rfl, a, rfl, ⟨_, SqT.of C.at_⟩, fun D hD => ?_⟩
    refine lc_it (walk_tup (xs := code.map cv)) (fun i H2 => TrueList H H2 D i) ⟨same_upd hD, hD, upd_same⟩ (fun i H2 _ p => SqT.of (p.1 _ _ C.at_)) (fun i x H2 H3 hi p yy => ?_) (fun H2 p => ?_)
    · obtain ⟨rfl, hx⟩ := yy
      obtain ⟨hi, rfl⟩ := map_at hx
      have hw := getD_some hi
      have wl := C.wl _ hw
      have wne := List.length_pos_iff.mpr (G.ne _ hw)
      refine ⟨rfl, ?_⟩
      refine ⟨_, rfl, code.getD i [], 1, 5, rfl, by omega, by omega, by omega, G.abc _ hw, fun H4 s4 => ?_⟩
      have p4 := p.laid s4
      exact ⟨_, p4.2.2, by rw [List.length_map, List.length_replicate]; exact smallLt (by omega), p4.push⟩
    · refine ⟨D, _, rfl, SqL.of p.2.2, _, rfl, ?_⟩
      rw [all_rep]
      refine iteF ?_
      have s2 := p.1
      -- no word twice
      refine ⟨_, rfl, a, _, rfl, s2 _ _ C.at_, fun D2 hD2 => ?_⟩
      refine lc_it (walk_enumT (xs := code.map cv)) (fun i H3 => TrueList H2 H3 D2 i) ⟨same_upd hD2, hD2, upd_same⟩ (fun i H3 _ p => p.1 _ _ (s2 _ _ C.at_)) (fun i x H3 H4 hi p yy => ?_) (fun H3 p => ?_)
      · obtain ⟨T2, x1, x2, rfl, hT, rfl, e1, e2⟩ := yy
        cases e1
        obtain ⟨hi, rfl⟩ := map_at e2
        refine ⟨T2, _, rfl, SqT.of upd_same, rfl, _, _, rfl, _, _, rfl, rfl, rfl, ?_⟩
        have p5 := p.laid (same_upd (o := .tup [.int (i : Nat), cv (code.getD i [])]) hT)
        refine ⟨_, rfl, _, rfl, _, rfl, _, rfl, a, _, rfl, SqT.of (p5.1 _ _ (s2 _ _ C.at_)), fun z => ?_, fun t ht => ?_⟩
        · have z2 := z.2
          rw [hlen, HT.sIx_nat] at z2
          omega
        · have p6 := p5.laid (same_upd (o := .tup ((code.take i).map cv)) ht)
          have ec : cutV (code.map cv) none (some ((i : Nat) : Int)) = (code.take i).map cv := by
            unfold cutV
            rw [HT.sIx_none, HT.sIx_nat, hlen, Nat.min_eq_left (by omega), List.drop_zero, Nat.sub_zero, List.map_take]
          refine ⟨t, _, rfl, .inr (SqT.of upd_same), rfl, by rw [ec]; exact flat_cv _, ?_⟩
          rw [ec, inV_take G.nd hi]
          exact ⟨_, p6.2.2, by rw [List.length_map, List.length_replicate]; exact smallLt (by omega), p6.push⟩
      · exact ⟨D2, _, rfl, SqL.of p.2.2, by rw [all_rep]; exact k _ (s2.trans p.1)⟩
theorem df_isCode {f : Addr} {fd : FuncData} (F : Fun K "is_code" "is_code" sIsCode f fd) (T : Txt mg) (B : Cst mg) (DP : Df P w K mg base 1 "is_spelled" ["value", "low", "high"] spSpelled) (m : mg "is_code" = some (.ref f)) : Df P w K mg base 2 "is_code" ["value"] spIsCode :=
  ⟨f, fd, ok_isCode F T B DP, m, F.kp, F.binds fun _ _ _ _ _ _ us hl => match us, hl with | [_], _ => rfl⟩
def spCheck : Sp := fun vs H Q _ => ∃ (a : Addr) (code : List Wd), vs = [.ref a] ∧ CodeAt H a code ∧ Good code ∧ ∀ H', Same H H' → Q .non H'
theorem scCheck : FnScope ["value"] ["value"] (defScope sCheck) := ⟨rfl, rfl, rfl, by decide +kernel, rfl, by decide +kernel, by decide +kernel⟩
theorem ok_check {f : Addr} {fd : FuncData} (F : Fun K "check_code" "check_code" sCheck f fd) (DI : Df P w K mg base 2 "is_code" ["value"] spIsCode) : FnOk P w K mg base CX0 3 f fd ["value"] spCheck := by
  refine F.ok scCheck (fun vs H Q E h => ?_) (fun cdv A outer s H vs Q E hr h => ?_)
  · obtain ⟨a, code, rfl, _⟩ := h
    rfl
  · obtain ⟨a, code, rfl, C, G, k⟩ := h
    refine ⟨_, pss_one (ps_if (pt_not (pt_val (pe_df DI hr (by rfl) (pa_cons (pv 0) pa_nil)))) (pss_one ps_never) pss_nil), ?_⟩
    refine ⟨_, rfl, a, code, rfl, C, G, fun H1 s1 => ⟨_, rfl, ?_⟩⟩
    refine iteF ?_
    exact k _ s1
theorem df_check {f : Addr} {fd : FuncData} (F : Fun K "check_code" "check_code" sCheck f fd) (DI : Df P w K mg base 2 "is_code" ["value"] spIsCode) (m : mg "check_code" = some (.ref f)) : Df P w K mg base 3 "check_code" ["value"] spCheck :=
  ⟨f, fd, ok_check F DI, m, F.kp, F.binds fun _ _ _ _ _ _ us hl => match us, hl with | [_], _ => rfl⟩
end
end SWP
end
/-! ## SWTop -/
section
set_option maxHeartbeats 4000000
namespace SWP
open PySem L2 SW SWR
def spUnique : Sp := fun vs H Q _ => ∃ (a : Addr) (code : List Wd), vs = [.ref a] ∧ CodeAt H a code ∧ code.Nodup ∧ ∀ H' b, Same H H' → (b = true ↔ ¬ Reach code []) → Q (.bl b) H'
def spIsUnique : Sp := fun vs H Q _ => ∃ (a : Addr) (code : List Wd), vs = [.ref a] ∧ CodeAt H a code ∧ Good code ∧ ∀ H' b, Same H H' → (b = true ↔ ¬ Reach code []) → Q (.bl b) H'
def spFirstAmb : Sp := fun vs H Q _ => ∃ (a : Addr) (code : List Wd), vs = [.ref a] ∧ CodeAt H a code ∧ Good code ∧
  (∀ H', Same H H' → Told code none → Q .non H') ∧ ∀ H' t, Same H H' → Told code (some t) → t.length ≤ 1000 → Q (cv t) H'
theorem inV_strs (ys : List Str) : inV (V.str (Str.ofString "")) (ys.map V.str) = decide (tx [] ∈ ys) := by
  rw [tx_nil]
  unfold inV
  rw [List.any_map]
  by_cases h : tx [] ∈ ys
  · rw [decide_eq_true h, List.any_eq_true]
    exact ⟨_, h, by show (tx [] == tx []) = true; simp⟩
  · rw [decide_eq_false h, List.any_eq_false]
    intro y hy q
    have q' : (y == tx []) = true := q
    exact h (by rw [← (by simpa using q' : y = tx [])]; exact hy)
theorem flat_strs (ys : List Str) : (ys.map V.str).all flatV = true := by
  rw [List.all_eq_true]
  intro x hx
  obtain ⟨v, _, e⟩ := List.mem_map.mp hx
  rw [← e]
  rfl
section
variable {P : Program} {w : World} {K : PySem.W.Frag} {mg : Str → Option Value} {base : Heap}
theorem df_rests {f : Addr} {fd : FuncData} (F : Fun K "rests_of" "rests_of" sRests f fd) (T : Txt mg) (DF : Df P w K mg base 1 "first_steps" ["code"] spFirst) (DS : Df P w K mg base 1 "steps_from" ["code", "rest"] spSteps) (m : mg "rests_of" = some (.ref f)) : Df P w K mg base 2 "rests_of" ["code"] spRests :=
  ⟨f, fd, ok_rests F T DF DS, m, F.kp, F.binds fun _ _ _ _ _ _ us hl => match us, hl with | [_], _ => rfl⟩
theorem df_firstWay {f : Addr} {fd : FuncData} (F : Fun K "first_way" "first_way" sFirstWay f fd) (T : Txt mg) (DF : Df P w K mg base 1 "first_steps" ["code"] spFirst) (DW : Df P w K mg base 2 "ways_on" ["code", "way"] spWaysOn) (m : mg "first_way" = some (.ref f)) : Df P w K mg base 3 "first_way" ["code"] spFirstWay :=
  ⟨f, fd, ok_firstWay F T DF DW, m, F.kp, F.binds fun _ _ _ _ _ _ us hl => match us, hl with | [_], _ => rfl⟩
theorem scUnique : FnScope ["code"] ["code"] (defScope sUnique) := ⟨rfl, rfl, rfl, by decide +kernel, rfl, by decide +kernel, by decide +kernel⟩
theorem ok_unique {f : Addr} {fd : FuncData} (F : Fun K "unique" "unique" sUnique f fd) (DR : Df P w K mg base 2 "rests_of" ["code"] spRests) : FnOk P w K mg base CX0 3 f fd ["code"] spUnique := by
  refine F.ok scUnique (fun vs H Q E h => ?_) (fun cdv A outer s H vs Q E hr h => ?_)
  · obtain ⟨a, code, rfl, _⟩ := h
    rfl
  · obtain ⟨a, code, rfl, C, hn, k⟩ := h
    refine ⟨_, pss_one (ps_ret (pe_cmpR op_notIn_seq pe_str (pe_df DR hr (by rfl) (pa_cons (pv 0) pa_nil)) rfl)), ?_⟩
    refine ⟨_, rfl, a, code, rfl, C, hn, fun H1 p ys s1 p0 hp hys => ?_⟩
    refine ⟨p, _, rfl, .inl (SqL.of hp), rfl, flat_strs _, ?_⟩
    refine k _ _ s1 ?_
    rw [inV_strs, ← hys []]
    show (!decide (tx [] ∈ ys)) = true ↔ _
    simp
theorem df_unique {f : Addr} {fd : FuncData} (F : Fun K "unique" "unique" sUnique f fd) (DR : Df P w K mg base 2 "rests_of" ["code"] spRests) (m : mg "unique" = some (.ref f)) : Df P w K mg base 3 "unique" ["code"] spUnique :=
  ⟨f, fd, ok_unique F DR, m, F.kp, F.binds fun _ _ _ _ _ _ us hl => match us, hl with | [_], _ => rfl⟩
theorem scIsUnique : FnScope ["code"] ["code"] (defScope sIsUnique) := ⟨rfl, rfl, rfl, by decide +kernel, rfl, by decide +kernel, by decide +kernel⟩
theorem ok_isUnique {f : Addr} {fd : FuncData} (F : Fun K "is_unique" "is_unique" sIsUnique f fd) (DC : Df P w K mg base 3 "check_code" ["value"] spCheck) (DU : Df P w K mg base 3 "unique" ["code"] spUnique) : FnOk P w K mg base CX0 4 f fd ["code"] spIsUnique := by
  refine F.ok scIsUnique (fun vs H Q E h => ?_) (fun cdv A outer s H vs Q E hr h => ?_)
  · obtain ⟨a, code, rfl, _⟩ := h
    rfl
  · obtain ⟨a, code, rfl, C, G, k⟩ := h
    refine ⟨_, pss_cons (ps_expr (pe_df DC hr (by rfl) (pa_cons (pv 0) pa_nil))) (pss_one (ps_ret (pe_df DU hr (by rfl) (pa_cons (pv 0) pa_nil)))), ?_⟩
    refine ⟨_, rfl, a, code, rfl, C, G, fun H1 s1 => ?_⟩
    exact ⟨_, rfl, a, code, rfl, C.mono (.same s1), G.nd, fun H2 b s2 hb => k _ _ (s1.trans s2) hb⟩
theorem df_isUnique {f : Addr} {fd : FuncData} (F : Fun K "is_unique" "is_unique" sIsUnique f fd) (DC : Df P w K mg base 3 "check_code" ["value"] spCheck) (DU : Df P w K mg base 3 "unique" ["code"] spUnique) (m : mg "is_unique" = some (.ref f)) : Df P w K mg base 4 "is_unique" ["code"] spIsUnique :=
  ⟨f, fd, ok_isUnique F DC DU, m, F.kp, F.binds fun _ _ _ _ _ _ us hl => match us, hl with | [_], _ => rfl⟩
theorem scFirstAmb : FnScope ["code", "way"] ["code"] (defScope sFirstAmb) := ⟨rfl, rfl, rfl, by decide +kernel, rfl, by decide +kernel, by decide +kernel⟩
theorem ok_firstAmb {f : Addr} {fd : FuncData} (F : Fun K "first_ambiguous" "first_ambiguous" sFirstAmb f fd) (DC : Df P w K mg base 3 "check_code" ["value"] spCheck) (DW : Df P w K mg base 3 "first_way" ["code"] spFirstWay) : FnOk P w K mg base CX0 4 f fd ["code"] spFirstAmb := by
  refine F.ok scFirstAmb (fun vs H Q E h => ?_) (fun cdv A outer s H vs Q E hr h => ?_)
  · obtain ⟨a, code, rfl, _⟩ := h
    rfl
  · obtain ⟨a, code, rfl, C, G, kN, kS⟩ := h
    have nd := scFirstAmb.nd
    refine ⟨_, pss_cons (ps_expr (pe_df DC hr (by rfl) (pa_cons (pv 0) pa_nil))) (pss_cons (ps_set (i := 1) nd rfl (.inl rfl) (pe_df DW hr (by rfl) (pa_cons (pv 0) pa_nil)))
      (pss_one (ps_ret (pe_ifExp (pt_cmp (pc_isN (pv 1))) pe_non (pe_ix ix_tup (pv 1) pe_int (fun _ _ => rfl)))))), ?_⟩
    refine ⟨_, rfl, a, code, rfl, C, G, fun H1 s1 => ?_⟩
    refine ⟨_, rfl, a, code, rfl, C.mono (.same s1), G.nd, fun H2 s2 t => ?_, fun H2 b y s2 hy t tl => ?_⟩
    · refine ⟨_, rfl, _, rfl, ?_⟩
      refine iteT ?_
      exact kN _ (s1.trans s2) t
    · refine ⟨_, rfl, _, rfl, ?_⟩
      refine iteF ?_
      obtain ⟨fa, ba, h1, _, _⟩ := hy
      exact ⟨_, rfl, b, _, _, _, rfl, rfl, SqT.of h1, atI_nat (j := 1) rfl, kS _ _ (s1.trans s2) t tl⟩
theorem df_firstAmb {f : Addr} {fd : FuncData} (F : Fun K "first_ambiguous" "first_ambiguous" sFirstAmb f fd) (DC : Df P w K mg base 3 "check_code" ["value"] spCheck) (DW : Df P w K mg base 3 "first_way" ["code"] spFirstWay) (m : mg "first_ambiguous" = some (.ref f)) : Df P w K mg base 4 "first_ambiguous" ["code"] spFirstAmb :=
  ⟨f, fd, ok_firstAmb F DC DW, m, F.kp, F.binds fun _ _ _ _ _ _ us hl => match us, hl with | [_], _ => rfl⟩
end
end SWP
end
/-! ## SWNext -/
section
set_option maxHeartbeats 4000000
namespace SWP
open PySem L2 SW SWR
/-- the law's stream at st: its list of numbers at ls, the cell, the place -/
structure StreamAt (H : Hp) (st ls : Addr) (ns : List Int) (cell : Int) (k : Nat) : Prop where
  at_ : H st = some (.lst [.ref ls, .int cell, .int (k : Nat)])
  ns_ : H ls = some (.lst (ns.map V.int))
  pos : 0 ≤ cell
theorem ref_ne {ls : Addr} {c k : V} {ns : List Int} : (HO.lst [.ref ls, c, k]) ≠ HO.lst (ns.map V.int) := by
  intro h
  injection h with h
  cases ns with
  | nil => cases h
  | cons n r =>
    rw [List.map_cons] at h
    injection h with h1 h2
    cases h1
theorem StreamAt.ne {H : Hp} {st ls : Addr} {ns : List Int} {cell : Int} {k : Nat} (s : StreamAt H st ls ns cell k) : ls ≠ st := fun z => by
  have h1 := s.at_
  have h2 := s.ns_
  rw [z, h1] at h2
  exact ref_ne (Option.some.inj h2)
theorem StreamAt.put {H : Hp} {st ls : Addr} {ns : List Int} {cell cell' : Int} {k k' : Nat} (s : StreamAt H st ls ns cell k) (h : 0 ≤ cell') : StreamAt (upd H st (.lst [.ref ls, .int cell', .int (k' : Nat)])) st ls ns cell' k' :=
  ⟨upd_same, by rw [upd_ne s.ne]; exact s.ns_, h⟩
theorem StreamAt.mono {H H' : Hp} {st ls : Addr} {ns : List Int} {cell : Int} {k : Nat} (s : StreamAt H st ls ns cell k) (h : Same H H') : StreamAt H' st ls ns cell k := ⟨h _ _ s.at_, h _ _ s.ns_, s.pos⟩
def spStream (K : PySem.W.Frag) : Sp := fun vs H Q _ => ∃ (a : Addr) (ns : List Int), vs = [.ref a] ∧ SqL K H a (ns.map V.int) ∧ ∀ H' st ls, Same H H' → H st = none → StreamAt H' st ls ns 0 0 → Q (.ref st) H'
def spNext : Sp := fun vs H Q _ => ∃ (st ls : Addr) (ns : List Int) (cell : Int) (k : Nat) (many : Int), vs = [.ref st, .int many] ∧ StreamAt H st ls ns cell k ∧ 0 < many ∧ many < 100 ∧
  ∀ H' d cell' k', 0 ≤ d → d < many → SameBut st H H' → StreamAt H' st ls ns cell' k' → Q (.int d) H'
section
variable {P : Program} {w : World} {K : PySem.W.Frag} {mg : Str → Option Value} {base : Heap}
theorem scStream : FnScope ["_law_script"] ["_law_script"] (defScope sStream) := ⟨rfl, rfl, rfl, by decide +kernel, rfl, by decide +kernel, by decide +kernel⟩
theorem ok_stream {f : Addr} {fd : FuncData} (F : Fun K "_law_stream" "_law_stream" sStream f fd) (T : Txt mg) : FnOk P w K mg base CX0 1 f fd ["_law_script"] (spStream K) := by
  refine F.ok scStream (fun vs H Q E h => ?_) (fun cdv A outer s H vs Q E hr h => ?_)
  · obtain ⟨a, ns, rfl, _⟩ := h
    rfl
  · obtain ⟨a, ns, rfl, hs, k⟩ := h
    refine ⟨_, pss_one (ps_ret (pe_lst (pa_cons (pe_callTy call_list_of (by rfl) T.list (by decide +kernel) (pa_cons (pv 0) pa_nil)) (pa_cons pe_int (pa_cons pe_int pa_nil))))), ?_⟩
    refine ⟨_, rfl, a, _, rfl, .inl hs, fun ls hls => ?_⟩
    refine ⟨by show 3 ≤ sizeLine; decide, fun st hst => ?_⟩
    have n : ls ≠ st := fun z => by rw [← z, upd_same] at hst; cases hst
    refine k _ st ls ((same_upd hls).trans (same_upd hst)) ((same_upd hls).free hst) ⟨upd_same, by rw [upd_ne n, upd_same], by decide⟩
theorem scNext : FnScope ["_law_stream_here", "_law_many", "_law_k", "_law_cell", "_law_digit"] ["_law_stream_here", "_law_many"] (defScope sNext) := ⟨rfl, rfl, rfl, by decide +kernel, rfl, by decide +kernel, by decide +kernel⟩
theorem ok_next {f : Addr} {fd : FuncData} (F : Fun K "_law_next" "_law_next" sNext f fd) (T : Txt mg) : FnOk P w K mg base CX0 1 f fd ["_law_stream_here", "_law_many"] spNext := by
  refine F.ok scNext (fun vs H Q E h => ?_) (fun cdv A outer s H vs Q E hr h => ?_)
  · obtain ⟨st, ls, ns, cell, k, many, rfl, _⟩ := h
    rfl
  · obtain ⟨st, ls, ns, cell, n, many, rfl, S, m0, m1, k⟩ := h
    have nd := scNext.nd
    refine ⟨_, C8.pss_cut (ps_if (pt_cmpR op_eq (pe_ix ix_list (pv 0) pe_int (fun _ _ => rfl)) pe_int (nomark _))
        (pss_cons (ps_set (i := 2) nd rfl (.inl rfl) (pe_ix ix_list (pv 0) pe_int (fun _ _ => rfl)))
        (pss_cons (ps_set (i := 3) nd rfl (.inl rfl) (pe_op op_add pe_int (pv 2)))
        (C8.pss_cut (ps_if (pt_cmpR op_lt (pv 2) (pe_callB call_len_seq (by rfl) T.len PySem.boot_len (pa_cons (pe_ix ix_list (pv 0) pe_int (fun _ _ => rfl)) pa_nil)) (nomark _))
            (pss_one (ps_set (i := 3) nd rfl (.inl rfl) (pe_callB call_abs (by rfl) T.abs (by decide +kernel) (pa_cons (pe_ix ix_list (pe_ix ix_list (pv 0) pe_int (fun _ _ => rfl)) (pv 2) (fun _ _ => rfl)) pa_nil)))) pss_nil)
        (C8.pss_cut (ps_if (pt_cmpR op_lt (pv 3) (pe_op op_pow pe_int pe_int) (nomark _))
            (pss_cons (ps_set (i := 3) nd rfl (.inl rfl) (pe_op op_mod (pe_callTy call_int1 (by rfl) T.int (by decide +kernel) (pa_cons (pe_op op_add (pe_op op_add (pe_op op_mul (pv 3) pe_int) (pe_op op_mul (pv 2) pe_int)) pe_int) pa_nil)) pe_int))
            (pss_one (ps_set (i := 3) nd rfl (.inl rfl) (pe_op op_add (pe_op op_mul (pe_op op_mod (pe_callTy call_int1 (by rfl) T.int (by decide +kernel) (pa_cons (pe_op op_add (pe_op op_mul (pv 3) pe_int) pe_int) pa_nil)) pe_int) pe_int) (pv 3))))) pss_nil)
        (pss_cons (ps_asg (pv 3) (pg_sub (pv 0) pe_int set_list))
        (pss_one (ps_asg (pe_op op_add (pv 2) pe_int) (pg_sub (pv 0) pe_int set_list)))))))) pss_nil)
      (pss_cons (ps_set (i := 4) nd rfl (.inl rfl) (pe_op op_mod (pe_callTy call_int1 (by rfl) T.int (by decide +kernel) (pa_cons (pe_ix ix_list (pv 0) pe_int (fun _ _ => rfl)) pa_nil)) (pv 1)))
      (pss_cons (ps_asg (pe_op op_fdiv (pe_ix ix_list (pv 0) pe_int (fun _ _ => rfl)) (pv 1)) (pg_sub (pv 0) pe_int set_list))
      (pss_one (ps_ret (pv 4))))), ?_⟩
    refine ⟨fun σ H1 => ∃ y2 y3 y4 cell' n', σ = [some (.ref st), some (.int many), y2, y3, y4] ∧ SameBut st H H1 ∧ StreamAt H1 st ls ns cell' n', ?_, ?_⟩
    · -- if the cell is empty
      refine ⟨_, rfl, st, _, _, _, rfl, rfl, SqL.of S.at_, atI_nat (j := 1) rfl, rfl, _, rfl, ?_⟩
      rw [dec_int]
      refine ite2 (fun c => ?_) (fun c => ?_)
      · refine ⟨_, rfl, st, _, _, _, rfl, rfl, SqL.of S.at_, atI_nat (j := 2) rfl, ?_⟩
        refine ⟨_, rfl, _, _, rfl, rfl, ?_⟩
        refine ⟨fun σ H1 => ∃ c3 : Int, 0 ≤ c3 ∧ σ = [some (.ref st), some (.int many), some (.int (n : Nat)), some (.int c3), none] ∧ H1 = H, ?_, ?_⟩
        · refine ⟨_, rfl, _, rfl, st, _, _, _, rfl, rfl, SqL.of S.at_, atI_nat (j := 0) rfl, ls, _, rfl, .inl (SqL.of S.ns_), _, _, rfl, rfl, _, rfl, ?_⟩
          refine ite2 (fun c2 => ?_) (fun c2 => ?_)
          · have c2' := of_decide_eq_true c2
            rw [List.length_map] at c2'
            have hn : n < ns.length := by omega
            refine ⟨_, rfl, st, _, _, _, rfl, rfl, SqL.of S.at_, atI_nat (j := 0) rfl, _, rfl, ls, _, _, .int ns[n], rfl, rfl, SqL.of S.ns_, atI_nat (by rw [List.getElem?_map, List.getElem?_eq_getElem hn]; rfl), _, rfl, ?_⟩
            refine ⟨_, ?_, rfl, rfl⟩
            split <;> omega
          · exact ⟨_, by omega, rfl, rfl⟩
        · rintro σ H1 ⟨c3, h3, rfl, rfl⟩
          refine ⟨fun σ H2 => ∃ c4 : Int, 0 ≤ c4 ∧ σ = [some (.ref st), some (.int many), some (.int (n : Nat)), some (.int c4), none] ∧ H2 = H1, ?_, ?_⟩
          · refine ⟨_, rfl, _, _, rfl, rfl, ⟨by decide, by decide, by decide⟩, _, _, rfl, rfl, _, rfl, ?_⟩
            refine ite2 (fun c2 => ?_) (fun c2 => ?_)
            · refine ⟨_, rfl, _, _, rfl, rfl, .inr ⟨by decide, by decide⟩, _, rfl, _, _, rfl, rfl, .inr ⟨by decide, by decide⟩, _, _, rfl, rfl, _, _, rfl, rfl, .inl ⟨_, rfl, ?_⟩⟩
              refine ⟨_, _, rfl, rfl, (by show (0 : Int) < 2147483647; decide), ?_⟩
              refine ⟨_, rfl, _, _, rfl, rfl, .inr ⟨by decide, by decide⟩, _, _, rfl, rfl, .inl ⟨_, rfl, ?_⟩⟩
              refine ⟨_, _, rfl, rfl, (by show (0 : Int) < 2147483647; decide), _, _, rfl, rfl, .inr ⟨by decide, by decide⟩, _, rfl, _, _, rfl, rfl, ?_⟩
              refine ⟨_, ?_, rfl, rfl⟩
              omega
            · exact ⟨_, h3, rfl, rfl⟩
          · rintro σ H2 ⟨c4, h4, rfl, rfl⟩
            refine ⟨_, rfl, _, rfl, st, _, _, 1, rfl, rfl, S.at_, rfl, ?_⟩
            refine ⟨_, rfl, _, _, rfl, rfl, _, rfl, st, _, _, 2, rfl, rfl, upd_same, rfl, ?_⟩
            rw [upd_upd]
            refine ⟨_, _, _, c4, n + 1, rfl, fun b o hb e => ?_, ?_⟩
            · rw [upd_ne hb]; exact e
            · have q := S.put (k' := n + 1) h4
              exact q
      · exact ⟨_, _, _, cell, n, rfl, fun b o _ e => e, S⟩
    · rintro σ H1 ⟨y2, y3, y4, cell', n', rfl, sb, S1⟩
      have hp := S1.pos
      refine ⟨_, rfl, st, _, _, _, rfl, rfl, SqL.of S1.at_, atI_nat (j := 1) rfl, .inl ⟨_, rfl, _, rfl, _, _, rfl, rfl, m0, ?_⟩⟩
      refine ⟨_, rfl, st, _, _, _, rfl, rfl, SqL.of S1.at_, atI_nat (j := 1) rfl, _, rfl, _, _, rfl, rfl, ⟨m0, by omega⟩, ?_⟩
      refine ⟨_, rfl, st, _, _, 1, rfl, rfl, S1.at_, rfl, ?_⟩
      refine ⟨_, rfl, ?_⟩
      refine k _ _ (cell' / many) n' (Int.emod_nonneg _ (by omega)) (Int.emod_lt_of_pos _ m0) (fun b o hb e => ?_) (S1.put (Int.ediv_nonneg hp (by omega)))
      rw [upd_ne hb]
      exact sb b o hb e
end
end SWP
end
/-! ## SWStrings -/
section
set_option maxHeartbeats 4000000
namespace SWP
open PySem L2 SW SWR
/-- the law's two pairs of letters, and in order -/
def Lets (l : Wd) (x y : Nat) : Prop := (l = [97, 98] ∨ l = [99, 97]) ∧ x = 97 ∧ ((l = [97, 98] ∧ y = 98) ∨ (l = [99, 97] ∧ y = 99))
def spStrings : Sp := fun vs H Q _ => ∃ (l : Wd) (x y : Nat), vs = [cv l, .int 7] ∧ Lets l x y ∧ ∀ H' p, Same H H' → H p = none → H' p = some (.lst ((strsTo x y 7).map cv)) → Q (.ref p) H'
theorem two_perm {α : Type} {a b : α} {ys : List α} (h : ys.Perm [a, b]) : ys = [a, b] ∨ ys = [b, a] := by
  have hl := h.length_eq
  match ys, hl with
  | [u, v], _ =>
    have hu := h.mem_iff.mp (show u ∈ [u, v] by simp)
    rcases List.mem_cons.mp hu with e | e
    · subst e
      have h2 := (List.perm_cons _).mp h
      have e2 := List.perm_singleton.mp h2
      exact .inl (by rw [e2])
    · have e := List.mem_singleton.mp e
      subst e
      have h2 : [u, v].Perm [u, a] := h.trans (List.Perm.swap _ _ _)
      have e2 := List.perm_singleton.mp ((List.perm_cons _).mp h2)
      exact .inr (by rw [e2])
theorem lets_sorted {l : Wd} {x y : Nat} (h : Lets l x y) {ys : List Str} (hp : ys.Perm (signs (tx l))) (hs : PyProof.Rows.sortedS ys = true) : ys = [tx [x], tx [y]] := by
  obtain ⟨_, rfl, ⟨rfl, rfl⟩ | ⟨rfl, rfl⟩⟩ := h
  · have e : signs (tx [97, 98]) = [tx [97], tx [98]] := rfl
    rw [e] at hp
    rcases two_perm hp with q | q
    · exact q
    · rw [q] at hs
      exact absurd hs (by decide +kernel)
  · have e : signs (tx [99, 97]) = [tx [99], tx [97]] := rfl
    rw [e] at hp
    rcases two_perm hp with q | q
    · rw [q] at hs
      exact absurd hs (by decide +kernel)
    · exact q
/-- what the middle loop has made of the first i strings -/
def longer (x y : Nat) (L : List Wd) : List Wd := L.flatMap fun s => [s ++ [x], s ++ [y]]
theorem longer_len (x y : Nat) : ∀ L : List Wd, (longer x y L).length = 2 * L.length
  | [] => rfl
  | s :: L => by
    show ((s :: L).flatMap fun s => [s ++ [x], s ++ [y]]).length = _
    rw [List.flatMap_cons, List.length_append]
    have := longer_len x y L
    unfold longer at this
    rw [this, List.length_cons]
    simp
    omega
theorem longer_snoc (x y : Nat) (L : List Wd) (s : Wd) : longer x y (L ++ [s]) = longer x y L ++ [s ++ [x], s ++ [y]] := by
  unfold longer
  rw [List.flatMap_append]
  rfl
theorem pow7 {k : Nat} (h : k ≤ 7) : 2 ^ k ≤ 128 := Nat.le_trans (Nat.pow_le_pow_right (by decide) h) (by decide)
theorem strs_len (x y : Nat) : ∀ k, (strsTo x y k).length < 2 ^ (k + 1)
  | 0 => by show 1 < 2; decide
  | k + 1 => by
    have := strs_len x y k
    rw [strsTo, List.length_append, lev_len, Nat.pow_succ 2 (k + 1)]
    omega
section
variable {P : Program} {w : World} {K : PySem.W.Frag} {mg : Str → Option Value} {base : Heap}
theorem scStrings : FnScope ["_law_letters", "_law_most", "_law_found", "_law_last", "_law_length", "_law_longer", "_law_string", "_law_letter"] ["_law_letters", "_law_most"] (defScope sStrings) := ⟨rfl, rfl, rfl, by decide +kernel, rfl, by decide +kernel, by decide +kernel⟩
theorem ok_strings {f : Addr} {fd : FuncData} (F : Fun K "_law_strings" "_law_strings" sStrings f fd) (T : Txt mg) : FnOk P w K mg base CX0 1 f fd ["_law_letters", "_law_most"] spStrings := by
  refine F.ok scStrings (fun vs H Q E h => ?_) (fun cdv A outer s H vs Q E hr h => ?_)
  · obtain ⟨l, x, y, rfl, _⟩ := h
    rfl
  · obtain ⟨lt, x, y, rfl, hl, k⟩ := h
    have nd := scStrings.nd
    refine ⟨_, pss_cons (ps_set (i := 2) nd rfl (.inl rfl) (pe_lst (pa_cons pe_str pa_nil)))
      (pss_cons (ps_set (i := 3) nd rfl (.inl rfl) (pe_lst (pa_cons pe_str pa_nil)))
      (pss_cons (ps_for PassesOwn.never rfl (pi_range1 (by rfl) T.range (pa_cons (pv 1) pa_nil)) (pg_name (i := 4) nd rfl (.inl rfl))
        (pss_cons (ps_set (i := 5) nd rfl (.inl rfl) (pe_lst pa_nil))
        (pss_cons (ps_for PassesOwn.never rfl (pi_list (pv 3)) (pg_name (i := 6) nd rfl (.inl rfl))
          (pss_one (ps_for PassesOwn.never rfl (pi_list (pe_callB (cr_sortedTx rfl) (by rfl) T.sorted PyProof.Rows.boot_sorted (pa_cons (pv 0) pa_nil))) (pg_name (i := 7) nd rfl (.inl rfl))
            (pss_one (ps_expr (pe_bm PySem.F.plainAttrs_list PySem.F.slot_list_append PySem.F.type_list_append mt_append (pv 5) (pa_cons (pe_op op_add_str (pv 6) (pv 7)) pa_nil)))))))
        (pss_cons (ps_set (i := 3) nd rfl (.inl rfl) (pv 5))
        (pss_one (ps_set (i := 2) nd rfl (.inl rfl) (pe_op op_cat (pv 2) (pv 3))))))))
      (pss_one (ps_ret (pv 2))))), ?_⟩
    have hll : lt.length = 2 := by
      obtain ⟨h | h, _⟩ := hl <;> rw [h] <;> rfl
    refine ⟨by show 1 ≤ sizeLine; decide, fun p1 hp1 => ⟨by show 1 ≤ sizeLine; decide, fun p2 hp2 => ?_⟩⟩
    refine ⟨_, rfl, 7, rfl, by decide, by decide, ?_⟩
    have n12 : p1 ≠ p2 := fun z => by rw [← z, upd_same] at hp2; cases hp2
    refine for_range (lo := 0) (n := 7) (fun i σ H1 => ∃ y4 y5 y6 y7 p1 p2, σ = [some (cv lt), some (.int 7), some (.ref p1), some (.ref p2), y4, y5, y6, y7] ∧ Same H H1 ∧ H p1 = none ∧ H1 p1 = some (.lst ((strsTo x y i).map cv)) ∧ H1 p2 = some (.lst ((lev x y i).map cv))) ⟨_, _, _, _, p1, p2, rfl, (same_upd hp1).trans (same_upd hp2), hp1, by rw [upd_ne n12, upd_same, tx_nil]; rfl, by rw [upd_same, tx_nil]; rfl⟩ (fun i σ H1 hi p => ?_) (fun σ H1 p => ?_)
    · obtain ⟨y4, y5, y6, y7, p1, p2, rfl, sm, p10, hf, hL⟩ := p
      refine ⟨Nat.zero_le _, fun q hq => ?_⟩
      have hLq : (upd H1 q (.lst [])) p2 = some (.lst ((lev x y i).map cv)) := by rw [upd_ne (ne_of_none hL hq)]; exact hL
      have lvl : (lev x y i).length ≤ 128 := by rw [lev_len]; exact pow7 (by omega)
      refine ⟨_, rfl, p2, rfl, ⟨_, SqL.of hLq⟩, ?_⟩
      refine for_it (walk_list (xs := (lev x y i).map cv)) (fun j σ H2 => ∃ y6 y7, σ = [some (cv lt), some (.int 7), some (.ref p1), some (.ref p2), some (.int (0 + (i : Nat))), some (.ref q), y6, y7] ∧ Same H1 H2 ∧ H2 q = some (.lst ((longer x y ((lev x y i).take j)).map cv))) ⟨_, _, rfl, same_upd hq, upd_same⟩ (fun j σ H2 _ p => ?_) (fun j v σ H2 H3 hj p yy => ?_) (fun σ H2 p => ?_)
      · obtain ⟨_, _, _, s2, _⟩ := p
        exact SqL.of (s2 _ _ hL)
      · obtain ⟨y6, y7, rfl, s2, hqq⟩ := p
        obtain ⟨rfl, hx⟩ := yy
        rw [List.getElem?_map] at hx
        cases ej : (lev x y i)[j]? with
        | none => rw [ej] at hx; cases hx
        | some sv =>
          rw [ej] at hx
          cases hx
          have svl : sv.length = i := (mem_lev.mp (List.mem_of_getElem? ej)).1
          have jl : j < 128 := by
            have := (List.getElem?_eq_some_iff.mp ej).1
            omega
          -- sorted(letters)
          refine ⟨_, rfl, _, rfl, by rw [tx_len, hll]; decide, fun ys sp hp hs hsp => ?_⟩
          rw [lets_sorted hl hp hs]
          have hq3 : (upd H3 sp (.lst ([tx [x], tx [y]].map V.str))) q = some (.lst ((longer x y ((lev x y i).take j)).map cv)) := by rw [upd_ne (ne_of_none hqq hsp)]; exact hqq
          have nqs : q ≠ sp := ne_of_none hqq hsp
          refine ⟨sp, rfl, ⟨_, SqL.of upd_same⟩, ?_⟩
          have q0 : H1 q = none := hq
          have hzz : (longer x y ((lev x y i).take j)).length ≤ 256 := by
            rw [longer_len, List.length_take]
            omega
          refine for_it (walk_list (xs := [tx [x], tx [y]].map V.str)) (fun m σ H4 => ∃ y7, σ = [some (cv lt), some (.int 7), some (.ref p1), some (.ref p2), some (.int (0 + (i : Nat))), some (.ref q), some (cv sv), y7] ∧ Same H1 H4 ∧ H4 sp = some (.lst ([tx [x], tx [y]].map V.str)) ∧
            H4 q = some (.lst ((longer x y ((lev x y i).take j) ++ [sv ++ [x], sv ++ [y]].take m).map cv))) ⟨_, rfl, s2.trans (same_upd hsp), upd_same, by rw [List.take_zero, List.append_nil]; exact hq3⟩ (fun m σ H4 _ p => SqL.of (by obtain ⟨_, _, _, h, _⟩ := p; exact h)) (fun m v σ H4 H5 hm p yy => ?_) (fun σ H4 p => ?_)
          · obtain ⟨y7, rfl, s4, hs4, hq4⟩ := p
            obtain ⟨rfl, hx⟩ := yy
            have step : ∀ c : Nat, v = V.str (tx [c]) → [sv ++ [x], sv ++ [y]][m]? = some (sv ++ [c]) → ∃ y7, [some (cv lt), some (V.int 7), some (V.ref p1), some (.ref p2), some (.int (0 + (i : Nat))), some (.ref q), some (cv sv), some v] = [some (cv lt), some (.int 7), some (.ref p1), some (.ref p2), some (.int (0 + (i : Nat))), some (.ref q), some (cv sv), y7] ∧
                Same H1 (upd H5 q (.lst ((longer x y ((lev x y i).take j) ++ [sv ++ [x], sv ++ [y]].take m).map cv ++ [V.str (tx sv ++ tx [c])]))) ∧ (upd H5 q (.lst ((longer x y ((lev x y i).take j) ++ [sv ++ [x], sv ++ [y]].take m).map cv ++ [V.str (tx sv ++ tx [c])]))) sp = some (.lst ([tx [x], tx [y]].map V.str)) ∧
                (upd H5 q (.lst ((longer x y ((lev x y i).take j) ++ [sv ++ [x], sv ++ [y]].take m).map cv ++ [V.str (tx sv ++ tx [c])]))) q = some (.lst ((longer x y ((lev x y i).take j) ++ [sv ++ [x], sv ++ [y]].take (m + 1)).map cv)) := fun c ev em => by
              refine ⟨_, rfl, fun b o e => ?_, ?_, ?_⟩
              · rw [upd_ne (ne_of_none e q0)]
                exact s4 b o e
              · rw [upd_ne nqs.symm]; exact hs4
              · rw [upd_same, take_one em, tx_app, ← List.append_assoc, List.map_append (l₂ := [sv ++ [c]])]
                rfl
            have szq : ((longer x y ((lev x y i).take j) ++ [sv ++ [x], sv ++ [y]].take m).map cv).length < sizeLine := by
              rw [List.length_map, List.length_append, List.length_take]
              exact smallLt (by simp only [List.length_cons, List.length_nil]; omega)
            have hm2 : m < 2 := hm
            have hm' : m = 0 ∨ m = 1 := by omega
            rcases hm' with rfl | rfl
            · have ev : v = V.str (tx [x]) := (Option.some.inj hx).symm
              subst ev
              exact ⟨_, rfl, .inl ⟨rfl, _, SqL.of hq4⟩, _, rfl, _, rfl, _, _, rfl, rfl, by rw [tx_len, tx_len]; exact small (by simp only [List.length_cons, List.length_nil]; omega), q, _, _, rfl, rfl, hq4, szq, step x rfl rfl⟩
            · have ev : v = V.str (tx [y]) := (Option.some.inj hx).symm
              subst ev
              exact ⟨_, rfl, .inl ⟨rfl, _, SqL.of hq4⟩, _, rfl, _, rfl, _, _, rfl, rfl, by rw [tx_len, tx_len]; exact small (by simp only [List.length_cons, List.length_nil]; omega), q, _, _, rfl, rfl, hq4, szq, step y rfl rfl⟩
          · obtain ⟨y7, rfl, s4, hs4, hq4⟩ := p
            refine ⟨_, _, rfl, s4, ?_⟩
            rw [hq4, take_one ej, longer_snoc]
            rfl
      · obtain ⟨y6, y7, rfl, s2, hqq⟩ := p
        rw [List.length_map, List.take_length] at hqq
        -- last = longer; found = found + last
        have hf2 := s2 _ _ hf
        have sl := strs_len x y i
        have p8 := pow7 (k := i + 1) (by omega)
        refine ⟨_, rfl, _, rfl, _, rfl, p1, q, _, _, rfl, rfl, hf2, hqq, ?_, fun r hr => ?_⟩
        · rw [List.length_map, List.length_map, longer_len]
          exact small (by omega)
        · refine ⟨_, _, _, _, r, q, rfl, (sm.trans s2).trans (same_upd hr), (sm.trans s2).free hr, ?_, ?_⟩
          · rw [upd_same, ← List.map_append]
            rfl
          · rw [upd_ne (ne_of_none hqq hr)]
            exact hqq
    · obtain ⟨_, _, _, _, p1, p2, rfl, sm, p10, hf, _⟩ := p
      exact ⟨_, rfl, k _ _ sm p10 hf⟩
theorem df_strings {f : Addr} {fd : FuncData} (F : Fun K "_law_strings" "_law_strings" sStrings f fd) (T : Txt mg) (m : mg "_law_strings" = some (.ref f)) : Df P w K mg base 1 "_law_strings" ["_law_letters", "_law_most"] spStrings :=
  ⟨f, fd, ok_strings F T, m, F.kp, F.binds fun _ _ _ _ _ _ us hl => match us, hl with | [_, _], _ => rfl⟩
end
end SWP
end
/-! ## SWCode -/
section
set_option maxHeartbeats 4000000
namespace SWP
open PySem L2 SW SWR
def spCode : Sp := fun vs H Q _ => ∃ (st ls : Addr) (ns : List Int) (cell : Int) (k : Nat) (l : Wd) (x y : Nat), vs = [.ref st, cv l, .int 5, .int 3] ∧ StreamAt H st ls ns cell k ∧ Lets l x y ∧
  ∀ H' a code, CodeAt H' a code → Good code → (∀ w ∈ code, ∀ c ∈ w, c = x ∨ c = y) → Q (.ref a) H'
/-- a word as drawn so far -/
def WordP (x y n : Nat) (w : Wd) : Prop := w.length = n ∧ ∀ c ∈ w, c = x ∨ c = y
structure CodeP (x y n : Nat) (code : List Wd) : Prop where
  len : code.length ≤ n
  nd : code.Nodup
  wd : ∀ w ∈ code, w ≠ [] ∧ w.length ≤ 3 ∧ ∀ c ∈ w, c = x ∨ c = y
theorem CodeP.up {x y n : Nat} {code : List Wd} (c : CodeP x y n code) : CodeP x y (n + 1) code := ⟨Nat.le_succ_of_le c.len, c.nd, c.wd⟩
theorem CodeP.add {x y n m : Nat} {code : List Wd} {w : Wd} (c : CodeP x y n code) (h : WordP x y m w) (h1 : 1 ≤ m) (h2 : m ≤ 3) (hn : w ∉ code) : CodeP x y (n + 1) (code ++ [w]) := by
  refine ⟨by rw [List.length_append, List.length_singleton]; have := c.len; omega, ?_, fun v hv => ?_⟩
  · rw [List.nodup_append]
    refine ⟨c.nd, by simp, fun a ha b hb e => ?_⟩
    rw [List.mem_singleton.mp hb] at e
    exact hn (e ▸ ha)
  · rcases List.mem_append.mp hv with hv | hv
    · exact c.wd v hv
    · rw [List.mem_singleton.mp hv]
      refine ⟨fun z => ?_, by have := h.1; omega, h.2⟩
      have := h.1
      rw [z, List.length_nil] at this
      omega
theorem lets_mem {l : Wd} {x y : Nat} (h : Lets l x y) : ∀ c ∈ l, c = x ∨ c = y := by
  obtain ⟨_, rfl, ⟨rfl, rfl⟩ | ⟨rfl, rfl⟩⟩ := h
  · intro c hc
    simpa using hc
  · intro c hc
    have : c = 99 ∨ c = 97 := by simpa using hc
    exact this.symm
theorem lets_abc {l : Wd} {x y : Nat} (h : Lets l x y) {c : Nat} (hc : c = x ∨ c = y) : c = 97 ∨ c = 98 ∨ c = 99 := by
  obtain ⟨_, rfl, ⟨_, rfl⟩ | ⟨_, rfl⟩⟩ := h
  · rcases hc with e | e
    · exact .inl e
    · exact .inr (.inl e)
  · rcases hc with e | e
    · exact .inl e
    · exact .inr (.inr e)
theorem inV_cv (w : Wd) (code : List Wd) : inV (cv w) (code.map cv) = decide (w ∈ code) := by
  unfold inV
  rw [List.any_map]
  by_cases h : w ∈ code
  · rw [decide_eq_true h, List.any_eq_true]
    exact ⟨_, h, by show (tx w == tx w) = true; simp⟩
  · rw [decide_eq_false h, List.any_eq_false]
    intro v hv q
    have q' : (tx v == tx w) = true := q
    exact h (by rw [← tx_inj (by simpa using q' : tx v = tx w)]; exact hv)
section
variable {P : Program} {w : World} {K : PySem.W.Frag} {mg : Str → Option Value} {base : Heap}
theorem df_next {f : Addr} {fd : FuncData} (F : Fun K "_law_next" "_law_next" sNext f fd) (T : Txt mg) (m : mg "_law_next" = some (.ref f)) : Df P w K mg base 1 "_law_next" ["_law_stream_here", "_law_many"] spNext :=
  ⟨f, fd, ok_next F T, m, F.kp, F.binds fun _ _ _ _ _ _ us hl => match us, hl with | [_, _], _ => rfl⟩
theorem df_stream {f : Addr} {fd : FuncData} (F : Fun K "_law_stream" "_law_stream" sStream f fd) (T : Txt mg) (m : mg "_law_stream" = some (.ref f)) : Df P w K mg base 1 "_law_stream" ["_law_script"] (spStream K) :=
  ⟨f, fd, ok_stream F T, m, F.kp, F.binds fun _ _ _ _ _ _ us hl => match us, hl with | [_], _ => rfl⟩
theorem scCode : FnScope ["_law_stream_here", "_law_letters", "_law_words", "_law_most", "_law_found", "_law_turn", "_law_word", "_law_k"] ["_law_stream_here", "_law_letters", "_law_words", "_law_most"] (defScope sCode) := ⟨rfl, rfl, rfl, by decide +kernel, rfl, by decide +kernel, by decide +kernel⟩
theorem ok_code {f : Addr} {fd : FuncData} (F : Fun K "_law_code" "_law_code" sCode f fd) (T : Txt mg) (DN : Df P w K mg base 1 "_law_next" ["_law_stream_here", "_law_many"] spNext) : FnOk P w K mg base CX0 2 f fd ["_law_stream_here", "_law_letters", "_law_words", "_law_most"] spCode := by
  refine F.ok scCode (fun vs H Q E h => ?_) (fun cdv A outer s H vs Q E hr h => ?_)
  · obtain ⟨st, ls, ns, cell, k, l, x, y, rfl, _⟩ := h
    rfl
  · obtain ⟨st, ls, ns, cell, n0, lt, x, y, rfl, S, hlt, k⟩ := h
    have nd := scCode.nd
    refine ⟨_, pss_cons (ps_set (i := 4) nd rfl (.inl rfl) (pe_lst pa_nil))
      (pss_cons (ps_for PassesOwn.never rfl (pi_range1 (by rfl) T.range (pa_cons (pe_df DN hr (by rfl) (pa_cons (pv 0) (pa_cons (pe_op op_add (pv 2) pe_int) pa_nil))) pa_nil)) (pg_name (i := 5) nd rfl (.inl rfl))
        (pss_cons (ps_set (i := 6) nd rfl (.inl rfl) pe_str)
        (pss_cons (ps_for PassesOwn.never rfl (pi_range1 (by rfl) T.range (pa_cons (pe_op op_add pe_int (pe_df DN hr (by rfl) (pa_cons (pv 0) (pa_cons (pv 3) pa_nil)))) pa_nil)) (pg_name (i := 7) nd rfl (.inl rfl))
          (pss_one (ps_set (i := 6) nd rfl (.inl rfl) (pe_op op_add_str (pv 6) (pe_ix ix_str (pv 1) (pe_df DN hr (by rfl) (pa_cons (pv 0) (pa_cons (pe_callB call_len_str (by rfl) T.len PySem.boot_len (pa_cons (pv 1) pa_nil)) pa_nil))) (fun _ _ => rfl))))))
        (pss_one (ps_if (pt_cmpR op_notIn_seq (pv 6) (pv 4) rfl)
          (pss_one (ps_expr (pe_bm PySem.F.plainAttrs_list PySem.F.slot_list_append PySem.F.type_list_append mt_append (pv 4) (pa_cons (pv 6) pa_nil)))) pss_nil)))))
      (pss_one (ps_ret (pe_callTy call_tuple_of (by rfl) T.tuple (by decide +kernel) (pa_cons (pv 4) pa_nil))))), ?_⟩
    refine ⟨Nat.zero_le _, fun fl hfl => ?_⟩
    have nfs : fl ≠ st := (ne_of_none S.at_ hfl).symm
    have hll : lt.length = 2 := by
      obtain ⟨h | h, _⟩ := hlt <;> rw [h] <;> rfl
    have S1 := S.mono (same_upd (o := .lst []) hfl)
    refine ⟨_, rfl, _, rfl, _, _, rfl, rfl, st, ls, ns, cell, n0, _, rfl, S1, by decide, by decide, fun H1 d cell1 n1 d0 d1 sb1 S2 => ?_⟩
    have d1 : d < 6 := d1
    refine ⟨d, rfl, by omega, by omega, ?_⟩
    have hf1 : H1 fl = some (.lst (([] : List Wd).map cv)) := sb1 _ _ nfs upd_same
    refine for_range (lo := 0) (n := d.toNat) (fun i σ H2 => ∃ y5 y6 y7 code cell n, σ = [some (.ref st), some (cv lt), some (.int 5), some (.int 3), some (.ref fl), y5, y6, y7] ∧ StreamAt H2 st ls ns cell n ∧ H2 fl = some (.lst (code.map cv)) ∧ CodeP x y i code) ⟨_, _, _, [], _, _, rfl, S2, hf1, by simp, by simp, by simp⟩ (fun i σ H2 hi p => ?_) (fun σ H2 p => ?_)
    · obtain ⟨y5, y6, y7, code, cell2, n2, rfl, S3, hf2, cp⟩ := p
      refine ⟨_, rfl, _, rfl, st, ls, ns, cell2, n2, _, rfl, S3, by decide, by decide, fun H3 e cell3 n3 e0 e1 sb3 S4 => ?_⟩
      have hf3 := sb3 _ _ nfs hf2
      refine ⟨_, _, rfl, rfl, 1 + e, rfl, by omega, by omega, ?_⟩
      refine for_range (lo := 0) (n := (1 + e).toNat) (fun j σ H4 => ∃ y7 wd cell n, σ = [some (.ref st), some (cv lt), some (.int 5), some (.int 3), some (.ref fl), some (.int (0 + (i : Nat))), some (cv wd), y7] ∧ StreamAt H4 st ls ns cell n ∧ H4 fl = some (.lst (code.map cv)) ∧ WordP x y j wd) ⟨_, [], _, _, by rw [tx_nil]; rfl, S4, hf3, rfl, by simp⟩ (fun j σ H4 hj p => ?_) (fun σ H4 p => ?_)
      · obtain ⟨y7, wd, cell4, n4, rfl, S5, hf4, wp⟩ := p
        refine ⟨_, rfl, _, rfl, _, rfl, _, rfl, _, rfl, by rw [tx_len, hll]; exact small (by omega), st, ls, ns, cell4, n4, _, rfl, S5, ?_, ?_, fun H5 g cell5 n5 g0 g1 sb5 S6 => ?_⟩
        · rw [tx_len, hll]; decide
        · rw [tx_len, hll]; decide
        · rw [tx_len, hll] at g1
          have hg : g.toNat < lt.length := by rw [hll]; omega
          have eg : g = ((g.toNat : Nat) : Int) := by omega
          have hc : lt[g.toNat]'hg ∈ lt := List.getElem_mem hg
          refine ⟨tx lt, g, lt[g.toNat]'hg, rfl, rfl, by rw [tx_len, hll]; exact small (by omega), ?_, ?_⟩
          · rw [tx_tl]
            have h := atI_nat (xs := lt) (j := g.toNat) (List.getElem?_eq_getElem hg)
            rw [← eg] at h
            exact h
          · refine ⟨_, _, rfl, rfl, ?_, ?_⟩
            · rw [tx_len]
              show wd.length + 1 ≤ sizeLine
              have := wp.1
              exact small (by omega)
            · refine ⟨some (.int (0 + (j : Nat))), wd ++ [lt[g.toNat]'hg], _, _, ?_, S6, sb5 _ _ nfs hf4, ?_, fun c hc' => ?_⟩
              · rw [show (⟨#[lt[g.toNat]'hg]⟩ : Str) = tx [lt[g.toNat]'hg] from rfl, tx_app]
                rfl
              · rw [List.length_append, List.length_singleton, wp.1]
              · rcases List.mem_append.mp hc' with q | q
                · exact wp.2 c q
                · rw [List.mem_singleton.mp q]
                  exact lets_mem hlt _ hc
      · obtain ⟨y7, wd, cell4, n4, rfl, S5, hf4, wp⟩ := p
        have e1 : e < 3 := e1
        have wl := cp.len
        -- if word not in found
        refine ⟨_, rfl, _, rfl, fl, _, rfl, .inl (SqL.of hf4), rfl, flat_cv _, _, rfl, ?_⟩
        rw [inV_cv]
        by_cases hm : wd ∈ code
        · rw [decide_eq_true hm]
          refine iteF ?_
          exact ⟨_, _, _, code, _, _, rfl, S5, hf4, cp.up⟩
        · rw [decide_eq_false hm]
          refine iteT ?_
          refine ⟨_, rfl, .inl ⟨rfl, _, SqL.of hf4⟩, _, rfl, fl, _, _, rfl, rfl, hf4, by rw [List.length_map]; exact smallLt (by omega), ?_⟩
          refine ⟨_, _, _, code ++ [wd], cell4, n4, rfl, ⟨by rw [upd_ne nfs.symm]; exact S5.at_, ?_, S5.pos⟩, by rw [upd_same, List.map_append]; rfl, cp.add wp (by omega) (by omega) hm⟩
          rw [upd_ne (fun z => ?_)]
          · exact S5.ns_
          · have h0 : (upd H fl (.lst [])) ls = some (.lst (ns.map V.int)) := S1.ns_
            have h1 := S.ns_
            rw [z, hfl] at h1
            cases h1
    · obtain ⟨y5, y6, y7, code, cell2, n2, rfl, S3, hf2, cp⟩ := p
      have wl := cp.len
      refine ⟨_, rfl, fl, _, rfl, .inl ⟨SqL.of hf2, fun a ha => ?_⟩⟩
      refine k _ a code ⟨upd_same, by omega, fun w hw => by have := (cp.wd w hw).2.1; omega⟩ ⟨cp.nd, fun w hw => (cp.wd w hw).1, fun w hw c hc => lets_abc hlt ((cp.wd w hw).2.2 c hc)⟩ fun w hw => (cp.wd w hw).2.2
theorem df_code {f : Addr} {fd : FuncData} (F : Fun K "_law_code" "_law_code" sCode f fd) (T : Txt mg) (DN : Df P w K mg base 1 "_law_next" ["_law_stream_here", "_law_many"] spNext) (m : mg "_law_code" = some (.ref f)) : Df P w K mg base 2 "_law_code" ["_law_stream_here", "_law_letters", "_law_words", "_law_most"] spCode :=
  ⟨f, fd, ok_code F T DN, m, F.kp, F.binds fun _ _ _ _ _ _ us hl => match us, hl with | [_, _, _, _], _ => rfl⟩
end
end SWP
end
/-! ## SWEqual -/
section
set_option maxHeartbeats 4000000
namespace SWP
open PySem L2 SW SWR
def spEqual : Sp := fun vs H Q _ => (∃ b c : Bool, vs = [.bl b, .bl c] ∧ Q (.bl (decide (b = c))) H) ∨ ∃ t : Wd, vs = [cv t, cv t] ∧ Q (.bl true) H
section
variable {P : Program} {w : World} {K : PySem.W.Frag} {mg : Str → Option Value} {base : Heap}
theorem scEqual : FnScope ["_law_actual", "_law_due"] ["_law_actual", "_law_due"] (defScope sEqual) := ⟨rfl, rfl, rfl, by decide +kernel, rfl, by decide +kernel, by decide +kernel⟩
theorem ok_equal {f : Addr} {fd : FuncData} (F : Fun K "_law_equal" "_law_equal" sEqual f fd) (T : Txt mg) : FnOk P w K mg base CX0 1 f fd ["_law_actual", "_law_due"] spEqual := by
  refine F.ok scEqual (fun vs H Q E h => ?_) (fun cdv A outer s H vs Q E hr h => ?_)
  · rcases h with ⟨b, c, rfl, _⟩ | ⟨t, rfl, _⟩ <;> rfl
  · refine ⟨_, pss_cons (ps_if (pt_cmp (pc_isN (pv 1))) (pss_one ps_never) pss_nil)
      (pss_cons (ps_if (pt_val (pe_callB call_isi (by rfl) T.isinstance PyProof.Rows.boot_isinstance (pa_cons (pv 1) (pa_cons (pe_bltn (v := .ty "bool") (by rfl) T.bool (by decide +kernel) rfl) pa_nil))))
        (pss_one (ps_ret (pe_and (pe_callB call_isi (by rfl) T.isinstance PyProof.Rows.boot_isinstance (pa_cons (pv 0) (pa_cons (pe_bltn (v := .ty "bool") (by rfl) T.bool (by decide +kernel) rfl) pa_nil))) (pe_one (pe_cmpR op_eq (pv 0) (pv 1) (nomark _)))))) pss_nil)
      (pss_cons (ps_if (pt_val (pe_callB call_isi (by rfl) T.isinstance PyProof.Rows.boot_isinstance (pa_cons (pv 1) (pa_cons (pe_bltn (v := .ty "int") (by rfl) T.int (by decide +kernel) rfl) pa_nil)))) (pss_one ps_never) pss_nil)
      (pss_cons (ps_if (pt_val (pe_callB call_isi (by rfl) T.isinstance PyProof.Rows.boot_isinstance (pa_cons (pv 1) (pa_cons (pe_bltn (v := .ty "str") (by rfl) T.str (by decide +kernel) rfl) pa_nil))))
        (pss_one (ps_ret (pe_and (pe_callB call_isi (by rfl) T.isinstance PyProof.Rows.boot_isinstance (pa_cons (pv 0) (pa_cons (pe_bltn (v := .ty "str") (by rfl) T.str (by decide +kernel) rfl) pa_nil))) (pe_one (pe_cmpR op_eq (pv 0) (pv 1) (nomark _)))))) pss_nil)
      pss_never))), ?_⟩
    rcases h with ⟨b, c, rfl, k⟩ | ⟨t, rfl, k⟩
    · refine ⟨_, rfl, _, rfl, ?_⟩
      refine iteF ?_
      refine ⟨_, rfl, _, _, _, _, true, rfl, .ty _, .base (.bl _), kit_ty (by decide +kernel), _, rfl, ?_⟩
      refine iteT ?_
      refine ⟨_, rfl, _, _, _, _, true, rfl, .ty _, .base (.bl _), kit_ty (by decide +kernel), _, rfl, ?_⟩
      refine iteT ?_
      refine ⟨_, rfl, _, rfl, rfl, ?_⟩
      rw [dec_bl, Bool.beq_eq_decide_eq]
      exact k
    · refine ⟨_, rfl, _, rfl, ?_⟩
      refine iteF ?_
      refine ⟨_, rfl, _, _, _, _, false, rfl, .ty _, .base (.str _), kit_ty (by decide +kernel), _, rfl, ?_⟩
      refine iteF ?_
      refine ⟨_, rfl, _, _, _, _, false, rfl, .ty _, .base (.str _), kit_ty (by decide +kernel), _, rfl, ?_⟩
      refine iteF ?_
      refine ⟨_, rfl, _, _, _, _, true, rfl, .ty _, .base (.str _), kit_ty (by decide +kernel), _, rfl, ?_⟩
      refine iteT ?_
      refine ⟨_, rfl, _, _, _, _, true, rfl, .ty _, .base (.str _), kit_ty (by decide +kernel), _, rfl, ?_⟩
      refine iteT ?_
      refine ⟨_, rfl, _, rfl, rfl, ?_⟩
      have e : decide (cv t = cv t) = true := decide_eq_true rfl
      rw [e]
      exact k
theorem df_equal {f : Addr} {fd : FuncData} (F : Fun K "_law_equal" "_law_equal" sEqual f fd) (T : Txt mg) (m : mg "_law_equal" = some (.ref f)) : Df P w K mg base 1 "_law_equal" ["_law_actual", "_law_due"] spEqual :=
  ⟨f, fd, ok_equal F T, m, F.kp, F.binds fun _ _ _ _ _ _ us hl => match us, hl with | [_, _], _ => rfl⟩
end
end SWP
end
/-! ## SWParses -/
section
set_option maxHeartbeats 4000000
namespace SWP
open PySem L2 SW SWR
theorem ways_get (code : List Wd) (z : Wd) {i k : Nat} (h : k ≤ i) : ((waysTo code z i).map nv)[k]? = some (nv ((waysTo code z i).getD k 0)) := by
  rw [List.getElem?_map, List.getD_eq_getElem?_getD, List.getElem?_eq_getElem (by rw [waysTo_len]; omega)]
  rfl
def spParses : Sp := fun vs H Q _ => ∃ (a : Addr) (code : List Wd) (z : Wd), vs = [.ref a, cv z] ∧ CodeAt H a code ∧ (∀ w ∈ code, w ≠ []) ∧ z.length ≤ 1000 ∧ ∀ H', Same H H' → Q (.int (parses code z : Nat)) H'
section
variable {P : Program} {w : World} {K : PySem.W.Frag} {mg : Str → Option Value} {base : Heap}
theorem scParses : FnScope ["_law_code_here", "_law_string", "_law_ways", "_law_end", "_law_many", "_law_word"] ["_law_code_here", "_law_string"] (defScope sParses) := ⟨rfl, rfl, rfl, by decide +kernel, rfl, by decide +kernel, by decide +kernel⟩
theorem ok_parses {f : Addr} {fd : FuncData} (F : Fun K "_law_parses" "_law_parses" sParses f fd) (T : Txt mg) : FnOk P w K mg base CX0 1 f fd ["_law_code_here", "_law_string"] spParses := by
  refine F.ok scParses (fun vs H Q E h => ?_) (fun cdv A outer s H vs Q E hr h => ?_)
  · obtain ⟨a, code, z, rfl, _⟩ := h
    rfl
  · obtain ⟨a, code, z, rfl, C, hne, hz, k⟩ := h
    have nd := scParses.nd
    refine ⟨_, pss_cons (ps_set (i := 2) nd rfl (.inl rfl) (pe_lst (pa_cons pe_int pa_nil)))
      (pss_cons (ps_for PassesOwn.never rfl (pi_range2 (by rfl) T.range (pa_cons pe_int (pa_cons (pe_op op_add (pe_callB call_len_str (by rfl) T.len PySem.boot_len (pa_cons (pv 1) pa_nil)) pe_int) pa_nil))) (pg_name (i := 3) nd rfl (.inl rfl))
        (pss_cons (ps_set (i := 4) nd rfl (.inl rfl) pe_int)
        (pss_cons (ps_for PassesOwn.never rfl (pi_tup (pv 0)) (pg_name (i := 5) nd rfl (.inl rfl))
          (pss_one (ps_if (PW.pt (pw_and (pt_cmpR op_le (pe_callB call_len_str (by rfl) T.len PySem.boot_len (pa_cons (pv 5) pa_nil)) (pv 3) (nomark _))
              (pw_and1 (pt_cmpR op_eq (pe_slice sl_str (pv 1) (po_some (pe_op op_sub (pv 3) (pe_callB call_len_str (by rfl) T.len PySem.boot_len (pa_cons (pv 5) pa_nil)))) (po_some (pv 3))) (pv 5) (nomark _)))))
            (pss_one (ps_set (i := 4) nd rfl (.inl rfl) (pe_op op_add (pv 4) (pe_ix ix_list (pv 2) (pe_op op_sub (pv 3) (pe_callB call_len_str (by rfl) T.len PySem.boot_len (pa_cons (pv 5) pa_nil))) (fun _ _ => rfl))))) pss_nil)))
        (pss_one (ps_expr (pe_bm PySem.F.plainAttrs_list PySem.F.slot_list_append PySem.F.type_list_append mt_append (pv 2) (pa_cons (pv 4) pa_nil)))))))
      (pss_one (ps_ret (pe_ix ix_list (pv 2) (pe_un un_neg pe_int) (fun _ _ => rfl))))), ?_⟩
    refine ⟨by show 1 ≤ sizeLine; decide, fun l hl => ?_⟩
    refine ⟨_, rfl, _, rfl, by rw [tx_len]; exact small (by omega), _, _, rfl, rfl, 1, _, rfl, ⟨by decide, by decide, ?_, ?_⟩, ?_⟩
    · rw [tx_len]; omega
    · rw [tx_len]; omega
    rw [tx_len]
    have en : (((z.length : Nat) : Int) + 1 - 1).toNat = z.length := by omega
    rw [en]
    have hcl := C.len
    have hlen : (code.map cv).length = code.length := List.length_map _
    refine for_range (lo := 1) (n := z.length) (fun i σ H1 => ∃ y3 y4 y5, σ = [some (.ref a), some (cv z), some (.ref l), y3, y4, y5] ∧ Same H H1 ∧ H1 l = some (.lst ((waysTo code z i).map nv))) ⟨_, _, _, rfl, same_upd hl, upd_same⟩ (fun i σ H1 hi p => ?_) (fun σ H1 p => ?_)
    · obtain ⟨y3, y4, y5, rfl, sm, hw⟩ := p
      -- many = 0
      refine ⟨_, rfl, a, rfl, ⟨_, SqT.of (sm _ _ C.at_)⟩, ?_⟩
      refine for_it (walk_tup (xs := code.map cv)) (fun j σ H2 => ∃ y5, σ = [some (.ref a), some (cv z), some (.ref l), some (.int (1 + (i : Nat))), some (nv (SW.sumTo code z (waysTo code z i) (i + 1) j)), y5] ∧ H2 = H1) ⟨_, rfl, rfl⟩ (fun j σ H2 _ p => ?_) (fun j x σ H2 H3 hj p yy => ?_) (fun σ H2 p => ?_)
      · obtain ⟨_, _, rfl⟩ := p
        exact SqT.of (sm _ _ C.at_)
      · obtain ⟨y5, rfl, rfl⟩ := p
        obtain ⟨rfl, hx⟩ := yy
        obtain ⟨hj, rfl⟩ := map_at hx
        have hwm := getD_some hj
        have wl := C.wl _ hwm
        have wpos := List.length_pos_iff.mpr (hne _ hwm)
        refine ⟨_, rfl, _, rfl, by rw [tx_len]; exact small (by omega), _, rfl, _, _, rfl, rfl, _, rfl, ?_⟩
        rw [tx_len]
        have skip : ¬ ((code.getD j []).length ≤ i + 1 ∧ seg z (i + 1 - (code.getD j []).length) (i + 1) = code.getD j []) →
            ∃ y5, [some (V.ref a), some (cv z), some (V.ref l), some (V.int (1 + (i : Nat))), some (nv (SW.sumTo code z (waysTo code z i) (i + 1) j)), some (cv (code.getD j []))] = [some (.ref a), some (cv z), some (.ref l), some (.int (1 + (i : Nat))), some (nv (SW.sumTo code z (waysTo code z i) (i + 1) (j + 1))), y5] ∧ H3 = H3 := fun c => by
          refine ⟨some (cv (code.getD j [])), ?_, rfl⟩
          rw [SW.sumTo, if_neg c]
          rfl
        refine ite2 (fun c1 => ?_) (fun c1 => ?_)
        · have c1 := of_decide_eq_true c1
          have c1' : (code.getD j []).length ≤ i + 1 := by omega
          have ei : (1 + (i : Int)) - ((code.getD j []).length : Nat) = ((i + 1 - (code.getD j []).length : Nat) : Int) := by omega
          refine ⟨_, rfl, _, rfl, _, rfl, _, rfl, by rw [tx_len]; exact small (by omega), _, _, rfl, rfl, _, rfl, _, rfl, _, rfl, _, rfl, by rw [tx_len]; exact small (by omega), _, rfl, rfl, _, rfl, ?_⟩
          have ec : cutS (tx z) (some ((1 + (i : Int)) - ((code.getD j []).length : Nat))) (some (1 + (i : Int))) = tx (seg z (i + 1 - (code.getD j []).length) (i + 1)) := by
            rw [ei, show (1 + (i : Int)) = ((i + 1 : Nat) : Int) by omega]
            exact cut_seg z (by omega) (by omega)
          rw [tx_len, ec]
          have ed : decide (V.str (tx (seg z (i + 1 - (code.getD j []).length) (i + 1))) = cv (code.getD j [])) = decide (seg z (i + 1 - (code.getD j []).length) (i + 1) = code.getD j []) := cv_eq _ _
          rw [ed]
          refine ite2 (fun c2 => ?_) (fun c2 => ?_)
          · have c2 := of_decide_eq_true c2
            refine ⟨_, rfl, _, rfl, _, rfl, _, rfl, _, rfl, by rw [tx_len]; exact small (by omega), _, _, rfl, rfl, l, _, _, nv ((waysTo code z i).getD (i + 1 - (code.getD j []).length) 0), rfl, rfl, SqL.of hw, ?_, _, _, rfl, rfl, ?_⟩
            · rw [tx_len, ei]
              exact atI_nat (ways_get code z (by omega))
            · refine ⟨some (cv (code.getD j [])), ?_, rfl⟩
              rw [SW.sumTo, if_pos ⟨c1', c2⟩]
              rfl
          · exact skip fun z => c2 (decide_eq_true z.2)
        · exact skip fun z => c1 (decide_eq_true (by omega))
      · obtain ⟨y5, rfl, rfl⟩ := p
        rw [hlen]
        refine ⟨_, rfl, .inl ⟨rfl, _, SqL.of hw⟩, _, rfl, l, _, _, rfl, rfl, hw, by rw [List.length_map, waysTo_len]; exact smallLt (by omega), ?_⟩
        have l0 : H l = none := hl
        refine ⟨_, _, _, rfl, fun b o e => ?_, ?_⟩
        · rw [upd_ne (ne_of_none e l0)]
          exact sm b o e
        · rw [upd_same, waysTo, List.map_append]
          rfl
    · obtain ⟨_, _, _, rfl, sm, hw⟩ := p
      obtain ⟨A1, hA⟩ := waysTo_last code z z.length
      rw [hA, List.map_append] at hw
      refine ⟨_, rfl, _, rfl, l, _, _, _, rfl, rfl, SqL.of hw, atI_last _ _, ?_⟩
      exact k _ sm
theorem df_parses {f : Addr} {fd : FuncData} (F : Fun K "_law_parses" "_law_parses" sParses f fd) (T : Txt mg) (m : mg "_law_parses" = some (.ref f)) : Df P w K mg base 1 "_law_parses" ["_law_code_here", "_law_string"] spParses :=
  ⟨f, fd, ok_parses F T, m, F.kp, F.binds fun _ _ _ _ _ _ us hl => match us, hl with | [_, _], _ => rfl⟩
end
end SWP
end
/-! ## SWLaw -/
section
set_option maxHeartbeats 4000000
namespace SWP
open PySem L2 SW SWR
def spLaw (K : PySem.W.Frag) : Sp := fun vs H Q _ => ∃ (a : Addr) (ns : List Int), vs = [.ref a] ∧ SqL K H a (ns.map V.int) ∧ ns.length ≤ 63 ∧ ∀ H', Q (.bl true) H'
/-- what first_ambiguous hands back -/
def tv : Option Wd → V
  | none => .non
  | some t => cv t
theorem tv_non (o : Option Wd) : decide (tv o = V.non) = decide (o = none) := by
  cases o with
  | none => rfl
  | some t => exact (decide_eq_false (fun z => nomatch (show V.str (tx t) = V.non from z))).trans (decide_eq_false (fun z => nomatch z)).symm
theorem lets_lt {l : Wd} {x y : Nat} (h : Lets l x y) : x < y := by
  obtain ⟨_, rfl, ⟨_, rfl⟩ | ⟨_, rfl⟩⟩ := h <;> decide
theorem ab_tx : (Str.ofString "ab") = tx [97, 98] := by decide +kernel
theorem ca_tx : (Str.ofString "ca") = tx [99, 97] := by decide +kernel
section
variable {P : Program} {w : World} {K : PySem.W.Frag} {mg : Str → Option Value} {base : Heap}
theorem scLaw : FnScope ["_law_script", "_law_stream_here", "_law_letters", "_law_code_here", "_law_told", "_law_string"] ["_law_script"] (defScope sLaw) := ⟨rfl, rfl, rfl, by decide +kernel, rfl, by decide +kernel, by decide +kernel⟩
theorem ok_law {f : Addr} {fd : FuncData} (F : Fun K "law" "law" sLaw f fd) (T : Txt mg) (DST : Df P w K mg base 1 "_law_stream" ["_law_script"] (spStream K)) (DN : Df P w K mg base 1 "_law_next" ["_law_stream_here", "_law_many"] spNext)
    (DC : Df P w K mg base 2 "_law_code" ["_law_stream_here", "_law_letters", "_law_words", "_law_most"] spCode) (DA : Df P w K mg base 4 "first_ambiguous" ["code"] spFirstAmb) (DU : Df P w K mg base 4 "is_unique" ["code"] spIsUnique)
    (DE : Df P w K mg base 1 "_law_equal" ["_law_actual", "_law_due"] spEqual) (DS : Df P w K mg base 1 "_law_strings" ["_law_letters", "_law_most"] spStrings) (DP : Df P w K mg base 1 "_law_parses" ["_law_code_here", "_law_string"] spParses) :
    FnOk P w K mg base CX0 5 f fd ["_law_script"] (spLaw K) := by
  refine F.ok scLaw (fun vs H Q E h => ?_) (fun cdv A outer s H vs Q E hr h => ?_)
  · obtain ⟨a, ns, rfl, _⟩ := h
    rfl
  · obtain ⟨a, ns, rfl, hs, hlen, k⟩ := h
    have nd := scLaw.nd
    have r1 := hr.mono (show 1 ≤ 4 by decide)
    have r2 := hr.mono (show 2 ≤ 4 by decide)
    refine ⟨_, pss_cons (ps_set (i := 1) nd rfl (.inl rfl) (pe_df DST r1 (by rfl) (pa_cons (pv 0) pa_nil)))
      (pss_cons (ps_set (i := 2) nd rfl (.inl rfl) (pe_ix ix_list (pe_lst (pa_cons pe_str (pa_cons pe_str pa_nil))) (pe_df DN r1 (by rfl) (pa_cons (pv 1) (pa_cons pe_int pa_nil))) (fun _ _ => rfl)))
      (pss_cons (ps_set (i := 3) nd rfl (.inl rfl) (pe_df DC r2 (by rfl) (pa_cons (pv 1) (pa_cons (pv 2) (pa_cons pe_int (pa_cons pe_int pa_nil))))))
      (C8.pss_cut (ps_set (i := 4) nd rfl (.inl rfl) (pe_df DA hr (by rfl) (pa_cons (pv 3) pa_nil)))
      (pss_cons (ps_if (pt_not (pt_val (pe_df DE r1 (by rfl) (pa_cons (pe_df DU hr (by rfl) (pa_cons (pv 3) pa_nil)) (pa_cons (pe_cmp (pc_isN (pv 4)) rfl) pa_nil))))) (pss_one (ps_ret pe_bl)) pss_nil)
      (pss_cons (ps_for PassesOwn.never rfl (pi_list (pe_df DS r1 (by rfl) (pa_cons (pv 2) (pa_cons pe_int pa_nil)))) (pg_name (i := 5) nd rfl (.inl rfl))
        (pss_one (ps_if (pt_cmpR op_gt (pe_df DP r1 (by rfl) (pa_cons (pv 3) (pa_cons (pv 5) pa_nil))) pe_int (nomark _)) (pss_one (ps_ret (pe_df DE r1 (by rfl) (pa_cons (pv 4) (pa_cons (pv 5) pa_nil))))) pss_nil)))
      (pss_one (ps_ret (pe_or (pe_cmp (pc_isN (pv 4)) rfl) (pe_one (pe_and (pe_cmpR op_gt (pe_callB call_len_str (by rfl) T.len PySem.boot_len (pa_cons (pv 4) pa_nil)) pe_int (nomark _))
        (pe_one (pe_cmpR op_gt (pe_df DP r1 (by rfl) (pa_cons (pv 3) (pa_cons (pv 4) pa_nil))) pe_int (nomark _))))))))))))), ?_⟩
    -- the stream
    refine ⟨_, rfl, a, ns, rfl, hs, fun H1 st ls s1 st0 S1 => ?_⟩
    -- the letters
    refine ⟨by show 2 ≤ sizeLine; decide, fun p hp => ?_⟩
    have nps : p ≠ st := (ne_of_none S1.at_ hp).symm
    have S2 := S1.mono (same_upd (o := .lst [.str (Str.ofString "ab"), .str (Str.ofString "ca")]) hp)
    refine ⟨_, rfl, st, ls, ns, 0, 0, 2, rfl, S2, by decide, by decide, fun H2 d cell n d0 d2 sb S3 => ?_⟩
    have hp2 : H2 p = some (.lst [.str (Str.ofString "ab"), .str (Str.ofString "ca")]) := sb _ _ nps upd_same
    obtain ⟨lt, x, y, hl, hat⟩ : ∃ lt x y, Lets lt x y ∧ atI [V.str (Str.ofString "ab"), V.str (Str.ofString "ca")] d = some (cv lt) := by
      have hd : d = 0 ∨ d = 1 := by omega
      rcases hd with rfl | rfl
      · exact ⟨[97, 98], 97, 98, ⟨.inl rfl, rfl, .inl ⟨rfl, rfl⟩⟩, by rw [ab_tx]; exact atI_nat (j := 0) rfl⟩
      · exact ⟨[99, 97], 97, 99, ⟨.inr rfl, rfl, .inr ⟨rfl, rfl⟩⟩, by rw [ca_tx]; exact atI_nat (j := 1) rfl⟩
    refine ⟨p, _, d, _, rfl, rfl, SqL.of hp2, hat, ?_⟩
    -- the code
    refine ⟨_, rfl, _, rfl, st, ls, ns, cell, n, lt, x, y, rfl, S3, hl, fun H3 ca code C G let_ => ?_⟩
    -- what first_ambiguous tells
    refine ⟨fun σ H4 => ∃ told : Option Wd, σ = [some (.ref a), some (.ref st), some (cv lt), some (.ref ca), some (tv told), none] ∧ CodeAt H4 ca code ∧ Told code told ∧ ∀ t, told = some t → t.length ≤ 1000, ?_, ?_⟩
    · refine ⟨_, rfl, ca, code, rfl, C, G, fun H4 s4 t => ?_, fun H4 t s4 ht tl => ?_⟩
      · exact ⟨none, rfl, C.mono (.same s4), t, fun t h => (by cases h)⟩
      · exact ⟨some t, rfl, C.mono (.same s4), ht, fun t' h => by rw [← Option.some.inj h]; exact tl⟩
    rintro σ H4 ⟨told, rfl, C4, ht, htl⟩
    have xy := lets_lt hl
    -- is_unique
    refine ⟨_, rfl, ca, code, rfl, C4, G, fun H5 b s5 hb => ?_⟩
    have C5 := C4.mono (.same s5)
    refine ⟨_, rfl, .inl ⟨b, _, rfl, _, rfl, ?_⟩⟩
    have eb : decide (b = decide (tv told = V.non)) = true := by
      rw [tv_non]
      refine decide_eq_true ?_
      have h2 := told_none_iff ht
      by_cases h : told = none
      · rw [decide_eq_true h]
        exact hb.mpr (h2.mp h)
      · rw [decide_eq_false h]
        cases b with
        | false => rfl
        | true => exact absurd (h2.mpr (hb.mp rfl)) h
    rw [eb]
    refine iteF ?_
    -- all strings
    refine ⟨_, rfl, lt, x, y, rfl, hl, fun H6 q s6 q0 hq => ?_⟩
    have C6 := C5.mono (.same s6)
    refine ⟨q, rfl, ⟨_, SqL.of hq⟩, ?_⟩
    refine for_it (walk_list (xs := (strsTo x y 7).map cv)) (fun i σ H7 => ∃ y5, σ = [some (.ref a), some (.ref st), some (cv lt), some (.ref ca), some (tv told), y5] ∧ Same H6 H7 ∧ ∀ z ∈ (strsTo x y 7).take i, ¬ Amb code z) ⟨_, rfl, Same.refl _, by simp⟩ (fun i σ H7 _ p => ?_) (fun i v σ H7 H8 hi p yy => ?_) (fun σ H7 p => ?_)
    · obtain ⟨_, _, s7, _⟩ := p
      exact SqL.of (s7 _ _ hq)
    · obtain ⟨y5, rfl, s7, hno⟩ := p
      obtain ⟨rfl, hx⟩ := yy
      rw [List.getElem?_map] at hx
      cases ei : (strsTo x y 7)[i]? with
      | none => rw [ei] at hx; cases hx
      | some z =>
        rw [ei] at hx
        cases hx
        have zl := (mem_strs.mp (List.mem_of_getElem? ei)).1
        have hi2 := (List.getElem?_eq_some_iff.mp ei)
        refine ⟨_, rfl, _, rfl, ca, code, z, rfl, C6.mono (.same s7), G.ne, by omega, fun H9 s9 => ?_⟩
        refine ⟨_, _, rfl, rfl, _, rfl, ?_⟩
        have two := parses_two G.ne G.nd z
        refine ite2 (fun c => ?_) (fun c => ?_)
        · have c := of_decide_eq_true c
          have am : Amb code z := two.mp (by omega)
          have e : strsTo x y 7 = (strsTo x y 7).take i ++ z :: (strsTo x y 7).drop (i + 1) := by
            obtain ⟨h1, h2⟩ := hi2
            rw [← h2, ← List.drop_eq_getElem_cons h1, List.take_append_drop]
          have et := told_first G.ne let_ xy ht e hno am
          subst et
          exact ⟨_, rfl, _, rfl, .inr ⟨z, rfl, k _⟩⟩
        · refine ⟨_, rfl, s7.trans s9, fun u hu => ?_⟩
          rw [take_one ei] at hu
          rcases List.mem_append.mp hu with hu | hu
          · exact hno u hu
          · rw [List.mem_singleton.mp hu]
            intro am
            have := two.mpr am
            exact c (decide_eq_true (by omega))
    · obtain ⟨y5, rfl, s7, hno⟩ := p
      rw [List.length_map, List.take_length] at hno
      refine ⟨_, rfl, _, rfl, ?_⟩
      rw [tv_non]
      cases told with
      | none =>
        refine iteT ?_
        exact k _
      | some t =>
        refine iteF ?_
        obtain ⟨h1, h2⟩ := told_last let_ ht hno
        have tl := htl t rfl
        have h3 := (parses_two G.ne G.nd t).mpr h2
        refine ⟨_, rfl, _, rfl, by rw [tx_len]; exact small (by omega), _, _, rfl, rfl, _, rfl, ?_⟩
        rw [tx_len, decide_eq_true (by omega)]
        refine iteT ?_
        refine ⟨_, rfl, _, rfl, ca, code, t, rfl, C6.mono (.same s7), G.ne, tl, fun H9 s9 => ?_⟩
        refine ⟨_, _, rfl, rfl, ?_⟩
        show Q (.bl (decide ((1 : Int) < ((parses code t : Nat) : Int)))) H9
        rw [decide_eq_true (by omega)]
        exact k _
end
end SWP
end
/-! ## SWAll -/
section
set_option maxHeartbeats 4000000
namespace SWP
open PySem L2 SW SWR
/-- a def of the top, as the head leaves it -/
def Def (K : PySem.W.Frag) (mg : Str → Option Value) (x : Str) (st : Stmt) : Prop := ∃ (f : Addr) (fd : FuncData), Fun K x x st f fd ∧ mg x = some (.ref f)
theorem def_at {K : PySem.W.Frag} {h : Heap} {mg : Str → Option Value} (X : K.In h) (G : h.Ns mainGlobals mg) {x : Str} {st : Stmt} {f : Addr} {od an : Option Addr} {sl : Array (Option Value)} {oc kV dc pm cd ct : Value}
    (a : PySem.W.nsIn K mainGlobals x = some (some (.ref f))) (l : K.lookup f = some ⟨oc, od, .func (PySem.W.fnOf x x (defArgs st) (defBody st) (defScope st) .none kV dc pm an cd ct), sl⟩) (c : PySem.W.codeIn K cd x = true) (k : PySem.W.keepIn K (.ref f) = true) : Def K mg x st :=
  ⟨f, _, fun_mk (st := st) l c k, PySem.W.mg_of X G a⟩
/-- what the head says of the top -/
structure Top (K : PySem.W.Frag) (mg : Str → Option Value) : Prop where
  d7 : Def K mg "is_spelled" sSpelled
  d8 : Def K mg "is_code" sIsCode
  d10 : Def K mg "check_code" sCheck
  d11 : Def K mg "first_steps" sFirst
  d12 : Def K mg "steps_from" sSteps
  d13 : Def K mg "rests_of" sRests
  d14 : Def K mg "unique" sUnique
  d15 : Def K mg "ways_on" sWaysOn
  d16 : Def K mg "first_way" sFirstWay
  d17 : Def K mg "is_unique" sIsUnique
  d18 : Def K mg "first_ambiguous" sFirstAmb
  d20 : Def K mg "_law_stream" sStream
  d21 : Def K mg "_law_next" sNext
  d23 : Def K mg "_law_equal" sEqual
  d24 : Def K mg "_law_code" sCode
  d25 : Def K mg "_law_parses" sParses
  d26 : Def K mg "_law_strings" sStrings
  d27 : Def K mg "law" sLaw
  txt : Txt mg
  cst : Cst mg
theorem Top.law {K : PySem.W.Frag} {mg : Str → Option Value} (t : Top K mg) {l : PySem.W.OpenLaw} {w : World} {fa : Addr} (hfa : mg "law" = some (.ref fa)) :
    ∃ fd : FuncData, (∀ (s : Shared) (v : Value), BindsTo s fd ⟨[v], []⟩ [("_law_script", v)]) ∧ ∀ base : Heap, K.In base → base.Ns mainGlobals mg → FnOk l.prog w K mg base CX0 5 fa fd ["_law_script"] (spLaw K) := by
  obtain ⟨f, fd, F, m⟩ := t.d27
  have e := hfa.symm.trans m
  cases e
  refine ⟨fd, fun s v => ?_, fun base _ _ => ?_⟩
  · obtain ⟨oc, od, kV, doc, pm, an, cdv, ct, osl, rfl, lk, hcd⟩ := F.ex
    exact .of_eq rfl
  · obtain ⟨_, _, F7, m7⟩ := t.d7
    obtain ⟨_, _, F8, m8⟩ := t.d8
    obtain ⟨_, _, F10, m10⟩ := t.d10
    obtain ⟨_, _, F11, m11⟩ := t.d11
    obtain ⟨_, _, F12, m12⟩ := t.d12
    obtain ⟨_, _, F13, m13⟩ := t.d13
    obtain ⟨_, _, F14, m14⟩ := t.d14
    obtain ⟨_, _, F15, m15⟩ := t.d15
    obtain ⟨_, _, F16, m16⟩ := t.d16
    obtain ⟨_, _, F17, m17⟩ := t.d17
    obtain ⟨_, _, F18, m18⟩ := t.d18
    obtain ⟨_, _, F20, m20⟩ := t.d20
    obtain ⟨_, _, F21, m21⟩ := t.d21
    obtain ⟨_, _, F23, m23⟩ := t.d23
    obtain ⟨_, _, F24, m24⟩ := t.d24
    obtain ⟨_, _, F25, m25⟩ := t.d25
    obtain ⟨_, _, F26, m26⟩ := t.d26
    have T := t.txt
    have B := t.cst
    have D7 := df_spelled (P := l.prog) (w := w) (base := base) F7 T B m7
    have D8 := df_isCode F8 T B D7 m8
    have D10 := df_check F10 D8 m10
    have D11 := df_first (P := l.prog) (w := w) (base := base) F11 T m11
    have D12 := df_steps (P := l.prog) (w := w) (base := base) F12 T m12
    have D13 := df_rests F13 T D11 D12 m13
    have D14 := df_unique F14 D13 m14
    have D15 := df_waysOn F15 T D12 m15
    have D16 := df_firstWay F16 T D11 D15 m16
    have D17 := df_isUnique F17 D10 D14 m17
    have D18 := df_firstAmb F18 D10 D16 m18
    have D20 := df_stream (P := l.prog) (w := w) (base := base) F20 T m20
    have D21 := df_next (P := l.prog) (w := w) (base := base) F21 T m21
    have D23 := df_equal (P := l.prog) (w := w) (base := base) F23 T m23
    have D24 := df_code F24 T D21 m24
    have D25 := df_parses (P := l.prog) (w := w) (base := base) F25 T m25
    have D26 := df_strings (P := l.prog) (w := w) (base := base) F26 T m26
    exact ok_law F T D20 D21 D24 D18 D17 D23 D26 D25
theorem walk {l : PySem.W.OpenLaw} {q : Program} {loose : List Str} {XP : (Str → Option Value) → Heap → Prop} {YP : World → Heap → Prop} {d : DefRec} {K : Params → PySem.W.Frag} (hn : l.most = some 63) (hdf : d.params.defaults = [])
    (hY : ∀ (w : World) (h : Heap), YP w h → (K w.params).In h)
    (F : ∀ (w : World) (mg : Str → Option Value) (fa : Addr) (h : Heap), (K w.params).In h → h.Ns mainGlobals mg → mg d.name = some (.ref fa) →
      ∃ fd : FuncData, (∀ (s : Shared) (u : Value), BindsTo s fd ⟨[u], []⟩ [("_law_script", u)]) ∧ ∀ base : Heap, (K w.params).In base → base.Ns mainGlobals mg → FnOk l.prog w (K w.params) mg base CX0 5 fa fd ["_law_script"] (spLaw (K w.params))) :
    PySem.W.WalkO q loose XP YP l.row.toRowW d [] (fun f vs => PySem.call f vs) :=
  L2.walk_of (n := 63) (k := 5) (x := "_law_script") (CX := fun _ => CX0) (sp := fun w => spLaw (K w.params)) hn (by decide) hdf ⟨rfl, by decide, by decide⟩ hY F (fun _ _ a ns hl _ hS => ⟨a, ns, rfl, hS, hl, fun _ => rfl⟩) fun _ _ _ _ _ z => z
end SWP
end
open PySem PySem.W PyProof.Rows
set_option maxRecDepth 100000 in
set_option maxHeartbeats 0 in
theorem PySem.Challenge.cw_syncedwords_k09_whole_unique_and_strings_holds : PySem.Challenge.rw_syncedwords_k09_whole_unique_and_strings.Holds := by
  w_on; o_law; k_head; (case hw => w_witness2)
  k_fill
  refine SWP.walk (l := PySem.Challenge.rw_syncedwords_k09_whole_unique_and_strings) rfl rfl (fun w h Y => PySem.W.kIn_of Y) ?F
  case F =>
    intro w mg fa h KX G hmg
    refine SWP.Top.law ⟨?d7, ?d8, ?d10, ?d11, ?d12, ?d13, ?d14, ?d15, ?d16, ?d17, ?d18, ?d20, ?d21, ?d23, ?d24, ?d25, ?d26, ?d27, ?txt, ?cst⟩ hmg
    case d7 => refine' SWP.def_at KX G ?a ?l ?c ?k; (case a => k_is); (case l => k_is); (case c => k_is); (case k => k_is)
    case d8 => refine' SWP.def_at KX G ?a ?l ?c ?k; (case a => k_is); (case l => k_is); (case c => k_is); (case k => k_is)
    case d10 => refine' SWP.def_at KX G ?a ?l ?c ?k; (case a => k_is); (case l => k_is); (case c => k_is); (case k => k_is)
    case d11 => refine' SWP.def_at KX G ?a ?l ?c ?k; (case a => k_is); (case l => k_is); (case c => k_is); (case k => k_is)
    case d12 => refine' SWP.def_at KX G ?a ?l ?c ?k; (case a => k_is); (case l => k_is); (case c => k_is); (case k => k_is)
    case d13 => refine' SWP.def_at KX G ?a ?l ?c ?k; (case a => k_is); (case l => k_is); (case c => k_is); (case k => k_is)
    case d14 => refine' SWP.def_at KX G ?a ?l ?c ?k; (case a => k_is); (case l => k_is); (case c => k_is); (case k => k_is)
    case d15 => refine' SWP.def_at KX G ?a ?l ?c ?k; (case a => k_is); (case l => k_is); (case c => k_is); (case k => k_is)
    case d16 => refine' SWP.def_at KX G ?a ?l ?c ?k; (case a => k_is); (case l => k_is); (case c => k_is); (case k => k_is)
    case d17 => refine' SWP.def_at KX G ?a ?l ?c ?k; (case a => k_is); (case l => k_is); (case c => k_is); (case k => k_is)
    case d18 => refine' SWP.def_at KX G ?a ?l ?c ?k; (case a => k_is); (case l => k_is); (case c => k_is); (case k => k_is)
    case d20 => refine' SWP.def_at KX G ?a ?l ?c ?k; (case a => k_is); (case l => k_is); (case c => k_is); (case k => k_is)
    case d21 => refine' SWP.def_at KX G ?a ?l ?c ?k; (case a => k_is); (case l => k_is); (case c => k_is); (case k => k_is)
    case d23 => refine' SWP.def_at KX G ?a ?l ?c ?k; (case a => k_is); (case l => k_is); (case c => k_is); (case k => k_is)
    case d24 => refine' SWP.def_at KX G ?a ?l ?c ?k; (case a => k_is); (case l => k_is); (case c => k_is); (case k => k_is)
    case d25 => refine' SWP.def_at KX G ?a ?l ?c ?k; (case a => k_is); (case l => k_is); (case c => k_is); (case k => k_is)
    case d26 => refine' SWP.def_at KX G ?a ?l ?c ?k; (case a => k_is); (case l => k_is); (case c => k_is); (case k => k_is)
    case d27 => refine' SWP.def_at KX G ?a ?l ?c ?k; (case a => k_is); (case l => k_is); (case c => k_is); (case k => k_is)
    case txt => exact ⟨PySem.W.mg_none_of KX G (by k_is), PySem.W.mg_none_of KX G (by k_is), PySem.W.mg_none_of KX G (by k_is), PySem.W.mg_none_of KX G (by k_is), PySem.W.mg_none_of KX G (by k_is), PySem.W.mg_none_of KX G (by k_is),
        PySem.W.mg_none_of KX G (by k_is), PySem.W.mg_none_of KX G (by k_is), PySem.W.mg_none_of KX G (by k_is), PySem.W.mg_none_of KX G (by k_is), PySem.W.mg_none_of KX G (by k_is), PySem.W.mg_none_of KX G (by k_is)⟩
    case cst => exact ⟨⟨_, PySem.W.mg_of KX G (by k_is)⟩, ⟨_, PySem.W.mg_of KX G (by k_is)⟩, ⟨_, PySem.W.mg_of KX G (by k_is)⟩⟩
