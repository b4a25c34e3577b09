import PyProof.Rows.All
import Wide.All
import OpenK.AllK
import Wide.FinOn
import HandS.ForMost
import PyProof.JoinWalk
import HandS.GenList
import KE.KUnpackStar
import HandS.IterVal
import HandS.OwnIter
import HandS.Codes
import HandS.ExcInit
import HandS.ExcSuper
import KE.KExcSuper
import HandS.Words
import HandS.NoneIn
import HandS.Walk
import HandS.Wide
import PySem.Challenge.RW_matchclocks_k94_whole_logs_from_text_to
import HandS.Style
import HandS.TryOnly
import HandS.ExcOwn
import HandS.WordsExc
import PyProof.GenComp
import HandS.Defaults
import HandS.Star
import HandS.FStr
import HandS.RaiseMore
import HandS.OwnEq
import HandS.IsInst
import HandS.HotCalls
import HandS.ExcCtx
import HandS.ExcField
import HandS.ExcInitHot
set_option Elab.async false
set_option maxRecDepth 100000
set_option maxHeartbeats 16000000
set_option linter.all false
/-! ### walks, their weights, and what counting all of them tells -/
namespace My
abbrev Val := Option Int
abbrev Row := Nat × Nat × Int
/-- a walk of n rows from i to j of weight w -/
inductive Wk (R : List Row) : Nat → Nat → Nat → Int → Prop
  | nil (i : Nat) : Wk R i i 0 0
  | snoc {i k j n : Nat} {w l : Int} : Wk R i k n w → (k, j, l) ∈ R → Wk R i j (n + 1) (w + l)
section
variable {R : List Row}
theorem Wk.app {i j k n m : Nat} {a b : Int} (h : Wk R i j n a) (g : Wk R j k m b) : Wk R i k (n + m) (a + b) := by
  induction g with
  | nil => rw [Nat.add_zero, Int.add_zero]; exact h
  | snoc _ e ih =>
    rw [← Int.add_assoc]
    exact .snoc ih e
theorem Wk.one {i j : Nat} {l : Int} (h : (i, j, l) ∈ R) : Wk R i j 1 l := by
  have := Wk.snoc (Wk.nil (R := R) i) h
  rw [Int.zero_add] at this
  exact this
def RowsLt (R : List Row) (N : Nat) : Prop := ∀ r ∈ R, r.1 < N ∧ r.2.1 < N
theorem Wk.lt {N i j n : Nat} {w : Int} (hR : RowsLt R N) (h : Wk R i j n w) (hi : i < N) : j < N := by
  cases h with
  | nil => exact hi
  | snoc _ e => exact (hR _ e).2
/-- no closed walk is above 0 -/
def NP (R : List Row) (N : Nat) : Prop := ∀ i n w, i < N → Wk R i i n w → w ≤ 0
/-- a course of the rows -/
def Pot (R : List Row) (m : Nat → Int) : Prop := ∀ s t l, (s, t, l) ∈ R → m s + l ≤ m t
theorem Pot.walk {m : Nat → Int} (h : Pot R m) {i j n : Nat} {w : Int} (hw : Wk R i j n w) : m i + w ≤ m j := by
  induction hw with
  | nil => omega
  | snoc _ e ih => have := h _ _ _ e; omega
theorem Pot.np {m : Nat → Int} {N : Nat} (h : Pot R m) : NP R N := fun i n w _ hw => by have := h.walk hw; omega

/-! by rounds over the places between -/
def Cv (R : List Row) : Nat → Nat → Nat → Int → Prop
  | 0, i, j, w => (i, j, w) ∈ R ∨ (i = j ∧ w = 0)
  | k + 1, i, j, w => Cv R k i j w ∨ ∃ a b, Cv R k i k a ∧ Cv R k k j b ∧ w = a + b
theorem Cv.up {k : Nat} : ∀ {m i j : Nat} {w : Int}, k ≤ m → Cv R k i j w → Cv R m i j w
  | 0, i, j, w, h, c => by
    have e : k = 0 := by omega
    subst e
    exact c
  | m + 1, i, j, w, h, c => by
    by_cases e : k = m + 1
    · subst e; exact c
    · exact .inl (Cv.up (m := m) (by omega) c)
theorem Cv.walk : ∀ {k i j : Nat} {w : Int}, Cv R k i j w → ∃ n, Wk R i j n w
  | 0, i, j, w, .inl h => ⟨1, .one h⟩
  | 0, i, j, w, .inr ⟨h1, h2⟩ => by subst h1; subst h2; exact ⟨0, .nil i⟩
  | k + 1, i, j, w, .inl h => h.walk
  | k + 1, i, j, w, .inr ⟨a, b, h1, h2, e⟩ => by
    obtain ⟨n, hn⟩ := h1.walk
    obtain ⟨m, hm⟩ := h2.walk
    subst e
    exact ⟨n + m, hn.app hm⟩
/-- joined at a place below k -/
theorem Cv.tri {N : Nat} (np : ∀ i w, i < N → Cv R N i i w → w ≤ 0) : ∀ {k : Nat}, k ≤ N → ∀ {i j a : Nat} {u v : Int}, a < k → Cv R k i a u → Cv R k a j v → ∃ w, u + v ≤ w ∧ Cv R k i j w
  | 0, _, _, _, _, _, _, h, _, _ => by omega
  | k + 1, hk, i, j, a, u, v, ha, hu, hv => by
    have npk : ∀ w, Cv R k k k w → w ≤ 0 := fun w c => np k w (by omega) (c.up (by omega))
    by_cases e : a = k
    · subst e
      have h1 : ∃ u', u ≤ u' ∧ Cv R a i a u' := by
        rcases hu with hu | ⟨x, y, h1, h2, rfl⟩
        · exact ⟨u, Int.le_refl _, hu⟩
        · have := npk y h2
          exact ⟨x, by omega, h1⟩
      have h2 : ∃ v', v ≤ v' ∧ Cv R a a j v' := by
        rcases hv with hv | ⟨x, y, h1, h2, rfl⟩
        · exact ⟨v, Int.le_refl _, hv⟩
        · have := npk x h1
          exact ⟨y, by omega, h2⟩
      obtain ⟨u', l1, c1⟩ := h1
      obtain ⟨v', l2, c2⟩ := h2
      exact ⟨u' + v', by omega, .inr ⟨u', v', c1, c2, rfl⟩⟩
    · have ha' : a < k := by omega
      rcases hu with hu | ⟨x, y, h1, h2, rfl⟩ <;> rcases hv with hv | ⟨z, t, h3, h4, rfl⟩
      · obtain ⟨w, l, c⟩ := Cv.tri np (k := k) (by omega) ha' hu hv
        exact ⟨w, l, .inl c⟩
      · obtain ⟨w, l, c⟩ := Cv.tri np (k := k) (by omega) ha' hu h3
        exact ⟨w + t, by omega, .inr ⟨w, t, c, h4, rfl⟩⟩
      · obtain ⟨w, l, c⟩ := Cv.tri np (k := k) (by omega) ha' h2 hv
        exact ⟨x + w, by omega, .inr ⟨x, w, h1, c, rfl⟩⟩
      · obtain ⟨w, l, c⟩ := Cv.tri np (k := k) (by omega) ha' h2 h3
        have := npk w c
        exact ⟨x + t, by omega, .inr ⟨x, t, h1, h4, rfl⟩⟩
theorem Cv.all {N : Nat} (hR : RowsLt R N) (np : ∀ i w, i < N → Cv R N i i w → w ≤ 0) {i j n : Nat} {w : Int} (h : Wk R i j n w) : ∃ w', w ≤ w' ∧ Cv R N i j w' := by
  induction h with
  | nil => exact ⟨0, Int.le_refl _, Cv.up (Nat.zero_le _) (.inr ⟨rfl, rfl⟩)⟩
  | snoc _ e ih =>
    obtain ⟨w', l', c⟩ := ih
    obtain ⟨w2, l2, c2⟩ := Cv.tri np (Nat.le_refl N) (hR _ e).1 c (Cv.up (Nat.zero_le _) (.inl e))
    exact ⟨w2, by omega, c2⟩
end
abbrev Mat := Nat → Nat → Val
def setM (m : Mat) (i j : Nat) (v : Val) : Mat := fun a b => if a = i ∧ b = j then v else m a b
/-- m lies nowhere below m' -/
def LeM (m m' : Mat) : Prop := ∀ i j w, m i j = some w → ∃ w', m' i j = some w' ∧ w ≤ w'
theorem LeM.refl (m : Mat) : LeM m m := fun i j w h => ⟨w, h, Int.le_refl _⟩
theorem LeM.trans {a b c : Mat} (h : LeM a b) (g : LeM b c) : LeM a c := fun i j w e => by
  obtain ⟨x, h1, h2⟩ := h i j w e
  obtain ⟨y, h3, h4⟩ := g i j x h1
  exact ⟨y, h3, by omega⟩
/-- w is offered at (i, j) -/
def offer (m : Mat) (i j : Nat) (w : Int) : Mat := match m i j with
  | none => setM m i j (some w)
  | some v => if v < w then setM m i j (some w) else m
theorem offer_ge (m : Mat) (i j : Nat) (w : Int) : ∃ w', offer m i j w i j = some w' ∧ w ≤ w' := by
  unfold offer
  cases e : m i j with
  | none => exact ⟨w, by simp [setM], Int.le_refl _⟩
  | some v =>
    by_cases h : v < w
    · exact ⟨w, by simp [h, setM], Int.le_refl _⟩
    · exact ⟨v, by simp [h, e], by omega⟩
theorem offer_le (m : Mat) (i j : Nat) (w : Int) : LeM m (offer m i j w) := fun a b x hx => by
  unfold offer
  cases e : m i j with
  | none =>
    refine ⟨x, ?_, Int.le_refl _⟩
    show setM m i j (some w) a b = some x
    unfold setM
    rw [if_neg (by rintro ⟨rfl, rfl⟩; rw [e] at hx; cases hx)]
    exact hx
  | some v =>
    by_cases h : v < w
    · simp only [h, if_true]
      by_cases q : a = i ∧ b = j
      · obtain ⟨rfl, rfl⟩ := q
        rw [e] at hx
        cases hx
        exact ⟨w, by simp [setM], by omega⟩
      · exact ⟨x, by simp only [setM, if_neg q]; exact hx, Int.le_refl _⟩
    · simp only [h, if_false]
      exact ⟨x, hx, Int.le_refl _⟩
/-- each value is a walk's -/
def Snd (R : List Row) (N : Nat) (m : Mat) : Prop := ∀ i j w, i < N → j < N → m i j = some w → ∃ n, Wk R i j n w
theorem Snd.offer {R : List Row} {N : Nat} {m : Mat} (h : Snd R N m) {i j : Nat} {w : Int} (g : ∃ n, Wk R i j n w) : Snd R N (offer m i j w) := by
  have hs : Snd R N (setM m i j (some w)) := fun a b x ha hb hx => by
    unfold setM at hx
    by_cases q : a = i ∧ b = j
    · rw [if_pos q] at hx
      obtain ⟨rfl, rfl⟩ := q
      cases hx
      exact g
    · rw [if_neg q] at hx
      exact h a b x ha hb hx
  unfold My.offer
  cases e : m i j with
  | none => exact hs
  | some v =>
    by_cases q : v < w
    · simp only [q, if_true]; exact hs
    · simp only [q, if_false]; exact h
/-- m holds all walks over places below k -/
def Cov (R : List Row) (N k : Nat) (m : Mat) : Prop := ∀ i j w, i < N → j < N → Cv R k i j w → ∃ w', m i j = some w' ∧ w ≤ w'
theorem Cov.mono {R : List Row} {N k : Nat} {m m' : Mat} (h : Cov R N k m) (g : LeM m m') : Cov R N k m' := fun i j w hi hj c => by
  obtain ⟨x, h1, h2⟩ := h i j w hi hj c
  obtain ⟨y, h3, h4⟩ := g i j x h1
  exact ⟨y, h3, by omega⟩
theorem Cov.next {R : List Row} {N k : Nat} {m m' : Mat} (hk : k < N) (h : Cov R N k m) (g : LeM m m') (t : ∀ i j u v, i < N → j < N → m i k = some u → m k j = some v → ∃ w', m' i j = some w' ∧ u + v ≤ w') : Cov R N (k + 1) m' := by
  intro i j w hi hj c
  rcases c with c | ⟨a, b, c1, c2, rfl⟩
  · exact h.mono g i j w hi hj c
  · obtain ⟨u, h1, l1⟩ := h i k a hi hk c1
    obtain ⟨v, h2, l2⟩ := h k j b hk hj c2
    obtain ⟨w', h3, l3⟩ := t i j u v hi hj h1 h2
    exact ⟨w', h3, by omega⟩
/-- what the table of all pairs holds at the end -/
structure Far (R : List Row) (N : Nat) (m : Mat) : Prop where
  snd : Snd R N m
  cov : Cov R N N m
def okM (N : Nat) (m : Mat) : Prop := ∀ k, k < N → ∀ w, m k k = some w → w ≤ 0
theorem Far.np {R : List Row} {N : Nat} {m : Mat} (hR : RowsLt R N) (h : Far R N m) : okM N m ↔ NP R N := by
  constructor
  · intro ok i n w hi hw
    have np : ∀ i w, i < N → Cv R N i i w → w ≤ 0 := fun i w hi c => by
      obtain ⟨w', h1, h2⟩ := h.cov i i w hi hi c
      have := ok i hi w' h1
      omega
    obtain ⟨w', l, c⟩ := Cv.all hR np hw
    have := np i w' hi c
    omega
  · intro np k hk w hw
    obtain ⟨n, g⟩ := h.snd k k w hk hk hw
    exact np k n w hk g
theorem Far.ge {R : List Row} {N : Nat} {m : Mat} (hR : RowsLt R N) (h : Far R N m) (np : NP R N) {i j n : Nat} {w : Int} (hi : i < N) (hj : j < N) (hw : Wk R i j n w) : ∃ w', m i j = some w' ∧ w ≤ w' := by
  have np' : ∀ i w, i < N → Cv R N i i w → w ≤ 0 := fun i w hi c => by
    obtain ⟨n, g⟩ := c.walk
    exact np i n w hi g
  obtain ⟨w', l, c⟩ := Cv.all hR np' hw
  obtain ⟨w2, h1, h2⟩ := h.cov i j w' hi hj c
  exact ⟨w2, h1, by omega⟩
theorem Far.tri {R : List Row} {N : Nat} {m : Mat} (hR : RowsLt R N) (h : Far R N m) (np : NP R N) {i k j : Nat} {u v : Int} (hi : i < N) (hk : k < N) (hj : j < N) (hu : m i k = some u) (hv : m k j = some v) : ∃ w, m i j = some w ∧ u + v ≤ w := by
  obtain ⟨n, g1⟩ := h.snd i k u hi hk hu
  obtain ⟨n2, g2⟩ := h.snd k j v hk hj hv
  exact h.ge hR np hi hj (g1.app g2)
theorem Far.self {R : List Row} {N : Nat} {m : Mat} (hR : RowsLt R N) (h : Far R N m) (np : NP R N) {i : Nat} (hi : i < N) : m i i = some 0 := by
  obtain ⟨w, h1, h2⟩ := h.ge hR np hi hi (.nil i)
  obtain ⟨n, g⟩ := h.snd i i w hi hi h1
  have := np i n w hi g
  have : w = 0 := by omega
  rw [h1, this]
/-- two tables of the same rows agree where no closed walk is above 0 -/
theorem Far.uniq {R : List Row} {N : Nat} {m : Mat} (hR : RowsLt R N) (h : Far R N m) (np : NP R N) {i j : Nat} (hi : i < N) (hj : j < N) {x : Val} (s : ∀ w, x = some w → ∃ n, Wk R i j n w) (g : ∀ n w, Wk R i j n w → ∃ w', x = some w' ∧ w ≤ w') : m i j = x := by
  cases e : m i j with
  | none =>
    cases x with
    | none => rfl
    | some w =>
      obtain ⟨n, hw⟩ := s w rfl
      obtain ⟨w', h1, _⟩ := h.ge hR np hi hj hw
      rw [e] at h1
      cases h1
  | some w =>
    obtain ⟨n, hw⟩ := h.snd i j w hi hj e
    obtain ⟨w', h1, h2⟩ := g n w hw
    obtain ⟨n2, hw2⟩ := s w' h1
    obtain ⟨w3, h3, h4⟩ := h.ge hR np hi hj hw2
    rw [e] at h3
    cases h3
    have : w = w' := by omega
    rw [h1, this]
end My
/-! ### sums by rounds, their chains, their rings -/
namespace My
def gv (s : List Val) (i : Nat) : Val := (s[i]?).getD none
theorem gv_at {s : List Val} {i : Nat} (h : i < s.length) : s[i]? = some (gv s i) := by
  unfold gv
  rw [List.getElem?_eq_getElem h]
  rfl
theorem gv_out {s : List Val} {i : Nat} (h : s.length ≤ i) : gv s i = none := by
  unfold gv
  rw [List.getElem?_eq_none h]
  rfl
theorem gv_lt {s : List Val} {i : Nat} {a : Int} (h : gv s i = some a) : i < s.length := by
  rcases Nat.lt_or_ge i s.length with q | q
  · exact q
  · rw [gv_out q] at h; cases h
theorem gv_set {s : List Val} {p q : Nat} {v : Val} (hp : p < s.length) : gv (s.set p v) q = if p = q then v else gv s q := by
  unfold gv
  rw [List.getElem?_set]
  by_cases e : p = q
  · subst e
    rw [if_pos rfl, if_pos rfl, if_pos hp]
    rfl
  · rw [if_neg e, if_neg e]
theorem gv_ext {s r : List Val} (hl : r.length = s.length) (h : ∀ v, v < s.length → gv r v = gv s v) : r = s := by
  apply List.ext_getElem? 
  intro i
  rcases Nat.lt_or_ge i s.length with q | q
  · rw [gv_at q, gv_at (by omega), h i q]
  · rw [List.getElem?_eq_none q, List.getElem?_eq_none (by omega)]
abbrev By := List (Option Nat)
/-- one round: all offers of the old sums -/
structure Step (R : List Row) (s r : List Val) (by_ : By) : Prop where
  len : r.length = s.length
  blen : by_.length = s.length
  up : ∀ v a, gv s v = some a → ∃ b, gv r v = some b ∧ a ≤ b
  no : ∀ v, by_[v]? = some none → gv r v = gv s v
  yes : ∀ v ix, by_[v]? = some (some ix) → ∃ p l a, R[ix]? = some (p, v, l) ∧ gv s p = some a ∧ gv r v = some (a + l) ∧ ∀ b, gv s v = some b → b < a + l
  all : ∀ p t l a, (p, t, l) ∈ R → gv s p = some a → ∃ b, gv r t = some b ∧ a + l ≤ b
def init0 (N src : Nat) : List Val := (List.replicate N none).set src (some 0)
inductive Runs (R : List Row) (N src : Nat) : List Val → List By → Prop
  | start : Runs R N src (init0 N src) []
  | next {s r : List Val} {L : List By} {b : By} : Runs R N src s L → Step R s r b → r ≠ s → Runs R N src r (L ++ [b])
/-- the chain of an event, from its end -/
def chainR (R : List Row) : List By → Nat → List Nat
  | [], _ => []
  | b :: L, e => match b[e]? with
    | some (some ix) => ix :: chainR R L ((R[ix]?.map fun (r : Row) => r.1).getD 0)
    | _ => chainR R L e
/-- along a chain of rows -/
def goC (R : List Row) : Nat → Int → List Nat → Option (Nat × Int)
  | x, w, [] => some (x, w)
  | x, w, k :: c => match R[k]? with
    | some (p, t, l) => if p = x then goC R t (w + l) c else none
    | none => none
section
variable {R : List Row} {N src : Nat}
theorem goC_app {c d : List Nat} : ∀ {x : Nat} {w : Int}, goC R x w (c ++ d) = (goC R x w c).bind fun q => goC R q.1 q.2 d := by
  induction c with
  | nil => intro x w; rfl
  | cons k c ih =>
    intro x w
    show (match R[k]? with | some (p, t, l) => if p = x then goC R t (w + l) (c ++ d) else none | none => none) = (match R[k]? with | some (p, t, l) => if p = x then goC R t (w + l) c else none | none => none).bind _
    cases R[k]? with
    | none => rfl
    | some r =>
      obtain ⟨p, t, l⟩ := r
      by_cases h : p = x
      · simp only [h, if_true]; exact ih
      · simp only [h, if_false]; rfl
theorem goC_one {k p t : Nat} {w l : Int} (h : R[k]? = some (p, t, l)) : goC R p w [k] = some (t, w + l) := by
  show (match R[k]? with | some (p', t, l) => if p' = p then goC R t (w + l) [] else none | none => none) = _
  rw [h]
  simp [goC]
theorem goC_shift {c : List Nat} : ∀ {x y : Nat} {w u d : Int}, goC R x w c = some (y, u) → goC R x (w + d) c = some (y, u + d) := by
  induction c with
  | nil => intro x y w u d h; cases h; rfl
  | cons k c ih =>
    intro x y w u d h
    have h' : (match R[k]? with | some (p, t, l) => if p = x then goC R t (w + l) c else none | none => none) = some (y, u) := h
    show (match R[k]? with | some (p, t, l) => if p = x then goC R t (w + d + l) c else none | none => none) = _
    cases e : R[k]? with
    | none => rw [e] at h'; cases h'
    | some r =>
      obtain ⟨p, t, l⟩ := r
      rw [e] at h'
      by_cases q : p = x
      · simp only [q, if_true] at h' ⊢
        have := ih (d := d) h'
        rw [show w + d + l = w + l + d by omega]
        exact this
      · simp only [q, if_false] at h'
        cases h'
theorem goC_walk {c : List Nat} : ∀ {x y : Nat} {w u : Int}, goC R x w c = some (y, u) → Wk R x y c.length (u - w) := by
  induction c with
  | nil =>
    intro x y w u h
    cases h
    rw [show w - w = 0 by omega]
    exact .nil x
  | cons k c ih =>
    intro x y w u h
    have h' : (match R[k]? with | some (p, t, l) => if p = x then goC R t (w + l) c else none | none => none) = some (y, u) := h
    cases e : R[k]? with
    | none => rw [e] at h'; cases h'
    | some r =>
      obtain ⟨p, t, l⟩ := r
      rw [e] at h'
      by_cases q : p = x
      · simp only [q, if_true] at h'
        have := (Wk.one (R := R) (i := p) (List.mem_of_getElem? e)).app (ih h')
        rw [show l + (u - (w + l)) = u - w by omega] at this
        rw [← q, List.length_cons, Nat.add_comm]
        exact this
      · simp only [q, if_false] at h'
        cases h'
theorem init0_src (h : src < N) : gv (init0 N src) src = some 0 := by
  unfold init0
  rw [gv_set (by rw [List.length_replicate]; exact h), if_pos rfl]
theorem init0_ne {v : Nat} (h : src < N) (hv : v ≠ src) : gv (init0 N src) v = none := by
  unfold init0
  rw [gv_set (by rw [List.length_replicate]; exact h), if_neg (fun z => hv z.symm)]
  unfold gv
  rw [List.getElem?_replicate]
  split <;> rfl
theorem init0_len : (init0 N src).length = N := by unfold init0; rw [List.length_set, List.length_replicate]
theorem Runs.len {s : List Val} {L : List By} (h : Runs R N src s L) : s.length = N := by
  induction h with
  | start => exact init0_len
  | next _ st _ ih => rw [st.len, ih]
theorem Runs.source (hs : src < N) {s : List Val} {L : List By} (h : Runs R N src s L) : ∃ a, gv s src = some a ∧ 0 ≤ a := by
  induction h with
  | start => exact ⟨0, init0_src hs, Int.le_refl _⟩
  | next _ st _ ih =>
    obtain ⟨a, h1, h2⟩ := ih
    obtain ⟨b, h3, h4⟩ := st.up _ _ h1
    exact ⟨b, h3, by omega⟩
theorem Runs.chain (hs : src < N) {s : List Val} {L : List By} (h : Runs R N src s L) : ∀ {e : Nat} {a : Int}, gv s e = some a → goC R src 0 (chainR R L.reverse e).reverse = some (e, a) ∧ (chainR R L.reverse e).length ≤ L.length := by
  induction h with
  | start =>
    intro e a he
    by_cases q : e = src
    · subst q
      rw [init0_src hs] at he
      cases he
      exact ⟨rfl, Nat.le_refl _⟩
    · rw [init0_ne hs q] at he
      cases he
  | @next s r L b hr st _ ih =>
    intro e a he
    rw [List.reverse_append]
    show goC R src 0 (chainR R (b :: L.reverse) e).reverse = some (e, a) ∧ (chainR R (b :: L.reverse) e).length ≤ (L ++ [b]).length
    have hel : e < b.length := by rw [st.blen, ← st.len]; exact gv_lt he
    obtain ⟨x, hx⟩ : ∃ x, b[e]? = some x := ⟨b[e], List.getElem?_eq_getElem hel⟩
    rw [List.length_append, List.length_singleton]
    cases x with
    | none =>
      have e1 : chainR R (b :: L.reverse) e = chainR R L.reverse e := by
        show (match b[e]? with | some (some ix) => _ | _ => _) = _
        rw [hx]
      rw [e1]
      rw [st.no e hx] at he
      obtain ⟨h1, h2⟩ := ih he
      exact ⟨h1, by omega⟩
    | some ix =>
      obtain ⟨p, l, a', hR, hp, hr', _⟩ := st.yes e ix hx
      have e1 : chainR R (b :: L.reverse) e = ix :: chainR R L.reverse p := by
        show (match b[e]? with | some (some ix) => ix :: chainR R L.reverse ((R[ix]?.map fun (r : Row) => r.1).getD 0) | _ => _) = _
        rw [hx]
        show ix :: chainR R L.reverse ((R[ix]?.map fun (r : Row) => r.1).getD 0) = _
        rw [hR]
        rfl
      rw [e1]
      obtain ⟨h1, h2⟩ := ih hp
      rw [he] at hr'
      cases hr'
      refine ⟨?_, by rw [List.length_cons]; omega⟩
      rw [List.reverse_cons, goC_app, h1]
      exact goC_one hR
theorem Runs.walk (hs : src < N) {s : List Val} {L : List By} (h : Runs R N src s L) {e : Nat} {a : Int} (he : gv s e = some a) : ∃ n, Wk R src e n a := by
  have := goC_walk (h.chain hs he).1
  rw [show a - 0 = a by omega] at this
  exact ⟨_, this⟩
/-- strictly up along a chain -/
def Strict (R : List Row) (src : Nat) (c : List Nat) : Prop := ∀ i j v a a', i < j → j ≤ c.length → goC R src 0 (c.take i) = some (v, a) → goC R src 0 (c.take j) = some (v, a') → a < a'
/-- the event has its sum from the last round -/
def New (src : Nat) (L : List By) (e : Nat) : Prop := (L = [] ∧ e = src) ∨ ∃ L0 b ix, L = L0 ++ [b] ∧ b[e]? = some (some ix)
theorem Runs.isnew (hs : src < N) {s : List Val} {L : List By} (h : Runs R N src s L) : ∀ {p t : Nat} {l a : Int}, gv s p = some a → (p, t, l) ∈ R → (∀ x, gv s t = some x → x < a + l) → New src L p := by
  induction h with
  | start =>
    intro p t l a hp _ _
    by_cases q : p = src
    · exact .inl ⟨rfl, q⟩
    · rw [init0_ne hs q] at hp
      cases hp
  | @next s r L b hr st hne ih =>
    intro p t l a hp hm hlt
    have hpl : p < b.length := by rw [st.blen, ← st.len]; exact gv_lt hp
    obtain ⟨x, hx⟩ : ∃ x, b[p]? = some x := ⟨b[p], List.getElem?_eq_getElem hpl⟩
    cases x with
    | some ix => exact .inr ⟨L, b, ix, rfl, hx⟩
    | none =>
      rw [st.no p hx] at hp
      obtain ⟨c, h1, h2⟩ := st.all p t l a hm hp
      have := hlt c h1
      omega
theorem Runs.full (hs : src < N) {s : List Val} {L : List By} (h : Runs R N src s L) : ∀ {e : Nat}, New src L e →
    (chainR R L.reverse e).length = L.length ∧ Strict R src (chainR R L.reverse e).reverse ∧ (∃ a, gv s e = some a) ∧ ∀ i v a, i ≤ L.length → goC R src 0 ((chainR R L.reverse e).reverse.take i) = some (v, a) → ∃ a', gv s v = some a' ∧ a ≤ a' := by
  induction h with
  | start =>
    intro e hn
    rcases hn with ⟨_, rfl⟩ | ⟨L0, b, ix, h, _⟩
    · refine ⟨rfl, (fun i j v a a2 h1 h2 => by have : j ≤ 0 := h2; omega), ⟨0, init0_src hs⟩, fun i v a hi h => ?_⟩
      have e0 : ((chainR R [].reverse e).reverse.take i) = [] := by show (([] : List Nat).reverse.take i) = []; simp
      rw [e0] at h
      cases h
      exact ⟨0, init0_src hs, Int.le_refl _⟩
    · simp at h
  | @next s r L b hr st hne ih =>
    intro e hn
    obtain ⟨ix, hx⟩ : ∃ ix, b[e]? = some (some ix) := by
      rcases hn with ⟨h, _⟩ | ⟨L0, b', ix, h, hx⟩
      · simp at h
      · obtain ⟨_, hb⟩ := List.append_inj' h rfl
        cases hb
        exact ⟨ix, hx⟩
    obtain ⟨p, l, a', hR, hp, hrv, hlt⟩ := st.yes e ix hx
    have e1 : chainR R (L ++ [b]).reverse e = ix :: chainR R L.reverse p := by
      rw [List.reverse_append]
      show (match b[e]? with | some (some ix) => ix :: chainR R L.reverse ((R[ix]?.map fun (r : Row) => r.1).getD 0) | _ => chainR R L.reverse e) = _
      rw [hx]
      show ix :: chainR R L.reverse ((R[ix]?.map fun (r : Row) => r.1).getD 0) = _
      rw [hR]
      rfl
    rw [e1, List.reverse_cons, List.length_cons, List.length_append, List.length_singleton]
    have hc := hr.chain hs hp
    have hgo : goC R src 0 ((chainR R L.reverse p).reverse ++ [ix]) = some (e, a' + l) := by
      rw [goC_app, hc.1]
      exact goC_one hR
    obtain ⟨l1, l2, _, l3⟩ := ih (hr.isnew hs hp (List.mem_of_getElem? hR) hlt)
    have hcl : ((chainR R L.reverse p).reverse ++ [ix]).length = L.length + 1 := by rw [List.length_append, List.length_reverse, l1]; rfl
    have l3' : ∀ i v a, i ≤ L.length → goC R src 0 (((chainR R L.reverse p).reverse ++ [ix]).take i) = some (v, a) → ∃ a2, gv s v = some a2 ∧ a ≤ a2 := fun i v a hi h => by
      rw [List.take_append_of_le_length (by rw [List.length_reverse, l1]; exact hi)] at h
      exact l3 i v a hi h
    have htop : ((chainR R L.reverse p).reverse ++ [ix]).take (L.length + 1) = (chainR R L.reverse p).reverse ++ [ix] := List.take_of_length_le (by omega)
    refine ⟨by omega, fun i j v a a2 hij hj h1 h2 => ?_, ⟨_, hrv⟩, fun i v a hi h => ?_⟩
    · rw [hcl] at hj
      by_cases q : j = L.length + 1
      · subst q
        rw [htop, hgo] at h2
        cases h2
        obtain ⟨b2, h3, h4⟩ := l3' i e a (by omega) h1
        have := hlt b2 h3
        omega
      · rw [List.take_append_of_le_length (by rw [List.length_reverse, l1]; omega)] at h1 h2
        exact l2 i j v a a2 hij (by rw [List.length_reverse, l1]; omega) h1 h2
    · by_cases q : i = L.length + 1
      · subst q
        rw [htop, hgo] at h
        cases h
        exact ⟨_, hrv, Int.le_refl _⟩
      · obtain ⟨b2, h3, h4⟩ := l3' i v a (by omega) h
        obtain ⟨b3, h5, h6⟩ := st.up _ _ h3
        exact ⟨b3, h5, by omega⟩
/-- a round that changes something has an event with a row -/
theorem Step.found {s r : List Val} {b : By} (st : Step R s r b) (hne : r ≠ s) : ∃ e ix, e < s.length ∧ b[e]? = some (some ix) := by
  apply Classical.byContradiction
  intro h
  apply hne
  refine gv_ext st.len fun v hv => ?_
  obtain ⟨x, hx⟩ : ∃ x, b[v]? = some x := ⟨b[v]'(by rw [st.blen]; exact hv), List.getElem?_eq_getElem _⟩
  cases x with
  | none => exact st.no v hx
  | some ix => exact absurd ⟨v, ix, hv, hx⟩ h
/-- the end of the rounds -/
def Stable (R : List Row) (s : List Val) : Prop := ∀ p t l a, (p, t, l) ∈ R → gv s p = some a → ∃ b, gv s t = some b ∧ a + l ≤ b
theorem Step.stable {s : List Val} {b : By} (st : Step R s s b) : Stable R s := st.all
structure LRes (R : List Row) (N src : Nat) (s : List Val) (L : List By) : Prop where
  run : Runs R N src s L
  fin : L.length = N ∨ (L.length < N ∧ Stable R s)
theorem Stable.walk {s : List Val} (h : Stable R s) {i j n : Nat} {w a : Int} (hw : Wk R i j n w) (ha : gv s i = some a) : ∃ b, gv s j = some b ∧ a + w ≤ b := by
  induction hw with
  | nil => exact ⟨a, ha, by omega⟩
  | snoc _ e ih =>
    obtain ⟨b, h1, h2⟩ := ih
    obtain ⟨c, h3, h4⟩ := h _ _ _ b e h1
    exact ⟨c, h3, by omega⟩
/-- the places along a chain -/
theorem goC_take {c : List Nat} : ∀ {x : Nat} {w : Int} {q : Nat × Int}, goC R x w c = some q → ∀ i, ∃ v a, goC R x w (c.take i) = some (v, a) := by
  intro x w q h i
  have e : goC R x w (c.take i ++ c.drop i) = some q := by rw [List.take_append_drop]; exact h
  rw [goC_app] at e
  cases z : goC R x w (c.take i) with
  | none => rw [z] at e; cases e
  | some y => exact ⟨y.1, y.2, rfl⟩
theorem goC_lt {c : List Nat} (hR : RowsLt R N) {x : Nat} {w : Int} {v : Nat} {a : Int} (hx : x < N) (h : goC R x w c = some (v, a)) : v < N := (goC_walk h).lt hR hx
/-- a part of a chain -/
theorem goC_part {c : List Nat} {x : Nat} {i j : Nat} {u v : Nat} {a b : Int} (hij : i ≤ j) (h1 : goC R x 0 (c.take i) = some (u, a)) (h2 : goC R x 0 (c.take j) = some (v, b)) : goC R u 0 ((c.take j).drop i) = some (v, b - a) := by
  have e : c.take j = c.take i ++ (c.take j).drop i := by
    have := List.take_append_drop i (c.take j)
    rw [List.take_take, Nat.min_eq_left hij] at this
    exact this.symm
  rw [e, goC_app, h1] at h2
  have h3 : goC R u a ((c.take j).drop i) = some (v, b) := h2
  have := goC_shift (d := -a) h3
  rw [show a + -a = 0 by omega, show b + -a = b - a by omega] at this
  exact this
/-- more places than there are: one is met twice -/
theorem twice {f : Nat → Nat} {N m : Nat} (hm : N < m) (hf : ∀ i, i < m → f i < N) : ∃ i j, i < j ∧ j < m ∧ f i = f j := by
  apply Classical.byContradiction
  intro h
  have nd : ((List.range m).map f).Nodup := by
    rw [List.nodup_iff_pairwise_ne, List.pairwise_map]
    refine List.Pairwise.imp_of_mem (R := (· < ·)) ?_ List.pairwise_lt_range
    intro i j hi hj hij e
    exact h ⟨i, j, hij, List.mem_range.mp hj, e⟩
  have := List.Nodup.length_le_of_subset nd (l₂ := List.range N) fun x hx => by
    obtain ⟨i, hi, rfl⟩ := List.mem_map.mp hx
    exact List.mem_range.mpr (hf i (List.mem_range.mp hi))
  rw [List.length_map, List.length_range, List.length_range] at this
  omega
/-- all rounds used up: a closed walk above 0 -/
theorem LRes.not_np (hs : src < N) (hR : RowsLt R N) {s : List Val} {L : List By} (h : LRes R N src s L) (hl : L.length = N) : ¬ NP R N := by
  have hrun := h.run
  cases hrun with
  | start => simp at hl; omega
  | @next s0 _ L0 b hr st hne =>
    intro np
    obtain ⟨e, ix, he, hx⟩ := st.found hne
    obtain ⟨f1, f2, ⟨a, ha⟩, f3⟩ := h.run.full hs (e := e) (.inr ⟨L0, b, ix, rfl, hx⟩)
    obtain ⟨c, hc⟩ : ∃ c, c = (chainR R (L0 ++ [b]).reverse e).reverse := ⟨_, rfl⟩
    rw [← hc] at f2
    have hcl : c.length = N := by rw [hc, List.length_reverse, f1]; exact hl
    have hgo := (h.run.chain hs ha).1
    rw [← hc] at hgo
    have hpl := goC_take hgo
    obtain ⟨i, j, hij, hj, hv⟩ := twice (f := fun i => (Classical.choose (hpl i))) (N := N) (m := N + 1) (by omega) (fun i _ => by
      obtain ⟨a, h1⟩ := Classical.choose_spec (hpl i)
      exact goC_lt hR hs h1)
    obtain ⟨a1, h1⟩ := Classical.choose_spec (hpl i)
    obtain ⟨a2, h2⟩ := Classical.choose_spec (hpl j)
    have hv' : Classical.choose (hpl i) = Classical.choose (hpl j) := hv
    rw [hv'] at h1
    have hlt := f2 i j _ a1 a2 hij (by omega) h1 h2
    have hw := goC_walk (goC_part (by omega) h1 h2)
    have := np _ _ _ (goC_lt hR hs h1) hw
    omega
theorem LRes.np_lt (hs : src < N) (hR : RowsLt R N) {s : List Val} {L : List By} (h : LRes R N src s L) (np : NP R N) : L.length < N ∧ Stable R s := by
  rcases h.fin with q | q
  · exact absurd np (h.not_np hs hR q)
  · exact q
/-- all places are met from the source: stable sums are a course -/
theorem LRes.np_of (hs : src < N) (hR : RowsLt R N) (hall : ∀ v, v < N → ∃ n w, Wk R src v n w) {s : List Val} {L : List By} (h : LRes R N src s L) (hl : L.length < N) : NP R N := by
  rcases h.fin with q | ⟨_, st⟩
  · omega
  · obtain ⟨a0, h0, _⟩ := h.run.source hs
    have hv : ∀ v, v < N → ∃ a, gv s v = some a := fun v hv => by
      obtain ⟨n, w, hw⟩ := hall v hv
      obtain ⟨b, h1, _⟩ := st.walk hw h0
      exact ⟨b, h1⟩
    refine Pot.np (m := fun v => (gv s v).getD 0) fun p t l hm => ?_
    obtain ⟨hp, ht⟩ := hR _ hm
    obtain ⟨a, ha⟩ := hv p hp
    obtain ⟨b, hb, hle⟩ := st p t l a hm ha
    show (gv s p).getD 0 + l ≤ (gv s t).getD 0
    rw [ha, hb]
    exact hle
/-- the sums are the table's row -/
theorem LRes.far (hs : src < N) (hR : RowsLt R N) {m : Mat} (hm : Far R N m) {s : List Val} {L : List By} (h : LRes R N src s L) (np : NP R N) {v : Nat} (hv : v < N) : gv s v = m src v := by
  obtain ⟨_, st⟩ := h.np_lt hs hR np
  obtain ⟨a0, h0, h00⟩ := h.run.source hs
  refine (hm.uniq hR np hs hv (fun w hw => h.run.walk hs hw) fun n w hw => ?_).symm
  obtain ⟨b, h1, h2⟩ := st.walk hw h0
  exact ⟨b, h1, by omega⟩
end
end My
/-! a rule that the layer lacks: sep.join(f(e, ..)), f a generator def -/
namespace My
open PySem PySem.Spec PyProof.Rows GenW L2
theorem collect_made {P : Program} {w : World} {outer : List Env} {H : Hp} {sc s : Shared} {ex : List Addr} {Q : List V → Hp → Prop} {EX : XK} {A : Around} {k : Nat} {u : Value} {Q' : List Value → Shared → Prop} {E : Value → Shared → Prop}
    (hr : Room (k + 3) A) (hfr : A.frames = some outer) (h : GMade P w k outer H sc ex Q EX u s)
    (hQ : ∀ S s' acc c H' ys, s.heap.objs.size ≤ S → s'.heap.get? S = some (lstObj acc c) → Vals ys acc.toList → ys.length ≤ sizeLine → s'.os = sc.os → AllBare s'.gens → Un (frs outer) ex H H' sc.heap s'.heap → HOk P w H' s'.heap → H' S = none → Q ys H' → Q' acc.toList s')
    (hexc : ∀ e s' g, CX P w outer H sc EX e s' → NotStop (model P w) e s'.heap ∧ E e (s'.setGen g .finished)) :
    wpAny (model P w) A (collect u) Q' E s := by
  obtain ⟨a, g, c, rfl, ha1, ha2, hg, hgs, hos, hb, hl, hkp, wake⟩ := h
  have hSa : s.heap.objs.size ≠ a := Nat.ne_of_gt ha2
  have hcl : cStatics < s.heap.objs.size := let ⟨_, hn, _⟩ := hl; hn.lt
  have hSc : s.heap.objs.size ≠ cStatics := Nat.ne_of_gt hcl
  unfold collect
  refine wpAny_bind (wpAny_runValue (codeAny_builtin F.entry_proto_collect ?_))
  rw [Around.under_plainId F.plain_proto_collect _]
  show wpAny _ A.in1 (newList [] >>= fun l => again (.builtin "list.__iadd__" ⟨[l, .ref a], []⟩)) _ _ s
  refine wpAny_bind (wpAny_newObj_type ?_)
  refine wpAny_pure ⟨plainId_quiet F.plain_list_iadd _, codeAny_builtin F.entry_list_iadd ?_⟩
  rw [Around.under_plainId F.plain_list_iadd _]
  have hS : (s.heap.push { cls := .type "list", data := .seq ([] : List Value).toArray }).get? s.heap.objs.size = some { cls := .type "list", data := .seq ([] : List Value).toArray } := Heap.get?_push_size _ rfl
  show wpAny _ A.in1 (Builtin.List.listExtendWith (.ref s.heap.objs.size) (.ref a) (.ref s.heap.objs.size)) _ _ _
  have up : ∀ (h : Heap) (f : Obj → Obj), (∀ b o, s.heap.get? b = some o → h.get? b = some o) → ∀ b o, s.heap.get? b = some o → (h.update s.heap.objs.size f).get? b = some o := fun h f q b o e =>
    (Heap.get?_update_other _ _ (Ne.symm (Nat.ne_of_lt (Heap.lt_size e)))).trans (q b o e)
  have k1 : ∀ b o, s.heap.get? b = some o → (s.heap.push { cls := .type "list", data := .seq ([] : List Value).toArray }).get? b = some o := fun b o e => Heap.get?_push_of_some _ e
  have gty : ∀ {h : Heap}, (∀ b o, s.heap.get? b = some o → h.get? b = some o) → h.IsGen a g := fun {h} q => hg.keeps q
  unfold Builtin.List.listExtendWith
  refine wpAny_bind (wpAny_typeOf (Heap.IsGen.typeIs (s := { s with heap := _ }) (gty k1)) ?_)
  have h1 : Builtin.List.listSameRef (.ref s.heap.objs.size) (.ref a) = false := by simp [Builtin.List.listSameRef, hSa]
  have h2 : (Value.type "generator" == Value.type "list") = false := by decide
  have h3 : (Value.type "generator" == Value.type "tuple") = false := by decide
  simp only [h1, h2, h3, Bool.or_false, Bool.false_eq_true, if_false]
  refine wpAny_bind (wpAny_pyIter_gen (s := { s with heap := _ }) (gty k1) ?_)
  refine wpAny_bind (wpAny_holding ?_)
  unfold Builtin.List.listLengthHint
  refine wpAny_bind (wpAny_specialOf (Heap.IsGen.typeIs (s := { s with heap := _ }) (gty k1)) F.gen_no_len ?_)
  show wpAny _ A.in1 (specialOf (Value.ref a) (Str.ofString "__length_hint__") >>= _) _ _ _
  refine wpAny_bind (wpAny_specialOf (Heap.IsGen.typeIs (s := { s with heap := _ }) (gty k1)) F.gen_no_hint ?_)
  refine wpAny_pure ?_
  show wpAny _ A.in1 (rule "list.extend.makes-room" >>= fun _ => Builtin.List.listTouch (.ref s.heap.objs.size) >>= fun _ =>
    again (.builtin "list.extend.loop" ⟨[.ref s.heap.objs.size, .ref a, .ref s.heap.objs.size], []⟩)) _ _ _
  refine wpAny_bind (wpAny_rule ?_)
  refine wpAny_bind ?_
  show wpAny _ A.in1 (updateSeq s.heap.objs.size (·.push .none) >>= fun _ => updateSeq s.heap.objs.size (·.pop)) _ _ _
  refine wpAny_bind (wpAny_updateSeq hS rfl ?_)
  have hS3 := Heap.get?_update_self (Obj.mapSeq (·.push Value.none)) hS rfl
  refine wpAny_updateSeq hS3 rfl ?_
  have hS4 := Heap.get?_update_self (Obj.mapSeq (·.pop)) hS3 rfl
  have k4 := up _ (Obj.mapSeq (·.pop)) (up _ (Obj.mapSeq (·.push Value.none)) k1)
  refine wpAny_pure ⟨plainId_quiet F.plain_extend_loop _, ?_⟩
  refine drain (P := P) (w := w) (outer := outer) (H := H) (sc := sc) (ex := ex) (Q := Q) (EX := EX) (A := A) (g := g) hr.hd (by have := hr.dp; show A.depth < _; omega) hSa hSc
    (fun s' acc c H' ys q1 q2 q3 q4 q5 q6 q7 q8 q9 => ?_) (fun e s' hc => ?_)
    sizeLine _ (gty k4) (hl.keeps k4) ⟨_, hgs, rfl, ?_⟩
  · show wpAny _ A (load s.heap.objs.size >>= _) _ _ _
    refine wpAny_bind (wpAny_load q1 ?_)
    exact wpAny_pure (hQ _ s' acc c H' ys (Nat.le_refl _) q1 q2 q3 q4 q5 q6 q7 q8 q9)
  · exact hexc e s' g hc
  · refine wake _ _ _ ⟨hr.hd, ?_, ?_⟩ hfr (Nat.le_refl _) k4 ⟨_, hS4⟩ hos (allBare_setGen (s := { s with heap := _ }) hb rfl)
    · have := hr.dp
      show A.depth + 3 * k + 5 < _
      omega
    · have := hr.un
      show A.units + 1 + 1 + 16 * k + 200 < _
      omega
/-- to.join(tg): what the generator hands out are texts -/
def tJoinM (to : TE) (tg : TGen) : TE := fun σ H Q => to σ H fun v H1 => ∃ sep : Str, v = .str sep ∧ tg σ H1 fun out H2 => ∃ ys : List Str, out = ys.map V.str ∧ JoinOk sep ys = true ∧ ∀ p, H2 p = none → Q (.str (Txt.join sep ys)) (upd H2 p (.lst out))
theorem vals_strs : ∀ {ys : List Str} {us : List Value}, Vals (ys.map V.str) us → ∃ l : List (Str × Tok), strValues l = us ∧ l.map (·.1) = ys
  | [], us, h => by cases h; exact ⟨[], rfl, rfl⟩
  | y :: ys, us, h => by
    cases h with
    | cons r h' =>
      obtain ⟨l, h1, h2⟩ := vals_strs h'
      obtain ⟨t, rfl⟩ := (show ∃ t, _ = Value.str y t from r)
      refine ⟨(y, t) :: l, ?_, ?_⟩
      · show Value.str y t :: strValues l = _
        rw [h1]
      · show y :: l.map (·.1) = _
        rw [h2]
theorem pe_joinM {X : Cx} {k : Nat} {o e : Expr} {to : TE} {tg : TGen} {E : XK} {apos cpos : Pos} (ho : PE X o to) (h : PGen X k e tg E) (hx : Passes (CX X.prog X.w) X E) (hns : NoStop X.K E) (hr : Room (k + 4) X.A)
    (hbase : attributeBase o "join" X.env (eval o X.env) = eval o X.env := by rfl)
    (hfew : ((backTo cpos (starEach [e] X.env)).all (fun x => !x.1) && (backToKw cpos (keywordEach [] X.env)).all (fun x => x.1.isSome)
      && decide (([e] : List Expr).length + ([] : List Keyword).length + (if ([] : List Keyword).isEmpty then 0 else 1) < 30)) = true := by rfl)
    (hline : (apos.endLine == cpos.line) = true := by rfl)
    (he : starEach [e] X.env = (false, eval e X.env) :: starEach [] X.env := by rfl)
    (hplain : (backTo cpos (starEach [] X.env)).any (·.1) = false := by rfl) :
    PE X (.Call (.Attribute o "join" apos) [e] [] cpos) (tJoinM to tg) := by
  refine ⟨fun pins s σ H Q I hq => ?_⟩
  refine wpAny_Call_method_late hbase hfew hline rfl (thn (ho.run pins s σ H _ I hq) fun v s1 ⟨x', H1, I1, r1, sep, ex, q1⟩ => ?_)
  subst ex
  obtain ⟨tk, rfl⟩ := (show ∃ t, v = Value.str sep t from r1)
  refine ⟨"str", _, PySem.F.plainAttrs_str, PySem.F.slot_str_join, PySem.F.type_str_join, typeIs_str _ _ _, (fun _ e => nomatch e), ?_⟩
  rw [he]
  refine Calls.callWith_builtin (by show (false || (backTo cpos (starEach [] X.env)).any (·.1)) = false; rw [hplain] <;> rfl) (Calls.evalArgs_plain ?_)
  show wpAny _ _ (spliced ((false, eval e X.env) :: backTo cpos (starEach [] X.env))) _ _ s1
  refine Calls.spliced_cons (thn (h.run pins s1 σ H1 _ I1 q1) fun u s2 ⟨H2, sc, ex, I2, hex, hG⟩ => ?_)
  refine Calls.spliced_nil ?_
  have hsz : sc.heap.objs.size ≤ s2.heap.objs.size := by
    obtain ⟨a, g, c, _, h1, h2, _⟩ := hG
    exact Nat.le_trans h1 (Nat.le_of_lt h2)
  obtain ⟨a, g, c, hu, hrest⟩ := id hG
  subst hu
  have hg : s2.heap.IsGen a g := hrest.2.2.1
  refine wpAny_call (codeAny_call_builtin F.slot_str_join.plain F.entry_str_join (F.slot_str_join.check _ _ _ _ _ _ _ _ (typeIs_str _ _ _) (F.args_str_join_2 _ _) ?_))
  show wpAny _ X.A.in1 (Builtin.«str.join» ⟨[.str sep tk, .ref a], []⟩) _ _ s2
  rw [join_tree_other]
  refine wpAny_bind (wpAny_typeOf hg.typeIs ?_)
  show wpAny _ X.A.in1 ((pyIter (.ref a)).tryCatch _ >>= fun it => collect it >>= fun items => joinTail sep items) _ _ s2
  refine wpAny_bind (wpAny_tryCatch (wpAny_pyIter_gen hg ?_))
  refine wpAny_bind (collect_made (A := X.A.in1) (k := k) ⟨hr.hd, by have := hr.dp; show X.A.depth + 3 * (k + 3) + 5 < _; omega, by have := hr.un; show X.A.units + 1 + 16 * (k + 3) + 200 < _; omega⟩ I2.ok.frames hG (fun S s' acc c' H' ys q0 qS qv hl qos qb qun qok qn qq => ?_) fun e s' g hc => ?_)
  · obtain ⟨zs, rfl, hok, qf⟩ := qq
    obtain ⟨l, hl1, hl2⟩ := vals_strs qv
    rw [← hl1]
    have J := I2.drained (Nat.le_trans hsz q0) hl qS qv hex qos qb qun qok qn
    unfold JoinOk at hok
    rw [Bool.not_eq_true', ← hl2] at hok
    have g : Gives (joinTail sep (strValues l)) (joinMade sep l) := by
      have g0 := gives_joinTail sep l hok
      cases l with
      | nil => exact g0
      | cons p r => cases r with
        | nil => exact g0
        | cons q r' => exact g0
    have := qf S qn
    rw [← hl2] at this J
    refine g X.prog X.w X.A (wants (EP X pins σ Q) X.xe) s' (post_join l ⟨joinFit_length hok, fun t' k' => ?_⟩)
    exact ⟨.str _, _, J.tok k', ⟨t', rfl⟩, this⟩
  · have kin : X.K.In s'.heap := by
      obtain ⟨a, B, H', cls, d, _, fl, _, ub, _⟩ := id hc
      refine I2.ok.mod.kin.keeps fun b o eb => fl.1 b o (ub.keep b o (I2.bs b o eb).1 (I2.bs b o eb).2 fun hm => ?_)
      rcases List.mem_cons.mp (I2.stkSub b hm) with z | z
      · have h1 := Heap.lt_size eb
        have h2 := Nat.le_trans I2.ok.bsz I2.ok.above
        rw [z] at h1
        exact absurd (Nat.lt_of_lt_of_le h1 h2) (Nat.lt_irrefl _)
      · exact I2.ok.nofr eb z
    refine ⟨notStop_of hns kin hc, hx pins σ H2 sc e _ I2 ?_⟩
    obtain ⟨a, B, H', cls, d, z1, fl, z2, ub, z3, z4, z5, z6⟩ := hc
    exact ⟨a, B, H', cls, d, z1, fl, z2, ub, z3, z4, allBare_setGen z5 rfl, z6⟩
end My
/-! a rule that the layer lacks: x, *ys = a list -/
namespace My
open PySem PySem.Spec PySem.Calls PyProof.Rows PySem.W L2
theorem star_raw {prog : Program} {w : World} {A : Around} {E : Value → Shared → Prop} {s : Shared} {l : Addr} {items : Array Value} {n i : Nat} {first mids lasts : List Value} {Q : List Value → Shared → Prop} (hl : s.heap.IsList l items) (hh : A.handled = none) (hi : i < n) (hn : n ≤ items.size + 1) (hz : items.size ≤ 16384)
    (h1 : items.toList.take i = first) (h2 : (items.toList.drop i).take (items.size + 1 - n) = mids) (h3 : (items.toList.drop i).drop (items.size + 1 - n) = lasts)
    (h : ∀ (h' : Heap) (tk : Nat), (∀ b o, s.heap.get? b = some o → h'.get? b = some o) → Q (first ++ [.ref h'.objs.size] ++ lasts) { s with heap := h'.push { cls := .type "list", data := .seq mids.toArray }, toks := tk }) : wpAny (model prog w) A (unpackItems (.ref l) n (some i)) Q E s := by
  subst h1 h2 h3
  have hlt : l ≠ s.heap.objs.size := by obtain ⟨o, ho, _⟩ := hl; exact Nat.ne_of_lt (Heap.lt_size ho)
  have hll : l < s.heap.objs.size := by obtain ⟨o, ho, _⟩ := hl; exact Heap.lt_size ho
  unfold unpackItems
  refine wpAny_bind ?_
  unfold notIterableAtAll
  refine wpAny_bind (wpAny_specialOf hl.typeIs slot_list_iter.lookup ?_)
  refine wpAny_pure ?_
  simp only [Bool.false_eq_true, if_false]
  refine wpAny_bind (wpAny_holding (wpAny_pyIter_list hl ?_))
  refine wpAny_bind (wpAny_holding (kun_draw hlt i 0 _ _ ⟨_, Heap.get?_push_size _ rfl, rfl, rfl⟩ (hl.push _) (by omega) fun h₁ hit₁ hs₁ => ?_))
  have hl₁ : h₁.IsList l items := (hl.push _).extBut hs₁.extBut hlt
  rw [Nat.zero_add] at hit₁
  have hit₁' := hit₁
  obtain ⟨oi, hoi, _⟩ := hit₁'
  have hl₁' := hl₁
  obtain ⟨ol, hol, _⟩ := hl₁'
  rw [List.drop_zero]
  have hfl : (items.toList.take i).length = i := by rw [List.length_take, Array.length_toList]; omega
  rw [if_neg (show ¬ ((items.toList.take i).length < i) by rw [hfl]; omega)]
  refine wpAny_bind (wpAny_holding (kun_collect (s := { s with heap := h₁ }) (T := "list_iterator") (.inr (.inr (.inl rfl))) (Walks.list (A := A.in1) hh s.heap.objs.size l hlt items) (fun j u st => st.1.typeIs) (k := i) (by omega) ⟨hit₁, hl₁⟩ (Heap.lt_size hoi) (Heap.lt_size hol) (fun h₂ tk hk => ?_) (by rw [sizeLine_eq]; omega)))
  have hrl : (items.toList.drop i).length = items.size - i := by rw [List.length_drop, Array.length_toList]
  have hmid : (items.toList.drop i).length - (n - 1 - i) = items.size + 1 - n := by rw [hrl]; omega
  show wpAny _ _ (if (items.toList.drop i).length < n - 1 - i then _ else _) _ _ _
  rw [if_neg (by rw [hrl]; omega)]
  show wpAny _ _ (newList ((items.toList.drop i).take ((items.toList.drop i).length - (n - 1 - i))) >>= fun d => pure (items.toList.take i ++ [d] ++ (items.toList.drop i).drop ((items.toList.drop i).length - (n - 1 - i)))) _ _ _
  rw [hmid]
  refine wpAny_bind (wpAny_newObj_type ?_ (by show ((items.toList.drop i).take (items.size + 1 - n)).toArray.size ≤ _; rw [List.size_toArray, List.length_take, hrl, sizeLine_eq]; omega))
  exact wpAny_pure (h h₂ tk fun b o e => hk b o (Nat.ne_of_lt (Heap.lt_size e)) (hs₁.extBut b o (Nat.ne_of_lt (Heap.lt_size e)) (Heap.get?_push_of_some _ e)))
theorem size16 {n : Nat} (h : n ≤ 16000) : n ≤ sizeLine := Nat.le_trans h (by decide)
/-- x, *ys = a list -/
def gStar (K : PySem.W.Frag) (gx gy : TG) : TG := fun v σ H Q => ∃ a x xs, v = .ref a ∧ SqL K H a (x :: xs) ∧ xs.length ≤ 16000 ∧ ∀ p, H p = none → gx x σ (upd H p (.lst xs)) fun σ1 H1 => gy (.ref p) σ1 H1 Q
theorem pg_star {X : Cx} {e y : Expr} {sp pos : Pos} {k : Nat} {gx gy : TG} (hc : X.calm = true) (h1 : PG X e gx) (h2 : PG X y gy)
    (hs : (assignEach [e, .Starred y sp] X.env).map (·.2) = [assign e X.env, assign y X.env] := by rfl)
    (hn : (assignEach [e, .Starred y sp] X.env).length = 2 := by rfl) (hst : (assignEach [e, .Starred y sp] X.env).findIdx? (·.1) = some 1 := by rfl) : PG X (.Tuple [e, .Starred y sp] k pos) (gStar X.K gx gy) := by
  refine ⟨fun pins s σ H v u Q I r hw => ?_⟩
  obtain ⟨a, x, xs, e1, hq, hlen, hw⟩ := hw
  subst e1
  cases r
  obtain ⟨its, rv, pl, hz⟩ := I.list hq
  cases rv with
  | cons rx rxs =>
    rename_i ux us
    have hl' : s.heap.IsList a (ux :: us).toArray := by
      obtain ⟨o, m, e, c, d, q⟩ := pl
      exact ⟨o, e, c, m, q⟩
    have hus : us.length = xs.length := rxs.length.symm
    rw [PyProof.Rows.assign_Tuple]
    refine wpAny_bind (wpAny_standAt ?_)
    unfold unpack
    rw [hn, hst]
    refine wpAny_bind (wpAny_holding (star_raw (mids := us) (first := [ux]) (lasts := []) hl' (I.ok.hd hc) (by decide) (by simp) (by simp; omega) rfl ?_ ?_ fun h' tk hk => ?_))
    · simp
    · simp
    · have I1 : Inv X pins σ H { s with heap := h', toks := tk } := I.kept (t' := tk) hk
      have hn0 := I1.hok.fresh (Nat.le_refl h'.objs.size)
      have I2 : Inv X pins σ (upd H h'.objs.size (.lst xs)) { s with heap := h'.push { cls := .type "list", data := .seq us.toArray }, toks := tk } := by
        refine I1.laid (a := h'.objs.size) (o := .lst xs) (t' := tk) (fun b u q => Heap.get?_push_of_some _ q) (Nat.le_refl _) ?_
        exact ⟨size16 hlen, us, 0, rxs, Heap.get?_push_size _ rfl⟩
      rw [hs]
      show wpAny _ _ (assignInOrder [assign e X.env, assign y X.env] [ux, .ref h'.objs.size]) _ _ _
      refine assignInOrder_cons (thn (h1.run pins _ σ _ x ux _ I2 rx (hw _ hn0)) fun _ s1 ⟨σ1, H1, I3, q1⟩ => ?_)
      refine assignInOrder_cons (thn (h2.run pins s1 σ1 H1 (.ref h'.objs.size) _ Q I3 rfl q1) fun _ s2 ⟨σ2, H2, I4, q2⟩ => ?_)
      exact assignInOrder_nil ⟨σ2, H2, I4, q2⟩
end My
/-! a rule that the layer lacks: for x in o, o an own object whose __iter__ gives a tuple's iterator -/
namespace My
open PySem PySem.Spec PyProof.Rows L2
/-- a fresh iterator of the tuple at a -/
def TiO (a it : Addr) : HO := .ext fun h => h.IsTupleIter it a 0
theorem tiO_ok {P : Program} {w : World} {H : Hp} {h : Heap} {a it : Addr} (e : h.IsTupleIter it a 0) : ObjOk P w H h it (TiO a it) := by
  obtain ⟨o, ho, hc, hd⟩ := id e
  exact ⟨e, ⟨_, ho⟩, fun h1 h2 q k => by obtain ⟨o, ho, hc, hd⟩ := q; exact ⟨o, k _ ho, hc, hd⟩⟩
theorem tiO_get {X : Cx} {pins : List (Addr × Obj)} {σ : L2.St} {H : Hp} {s : Shared} {a it : Addr} (I : Inv X pins σ H s) (e : H it = some (TiO a it)) : s.heap.IsTupleIter it a 0 := (I.hok it _ e).1
theorem call_iterT {X : Cx} : CallR X (.builtin "iter") (fun xs H Q => ∃ (a : Addr) (zs : List V), xs = [.ref a] ∧ SqT X.K H a zs ∧ ∀ it, H it = none → X.s_0.heap.objs.size ≤ it → Q (.ref it) (upd H it (TiO a it))) := by
  intro pins s σ H xs us Q I r h
  obtain ⟨a, zs, rfl, hq, q⟩ := h
  obtain rfl := Vals.ref1 r
  obtain ⟨its, rv, p, hz⟩ := I.tuple hq
  refine Calls.call_function_entry (by decide +kernel) (by decide +kernel) PySem.W.kdk_entry_iter (PySem.W.kdk_args_iter _) ?_
  unfold Builtin.«iter»
  refine wpAny_bind (m := someArgs "iter" 1 2 _) (wpAny_of_eq (a := [Value.ref a]) (by first | rfl | kernel_rfl!) ?_)
  show wpAny _ _ (pyIter (.ref a) >>= _) _ _ _
  refine wpAny_bind (wpAny_pyIter_tuple (show s.heap.IsTuple a its.toArray from p) ?_)
  refine wpAny_pure ⟨_, rfl, ?_⟩
  exact ⟨.ref s.heap.objs.size, _, I.laid (t' := s.toks) (fun b u e => Heap.get?_push_of_some _ e) (Nat.le_refl _) (tiO_ok ⟨_, Heap.get?_push_size _ rfl, rfl, rfl⟩), rfl, q _ (I.hok.fresh (Nat.le_refl _)) I.sz⟩
/-- a def run from one state, by its body -/
theorem run_at {CX : CXT} {P : Program} {w : World} {K : PySem.W.Frag} {mg : Str → Option Value} {base : Heap} {k : Nat} {f : Addr} {x qual : Str} {st : Stmt} {fd : FuncData} {N ps : List Str} (F : C8.Fun K x qual st f fd) (S : FnScope N ps (C8.fnScope st))
    {A : Around} {outer : List Env} {s : Shared} {H : Hp} {args : Args} {us : List Value} {vs : List V} {Q : VK} {E : XK} (hr : Room (k + 1) A) (e0 : Env0 P w K mg base A outer s H) (hb : BindsTo s fd args (ps.zip us)) (r : Vals vs us) (hl : vs.length = ps.length)
    (hbody : ∀ cdv : Value, Room k (A.deeper (envOfC qual (C8.fnScope st) s.heap.objs.size f cdv)) → ∃ t, PSs (cxOf CX P w K mg base N qual (C8.fnScope st) f cdv A outer s H E) (C8.fnBody st) t ∧ t { nx := fun _ H' => Q .non H', rt := Q } (start N vs) H) :
    codeAny (model P w) A (.call (.ref f) args) (CR CX outer P w H s Q E) s := by
  obtain ⟨oc, od, dV, kV, doc, pm, an, cdv, ct, osl, rfl, lk, hcd⟩ := F.ex
  have kin : K.In s.heap := e0.mod.kin.keeps fun b o e => (e0.bs b o e).1
  have nol : s.heap.NoLimit := e0.mod.nolimit.keeps fun b o e => (e0.bs b o e).1
  have kinds : ∀ y ∈ ps.zip us, (C8.fnScope st).names.lookup y.1 = some .local ∨ ((C8.fnScope st).names.lookup y.1 = some .cell ∧ ((cellsFrom (s.heap.objs.size + 1) (C8.fnScope st).names []).lookup y.1).isSome = true) := by
    rintro ⟨n, v⟩ hy
    exact (S.par n (List.of_mem_zip hy).1).elim .inl fun q => .inr ⟨q, PySem.W.cellsFrom_some _ _ _ (.inl q)⟩
  refine codeAny_call_function hr.depth (kin _ _ lk) rfl S.co S.gen rfl (PySem.W.codeRec_of kin hcd) (hb _ _ _ _ (wpAny_newFunctionEnv_cells S.kind kinds fun env he s1 hx => ?_))
  subst he
  obtain ⟨t, ht, hq⟩ := hbody cdv (hr.deeper _)
  have I0 : Inv (cxOf CX P w K mg base N qual (C8.fnScope st) f cdv A outer s H E) [] (start N vs) H s1 := inv_start S hr.hd e0 hl r hx
  refine ⟨nol.keeps hx.toInCall.keep, codeAny_func (wpAny_mono (ht.run [] s1 (start N vs) H _ I0 hq) (fun fl s2 hs => ?_) fun e s2 hs => hs)⟩
  cases fl with
  | ret u => obtain ⟨v, σ2, H2, J, rv, q⟩ := hs; exact ⟨v, H2, J.os, J.bare, J.base, J.hok, rv, q⟩
  | next => obtain ⟨σ2, H2, J, q⟩ := hs; exact ⟨V.non, H2, J.os, J.bare, J.base, J.hok, rfl, q⟩
  | brk => obtain ⟨_, _, _, q⟩ := hs; exact False.elim q
  | cont => obtain ⟨_, _, _, q⟩ := hs; exact False.elim q
structure ItT (K : PySem.W.Frag) (C fi : Addr) : Prop where
  it : PySem.W.findIn K (.ref C) "__iter__" = some (some (.ref fi))
  itF : PySem.W.isFn K (.ref fi) = true
/-- for .. in o: o's field f is a tuple -/
def iOwnT (K : PySem.W.Frag) (C : Addr) (f : Str) (te : TE) : TI := fun σ H R => te σ H fun x H1 => ∃ p dx fs a xs, x = .ref p ∧ H1 p = some (.ins C dx fs) ∧ fs.lookup f = some (.ref a) ∧ SqT K H1 a xs ∧ R (Itt K a) H1
/-- def __iter__(self): return iter(self.f) -/
structure IterD (K : PySem.W.Frag) (mg : Str → Option Value) (C fi : Addr) (f : Str) (st : Stmt) (fd : FuncData) : Prop where
  at_ : ItT K C fi
  fn : ∃ x qual, C8.Fun K x qual st fi fd
  bind : Binds K fd ["self"] []
  sc : FnScope ["self"] ["self"] (C8.fnScope st)
  cl : Cls K C
  no : NoAttr K C f
  body : ∃ p0 p1 p2 p3 p4, C8.fnBody st = [.Return (some (.Call (.Name "iter" p0) [.Attribute (.Name "self" p1) f p2] [] p3)) p4]
  lk : (C8.fnScope st).names.lookup ("iter" : Str) = some NameKind.globalImplicit
  ls : (C8.fnScope st).names.lookup ("self" : Str) = some NameKind.local
  mgi : mg "iter" = none
theorem pi_ownT {X : Cx} {tg o : Expr} {te : TE} {C fi : Addr} {f : Str} {st : Stmt} {fd : FuncData} (D : IterD X.K X.mg C fi f st fd) (hr : Room 1 X.A) (he : PE X o te) : PI X tg o (iOwnT X.K C f te) := by
  refine ⟨fun pins s σ H R I h => ?_⟩
  refine thn (he.run pins s σ H _ I h) fun v s1 ⟨x, H1, I1, r1, p, dx, fs, a, xs, ex, hp, hf, ha, q⟩ => ?_
  subst ex
  obtain rfl : v = Value.ref p := r1
  obtain ⟨mA, J, _⟩ := ins_get I1.hok hp
  obtain ⟨od, J, _⟩ := J.look
  obtain ⟨m0, hF⟩ := I1.fr
  obtain ⟨x0, q0, F⟩ := D.fn
  obtain ⟨p0, p1, p2, p3, p4, hbd⟩ := D.body
  refine PySem.W.owit_iter hF I1.ok.mod.kin J D.at_.it D.at_.itF ?_
  have r2 : Vals [V.ref p] [Value.ref p] := .cons rfl .nil
  refine wpAny_call (codeAny_mono (run_at (k := 0) (CX := C8.CX0) (Q := fun v H2 => ∃ it, v = .ref it ∧ H1 it = none ∧ s1.heap.objs.size ≤ it ∧ H2 = upd H1 it (TiO a it)) (E := C8.E0) (args := ⟨[.ref p], []⟩) (us := [.ref p]) (vs := [.ref p]) F D.sc hr I1.env0 (by
    have := D.bind s1 [.ref p] I1.kIn rfl
    simpa using this) r2 rfl fun cdv hr0 => ?_) fun r s' hq' => ?_)
  · rw [hbd]
    refine ⟨_, pss_one (ps_ret (pe_callB (hc := call_iterT) (by exact D.lk) D.mgi (by decide +kernel) (pa_cons (pe_fld (pe_var (i := 0) rfl (.inl D.ls)) rfl) pa_nil))), ?_⟩
    refine ⟨_, rfl, p, C, dx, fs, _, rfl, hp, D.cl, D.no, hf, a, xs, rfl, ha, fun it hn hs => ⟨it, rfl, hn, hs, rfl⟩⟩
  cases r with
  | error e => exact False.elim hq'
  | ok fl =>
    cases fl with
    | next => exact False.elim hq'
    | brk => exact False.elim hq'
    | cont => exact False.elim hq'
    | ret u =>
      obtain ⟨v, H', I', rv, it, ev, hn, hsz, eH⟩ := I1.after hq'
      subst ev
      subst eH
      cases rv
      have hi : (upd H1 it (TiO a it)) it = some (TiO a it) := upd_same
      have st := tiO_get I' hi
      unfold PySem.W.OwitIt
      refine wpAny_specialOf (T := "tuple_iterator") ?_ slot_tupleiter_next.lookup ?_
      · obtain ⟨o, ho, hc, hd⟩ := st
        exact ⟨o, ho, hc⟩
      have ed : ItX.dropH (upd H1 it (TiO a it)) it = H1 := ItX.dropH_upd hn
      have J2 := ItX.inv_drop I' hi
      have J3 := ItX.inv_fp I' hi (Nat.le_trans I1.sz hsz)
      rw [ed] at J2 J3
      refine ⟨it, [it], _, _, H1, rfl, J2, turn_tuple a it, st, fun b hb => ?_, q⟩
      have e : b = it := by simpa using hb
      rw [e]
      exact J3
end My
/-! ### an own exception over an own class over ValueError: __init__ says super().__init__(text) and keeps one thing -/
namespace My
open PySem L2 PySem.Spec PyProof.Rows
section
open PySem.W PySem.Calls
variable {prog : Program} {w : World} {M : Model} {A : Around} {E : Value → Shared → Prop} {s : Shared}
theorem callWith_mw {pos : Pos} {u x : Addr} {i : String} {env : Env} {e : Expr} {rest : List Expr} {Q : Value → Shared → Prop}
    (h : wpAny M A (spliced (backTo pos (starEach (e :: rest) env))) (fun vs s₁ => s₁.heap.get? u = some (kxs_mw i x) ∧ wpAny M A (call (.ref u) vs) Q E s₁) E s)
    (he : starEach (e :: rest) env = (false, eval e env) :: starEach rest env := by rfl) (hplain : (backTo pos (starEach rest env)).any (·.1) = false := by rfl) :
    wpAny M A (callWith pos (.ref u) [] (backTo pos (starEach (e :: rest) env)) []) Q E s := by
  rw [he] at h ⊢
  refine kxs_callWith (i := i) (x := x) (by show (false || (backTo pos (starEach rest env)).any (·.1)) = false; rw [hplain]; rfl) ?_
  exact evalArgs_plain h
end
section
open PySem.W PySem.Calls
variable {prog : Program} {w : World} {A : Around} {E : Value → Shared → Prop} {h : Heap} {g : Array GenState} {d : Drawn} {t : Nat} {os : OsState}
variable {nm q : Str} {C N : Addr} {bs bm : List Value} {hdct : Bool} {sn : List Str} {sub : List Value} {ab : Bool} {col : Option Bool} {dd : Option Addr} {k0 k1 k2 k3 k5 : Option Value}
theorem call_mw {u e t0 : Addr} {rest : List Value} {Q : Value → Shared → Prop}
    (hC : h.get? C = some (excClassObj nm q C N bs bm hdct sn sub ab col dd k0 k1 k2 k3 k5 "ValueError.__new__")) (he : h.get? e = some (HandSPX.excO C t0)) (hu : h.get? u = some (kxs_mw "ValueError.__init__" e)) (hrest : rest.length ≤ sizeLine)
    (hq : ∀ h' t1, (∀ b o, b ≠ e → h.get? b = some o → h'.get? b = some o) → h'.get? e = some (HandSPX.excO C t1) → Q .none ⟨h', g, d, t, os⟩) :
    wpAny (model prog w) A (call (.ref u) rest) Q E ⟨h, g, d, t, os⟩ := by
  refine wpAny_call (codeAny_of_tree ?_)
  show wpAny _ A.in1 (callAny (.ref u) ⟨rest, []⟩) _ _ _
  simp only [callAny]
  refine wpAny_bind (wpAny_load hu ?_)
  simp only [kxs_mw, show (Value.type "method-wrapper" == Value.type "method" || Value.type "method-wrapper" == Value.type "builtin_function_or_method" || Value.type "method-wrapper" == Value.type "method-wrapper") = true by decide, if_true]
  refine W.KFB.if_so (by decide) ?_
  refine wpAny_bind (ESX.check_bound F.excBase_ValueError hC he rfl ?_)
  refine wpAny_bind (wpAny_pure (wpAny_pure ?_))
  refine ⟨Code.quiet_builtin _ (by decide +kernel), codeAny_builtin F.excBase_ValueError.initEntry ?_⟩
  rw [Around.under_plainId F.excBase_ValueError.init.plain _]
  wp_walk
  refine hq _ h.objs.size (fun b o hb ho => ?_) ?_
  · rw [Heap.get?_update_other _ _ (Ne.symm hb)]
    exact Heap.get?_push_of_some _ ho
  · rw [Heap.get?_update_self _ (Heap.get?_push_of_some _ he) rfl]
    rfl
end
/-- the context of that __init__ -/
def cxS (CX : CXT) (P : Program) (w : World) (K : PySem.W.Frag) (mg : Str → Option Value) (base : Heap) (N : List Str) (qual : Str) (scope : Scope) (f : Addr) (cd : Value) (cc : Addr) (A : Around) (outer : List Env) (s : Shared) (H : Hp) (E : XK) : Cx where
  prog := P
  w := w
  K := K
  mg := mg
  base := base
  A := A.deeper (PySem.W.ksEnv qual scope s.heap.objs.size f cd cc)
  N := N
  s_0 := s
  H_0 := H
  env := PySem.W.ksEnv qual scope s.heap.objs.size f cd cc
  outer := outer
  stack := PySem.W.ksEnv qual scope s.heap.objs.size f cd cc :: outer
  ex := []
  calm := true
  fn := fun _ => false
  pn := []
  xe := fun e s' => wpAny (model P w) (A.deeper (PySem.W.ksEnv qual scope s.heap.objs.size f cd cc)) (leaving (PySem.W.ksEnv qual scope s.heap.objs.size f cd cc) e) (fun _ s'' => CX outer H s E e s'') (fun e' s'' => CX outer H s E e' s'') s'
/-- what the written part holds of that __init__ -/
structure ExI (P : Program) (K : PySem.W.Frag) (mg : Str → Option Value) (C f : Addr) (fd : FuncData) (pn fl : Str) : Prop where
  ex : ∃ (qual : Str) (params : Arguments) (scope : Scope) (msg : Str) (j : Nat) (p0 p1 p2 p3 p4 p5 q1 q2 q3 q4 : Pos) (dV kV doc pm ct oc : Value) (an od : Option Addr) (osl : Array (Option Value)) (cda cc : Addr) (ar : Arg) (vs : Array Value) (file : Str) (tf : Tok) (ccl cl : Value) (cdd cld : Option Addr) (ccs csl : Array (Option Value)),
    fd = PySem.W.ksFn "__init__" qual params [.Expr (.Call (.Attribute (.Call (.Name "super" p0) [] [] p1) "__init__" p2) [.Constant (.str msg) j p3] [] p4) p5, .Assign [.Attribute (.Name "self" q1) fl q2] (.Name pn q3) q4] scope dV kV doc pm an (.ref cda) ct cc ∧
    K.lookup f = some ⟨oc, od, .func fd, osl⟩ ∧ PySem.W.codeIn K (.ref cda) qual = true ∧
    scope.isCoroutine = false ∧ scope.isGenerator = false ∧ scope.kind = .function ∧ (∀ x ∈ scope.names, x.2 ≠ .cell) ∧
    scope.names.lookup ("self" : Str) = some .local ∧ scope.names.lookup pn = some .local ∧ scope.names.lookup ("super" : Str) = some .globalImplicit ∧ scope.names.lookup ("__class__" : Str) = some .free ∧ (∀ x ∈ scope.names, x.2 = .free → x.1 = ("__class__" : Str)) ∧
    (params.posonlyargs ++ params.args).head? = some ar ∧ ar.arg = ("self" : Str) ∧ K.lookup cda = some ⟨ccl, cdd, .fields vs, ccs⟩ ∧ vs[2]? = some (.str file tf) ∧ ((P.main.file : Str) == file) = true ∧ K.lookup cc = some ⟨cl, cld, .cell (some (.ref C)), csl⟩ ∧
    (∃ pl : Sem Bool, ∀ L : Addr, eval (.Call (.Attribute (.Call (.Name "super" p0) [] [] p1) "__init__" p2) [.Constant (.str msg) j p3] [] p4) (PySem.W.ksEnv qual scope L f (.ref cda) cc) = (do
      let ov ← attributeBase (.Call (.Name "super" p0) [] [] p1) "__init__" (PySem.W.ksEnv qual scope L f (.ref cda) cc) (eval (.Call (.Name "super" p0) [] [] p1) (PySem.W.ksEnv qual scope L f (.ref cda) cc))
      standAt p2.atName
      let (fx, first) ← holding [ov] (getMethod ov "__init__" pl)
      callWith p4 fx first (backTo p4 (starEach [.Constant (.str msg) j p3] (PySem.W.ksEnv qual scope L f (.ref cda) cc))) [])) ∧
    (∀ L : Addr, interactive (PySem.W.ksEnv qual scope L f (.ref cda) cc) = false) ∧
    (∀ L : Addr, swapsWith (.Call (.Attribute (.Call (.Name "super" p0) [] [] p1) "__init__" p2) [.Constant (.str msg) j p3] [] p4) none p5.line (PySem.W.ksEnv qual scope L f (.ref cda) cc) = pure false) ∧
    (∀ L : Addr, swapsWith (.Name pn q3) (some (.Attribute (.Name "self" q1) fl q2)) q4.line (PySem.W.ksEnv qual scope L f (.ref cda) cc) = pure false)
  ne : pn ≠ ("self" : Str)
  nd : (pn == ("__debug__" : Str)) = false
  nc : (pn == ("__classdict__" : Str)) = false
  hsuper : mg ("super" : Str) = none
  htop : (P.main.scope.names.lookup ("super" : Str)).isSome = false
  hop : PySem.W.nsIn K cStatics "thirdparty.any" = some none
  hm : PySem.W.ks_superIn K C C "__init__" = some (some (.builtin "ValueError.__init__"))
  hB : PySem.W.subIn K (.ref C) (.type "ValueError") = some true
  hCC : PySem.W.mroIn K C (.ref C) = some true
def spX (C : Addr) (fl : Str) : Sp := fun vs H Q _ => ∃ a y, vs = [.ref a, y] ∧ H a = some (exo a C none) ∧ ∀ dx, H dx = none → dx ≠ a → Q .non (upd (upd H dx (exd dx [(fl, y)])) a (exo a C (some dx)))
section
variable {CX : CXT} {P : Program} {w : World} {K : PySem.W.Frag} {mg : Str → Option Value} {base : Heap} {C f : Addr} {fd : FuncData} {pn fl : Str}
theorem fn_exi (Y : ExI P K mg C f fd pn fl) (T : OexC K C) (hfl : PySem.W.findIn K (.ref C) fl = some none) : FnOk P w K mg base CX 1 f fd ["self", pn] (spX C fl) := by
  obtain ⟨qual, params, scope, msg, j, p0, p1, p2, p3, p4, p5, q1, q2, q3, q4, dV, kV, doc, pm, ct, oc, an, od, osl, cda, cc, ar, vs, file, tf, ccl, cl, cdd, cld, ccs, csl, rfl, lk, hcd, hco, hgen, hkind, hcell, n1, n2, n3, n4, hfree, hp, har, hcode, hvs, hfile, hcc, ⟨pl, hev⟩, hint, hsw1, hsw2⟩ := Y.ex
  refine ⟨fun vs H Q E h => ?_, fun A outer s H args us vs Q E hr e0 hb r hsp => ?_⟩
  · obtain ⟨a, y, rfl, _⟩ := h
    rfl
  obtain ⟨a, y, rfl, ha, q⟩ := hsp
  obtain ⟨ua, uy, rfl, ra, ry⟩ : ∃ ua uy, us = [ua, uy] ∧ RelV (.ref a) ua ∧ RelV y uy := by
    cases r with
    | cons h1 t1 =>
      cases t1 with
      | cons h2 t2 =>
        cases t2
        exact ⟨_, _, rfl, h1, h2⟩
  cases (show ua = Value.ref a from ra)
  have KX : K.In s.heap := e0.mod.kin.keeps fun b o e => (e0.bs b o e).1
  have lim : s.heap.NoLimit := e0.mod.nolimit.keeps fun b o e => (e0.bs b o e).1
  have hloc : ∀ y' ∈ (["self", pn] : List Str).zip [Value.ref a, uy], scope.names.lookup y'.1 = some .local := fun y' hy => by
    rcases List.mem_cons.mp hy with rfl | hy
    · exact n1
    · rcases List.mem_cons.mp hy with rfl | hy
      · exact n2
      · cases hy
  refine ks_codeAny_call_defAt (binds := (["self", pn] : List Str).zip [Value.ref a, uy]) hr.depth (KX _ _ lk) rfl lim (PySem.W.codeRec_of KX hcd) rfl hb hcell hloc (fun h₁ hns hk₁ => ?_) hco hgen hkind
  obtain ⟨hh, g, d, t, os⟩ := s
  have noA : ∀ b : Addr, b ∉ ([] : List Addr) := fun b z => absurd z (by simp)
  have hcl : ∀ x c, (PySem.W.ksEnv qual scope hh.objs.size f (.ref cda) cc).cells.lookup x = some c → x = ("__class__" : Str) ∧ c = cc := fun x c h => by
    have h' : ([(("__class__" : Str), cc)] : List (Str × Addr)).lookup x = some c := h
    simp only [List.lookup] at h'
    split at h'
    · rename_i hx
      cases h'
      exact ⟨by simpa using hx, rfl⟩
    · cases h'
  have kcc := hk₁ _ _ (KX _ _ hcc)
  have bcc : H cc = none := (e0.bs _ _ (e0.mod.kin _ _ hcc)).2
  have hsz : ∀ b o, hh.get? b = some o → h₁.get? b = some o := hk₁
  have I0 : Inv (cxS CX P w K mg base ["self", pn] qual scope f (.ref cda) cc A outer ⟨hh, g, d, t, os⟩ H E) [] [some (.ref a), some y] H ⟨h₁, g, d, t + 2, os⟩ := by
    refine ⟨⟨e0.mod, hkind, rfl, rfl, Nat.le_refl _, fun x y' c h1 h2 => ?_, fun x hx => ?_, fun x c hx _ => (by cases hx), fun _ => hr.hd, Around.frames_deeper e0.frames, .inr ⟨rfl, rfl⟩, fun b z => absurd z (noA b), e0.bs, e0.bsz, fun b _ _ => noA b, fun b z => absurd z (noA b), e0.funs, e0.frf⟩,
      rfl, e0.bare, Un.kept hk₁, ⟨_, hns, fun i x v h1 h2 h3 => ?_⟩, fun x c h => ?_, e0.hok.fresh (Nat.le_refl _), fun x c h => ?_, fun p hp => absurd (show p ∈ ([] : List (Addr × Obj)) from hp) (by simp), e0.hok.kept hk₁, rfl⟩
    · exact (hcl x c h1).1.trans (hcl y' c h2).1.symm
    · rcases hx with hx | hx
      · exact absurd rfl (hcell _ (PySem.mem_of_lookup hx))
      · have := hfree _ (PySem.mem_of_lookup hx) rfl
        exact ⟨cc, by show ([(("__class__" : Str), cc)] : List (Str × Addr)).lookup x = some cc; rw [show x = ("__class__" : Str) from this]; simp⟩
    · match i, h1, h2 with
      | 0, h1, h2 =>
        cases h1
        cases h2
        exact ⟨_, rfl, .inl ⟨n1, by show List.lookup ("self" : Str) [(pn, uy), (("self" : Str), Value.ref a)] = _; simp only [List.lookup, beq_eq_false_iff_ne.mpr (fun z => Y.ne z.symm), beq_self_eq_true]⟩⟩
      | 1, h1, h2 =>
        cases h1
        cases h2
        exact ⟨_, ry, .inl ⟨n2, by show List.lookup pn [(pn, uy), (("self" : Str), Value.ref a)] = _; simp only [List.lookup, beq_self_eq_true]⟩⟩
    · obtain ⟨_, rfl⟩ := hcl x c h
      exact ⟨_, _, kcc, rfl⟩
    · obtain ⟨_, rfl⟩ := hcl x c h
      exact bcc
  obtain ⟨nm, qn, N, bs, bm, sn, sub, ab, col, dd, k0, k1, k2, k3, k5, hC, hbm⟩ := T.cls
  obtain ⟨t0, hoe⟩ := exo_at I0.hok ha
  obtain ⟨mb, hb1, hb2⟩ := e0.mod.blt
  have hC1 := I0.kIn _ _ hC
  refine ks_wpAt_execs_cons (ks_wpAt_Expr_any (ks_wpAt_MethodCall (pl := pl) ?_ (hev _)) (hint _) (hsw1 _))
  refine ks_wpAt_super_base (f := f) (cc := cda) n3 n4 (by decide) rfl (I0.kIn _ _ lk) rfl hp rfl (I0.kIn _ _ hcode) rfl hvs hfile Y.htop ?_
  refine PySem.W.ks_loadName_global hkind n3 (Calls.loadGlobal_builtin (env := PySem.W.ksEnv qual scope hh.objs.size f (.ref cda) cc) (e0.mod.glob.keeps I0.bk) Y.hsuper (hb1.keeps I0.bk) ((hb2 ("super" : Str) (by decide)).trans (by first | boot_by_name | rfl | kernel_rfl)) ⟨rfl, ?_⟩)
  refine wpAny_loadName_free hkind n4 (by show List.lookup ("__class__" : Str) [(("__class__" : Str), cc)] = some cc; simp) ⟨_, kcc, rfl⟩ ?_
  rw [har]
  refine wpAny_loadName_local hkind n1 hns (v := .ref a) (by show List.lookup ("self" : Str) [(pn, uy), (("self" : Str), Value.ref a)] = _; simp only [List.lookup, beq_eq_false_iff_ne.mpr (fun z => Y.ne z.symm), beq_self_eq_true]) ?_
  refine ks_wpAny_isType_cls hC1 rfl ⟨rfl, ?_⟩
  refine ks_wpAny_call_super hC1 rfl hoe rfl (fun c e => by cases e) (PySem.W.looks_mroIn I0.kIn Y.hCC) (fun h2 e2 k2 => ?_)
  have I1 : Inv (cxS CX P w K mg base ["self", pn] qual scope f (.ref cda) cc A outer ⟨hh, g, d, t, os⟩ H E) [] [some (.ref a), some y] H ⟨h2, g, d, t + 2, os⟩ := I0.kept (t' := t + 2) k2
  obtain ⟨cdC, hcdC⟩ : ∃ cd, PySem.W.clsIn K C = some cd := by
    refine ⟨{ name := nm, bases := bs, mro := .ref C :: bm, ns := N, qualname := qn, hasDict := true, slotNames := sn, subclasses := sub, abstract := ab, collection := col, hasDel := false }, ?_⟩
    unfold PySem.W.clsIn
    rw [hC] <;> rfl
  have hoe2 := k2 _ _ hoe
  have IA : PySem.W.InstAt h2 a _ C none := ⟨hoe2, rfl, rfl, trivial⟩
  have hm := Y.hm
  unfold PySem.W.ks_superIn at hm
  rw [hcdC] at hm
  refine PySem.W.kxs_getMethod PySem.W.kxs_ValueError e2 (PySem.W.looks_opaque I1.kIn Y.hop) (l₀ := cdC.mro) (fun A Q E s k q => wpAny_bind ((PySem.W.looks_clsIn I1.kIn hcdC) A _ E s k (wpAny_pure q))) rfl I1.kIn hm
    (IA.type.andThen (PySem.W.looks_subIn I1.kIn Y.hB)) (PySem.W.ks_ne I1.kIn IA hcdC) (by decide) ?_
  have I2 : Inv (cxS CX P w K mg base ["self", pn] qual scope f (.ref cda) cc A outer ⟨hh, g, d, t, os⟩ H E) [] [some (.ref a), some y] H ⟨h2.push (PySem.W.kxs_mw "ValueError.__init__" a), g, d, t + 2 + 1, os⟩ :=
    I1.kept (t' := t + 2 + 1) fun b o e => Heap.get?_push_of_some _ e
  have hu : (h2.push (PySem.W.kxs_mw "ValueError.__init__" a)).get? h2.objs.size = some (PySem.W.kxs_mw "ValueError.__init__" a) := Heap.get?_push_at rfl rfl
  have I3 : Inv (cxS CX P w K mg base ["self", pn] qual scope f (.ref cda) cc A outer ⟨hh, g, d, t, os⟩ H E) [(h2.objs.size, PySem.W.kxs_mw "ValueError.__init__" a)] [some (.ref a), some y] H ⟨h2.push (PySem.W.kxs_mw "ValueError.__init__" a), g, d, t + 2 + 1, os⟩ := by
    refine I2.pins_of fun p hp' => ?_
    rw [List.mem_singleton] at hp'
    subst hp'
    exact ⟨hu, I1.hok.fresh (Nat.le_refl _), Nat.ne_of_gt I1.lt, I1.nofs (Nat.le_refl _), fun v z => by cases z⟩
  have ha2 : PA (cxS CX P w K mg base ["self", pn] qual scope f (.ref cda) cc A outer ⟨hh, g, d, t, os⟩ H E) [.Constant (.str msg) j p3] (tCons (tC (.str msg)) tNil) := pa_cons pe_str pa_nil
  refine callWith_mw (x := a) (i := "ValueError.__init__") (thn (ha2.run p4 _ _ _ _ (fun vs H' => vs = [.str msg] ∧ H' = H) I3 ⟨rfl, rfl⟩) fun us' s3 hq3 => ?_)
  obtain ⟨vs', H', I4, rv, rfl, rfl⟩ := hq3
  have hu4 := (I4.pin _ (List.mem_append_right _ (List.mem_singleton.mpr rfl))).1
  refine ⟨hu4, ?_⟩
  obtain ⟨t4, hoe4⟩ := exo_at I4.hok ha
  obtain ⟨h4, g4, d4, tk4, os4⟩ := s3
  refine call_mw (I4.kIn _ _ hC) hoe4 hu4 (by rw [← Paired.length rv]; show 1 ≤ sizeLine; decide) (fun h5 t5 k5 e5 => ?_)
  have J := I4.write (t' := tk4) (x := a) (e := a) (o := exo a C none) (by rw [ha]; exact True.intro) (.inl rfl) k5 ⟨_, e5⟩ (exo_ok e5)
  have eu : upd H' a (exo a C none) = H' := by
    funext b
    by_cases hb : b = a
    · rw [hb, upd_same, ha]
    · rw [upd_ne hb]
  rw [eu] at J
  show _root_.PySem.wpAt (model P w) _ _ (execs [.Assign [.Attribute (.Name "self" q1) fl q2] (.Name pn q3) q4] (PySem.W.ksEnv qual scope hh.objs.size f (.ref cda) cc)) _ _ ⟨h5, g4, d4, tk4, os4⟩
  refine wpAt_of_wpAny ?_
  have ht : PSs (cxS CX P w K mg base ["self", pn] qual scope f (.ref cda) cc A outer ⟨hh, g, d, t, os⟩ H' E) [.Assign [.Attribute (.Name "self" q1) fl q2] (.Name pn q3) q4] _ :=
    pss_one (ps_ost (pe_var (i := 0) rfl (.inl n1)) (pe_var (i := 1) rfl (.inl n2) Y.nd Y.nc) (hsw2 _))
  refine wpAny_mono (ht.run _ _ _ H' { nx := fun _ H2 => Q .non H2, rt := Q } J ⟨y, rfl, .ref a, rfl, a, C, rfl, T, hfl, .inl ⟨ha, fun dx h1 h2 => q dx h1 h2⟩⟩) (fun fl' s' hs => ?_) fun e s' hs => hs
  cases fl' with
  | ret u =>
    obtain ⟨v, σ', H2, J2, rv2, q2⟩ := hs
    exact ⟨v, H2, J2.os, J2.bare, J2.base, J2.hok, rv2, q2⟩
  | next =>
    obtain ⟨σ', H2, J2, q2⟩ := hs
    exact ⟨V.non, H2, J2.os, J2.bare, J2.base, J2.hok, rfl, q2⟩
  | brk =>
    obtain ⟨_, _, _, q2⟩ := hs
    exact False.elim q2
  | cont =>
    obtain ⟨_, _, _, q2⟩ := hs
    exact False.elim q2
end
end My
namespace My
open PySem L2
def top (i : Nat) : Stmt := PySem.Challenge.pw_matchclocks_k94_whole_logs_from_text_to.main.body.getD i (.Pass ⟨0, 0, 0, 0⟩)
def inClass (st : Stmt) (i : Nat) : Stmt := (C8.clsBody st).getD i (.Pass ⟨0, 0, 0, 0⟩)
abbrev MOST : Int := 10 ^ 30
def oV : Option Int → V
  | none => .non
  | some i => .int i
abbrev nV (n : Nat) : V := V.int (n : Int)
/-- what the module's names hold -/
structure Gb (mg : Str → Option Value) : Prop where
  len : mg "len" = none
  range : mg "range" = none
  min : mg "min" = none
  max : mg "max" = none
  abs : mg "abs" = none
  int : mg "int" = none
  str : mg "str" = none
  tuple : mg "tuple" = none
  list : mg "list" = none
  isinstance : mg "isinstance" = none
  reversed : mg "reversed" = none
  all : mg "all" = none
  sum : mg "sum" = none
  bool : mg "bool" = none
  MOST : ∃ u, mg "MOST" = some u ∧ RelV (.int MOST) u
  MOST_EVENTS : ∃ u, mg "MOST_EVENTS" = some u ∧ RelV (.int 12) u
  MOST_ENTRIES : ∃ u, mg "MOST_ENTRIES" = some u ∧ RelV (.int 60) u
  MOST_RATE : ∃ u, mg "MOST_RATE" = some u ∧ RelV (.int 1000) u
  MOST_LATE : ∃ u, mg "MOST_LATE" = some u ∧ RelV (.int 60) u
/-! ### the rules with the written part as a letter -/
section
variable {X : Cx} (K : PySem.W.Frag)
def rLenK (K : PySem.W.Frag) : List V → Hp → VK → Prop := fun xs H Q => ∃ p ys, xs = [.ref p] ∧ (SqL K H p ys ∨ SqT K H p ys) ∧ Q (.int ys.length) H
def rTupK (K : PySem.W.Frag) : List V → Hp → VK → Prop := fun xs H Q => ∃ p ys, xs = [.ref p] ∧ ((SqL K H p ys ∧ ∀ l, H l = none → Q (.ref l) (upd H l (.tup ys))) ∨ (SqT K H p ys ∧ Q (.ref p) H))
theorem ix_listK (hK : X.K = K) : IxR X (rIxL K) := hK ▸ ix_list
theorem ix_tupK (hK : X.K = K) : IxR X (rIxT K) := hK ▸ ix_tup
theorem call_lenK (hK : X.K = K) : CallR X (.builtin "len") (rLenK K) := hK ▸ call_len_seq
theorem call_tupK (hK : X.K = K) : CallR X (.type "tuple") (rTupK K) := hK ▸ call_tuple_of
theorem op_inK (hK : X.K = K) : OpR X (compareOp .In) (rIn K false) := hK ▸ op_in_seq
theorem op_notInK (hK : X.K = K) : OpR X (compareOp .NotIn) (rIn K true) := hK ▸ op_notIn_seq
theorem pi_listK {tg l : Expr} {tl : TE} (hK : X.K = K) (hl : PE X l tl) : PI X tg l (iList K tl) := hK ▸ pi_list hl
theorem pi_tupK {tg l : Expr} {tl : TE} (hK : X.K = K) (hl : PE X l tl) : PI X tg l (iTup K tl) := hK ▸ pi_tup hl
theorem pe_fldK {e : Expr} {f : Str} {pos : Pos} {ta : TE} (hK : X.K = K) (he : PE X e ta) (hb : attributeBase e f X.env (eval e X.env) = eval e X.env) : PE X (.Attribute e f pos) (tFld K ta f) := hK ▸ pe_fld he hb
end
theorem yes_go {σ : L2.St} {H : Hp} {A B : Hp → Prop} (h : A H) : tYes σ H (fun b H3 => if b = true then A H3 else B H3) := by
  show if true = true then A H else B H
  exact iteT h
theorem ifF {c A B : Prop} [Decidable c] (hc : ¬ c) (h : B) : if decide c = true then A else B := by
  rw [decide_eq_false hc]
  exact iteF h
theorem ifT {c A B : Prop} [Decidable c] (hc : c) (h : A) : if decide c = true then A else B := by
  rw [decide_eq_true hc]
  exact iteT h
theorem ifNT {c A B : Prop} [Decidable c] (hc : ¬ c) (h : A) : if (!decide c) = true then A else B := by
  rw [decide_eq_false hc]
  exact iteT h
theorem ifNF {c A B : Prop} [Decidable c] (hc : c) (h : B) : if (!decide c) = true then A else B := by
  rw [decide_eq_true hc]
  exact iteF h
theorem paired_at {α β : Type} {F : α → β → Prop} : ∀ {l : List α} {m : List β} {i : Nat} {a : α}, Paired F l m → l[i]? = some a → ∃ b, m[i]? = some b ∧ F a b
  | _, _, _, _, .nil, e => by simp at e
  | _, _, 0, _, .cons r _, e => by simp at e; subst e; exact ⟨_, rfl, r⟩
  | _, _, i + 1, _, .cons _ t, e => by
    obtain ⟨b, h1, h2⟩ := paired_at (i := i) t (by simpa using e)
    exact ⟨b, by simpa using h1, h2⟩
theorem paired_at2 {α β : Type} {F : α → β → Prop} : ∀ {l : List α} {m : List β} {i : Nat} {b : β}, Paired F l m → m[i]? = some b → ∃ a, l[i]? = some a ∧ F a b
  | _, _, _, _, .nil, e => by simp at e
  | _, _, 0, _, .cons r _, e => by simp at e; subst e; exact ⟨_, rfl, r⟩
  | _, _, i + 1, _, .cons _ t, e => by
    obtain ⟨a, h1, h2⟩ := paired_at2 (i := i) t (by simpa using e)
    exact ⟨a, by simpa using h1, h2⟩
theorem lt_of_at {α : Type} {l : List α} {i : Nat} {a : α} (h : l[i]? = some a) : i < l.length := (List.getElem?_eq_some_iff.mp h).1
theorem at_map {α β : Type} {f : α → β} {l : List α} {i : Nat} {b : β} (h : (l.map f)[i]? = some b) : ∃ a, l[i]? = some a ∧ b = f a := by
  rw [List.getElem?_map] at h
  cases e : l[i]? with
  | none => rw [e] at h; cases h
  | some a => rw [e] at h; exact ⟨a, rfl, (Option.some.inj h).symm⟩
theorem at_ex {α : Type} {l : List α} {i : Nat} (h : i < l.length) : ∃ a, l[i]? = some a := ⟨l[i], List.getElem?_eq_getElem h⟩
theorem take_snoc {α : Type} {l : List α} {i : Nat} {a : α} (h : l[i]? = some a) : l.take (i + 1) = l.take i ++ [a] := by
  rw [List.take_add_one, h]
  rfl
theorem same_new {H H' : Hp} {p : Addr} {o : HO} (e : Same H H') (h : H' p = none) : Same H (upd H' p o) := fun b u q => by
  rw [upd_ne (ne_of_none (e b u q) h)]
  exact e b u q
theorem same_mut {H H' : Hp} {p : Addr} {o : HO} (e : Same H H') (h : H p = none) : Same H (upd H' p o) := fun b u q => by
  rw [upd_ne (ne_of_none q h)]
  exact e b u q
theorem Same.tup {K : PySem.W.Frag} {H H' : Hp} {a : Addr} {xs : List V} (e : Same H H') (h : SqT K H a xs) : SqT K H' a xs := by
  rcases h with (h | ⟨o, h⟩) | h
  · exact .inl (.inl (e _ _ h))
  · exact .inl (.inr ⟨o, e _ _ h⟩)
  · exact .inr h
theorem size_le {n : Nat} (h : n ≤ 100000) : n ≤ sizeLine := Nat.le_trans h (by decide)
theorem size_lt {n : Nat} (h : n < 100000) : n < sizeLine := Nat.lt_of_lt_of_le h (by decide)
theorem nV_at {ns : List Nat} {i n : Nat} (h : ns[i]? = some n) : (ns.map nV)[i]? = some (nV n) := by rw [List.getElem?_map, h]; rfl
/-! ### numerals -/
def num (n : Nat) : Str := Str.ofString (toString ((n : Nat) : Int))
theorem num_list (n : Nat) : (num n).cps.toList = TL.numL n := TL.tl_num n
theorem num_length (n : Nat) : (num n).length = (TL.numL n).length := by
  have := num_list n
  unfold Str.length
  rw [← this, Array.length_toList]
theorem numL_mono {n m : Nat} (h : n ≤ m) : (TL.numL n).length ≤ (TL.numL m).length := by
  induction m using Nat.strongRecOn generalizing n with
  | _ m ih =>
    by_cases hn : n < 10
    · rw [TL.numL_lt hn]
      have := List.length_pos_iff.mpr (TL.numL_ne m)
      rw [List.length_singleton]
      omega
    · rw [TL.numL_step (by omega : 10 ≤ n), TL.numL_step (by omega : 10 ≤ m), List.length_append, List.length_append, List.length_singleton, List.length_singleton]
      have := ih (m / 10) (by omega) (n := n / 10) (by omega)
      omega
theorem numL_head {n : Nat} (h : 1 ≤ n) : ∃ c, (TL.numL n)[0]? = some c ∧ c ≠ 48 := by
  induction n using Nat.strongRecOn with
  | _ n ih =>
    by_cases hn : n < 10
    · rw [TL.numL_lt hn]
      exact ⟨48 + n, rfl, by omega⟩
    · obtain ⟨c, h1, h2⟩ := ih (n / 10) (by omega) (by omega)
      refine ⟨c, ?_, h2⟩
      rw [TL.numL_step (by omega), List.getElem?_append_left (lt_of_at h1)]
      exact h1
theorem num_one {n : Nat} (h : 1 < (TL.numL n).length) : 10 ≤ n := by
  rcases Nat.lt_or_ge n 10 with q | q
  · rw [TL.numL_lt q] at h
    simp at h
  · exact q
theorem digit_all : ∀ c, c < 58 → 48 ≤ c → Unicode.isDigit c = true := by decide +kernel
theorem num_digit (n : Nat) : Txt.isdigit (num n) = true := by
  unfold Txt.isdigit
  rw [Bool.and_eq_true, decide_eq_true_eq, num_length]
  refine ⟨List.length_pos_iff.mpr (TL.numL_ne n), ?_⟩
  rw [← Array.all_toList, num_list, List.all_eq_true]
  intro c hc
  have := TL.numL_digits n c hc
  exact digit_all c (by omega) (by omega)
theorem sign_ne {c : Nat} {s : Str} {d : Nat} (hs : s.cps.toList = [d]) (h : c ≠ d) : ¬ (V.str ⟨#[c]⟩ = V.str s) := fun z => by
  have z2 := congrArg (fun x : Str => x.cps.toList) (V.str.inj z)
  rw [hs] at z2
  simp at z2
  exact h z2
theorem num_len {n : Nat} (h : n ≤ 10 ^ 30) : (num n).length ≤ 31 := by
  rw [num_length]
  exact TL.numL_len (by decide) (by omega)
theorem num_log {n : Nat} (h : n ≤ 10 ^ 30) : (n : Int).natAbs.log2 < 1920 := by
  have : n < 2 ^ 200 := Nat.lt_of_le_of_lt h (by decide)
  have h2 : (n : Int).natAbs = n := by omega
  rw [h2]
  by_cases z : n = 0
  · subst z; decide
  · exact Nat.lt_of_lt_of_le ((Nat.log2_lt z).mpr this) (by decide)
section
variable {P : Program} {w : World} {K : PySem.W.Frag} {mg : Str → Option Value} {base : Heap}
abbrev s_number_in : Stmt := top 11
abbrev N_number_in : List Str := ["part", "least", "most", "number"]
theorem sc_number_in : FnScope N_number_in ["part", "least", "most"] (C8.fnScope s_number_in) := C8.fnScope_by (by decide +kernel)
def sp_number_in : Sp := fun vs H Q _ => ∃ n lo hi : Nat, vs = [.str (num n), .int (lo : Int), .int (hi : Int)] ∧ lo ≤ n ∧ n ≤ hi ∧ hi ≤ 10 ^ 30 ∧ Q (.int (n : Int)) H
theorem ok_number_in {f : Addr} {fd : FuncData} (F : C8.Def K mg "number_in" s_number_in f fd) (b : Binds K fd ["part", "least", "most"] []) (T : Gb mg) : C8.Cal P w K mg base 1 "number_in" sp_number_in [] := by
  refine C8.cal0 F b .nil sc_number_in (fun vs H Q E h => ?_) (fun cdv A outer s H vs Q E hr h => ?_)
  · obtain ⟨n, lo, hi, rfl, _⟩ := h
    rfl
  · obtain ⟨n, lo, hi, rfl, h1, h2, h3, q⟩ := h
    refine ⟨_, (C8.pss_cut (ps_if (PW.pt (pw_or (pt_not (pt_val (pe_m0 PySem.F.slot_str_isdigit PySem.F.type_str_isdigit mt_isdigit (pv 0)))) (pw_or (pt_cmpR op_gt (pe_callB call_len_str (by rfl) T.len PySem.boot_len (pa_cons (pv 0) pa_nil)) (pe_callB call_len_str (by rfl) T.len PySem.boot_len (pa_cons (pe_callTy call_str_int (by rfl) T.str (by decide +kernel) (pa_cons (pv 2) pa_nil)) pa_nil)) (nomark _)) (pw_or1 (PW.pt (pw_and (pt_cmpR op_gt (pe_callB call_len_str (by rfl) T.len PySem.boot_len (pa_cons (pv 0) pa_nil)) pe_int (nomark _)) (pw_and1 (pt_cmpR op_eq (pe_ix ix_str (pv 0) pe_int (fun _ _ => rfl)) pe_str (nomark _)))))))))
(pss_one (ps_ret pe_non))
pss_nil)
(pss_cons (ps_set (i := 3) sc_number_in.nd rfl (Or.inl rfl) (pe_callTy call_int_str (by rfl) T.int (by decide +kernel) (pa_cons (pv 0) pa_nil)))
(pss_cons (ps_if (PW.pt (pw_or (pt_cmpR op_lt (pv 3) (pv 1) (nomark _)) (pw_or1 (pt_cmpR op_gt (pv 3) (pv 2) (nomark _)))))
(pss_one (ps_ret pe_non))
pss_nil)
(pss_one (ps_ret (pv 3)))))), ?_⟩
    have hl1 := num_len (n := n) (by omega)
    have hl2 := num_len (n := hi) h3
    have hm : (num n).length ≤ (num hi).length := by rw [num_length, num_length]; exact numL_mono h2
    refine ⟨fun σ' H' => H' = H ∧ σ' = [some (.str (num n)), some (nV lo), some (nV hi), none], ?_, ?_⟩
    · refine ⟨_, rfl, ⟨_, rfl⟩, num n, rfl, rfl, trivial, _, rfl, ?_⟩
      rw [num_digit]
      refine iteF ?_
      refine ⟨_, rfl, num n, rfl, size_le (by omega), _, rfl, (hi : Int), rfl, num_log h3, num hi, rfl, size_le (by omega), _, _, rfl, rfl, _, rfl, ?_⟩
      refine ifF (by omega) ?_
      refine ⟨_, rfl, num n, rfl, size_le (by omega), _, _, rfl, rfl, _, rfl, ?_⟩
      refine ite2 (fun h1 => ?_) (fun _ => ?_)
      · have h1' : 1 < (num n).length := by have := of_decide_eq_true h1; omega
        rw [num_length] at h1'
        obtain ⟨c, hc, hc48⟩ := numL_head (n := n) (by have := num_one h1'; omega)
        refine ⟨_, rfl, num n, 0, c, rfl, rfl, size_le (by omega), ?_, rfl, _, rfl, ?_⟩
        · rw [num_list]
          exact atI_nat (j := 0) hc
        refine ifF (sign_ne (d := 48) rfl hc48) ?_
        exact ⟨rfl, rfl⟩
      · refine iteF ?_
        exact ⟨rfl, rfl⟩
    rintro σ' H' ⟨rfl, rfl⟩
    refine ⟨_, rfl, num n, (n : Int), rfl, TL.int_num (by rw [← num_length]; omega), by omega, ?_⟩
    refine ⟨_, rfl, _, rfl, _, _, rfl, rfl, _, rfl, ?_⟩
    refine ifF (by omega) ?_
    refine ⟨_, rfl, _, rfl, _, _, rfl, rfl, _, rfl, ?_⟩
    refine ifF (by omega) ?_
    exact ⟨_, rfl, q⟩
end
end My
namespace My
open PySem L2
/-! ### logs as data -/
inductive Ent where
  | noted (e t : Nat)
  | after (i j t : Nat)
  | shown (i j t : Nat)
def Ent.vs : Ent → List V
  | .noted e t => [.str "noted", nV e, nV t]
  | .after i j t => [.str "after", nV i, nV j, nV t]
  | .shown i j t => [.str "shown", nV i, nV j, nV t]
def Ent.evs : Ent → List Nat
  | .noted e _ => [e]
  | .after i j _ => [i, j]
  | .shown i j _ => [i, j]
def Ent.last : Ent → Nat
  | .noted _ t => t
  | .after _ _ t => t
  | .shown _ _ t => t
structure Ent.Ok (N : Nat) (e : Ent) : Prop where
  ev : ∀ i ∈ e.evs, i < N
  t : e.last ≤ 10 ^ 30
structure Wd where
  size : Nat
  ents : List Ent
  fast : Nat
  slow : Nat
  late : Nat
structure Wd.Ok (W : Wd) : Prop where
  s1 : 1 ≤ W.size
  s2 : W.size ≤ 12
  n : W.ents.length ≤ 60
  e : ∀ e ∈ W.ents, e.Ok W.size
  r1 : 1 ≤ W.slow
  r2 : W.slow ≤ W.fast
  r3 : W.fast ≤ 1000
  l : W.late ≤ 60
def EntV (K : PySem.W.Frag) (H : Hp) (v : V) (e : Ent) : Prop := ∃ a, v = .ref a ∧ SqT K H a e.vs
theorem EntV.mono {K : PySem.W.Frag} {H H' : Hp} {v : V} {e : Ent} (s : Same H H') (h : EntV K H v e) : EntV K H' v e := let ⟨a, e1, q⟩ := h; ⟨a, e1, Same.tup s q⟩
def lineAt (ls : List Str) (k : Nat) : Str := (ls[k]?).getD Str.empty
section
variable {P : Program} {w : World} {K : PySem.W.Frag} {mg : Str → Option Value} {base : Heap}
abbrev s_line_at : Stmt := top 12
abbrev N_line_at : List Str := ["lines", "index"]
theorem sc_line_at : FnScope N_line_at ["lines", "index"] (C8.fnScope s_line_at) := C8.fnScope_by (by decide +kernel)
def sp_line_at (K : PySem.W.Frag) : Sp := fun vs H Q _ => ∃ (a : Addr) (ls : List Str) (k : Nat), vs = [.ref a, .int (k : Int)] ∧ SqL K H a (ls.map V.str) ∧ Q (.str (lineAt ls k)) H
theorem ok_line_at {f : Addr} {fd : FuncData} (F : C8.Def K mg "line_at" s_line_at f fd) (b : Binds K fd ["lines", "index"] []) (T : Gb mg) : C8.Cal P w K mg base 1 "line_at" (sp_line_at K) [] := by
  refine C8.cal0 F b .nil sc_line_at (fun vs H Q E h => ?_) (fun cdv A outer s H vs Q E hr h => ?_)
  · obtain ⟨a, ls, k, rfl, _⟩ := h
    rfl
  · obtain ⟨a, ls, k, rfl, hL, q⟩ := h
    refine ⟨_, (pss_cons (ps_if (pt_cmpR op_lt (pv 1) (pe_callB (call_lenK K rfl) (by rfl) T.len PySem.boot_len (pa_cons (pv 0) pa_nil)) (nomark _))
(pss_one (ps_ret (pe_ix (ix_listK K rfl) (pv 0) (pv 1) (fun _ _ => rfl))))
pss_nil)
(pss_one (ps_ret pe_str))), ?_⟩
    refine ⟨_, rfl, _, rfl, a, _, rfl, .inl hL, _, _, rfl, rfl, _, rfl, ?_⟩
    rw [List.length_map]
    refine ite2 (fun h => ?_) (fun h => ?_)
    · have h' : k < ls.length := by have := of_decide_eq_true h; omega
      obtain ⟨x, hx⟩ := at_ex h'
      refine ⟨_, rfl, _, rfl, a, _, _, .str x, rfl, rfl, hL, atI_nat (by rw [List.getElem?_map, hx]; rfl), ?_⟩
      have e : lineAt ls k = x := by unfold lineAt; rw [hx]; rfl
      rw [e] at q
      exact q
    · have h' : ls.length ≤ k := by have := of_decide_eq_false (Bool.eq_false_iff.mpr h); omega
      have e : lineAt ls k = Str.empty := by unfold lineAt; rw [List.getElem?_eq_none h']; rfl
      rw [e] at q
      exact q

abbrev s_check_end : Stmt := top 13
abbrev N_check_end : List Str := ["lines", "count", "first"]
theorem sc_check_end : FnScope N_check_end ["lines", "count", "first"] (C8.fnScope s_check_end) := C8.fnScope_by (by decide +kernel)
def sp_check_end (K : PySem.W.Frag) : Sp := fun vs H Q _ => ∃ (a : Addr) (ls : List V) (k : Nat) (v : V), vs = [.ref a, .int (k : Int), v] ∧ SqL K H a ls ∧ ls.length ≤ k ∧ Q .non H
theorem ok_check_end {f : Addr} {fd : FuncData} (F : C8.Def K mg "check_end" s_check_end f fd) (b : Binds K fd ["lines", "count", "first"] []) (T : Gb mg) : C8.Cal P w K mg base 1 "check_end" (sp_check_end K) [] := by
  refine C8.cal0 F b .nil sc_check_end (fun vs H Q E h => ?_) (fun cdv A outer s H vs Q E hr h => ?_)
  · obtain ⟨a, ls, k, v, rfl, _⟩ := h
    rfl
  · obtain ⟨a, ls, k, v, rfl, hL, hk, q⟩ := h
    refine ⟨_, (pss_one (ps_if (pt_cmpR op_gt (pe_callB (call_lenK K rfl) (by rfl) T.len PySem.boot_len (pa_cons (pv 0) pa_nil)) (pv 1) (nomark _))
(pss_one ps_never)
pss_nil)), ?_⟩
    refine ⟨_, rfl, a, _, rfl, .inl hL, _, rfl, _, _, rfl, rfl, _, rfl, ?_⟩
    refine ifF (by omega) ?_
    exact q

abbrev s_entry_fits : Stmt := top 19
abbrev N_entry_fits : List Str := ["entry", "size", "events", "event"]
theorem sc_entry_fits : FnScope N_entry_fits ["entry", "size"] (C8.fnScope s_entry_fits) := C8.fnScope_by (by decide +kernel)
def sp_entry_fits (K : PySem.W.Frag) : Sp := fun vs H Q _ => ∃ (v : V) (N : Nat) (e : Ent), vs = [v, .int (N : Int)] ∧ EntV K H v e ∧ e.Ok N ∧ ∀ H', Same H H' → Q (.bl true) H'
theorem ok_entry_fits {f : Addr} {fd : FuncData} (F : C8.Def K mg "entry_fits" s_entry_fits f fd) (b : Binds K fd ["entry", "size"] []) (T : Gb mg) : C8.Cal P w K mg base 1 "entry_fits" (sp_entry_fits K) [] := by
  refine C8.cal0 F b .nil sc_entry_fits (fun vs H Q E h => ?_) (fun cdv A outer s H vs Q E hr h => ?_)
  · obtain ⟨v, N, e, rfl, _⟩ := h
    rfl
  · obtain ⟨v, N, e, rfl, ⟨a, rfl, ha⟩, he, q⟩ := h
    refine ⟨_, (C8.pss_cut (ps_if (PW.pt (pw_and (pt_cmpR op_eq (pe_callB (call_lenK K rfl) (by rfl) T.len PySem.boot_len (pa_cons (pv 0) pa_nil)) pe_int (nomark _)) (pw_and1 (pt_cmpR op_eq (pe_ix (ix_tupK K rfl) (pv 0) pe_int (fun _ _ => rfl)) pe_str (nomark _)))))
(pss_one (ps_set (i := 2) sc_entry_fits.nd rfl (Or.inl rfl) (pe_lst (pa_cons (pe_ix (ix_tupK K rfl) (pv 0) pe_int (fun _ _ => rfl)) pa_nil))))
(pss_one (ps_if (PW.pt (pw_and (pt_cmpR op_eq (pe_callB (call_lenK K rfl) (by rfl) T.len PySem.boot_len (pa_cons (pv 0) pa_nil)) pe_int (nomark _)) (pw_and1 (PW.pt (pw_or (pt_cmpR op_eq (pe_ix (ix_tupK K rfl) (pv 0) pe_int (fun _ _ => rfl)) pe_str (nomark _)) (pw_or1 (pt_cmpR op_eq (pe_ix (ix_tupK K rfl) (pv 0) pe_int (fun _ _ => rfl)) pe_str (nomark _))))))))
(pss_one (ps_set (i := 2) sc_entry_fits.nd rfl (Or.inl rfl) (pe_lst (pa_cons (pe_ix (ix_tupK K rfl) (pv 0) pe_int (fun _ _ => rfl)) (pa_cons (pe_ix (ix_tupK K rfl) (pv 0) pe_int (fun _ _ => rfl)) pa_nil)))))
(pss_one (ps_ret pe_bl)))))
(pss_cons (ps_for PassesOwn.never rfl (pi_listK K rfl (pv 2)) (pg_name (i := 3) sc_entry_fits.nd rfl (Or.inl rfl))
(pss_one (ps_if (PW.pt (pw_or (pt_cmpR op_lt (pv 3) pe_int (nomark _)) (pw_or1 (pt_cmpR op_ge (pv 3) (pv 1) (nomark _)))))
(pss_one (ps_ret pe_bl))
pss_nil)))
(pss_one (ps_ret (pe_and (pe_cmpR op_ge (pe_ix (ix_tupK K rfl) (pv 0) (pe_un un_neg pe_int) (fun _ _ => rfl)) pe_int (nomark _)) (pe_one (pe_cmpR op_le (pe_ix (ix_tupK K rfl) (pv 0) (pe_un un_neg pe_int) (fun _ _ => rfl)) (C8.pe_gc (by rfl) T.MOST) (nomark _)))))))), ?_⟩
    refine ⟨fun σ H' => Same H H' ∧ ∃ l, H' l = some (.lst (e.evs.map nV)) ∧ σ = [some (.ref a), some (nV N), some (.ref l), none], ?_, ?_⟩
    · cases e with
      | noted i t =>
        refine ⟨_, rfl, a, _, rfl, .inr ha, rfl, _, rfl, ?_⟩
        refine ifT rfl ?_
        refine ⟨_, rfl, a, _, 0, .str "noted", rfl, rfl, ha, rfl, rfl, _, rfl, ?_⟩
        refine ifT rfl ?_
        refine ⟨_, rfl, a, _, 1, nV i, rfl, rfl, ha, rfl, by show 1 ≤ sizeLine; decide, fun l hl => ?_⟩
        exact ⟨same_new (Same.refl _) hl, l, upd_same, rfl⟩
      | after i j t =>
        refine ⟨_, rfl, a, _, rfl, .inr ha, rfl, _, rfl, ?_⟩
        refine ifF (by intro z; have := V.int.inj z; exact absurd (show (4 : Int) = 3 from this) (by decide)) ?_
        refine iteF ?_
        refine ⟨_, rfl, a, _, rfl, .inr ha, rfl, _, rfl, ?_⟩
        refine ifT rfl ?_
        refine ⟨_, rfl, a, _, 0, .str "after", rfl, rfl, ha, rfl, rfl, _, rfl, ?_⟩
        refine ifT rfl ?_
        refine ⟨_, rfl, a, _, 1, nV i, rfl, rfl, ha, rfl, _, rfl, a, _, 2, nV j, rfl, rfl, ha, rfl, by show 2 ≤ sizeLine; decide, fun l hl => ?_⟩
        exact ⟨same_new (Same.refl _) hl, l, upd_same, rfl⟩
      | shown i j t =>
        refine ⟨_, rfl, a, _, rfl, .inr ha, rfl, _, rfl, ?_⟩
        refine ifF (by intro z; have := V.int.inj z; exact absurd (show (4 : Int) = 3 from this) (by decide)) ?_
        refine iteF ?_
        refine ⟨_, rfl, a, _, rfl, .inr ha, rfl, _, rfl, ?_⟩
        refine ifT rfl ?_
        refine ⟨_, rfl, a, _, 0, .str "shown", rfl, rfl, ha, rfl, rfl, _, rfl, ?_⟩
        refine ifF (by intro z; exact absurd (V.str.inj z) (by decide +kernel)) ?_
        refine ⟨_, rfl, a, _, 0, .str "shown", rfl, rfl, ha, rfl, rfl, _, rfl, ?_⟩
        refine ifT rfl ?_
        refine ⟨_, rfl, a, _, 1, nV i, rfl, rfl, ha, rfl, _, rfl, a, _, 2, nV j, rfl, rfl, ha, rfl, by show 2 ≤ sizeLine; decide, fun l hl => ?_⟩
        exact ⟨same_new (Same.refl _) hl, l, upd_same, rfl⟩
    rintro σ H1 ⟨sm1, l, hl, rfl⟩
    have ha1 := Same.tup sm1 ha
    refine ⟨_, rfl, l, rfl, ⟨_, SqL.of hl⟩, for_it (walk_list (xs := e.evs.map nV)) (fun j σ H' => H' = H1 ∧ ∃ v3, σ = [some (.ref a), some (nV N), some (.ref l), v3])
      ⟨rfl, _, rfl⟩ (fun j σ H' _ h => by rw [h.1]; exact SqL.of hl) ?_ ?_⟩
    · rintro j x σ H2 H2' hj ⟨rfl, v3, rfl⟩ ⟨rfl, hx⟩
      obtain ⟨i, hi, rfl⟩ := at_map hx
      have hN := he.ev i (List.mem_of_getElem? hi)
      refine ⟨_, rfl, _, _, rfl, rfl, _, rfl, ?_⟩
      refine ifF (by omega) ?_
      refine ⟨_, rfl, _, rfl, _, _, rfl, rfl, _, rfl, ?_⟩
      refine ifF (by omega) ?_
      exact ⟨rfl, _, rfl⟩
    · rintro σ H2 ⟨rfl, v3, rfl⟩
      have hlast : atI e.vs (-1) = some (nV e.last) := by cases e <;> rfl
      have ht := he.t
      refine ⟨_, rfl, 1, rfl, a, _, _, nV e.last, rfl, rfl, ha1, hlast, _, _, rfl, rfl, _, rfl, ?_⟩
      refine ifT (by omega) ?_
      refine ⟨_, rfl, 1, rfl, a, _, _, nV e.last, rfl, rfl, ha1, hlast, _, _, rfl, rfl, ?_⟩
      dsimp only
      rw [decide_eq_true (show (e.last : Int) ≤ MOST by show (e.last : Int) ≤ 10 ^ 30; omega)]
      exact q _ sm1
end
end My
namespace My
open PySem L2
/-! ### the log as an object -/
def lf (n es fa sl la : V) : List (Str × V) := putF "late" la (putF "slow" sl (putF "fast" fa (putF "entries" es (putF "size" n []))))
theorem lf_size (n es fa sl la : V) : (lf n es fa sl la).lookup ("size" : Str) = some n := by
  unfold lf
  rw [lookup_putF, if_neg (by decide +kernel), lookup_putF, if_neg (by decide +kernel), lookup_putF, if_neg (by decide +kernel), lookup_putF, if_neg (by decide +kernel), lookup_putF, if_pos rfl]
theorem lf_entries (n es fa sl la : V) : (lf n es fa sl la).lookup ("entries" : Str) = some es := by
  unfold lf
  rw [lookup_putF, if_neg (by decide +kernel), lookup_putF, if_neg (by decide +kernel), lookup_putF, if_neg (by decide +kernel), lookup_putF, if_pos rfl]
theorem lf_fast (n es fa sl la : V) : (lf n es fa sl la).lookup ("fast" : Str) = some fa := by
  unfold lf
  rw [lookup_putF, if_neg (by decide +kernel), lookup_putF, if_neg (by decide +kernel), lookup_putF, if_pos rfl]
theorem lf_slow (n es fa sl la : V) : (lf n es fa sl la).lookup ("slow" : Str) = some sl := by
  unfold lf
  rw [lookup_putF, if_neg (by decide +kernel), lookup_putF, if_pos rfl]
theorem lf_late (n es fa sl la : V) : (lf n es fa sl la).lookup ("late" : Str) = some la := by
  unfold lf
  rw [lookup_putF, if_pos rfl]
theorem lf_no (n es fa sl la : V) {x : Str} (h1 : ¬ x = "late") (h2 : ¬ x = "slow") (h3 : ¬ x = "fast") (h4 : ¬ x = "entries") (h5 : ¬ x = "size") : (lf n es fa sl la).lookup x = none := by
  unfold lf
  rw [lookup_putF, if_neg h1, lookup_putF, if_neg h2, lookup_putF, if_neg h3, lookup_putF, if_neg h4, lookup_putF, if_neg h5]
  rfl
structure ClsL (K : PySem.W.Frag) (C : Addr) : Prop where
  cl : Cls K C
  nSize : NoAttr K C "size"
  nEntries : NoAttr K C "entries"
  nFast : NoAttr K C "fast"
  nSlow : NoAttr K C "slow"
  nLate : NoAttr K C "late"
/-- a Log stands at p -/
structure LogAt (K : PySem.W.Frag) (C : Addr) (H : Hp) (p : Addr) (W : Wd) : Prop where
  ex : ∃ (dx a : Addr) (vs : List V), H p = some (.ins C dx (lf (nV W.size) (.ref a) (nV W.fast) (nV W.slow) (nV W.late))) ∧ SqT K H a vs ∧ Paired (EntV K H) vs W.ents
theorem LogAt.mono {K : PySem.W.Frag} {C : Addr} {H H' : Hp} {p : Addr} {W : Wd} (s : Same H H') (h : LogAt K C H p W) : LogAt K C H' p W := by
  obtain ⟨dx, a, vs, e, h1, h2⟩ := h.ex
  exact ⟨dx, a, vs, s _ _ e, Same.tup s h1, L2.Paired.mapP h2 fun _ _ => EntV.mono s⟩
section
variable {K : PySem.W.Frag} {H H' : Hp} {v : V} {D : Addr} {xs ys : List V} {o : HO} {a : Addr}
theorem SqT.updL (hD : H D = some (.lst xs)) (h : SqT K H a ys) : SqT K (upd H D o) a ys := by
  rcases h with (h | ⟨ob, h⟩) | h
  · exact .inl (.inl (by rw [upd_ne (ne_of h hD (by intro z; cases z))]; exact h))
  · exact .inl (.inr ⟨ob, by rw [upd_ne (ne_of h hD (by intro z; cases z))]; exact h⟩)
  · exact .inr h
theorem EntV.updL (hD : H D = some (.lst xs)) {e : Ent} (h : EntV K H v e) : EntV K (upd H D o) v e := let ⟨a, e1, q⟩ := h; ⟨a, e1, SqT.updL hD q⟩
/-- all but p is as it was -/
def SameX (p : Addr) (H H' : Hp) : Prop := ∀ b o, b ≠ p → H b = some o → H' b = some o
theorem SameX.seq {p C dx : Addr} {fs : List (Str × V)} (s : SameX p H H') (hp : H p = some (.ins C dx fs)) (h : SqL K H a xs) : SqL K H' a xs := by
  rcases h with (h | ⟨ob, h⟩) | h
  · exact .inl (.inl (s _ _ (ne_of h hp (by intro z; cases z)) h))
  · exact .inl (.inr ⟨ob, s _ _ (ne_of h hp (by intro z; cases z)) h⟩)
  · exact .inr h
theorem SameX.tup {p C dx : Addr} {fs : List (Str × V)} (s : SameX p H H') (hp : H p = some (.ins C dx fs)) (h : SqT K H a xs) : SqT K H' a xs := by
  rcases h with (h | ⟨ob, h⟩) | h
  · exact .inl (.inl (s _ _ (ne_of h hp (by intro z; cases z)) h))
  · exact .inl (.inr ⟨ob, s _ _ (ne_of h hp (by intro z; cases z)) h⟩)
  · exact .inr h
theorem EntV.x {p C dx : Addr} {fs : List (Str × V)} (s : SameX p H H') (hp : H p = some (.ins C dx fs)) {e : Ent} (h : EntV K H v e) : EntV K H' v e := let ⟨a, e1, q⟩ := h; ⟨a, e1, SameX.tup s hp q⟩
theorem SameX.of {p : Addr} (s : Same H H') : SameX p H H' := fun b o _ h => s b o h
theorem SameX.up {p : Addr} (s : SameX p H H') {o : HO} : SameX p H (upd H' p o) := fun b u hb h => by rw [upd_ne hb]; exact s b u hb h
theorem SameX.trans {p : Addr} {H2 : Hp} (s : SameX p H H') (t : SameX p H' H2) : SameX p H H2 := fun b o hb h => t b o hb (s b o hb h)
end
section
variable {P : Program} {w : World} {K : PySem.W.Frag} {mg : Str → Option Value} {base : Heap}
abbrev s_Log_init : Stmt := inClass (top 20) 0
abbrev N_Log_init : List Str := ["self", "size", "entries", "fast", "slow", "late", "index", "entry"]
theorem sc_Log_init : FnScope N_Log_init ["self", "size", "entries", "fast", "slow", "late"] (C8.fnScope s_Log_init) := C8.fnScope_by (by decide +kernel)
def sp_initL (K : PySem.W.Frag) (C : Addr) : Sp := fun vs H Q _ => ∃ (p dx a : Addr) (es : List V) (W : Wd), vs = [.ref p, nV W.size, .ref a, nV W.fast, nV W.slow, nV W.late] ∧ H p = some (.ins C dx []) ∧ SqL K H a es ∧ Paired (EntV K H) es W.ents ∧ W.Ok ∧
  ∀ H', SameX p H H' → LogAt K C H' p W → Q .non H'
theorem ok_Log_initL {C f : Addr} {fd : FuncData} (F : C8.Fun K "__init__" "Log.__init__" s_Log_init f fd) (b : Binds K fd ["self", "size", "entries", "fast", "slow", "late"] []) (cl : ClsL K C) (M : Mk K C f) (hmC : mg "Log" = some (.ref C)) (T : Gb mg)
    (c_entry_fits : C8.Cal P w K mg base 1 "entry_fits" (sp_entry_fits K) []) : C8.Mak P w K mg base 2 "Log" C (sp_initL K C) [] := by
  refine C8.mak0 M hmC F b .nil sc_Log_init (fun vs H Q E h => ?_) (fun cdv A outer s H vs Q E hr h => ?_)
  · obtain ⟨p, dx, a, es, W, rfl, _⟩ := h
    rfl
  · obtain ⟨p, dx, a, es, W, rfl, hp, hE, hP, hok, q⟩ := h
    have hel := hP.length
    obtain ⟨o1, o2, o3, o4, o5, o6, o7, o8⟩ := hok
    refine ⟨_, (pss_cons (ps_if (PW.pt (pw_or (pt_cmpR op_lt (pv 1) pe_int (nomark _)) (pw_or (pt_cmpR op_gt (pv 1) (C8.pe_gc (by rfl) T.MOST_EVENTS) (nomark _)) (pw_or1 (pt_cmpR op_gt (pe_callB (call_lenK K rfl) (by rfl) T.len PySem.boot_len (pa_cons (pv 2) pa_nil)) (C8.pe_gc (by rfl) T.MOST_ENTRIES) (nomark _))))))
(pss_one ps_never)
pss_nil)
(pss_cons (ps_if (PW.pt (pw_or (pt_cmpR op_lt (pv 4) pe_int (nomark _)) (pw_or (pt_cmpR op_lt (pv 3) (pv 4) (nomark _)) (pw_or (pt_cmpR op_gt (pv 3) (C8.pe_gc (by rfl) T.MOST_RATE) (nomark _)) (pw_or (pt_cmpR op_lt (pv 5) pe_int (nomark _)) (pw_or1 (pt_cmpR op_gt (pv 5) (C8.pe_gc (by rfl) T.MOST_LATE) (nomark _))))))))
(pss_one ps_never)
pss_nil)
(pss_cons (ps_for PassesOwn.never rfl (pi_range1 (by rfl) T.range (pa_cons (pe_callB (call_lenK K rfl) (by rfl) T.len PySem.boot_len (pa_cons (pv 2) pa_nil)) pa_nil)) (pg_name (i := 6) sc_Log_init.nd rfl (Or.inl rfl))
(pss_one (ps_if (pt_not (pt_val (C8.pe_c c_entry_fits hr (by decide) (by rfl) (pa_cons (pe_ix (ix_listK K rfl) (pv 2) (pv 6) (fun _ _ => rfl)) (pa_cons (pv 1) pa_nil)))))
(pss_one ps_never)
pss_nil)))
(pss_cons (ps_fld (pv 0) (pv 1) rfl)
(pss_cons (ps_fld (pv 0) (pe_callTy (call_tupK K rfl) (by rfl) T.tuple (by decide +kernel) (pa_cons (pe_lc (own := [("entry", 7)]) rfl sc_Log_init.nd (pi_listK K rfl (pv 2)) (blkOk_by (N := N_Log_init) (sc := C8.fnScope s_Log_init) (by decide +kernel)) (fun _ _ _ _ _ => (pg_name (i := 7) sc_Log_init.nd rfl (Or.inl rfl))) (fun _ _ _ _ _ => pts_nil) (fun _ _ _ _ _ => (pe_callTy (call_tupK K rfl) (by rfl) T.tuple (by decide +kernel) (pa_cons (pv 7) pa_nil)))) pa_nil)) rfl)
(pss_cons (ps_fld (pv 0) (pv 3) rfl)
(pss_cons (ps_fld (pv 0) (pv 4) rfl)
(pss_one (ps_fld (pv 0) (pv 5) rfl))))))))), ?_⟩
    refine ⟨_, rfl, _, _, rfl, rfl, _, rfl, ?_⟩
    refine ifF (by omega) ?_
    refine ⟨_, rfl, _, _, rfl, rfl, _, rfl, ?_⟩
    refine ifF (by omega) ?_
    refine ⟨_, rfl, a, es, rfl, .inl hE, _, _, rfl, rfl, _, rfl, ?_⟩
    refine ifF (by omega) ?_
    refine ⟨_, rfl, _, _, rfl, rfl, _, rfl, ?_⟩
    refine ifF (by omega) ?_
    refine ⟨_, rfl, _, rfl, _, _, rfl, rfl, _, rfl, ?_⟩
    refine ifF (by omega) ?_
    refine ⟨_, rfl, _, _, rfl, rfl, _, rfl, ?_⟩
    refine ifF (by omega) ?_
    refine ⟨_, rfl, _, _, rfl, rfl, _, rfl, ?_⟩
    refine ifF (by omega) ?_
    refine ⟨_, rfl, _, _, rfl, rfl, _, rfl, ?_⟩
    refine ifF (by omega) ?_
    refine ⟨_, rfl, a, es, rfl, .inl hE, ?_⟩
    refine ⟨(es.length : Int), rfl, by omega, by omega, for_range (lo := 0) (n := (es.length : Int).toNat) (fun i σ H' => Same H H' ∧ ∃ v6, σ = [some (.ref p), some (nV W.size), some (.ref a), some (nV W.fast), some (nV W.slow), some (nV W.late), v6, none])
      ⟨Same.refl _, _, rfl⟩ ?_ ?_⟩
    · rintro i σ H1 hi ⟨sm1, v6, rfl⟩
      have hi' : i < W.ents.length := by omega
      have ei : (0 : Int) + (i : Int) = (i : Int) := by omega
      rw [ei]
      obtain ⟨e, he⟩ := at_ex hi'
      obtain ⟨v, hv, hev⟩ := paired_at2 hP he
      refine ⟨_, rfl, _, rfl, a, _, _, v, rfl, rfl, sm1.seq hE, atI_nat hv, _, rfl, v, W.size, e, rfl, hev.mono sm1, o4 e (List.mem_of_getElem? he), fun H2 sm2 => ⟨true, rfl, ?_⟩⟩
      refine iteF ?_
      exact ⟨sm1.trans sm2, _, rfl⟩
    rintro σ H1 ⟨sm1, v6, rfl⟩
    have hp1 := sm1 _ _ hp
    refine ⟨_, rfl, _, rfl, p, C, dx, _, rfl, hp1, cl.cl, cl.nSize, by show 0 < 1000; decide, ?_⟩
    have x3 : SameX p H (upd H1 p (.ins C dx (putF "size" (nV W.size) []))) := (SameX.of sm1).up
    have e3 : (upd H1 p (.ins C dx (putF "size" (nV W.size) []))) p = _ := upd_same
    revert x3 e3
    generalize upd H1 p (.ins C dx (putF "size" (nV W.size) [])) = H3
    intro x3 e3
    have hE3 : SqL K H3 a es := SameX.seq x3 hp hE
    refine ⟨_, rfl, a, rfl, ⟨es, hE3⟩, fun D hD => lc_it (walk_list (xs := es)) (fun i H' => Same H3 H' ∧ H' D = some (.lst (es.take i)))
      ⟨same_new (Same.refl _) hD, upd_same⟩ (fun i H' _ h => h.1.seq hE3) ?_ ?_⟩
    · rintro i x H4 H4' hi ⟨sm4, hD4⟩ ⟨rfl, hx⟩
      obtain ⟨e, he, t, rfl, ht⟩ := paired_at hP hx
      refine ⟨rfl, yes_go ?_⟩
      refine ⟨_, rfl, t, e.vs, rfl, .inr ⟨Same.tup sm4 (SameX.tup x3 hp ht), _, hD4, size_lt (by rw [List.length_take]; omega), same_mut sm4 hD, ?_⟩⟩
      rw [upd_same, take_snoc hx]
    rintro H4 ⟨sm4, hD4⟩
    rw [List.take_length] at hD4
    refine ⟨D, es, rfl, .inl ⟨SqL.of hD4, fun t1 ht1 => ?_⟩⟩
    have e4 := sm4 _ _ e3
    have n1 : p ≠ t1 := ne_of_none e4 ht1
    refine ⟨_, rfl, p, C, dx, _, rfl, (upd_ne n1).trans e4, cl.cl, cl.nEntries, by show 1 < 1000; decide, ?_⟩
    have x5 := ((x3.trans (SameX.of (same_new (o := .tup es) sm4 ht1))).up (o := .ins C dx (putF "entries" (.ref t1) (putF "size" (nV W.size) []))))
    have e5 : (upd (upd H4 t1 (.tup es)) p (.ins C dx (putF "entries" (.ref t1) (putF "size" (nV W.size) [])))) p = _ := upd_same
    have f5 : (upd (upd H4 t1 (.tup es)) p (.ins C dx (putF "entries" (.ref t1) (putF "size" (nV W.size) [])))) t1 = some (.tup es) := (upd_ne n1.symm).trans upd_same
    revert x5 e5 f5
    generalize upd (upd H4 t1 (.tup es)) p (.ins C dx (putF "entries" (.ref t1) (putF "size" (nV W.size) []))) = H5
    intro x5 e5 f5
    refine ⟨_, rfl, _, rfl, p, C, dx, _, rfl, e5, cl.cl, cl.nFast, by show 2 < 1000; decide, ?_⟩
    refine ⟨_, rfl, _, rfl, p, C, dx, _, rfl, upd_same, cl.cl, cl.nSlow, by show 3 < 1000; decide, ?_⟩
    refine ⟨_, rfl, _, rfl, p, C, dx, _, rfl, upd_same, cl.cl, cl.nLate, by show 4 < 1000; decide, ?_⟩
    have x6 := ((x5.up (o := .ins C dx (putF "fast" (nV W.fast) (putF "entries" (.ref t1) (putF "size" (nV W.size) []))))).up (o := .ins C dx (putF "slow" (nV W.slow) (putF "fast" (nV W.fast) (putF "entries" (.ref t1) (putF "size" (nV W.size) [])))))).up (o := .ins C dx (putF "late" (nV W.late) (putF "slow" (nV W.slow) (putF "fast" (nV W.fast) (putF "entries" (.ref t1) (putF "size" (nV W.size) []))))))
    refine q _ x6 ⟨dx, t1, es, upd_same, SqT.of ((upd_ne n1.symm).trans ((upd_ne n1.symm).trans ((upd_ne n1.symm).trans f5))), L2.Paired.mapP hP fun _ _ h => h.x x6 hp⟩
def sp_initT (K : PySem.W.Frag) (C : Addr) : Sp := fun vs H Q _ => ∃ (p dx a : Addr) (es : List V) (W : Wd), vs = [.ref p, nV W.size, .ref a, nV W.fast, nV W.slow, nV W.late] ∧ H p = some (.ins C dx []) ∧ SqT K H a es ∧ Paired (EntV K H) es W.ents ∧ W.Ok ∧
  ∀ H', SameX p H H' → LogAt K C H' p W → Q .non H'
theorem ok_Log_initT {C f : Addr} {fd : FuncData} (F : C8.Fun K "__init__" "Log.__init__" s_Log_init f fd) (b : Binds K fd ["self", "size", "entries", "fast", "slow", "late"] []) (cl : ClsL K C) (M : Mk K C f) (hmC : mg "Log" = some (.ref C)) (T : Gb mg)
    (c_entry_fits : C8.Cal P w K mg base 1 "entry_fits" (sp_entry_fits K) []) : C8.Mak P w K mg base 2 "Log" C (sp_initT K C) [] := by
  refine C8.mak0 M hmC F b .nil sc_Log_init (fun vs H Q E h => ?_) (fun cdv A outer s H vs Q E hr h => ?_)
  · obtain ⟨p, dx, a, es, W, rfl, _⟩ := h
    rfl
  · obtain ⟨p, dx, a, es, W, rfl, hp, hE, hP, hok, q⟩ := h
    have hel := hP.length
    obtain ⟨o1, o2, o3, o4, o5, o6, o7, o8⟩ := hok
    refine ⟨_, (pss_cons (ps_if (PW.pt (pw_or (pt_cmpR op_lt (pv 1) pe_int (nomark _)) (pw_or (pt_cmpR op_gt (pv 1) (C8.pe_gc (by rfl) T.MOST_EVENTS) (nomark _)) (pw_or1 (pt_cmpR op_gt (pe_callB (call_lenK K rfl) (by rfl) T.len PySem.boot_len (pa_cons (pv 2) pa_nil)) (C8.pe_gc (by rfl) T.MOST_ENTRIES) (nomark _))))))
(pss_one ps_never)
pss_nil)
(pss_cons (ps_if (PW.pt (pw_or (pt_cmpR op_lt (pv 4) pe_int (nomark _)) (pw_or (pt_cmpR op_lt (pv 3) (pv 4) (nomark _)) (pw_or (pt_cmpR op_gt (pv 3) (C8.pe_gc (by rfl) T.MOST_RATE) (nomark _)) (pw_or (pt_cmpR op_lt (pv 5) pe_int (nomark _)) (pw_or1 (pt_cmpR op_gt (pv 5) (C8.pe_gc (by rfl) T.MOST_LATE) (nomark _))))))))
(pss_one ps_never)
pss_nil)
(pss_cons (ps_for PassesOwn.never rfl (pi_range1 (by rfl) T.range (pa_cons (pe_callB (call_lenK K rfl) (by rfl) T.len PySem.boot_len (pa_cons (pv 2) pa_nil)) pa_nil)) (pg_name (i := 6) sc_Log_init.nd rfl (Or.inl rfl))
(pss_one (ps_if (pt_not (pt_val (C8.pe_c c_entry_fits hr (by decide) (by rfl) (pa_cons (pe_ix (ix_tupK K rfl) (pv 2) (pv 6) (fun _ _ => rfl)) (pa_cons (pv 1) pa_nil)))))
(pss_one ps_never)
pss_nil)))
(pss_cons (ps_fld (pv 0) (pv 1) rfl)
(pss_cons (ps_fld (pv 0) (pe_callTy (call_tupK K rfl) (by rfl) T.tuple (by decide +kernel) (pa_cons (pe_lc (own := [("entry", 7)]) rfl sc_Log_init.nd (pi_tupK K rfl (pv 2)) (blkOk_by (N := N_Log_init) (sc := C8.fnScope s_Log_init) (by decide +kernel)) (fun _ _ _ _ _ => (pg_name (i := 7) sc_Log_init.nd rfl (Or.inl rfl))) (fun _ _ _ _ _ => pts_nil) (fun _ _ _ _ _ => (pe_callTy (call_tupK K rfl) (by rfl) T.tuple (by decide +kernel) (pa_cons (pv 7) pa_nil)))) pa_nil)) rfl)
(pss_cons (ps_fld (pv 0) (pv 3) rfl)
(pss_cons (ps_fld (pv 0) (pv 4) rfl)
(pss_one (ps_fld (pv 0) (pv 5) rfl))))))))), ?_⟩
    refine ⟨_, rfl, _, _, rfl, rfl, _, rfl, ?_⟩
    refine ifF (by omega) ?_
    refine ⟨_, rfl, _, _, rfl, rfl, _, rfl, ?_⟩
    refine ifF (by omega) ?_
    refine ⟨_, rfl, a, es, rfl, .inr hE, _, _, rfl, rfl, _, rfl, ?_⟩
    refine ifF (by omega) ?_
    refine ⟨_, rfl, _, _, rfl, rfl, _, rfl, ?_⟩
    refine ifF (by omega) ?_
    refine ⟨_, rfl, _, rfl, _, _, rfl, rfl, _, rfl, ?_⟩
    refine ifF (by omega) ?_
    refine ⟨_, rfl, _, _, rfl, rfl, _, rfl, ?_⟩
    refine ifF (by omega) ?_
    refine ⟨_, rfl, _, _, rfl, rfl, _, rfl, ?_⟩
    refine ifF (by omega) ?_
    refine ⟨_, rfl, _, _, rfl, rfl, _, rfl, ?_⟩
    refine ifF (by omega) ?_
    refine ⟨_, rfl, a, es, rfl, .inr hE, ?_⟩
    refine ⟨(es.length : Int), rfl, by omega, by omega, for_range (lo := 0) (n := (es.length : Int).toNat) (fun i σ H' => Same H H' ∧ ∃ v6, σ = [some (.ref p), some (nV W.size), some (.ref a), some (nV W.fast), some (nV W.slow), some (nV W.late), v6, none])
      ⟨Same.refl _, _, rfl⟩ ?_ ?_⟩
    · rintro i σ H1 hi ⟨sm1, v6, rfl⟩
      have hi' : i < W.ents.length := by omega
      have ei : (0 : Int) + (i : Int) = (i : Int) := by omega
      rw [ei]
      obtain ⟨e, he⟩ := at_ex hi'
      obtain ⟨v, hv, hev⟩ := paired_at2 hP he
      refine ⟨_, rfl, _, rfl, a, _, _, v, rfl, rfl, Same.tup sm1 hE, atI_nat hv, _, rfl, v, W.size, e, rfl, hev.mono sm1, o4 e (List.mem_of_getElem? he), fun H2 sm2 => ⟨true, rfl, ?_⟩⟩
      refine iteF ?_
      exact ⟨sm1.trans sm2, _, rfl⟩
    rintro σ H1 ⟨sm1, v6, rfl⟩
    have hp1 := sm1 _ _ hp
    refine ⟨_, rfl, _, rfl, p, C, dx, _, rfl, hp1, cl.cl, cl.nSize, by show 0 < 1000; decide, ?_⟩
    have x3 : SameX p H (upd H1 p (.ins C dx (putF "size" (nV W.size) []))) := (SameX.of sm1).up
    have e3 : (upd H1 p (.ins C dx (putF "size" (nV W.size) []))) p = _ := upd_same
    revert x3 e3
    generalize upd H1 p (.ins C dx (putF "size" (nV W.size) [])) = H3
    intro x3 e3
    have hE3 : SqT K H3 a es := SameX.tup x3 hp hE
    refine ⟨_, rfl, a, rfl, ⟨es, hE3⟩, fun D hD => lc_it (walk_tup (xs := es)) (fun i H' => Same H3 H' ∧ H' D = some (.lst (es.take i)))
      ⟨same_new (Same.refl _) hD, upd_same⟩ (fun i H' _ h => Same.tup h.1 hE3) ?_ ?_⟩
    · rintro i x H4 H4' hi ⟨sm4, hD4⟩ ⟨rfl, hx⟩
      obtain ⟨e, he, t, rfl, ht⟩ := paired_at hP hx
      refine ⟨rfl, yes_go ?_⟩
      refine ⟨_, rfl, t, e.vs, rfl, .inr ⟨Same.tup sm4 (SameX.tup x3 hp ht), _, hD4, size_lt (by rw [List.length_take]; omega), same_mut sm4 hD, ?_⟩⟩
      rw [upd_same, take_snoc hx]
    rintro H4 ⟨sm4, hD4⟩
    rw [List.take_length] at hD4
    refine ⟨D, es, rfl, .inl ⟨SqL.of hD4, fun t1 ht1 => ?_⟩⟩
    have e4 := sm4 _ _ e3
    have n1 : p ≠ t1 := ne_of_none e4 ht1
    refine ⟨_, rfl, p, C, dx, _, rfl, (upd_ne n1).trans e4, cl.cl, cl.nEntries, by show 1 < 1000; decide, ?_⟩
    have x5 := ((x3.trans (SameX.of (same_new (o := .tup es) sm4 ht1))).up (o := .ins C dx (putF "entries" (.ref t1) (putF "size" (nV W.size) []))))
    have e5 : (upd (upd H4 t1 (.tup es)) p (.ins C dx (putF "entries" (.ref t1) (putF "size" (nV W.size) [])))) p = _ := upd_same
    have f5 : (upd (upd H4 t1 (.tup es)) p (.ins C dx (putF "entries" (.ref t1) (putF "size" (nV W.size) [])))) t1 = some (.tup es) := (upd_ne n1.symm).trans upd_same
    revert x5 e5 f5
    generalize upd (upd H4 t1 (.tup es)) p (.ins C dx (putF "entries" (.ref t1) (putF "size" (nV W.size) []))) = H5
    intro x5 e5 f5
    refine ⟨_, rfl, _, rfl, p, C, dx, _, rfl, e5, cl.cl, cl.nFast, by show 2 < 1000; decide, ?_⟩
    refine ⟨_, rfl, _, rfl, p, C, dx, _, rfl, upd_same, cl.cl, cl.nSlow, by show 3 < 1000; decide, ?_⟩
    refine ⟨_, rfl, _, rfl, p, C, dx, _, rfl, upd_same, cl.cl, cl.nLate, by show 4 < 1000; decide, ?_⟩
    have x6 := ((x5.up (o := .ins C dx (putF "fast" (nV W.fast) (putF "entries" (.ref t1) (putF "size" (nV W.size) []))))).up (o := .ins C dx (putF "slow" (nV W.slow) (putF "fast" (nV W.fast) (putF "entries" (.ref t1) (putF "size" (nV W.size) [])))))).up (o := .ins C dx (putF "late" (nV W.late) (putF "slow" (nV W.slow) (putF "fast" (nV W.fast) (putF "entries" (.ref t1) (putF "size" (nV W.size) []))))))
    refine q _ x6 ⟨dx, t1, es, upd_same, SqT.of ((upd_ne n1.symm).trans ((upd_ne n1.symm).trans ((upd_ne n1.symm).trans f5))), L2.Paired.mapP hP fun _ _ h => h.x x6 hp⟩
abbrev s_Log_checked : Stmt := inClass (top 20) 1
abbrev N_Log_checked : List Str := ["self", "event"]
theorem sc_Log_checked : FnScope N_Log_checked ["self", "event"] (C8.fnScope s_Log_checked) := C8.fnScope_by (by decide +kernel)
def sp_checked (K : PySem.W.Frag) (C : Addr) : Sp := fun vs H Q _ => ∃ (p : Addr) (W : Wd) (i : Nat), vs = [.ref p, .int (i : Int)] ∧ LogAt K C H p W ∧ i < W.size ∧ Q (.int (i : Int)) H
theorem ok_checked {C f : Addr} {fd : FuncData} (F : C8.Fun K "checked" "Log.checked" s_Log_checked f fd) (b : Binds K fd ["self", "event"] []) (cl : ClsL K C) (me : Meth K C "checked" f) : C8.Met P w K mg base 1 C "checked" (sp_checked K C) [] := by
  refine C8.met0 cl.cl me F b sc_Log_checked (fun vs H Q E h => ?_) (fun cdv A outer s H vs Q E hr h => ?_)
  · obtain ⟨p, W, i, rfl, _⟩ := h
    rfl
  · obtain ⟨p, W, i, rfl, hL, hi, q⟩ := h
    obtain ⟨dx, a, es, e, _, _⟩ := hL.ex
    refine ⟨_, (pss_cons (ps_if (PW.pt (pw_or (pt_cmpR op_lt (pv 1) pe_int (nomark _)) (pw_or1 (pt_cmpR op_ge (pv 1) (pe_fldK K rfl (pv 0) rfl) (nomark _)))))
(pss_one ps_never)
pss_nil)
(pss_one (ps_ret (pv 1)))), ?_⟩
    refine ⟨_, rfl, _, _, rfl, rfl, _, rfl, ?_⟩
    refine ifF (by omega) ?_
    refine ⟨_, rfl, _, rfl, p, C, dx, _, _, rfl, e, cl.cl, cl.nSize, lf_size _ _ _ _ _, _, _, rfl, rfl, _, rfl, ?_⟩
    refine ifF (by omega) ?_
    exact ⟨_, rfl, q⟩

abbrev s_Log_with_late : Stmt := inClass (top 20) 2
abbrev N_Log_with_late : List Str := ["self", "late"]
theorem sc_Log_with_late : FnScope N_Log_with_late ["self", "late"] (C8.fnScope s_Log_with_late) := C8.fnScope_by (by decide +kernel)
def Wd.at (W : Wd) (l : Nat) : Wd := { W with late := l }
def sp_with_late (K : PySem.W.Frag) (C : Addr) : Sp := fun vs H Q _ => ∃ (p : Addr) (W : Wd) (l : Nat), vs = [.ref p, .int (l : Int)] ∧ LogAt K C H p W ∧ W.Ok ∧ l ≤ 60 ∧ ∀ (p' : Addr) H', Same H H' → LogAt K C H' p' (W.at l) → Q (.ref p') H'
theorem ok_with_late {C f : Addr} {fd : FuncData} (F : C8.Fun K "with_late" "Log.with_late" s_Log_with_late f fd) (b : Binds K fd ["self", "late"] []) (cl : ClsL K C) (me : Meth K C "with_late" f) (c_Log : C8.Mak P w K mg base 2 "Log" C (sp_initT K C) []) : C8.Met P w K mg base 4 C "with_late" (sp_with_late K C) [] := by
  refine C8.met0 cl.cl me F b sc_Log_with_late (fun vs H Q E h => ?_) (fun cdv A outer s H vs Q E hr h => ?_)
  · obtain ⟨p, W, l, rfl, _⟩ := h
    rfl
  · obtain ⟨p, W, l, rfl, hL, hok, hl, q⟩ := h
    obtain ⟨dx, a, es, e, hE, hP⟩ := hL.ex
    refine ⟨_, (pss_one (ps_ret (C8.pe_mk c_Log hr (by decide) (by rfl) (pa_cons (pe_fldK K rfl (pv 0) rfl) (pa_cons (pe_fldK K rfl (pv 0) rfl) (pa_cons (pe_fldK K rfl (pv 0) rfl) (pa_cons (pe_fldK K rfl (pv 0) rfl) (pa_cons (pv 1) pa_nil)))))))), ?_⟩
    refine ⟨_, rfl, p, C, dx, _, _, rfl, e, cl.cl, cl.nSize, lf_size _ _ _ _ _, _, rfl, p, C, dx, _, _, rfl, e, cl.cl, cl.nEntries, lf_entries _ _ _ _ _, _, rfl, p, C, dx, _, _, rfl, e, cl.cl, cl.nFast, lf_fast _ _ _ _ _, _, rfl, p, C, dx, _, _, rfl, e, cl.cl, cl.nSlow, lf_slow _ _ _ _ _, _, rfl, fun x dx' hx hdx hne => ?_⟩
    have sg := same_new (o := .ins C dx' []) (same_new (o := .own x) (Same.refl H) hdx) (p := x) (by rw [upd_ne hne.symm]; exact hx)
    obtain ⟨o1, o2, o3, o4, o5, o6, o7, o8⟩ := hok
    refine ⟨x, dx', a, es, W.at l, rfl, upd_same, Same.tup sg hE, L2.Paired.mapP hP fun _ _ h => h.mono sg, ⟨o1, o2, o3, o4, o5, o6, o7, hl⟩, fun H2 smx hL2 => ⟨rfl, q x H2 (fun b o e => smx b o (ne_of_none e hx) (sg b o e)) hL2⟩⟩
end
end My
namespace My
open PySem L2
/-! ### the rows of a log -/
def ceilD (p q : Int) : Int := -((-p) / q)
def entRows (fast slow late : Nat) : Ent → List Row
  | .noted e t => [(0, e, (t : Int) - (late : Int)), (e, 0, -(t : Int))]
  | .after i j t => [(i, j, (t : Int))]
  | .shown i j t => [(i, j, ceilD ((t : Int) * (slow : Int)) (fast : Int)), (j, i, -(((t : Int) * (fast : Int)) / (slow : Int)))]
def rows0 (N : Nat) : List Row := (List.range (N - 1)).map fun k => (0, k + 1, 0)
def rowsOf (W : Wd) : List Row := rows0 W.size ++ W.ents.flatMap (entRows W.fast W.slow W.late)
theorem entRows_len (a b c : Nat) (e : Ent) : (entRows a b c e).length ≤ 2 := by cases e <;> show _ ≤ 2 <;> simp [entRows]
theorem flat_len (a b c : Nat) : ∀ es : List Ent, (es.flatMap (entRows a b c)).length ≤ 2 * es.length
  | [] => by simp
  | e :: es => by
    rw [List.flatMap_cons, List.length_append, List.length_cons]
    have h1 := entRows_len a b c e
    have h2 := flat_len a b c es
    omega
theorem rowsOf_len {W : Wd} (h : W.Ok) : (rowsOf W).length ≤ 131 := by
  unfold rowsOf rows0
  rw [List.length_append, List.length_map, List.length_range]
  have h1 := flat_len W.fast W.slow W.late W.ents
  have h2 := h.n
  have h3 := h.s2
  omega
theorem rowsOf_lt {W : Wd} (h : W.Ok) : RowsLt (rowsOf W) W.size := by
  intro r hr
  have h1 := h.s1
  rcases List.mem_append.mp hr with hr | hr
  · obtain ⟨k, hk, rfl⟩ := List.mem_map.mp hr
    have := List.mem_range.mp hk
    exact ⟨by show 0 < W.size; omega, by show k + 1 < W.size; omega⟩
  · obtain ⟨e, he, hr⟩ := List.mem_flatMap.mp hr
    have hev := (h.e e he).ev
    cases e with
    | noted i t =>
      have hi := hev i (by simp [Ent.evs])
      simp only [entRows, List.mem_cons, List.mem_nil_iff, or_false] at hr
      rcases hr with rfl | rfl
      · exact ⟨by show 0 < W.size; omega, hi⟩
      · exact ⟨hi, by show 0 < W.size; omega⟩
    | after i j t =>
      have hi := hev i (by simp [Ent.evs])
      have hj := hev j (by simp [Ent.evs])
      simp only [entRows, List.mem_cons, List.mem_nil_iff, or_false] at hr
      subst hr
      exact ⟨hi, hj⟩
    | shown i j t =>
      have hi := hev i (by simp [Ent.evs])
      have hj := hev j (by simp [Ent.evs])
      simp only [entRows, List.mem_cons, List.mem_nil_iff, or_false] at hr
      rcases hr with rfl | rfl
      · exact ⟨hi, hj⟩
      · exact ⟨hj, hi⟩
/-- all places are met from the start -/
theorem rowsOf_start {W : Wd} (h : W.Ok) {v : Nat} (hv : v < W.size) : ∃ n w, Wk (rowsOf W) 0 v n w := by
  by_cases e : v = 0
  · subst e
    exact ⟨0, 0, .nil 0⟩
  · refine ⟨1, 0, .one (List.mem_append_left _ (List.mem_map.mpr ⟨v - 1, List.mem_range.mpr (by omega), ?_⟩))⟩
    rw [show v - 1 + 1 = v by omega]
def RowV (K : PySem.W.Frag) (H : Hp) (v : V) (r : Row) : Prop := ∃ a, v = .ref a ∧ SqT K H a [nV r.1, nV r.2.1, .int r.2.2]
theorem RowV.mono {K : PySem.W.Frag} {H H' : Hp} {v : V} {r : Row} (s : Same H H') (h : RowV K H v r) : RowV K H' v r := let ⟨a, e1, q⟩ := h; ⟨a, e1, Same.tup s q⟩
theorem RowV.updL {K : PySem.W.Frag} {H : Hp} {D : Addr} {xs : List V} {o : HO} (hD : H D = some (.lst xs)) {v : V} {r : Row} (h : RowV K H v r) : RowV K (upd H D o) v r := let ⟨a, e1, q⟩ := h; ⟨a, e1, SqT.updL hD q⟩
theorem paired_app {α β : Type} {F : α → β → Prop} : ∀ {l : List α} {m : List β} {l' : List α} {m' : List β}, Paired F l m → Paired F l' m' → Paired F (l ++ l') (m ++ m')
  | _, _, _, _, .nil, h => h
  | _, _, _, _, .cons r t, h => .cons r (paired_app t h)
section
variable {P : Program} {w : World} {K : PySem.W.Frag} {mg : Str → Option Value} {base : Heap}
abbrev s_round_up : Stmt := top 9
abbrev N_round_up : List Str := ["p", "q"]
theorem sc_round_up : FnScope N_round_up ["p", "q"] (C8.fnScope s_round_up) := C8.fnScope_by (by decide +kernel)
def sp_round_up : Sp := fun vs H Q _ => ∃ p q : Int, vs = [.int p, .int q] ∧ 0 < q ∧ q ≤ 1000 ∧ Q (.int (ceilD p q)) H
theorem ok_round_up {f : Addr} {fd : FuncData} (F : C8.Def K mg "round_up" s_round_up f fd) (b : Binds K fd ["p", "q"] []) : C8.Cal P w K mg base 1 "round_up" sp_round_up [] := by
  refine C8.cal0 F b .nil sc_round_up (fun vs H Q E h => ?_) (fun cdv A outer s H vs Q E hr h => ?_)
  · obtain ⟨p, q, rfl, _⟩ := h
    rfl
  · obtain ⟨p, q, rfl, h1, h2, k⟩ := h
    refine ⟨_, (pss_one (ps_ret (pe_un un_neg (pe_op op_fdiv (pe_un un_neg (pv 0)) (pv 1))))), ?_⟩
    exact ⟨_, rfl, p, rfl, _, rfl, _, _, rfl, rfl, ⟨by omega, by omega⟩, _, rfl, k⟩
abbrev s_round_down : Stmt := top 8
abbrev N_round_down : List Str := ["p", "q"]
theorem sc_round_down : FnScope N_round_down ["p", "q"] (C8.fnScope s_round_down) := C8.fnScope_by (by decide +kernel)
def sp_round_down : Sp := fun vs H Q _ => ∃ p q : Int, vs = [.int p, .int q] ∧ 0 < q ∧ q ≤ 1000 ∧ Q (.int (p / q)) H
theorem ok_round_down {f : Addr} {fd : FuncData} (F : C8.Def K mg "round_down" s_round_down f fd) (b : Binds K fd ["p", "q"] []) : C8.Cal P w K mg base 1 "round_down" sp_round_down [] := by
  refine C8.cal0 F b .nil sc_round_down (fun vs H Q E h => ?_) (fun cdv A outer s H vs Q E hr h => ?_)
  · obtain ⟨p, q, rfl, _⟩ := h
    rfl
  · obtain ⟨p, q, rfl, h1, h2, k⟩ := h
    refine ⟨_, (pss_one (ps_ret (pe_op op_fdiv (pv 0) (pv 1)))), ?_⟩
    exact ⟨_, rfl, _, rfl, _, _, rfl, rfl, ⟨by omega, by omega⟩, k⟩

abbrev s_entry_bounds : Stmt := top 21
abbrev N_entry_bounds : List Str := ["log", "entry", "event", "time", "source", "target", "ticks", "least", "most"]
theorem sc_entry_bounds : FnScope N_entry_bounds ["log", "entry"] (C8.fnScope s_entry_bounds) := C8.fnScope_by (by decide +kernel)
def sp_entry_bounds (K : PySem.W.Frag) (C : Addr) : Sp := fun vs H Q _ => ∃ (p : Addr) (W : Wd) (v : V) (e : Ent), vs = [.ref p, v] ∧ LogAt K C H p W ∧ W.Ok ∧ EntV K H v e ∧ e.Ok W.size ∧
  ∀ (l : Addr) (rs : List V) H', Same H H' → H l = none → H' l = some (.lst rs) → Paired (RowV K H') rs (entRows W.fast W.slow W.late e) → Q (.ref l) H'
theorem ok_entry_bounds {C f : Addr} {fd : FuncData} (F : C8.Def K mg "entry_bounds" s_entry_bounds f fd) (b : Binds K fd ["log", "entry"] []) (cl : ClsL K C) (c_round_up : C8.Cal P w K mg base 1 "round_up" sp_round_up []) (c_round_down : C8.Cal P w K mg base 1 "round_down" sp_round_down []) :
    C8.Cal P w K mg base 2 "entry_bounds" (sp_entry_bounds K C) [] := by
  refine C8.cal0 F b .nil sc_entry_bounds (fun vs H Q E h => ?_) (fun cdv A outer s H vs Q E hr h => ?_)
  · obtain ⟨p, W, v, e, rfl, _⟩ := h
    rfl
  · obtain ⟨p, W, v, e, rfl, hL, hok, ⟨a, rfl, ha⟩, he, q⟩ := h
    obtain ⟨dx, ea, es, hp, _, _⟩ := hL.ex
    obtain ⟨o1, o2, o3, o4, o5, o6, o7, o8⟩ := hok
    refine ⟨_, (pss_cons (ps_if (pt_cmpR op_eq (pe_ix (ix_tupK K rfl) (pv 1) pe_int (fun _ _ => rfl)) pe_str (nomark _))
(pss_cons (ps_asg (pe_slice sl_tup (pv 1) (po_some pe_int) po_none) (pg_tup (by rfl) (pgs_cons (pg_name (i := 2) sc_entry_bounds.nd rfl (Or.inl rfl)) (pgs_cons (pg_name (i := 3) sc_entry_bounds.nd rfl (Or.inl rfl)) pgs_nil))))
(pss_one (ps_ret (pe_lst (pa_cons (pe_tup (pa_cons pe_int (pa_cons (pv 2) (pa_cons (pe_op op_sub (pv 3) (pe_fldK K rfl (pv 0) rfl)) pa_nil)))) (pa_cons (pe_tup (pa_cons (pv 2) (pa_cons pe_int (pa_cons (pe_un un_neg (pv 3)) pa_nil)))) pa_nil))))))
pss_nil)
(pss_cons (ps_asg (pe_slice sl_tup (pv 1) (po_some pe_int) po_none) (pg_tup (by rfl) (pgs_cons (pg_name (i := 4) sc_entry_bounds.nd rfl (Or.inl rfl)) (pgs_cons (pg_name (i := 5) sc_entry_bounds.nd rfl (Or.inl rfl)) (pgs_cons (pg_name (i := 6) sc_entry_bounds.nd rfl (Or.inl rfl)) pgs_nil)))))
(pss_cons (ps_if (pt_cmpR op_eq (pe_ix (ix_tupK K rfl) (pv 1) pe_int (fun _ _ => rfl)) pe_str (nomark _))
(pss_one (ps_ret (pe_lst (pa_cons (pe_tup (pa_cons (pv 4) (pa_cons (pv 5) (pa_cons (pv 6) pa_nil)))) pa_nil))))
pss_nil)
(pss_cons (ps_set (i := 7) sc_entry_bounds.nd rfl (Or.inl rfl) (C8.pe_c c_round_up hr (by decide) (by rfl) (pa_cons (pe_op op_mul (pv 6) (pe_fldK K rfl (pv 0) rfl)) (pa_cons (pe_fldK K rfl (pv 0) rfl) pa_nil))))
(pss_cons (ps_set (i := 8) sc_entry_bounds.nd rfl (Or.inl rfl) (C8.pe_c c_round_down hr (by decide) (by rfl) (pa_cons (pe_op op_mul (pv 6) (pe_fldK K rfl (pv 0) rfl)) (pa_cons (pe_fldK K rfl (pv 0) rfl) pa_nil))))
(pss_one (ps_ret (pe_lst (pa_cons (pe_tup (pa_cons (pv 4) (pa_cons (pv 5) (pa_cons (pv 7) pa_nil)))) (pa_cons (pe_tup (pa_cons (pv 5) (pa_cons (pv 4) (pa_cons (pe_un un_neg (pv 8)) pa_nil)))) pa_nil)))))))))), ?_⟩
    cases e with
    | noted i t =>
      refine ⟨_, rfl, a, _, 0, .str "noted", rfl, rfl, ha, rfl, rfl, _, rfl, ?_⟩
      refine ifT rfl ?_
      refine ⟨_, rfl, 1, rfl, a, _, rfl, ha, ?_, fun t1 ht1 => ?_⟩
      · intro z
        have z1 : (1 : Nat) = 0 := z.1
        cases z1
      have sm1 := same_new (o := .tup [nV i, nV t]) (Same.refl H) ht1
      have e1 : (upd H t1 (.tup [nV i, nV t])) t1 = some (.tup [nV i, nV t]) := upd_same
      refine ⟨t1, [nV i, nV t], rfl, SqT.of e1, rfl, _, _, rfl, _, _, rfl, rfl, ?_⟩
      refine ⟨_, rfl, _, rfl, _, rfl, p, C, dx, _, _, rfl, sm1 _ _ hp, cl.cl, cl.nLate, lf_late _ _ _ _ _, _, _, rfl, rfl, by show 3 ≤ sizeLine; decide, fun t2 ht2 => ?_⟩
      have sm2 := same_new (o := .tup [.int 0, nV i, .int ((t : Int) - (W.late : Int))]) sm1 ht2
      refine ⟨_, rfl, _, rfl, (t : Int), rfl, by show 3 ≤ sizeLine; decide, fun t3 ht3 => ?_⟩
      have sm3 := same_new (o := .tup [nV i, .int 0, .int (-(t : Int))]) sm2 ht3
      have n23 : t2 ≠ t3 := ne_of_none upd_same ht3
      refine ⟨by show 2 ≤ sizeLine; decide, fun l hl => ?_⟩
      have n2 : t2 ≠ l := ne_of_none ((upd_ne n23).trans upd_same) hl
      have n3 : t3 ≠ l := ne_of_none upd_same hl
      refine q l _ _ (same_new sm3 hl) (sm3.free hl) upd_same (.cons ⟨t2, rfl, SqT.of ?_⟩ (.cons ⟨t3, rfl, SqT.of ?_⟩ .nil))
      · rw [upd_ne n2, upd_ne n23, upd_same] <;> rfl
      · rw [upd_ne n3, upd_same] <;> rfl
    | after i j t =>
      refine ⟨_, rfl, a, _, 0, .str "after", rfl, rfl, ha, rfl, rfl, _, rfl, ?_⟩
      refine ifF (by intro z; exact absurd (V.str.inj z) (by decide +kernel)) ?_
      refine ⟨_, rfl, 1, rfl, a, _, rfl, ha, ?_, fun t1 ht1 => ?_⟩
      · intro z
        have z1 : (1 : Nat) = 0 := z.1
        cases z1
      have sm1 := same_new (o := .tup [nV i, nV j, nV t]) (Same.refl H) ht1
      have e1 : (upd H t1 (.tup [nV i, nV j, nV t])) t1 = some (.tup [nV i, nV j, nV t]) := upd_same
      refine ⟨t1, [nV i, nV j, nV t], rfl, SqT.of e1, rfl, _, _, rfl, _, _, rfl, _, _, rfl, rfl, ?_⟩
      refine ⟨_, rfl, a, _, 0, .str "after", rfl, rfl, Same.tup sm1 ha, rfl, rfl, _, rfl, ?_⟩
      refine ifT rfl ?_
      refine ⟨_, rfl, _, rfl, _, rfl, by show 3 ≤ sizeLine; decide, fun t2 ht2 => ?_⟩
      have sm2 := same_new (o := .tup [nV i, nV j, nV t]) sm1 ht2
      refine ⟨by show 1 ≤ sizeLine; decide, fun l hl => ?_⟩
      have n2 : t2 ≠ l := ne_of_none upd_same hl
      refine q l _ _ (same_new sm2 hl) (sm2.free hl) upd_same (.cons ⟨t2, rfl, SqT.of ?_⟩ .nil)
      rw [upd_ne n2, upd_same] <;> rfl
    | shown i j t =>
      refine ⟨_, rfl, a, _, 0, .str "shown", rfl, rfl, ha, rfl, rfl, _, rfl, ?_⟩
      refine ifF (by intro z; exact absurd (V.str.inj z) (by decide +kernel)) ?_
      refine ⟨_, rfl, 1, rfl, a, _, rfl, ha, ?_, fun t1 ht1 => ?_⟩
      · intro z
        have z1 : (1 : Nat) = 0 := z.1
        cases z1
      have sm1 := same_new (o := .tup [nV i, nV j, nV t]) (Same.refl H) ht1
      have e1 : (upd H t1 (.tup [nV i, nV j, nV t])) t1 = some (.tup [nV i, nV j, nV t]) := upd_same
      have hp1 := sm1 _ _ hp
      refine ⟨t1, [nV i, nV j, nV t], rfl, SqT.of e1, rfl, _, _, rfl, _, _, rfl, _, _, rfl, rfl, ?_⟩
      refine ⟨_, rfl, a, _, 0, .str "shown", rfl, rfl, Same.tup sm1 ha, rfl, rfl, _, rfl, ?_⟩
      refine ifF (by intro z; exact absurd (V.str.inj z) (by decide +kernel)) ?_
      refine ⟨_, rfl, _, rfl, p, C, dx, _, _, rfl, hp1, cl.cl, cl.nSlow, lf_slow _ _ _ _ _, _, _, rfl, rfl, .inr ⟨by omega, by omega⟩, _, rfl, p, C, dx, _, _, rfl, hp1, cl.cl, cl.nFast, lf_fast _ _ _ _ _, _, _, rfl, by omega, by omega, ?_⟩
      refine ⟨_, rfl, _, rfl, p, C, dx, _, _, rfl, hp1, cl.cl, cl.nFast, lf_fast _ _ _ _ _, _, _, rfl, rfl, .inr ⟨by omega, by omega⟩, _, rfl, p, C, dx, _, _, rfl, hp1, cl.cl, cl.nSlow, lf_slow _ _ _ _ _, _, _, rfl, by omega, by omega, ?_⟩
      refine ⟨_, rfl, _, rfl, _, rfl, by show 3 ≤ sizeLine; decide, fun t2 ht2 => ?_⟩
      have sm2 := same_new (o := .tup [nV i, nV j, .int (ceilD ((t : Int) * (W.slow : Int)) (W.fast : Int))]) sm1 ht2
      refine ⟨_, rfl, _, rfl, _, rfl, _, rfl, by show 3 ≤ sizeLine; decide, fun t3 ht3 => ?_⟩
      have sm3 := same_new (o := .tup [nV j, nV i, .int (-(((t : Int) * (W.fast : Int)) / (W.slow : Int)))]) sm2 ht3
      have n23 : t2 ≠ t3 := ne_of_none upd_same ht3
      refine ⟨by show 2 ≤ sizeLine; decide, fun l hl => ?_⟩
      have n2 : t2 ≠ l := ne_of_none ((upd_ne n23).trans upd_same) hl
      have n3 : t3 ≠ l := ne_of_none upd_same hl
      refine q l _ _ (same_new sm3 hl) (sm3.free hl) upd_same (.cons ⟨t2, rfl, SqT.of ?_⟩ (.cons ⟨t3, rfl, SqT.of ?_⟩ .nil))
      · rw [upd_ne n2, upd_ne n23, upd_same] <;> rfl
      · rw [upd_ne n3, upd_same] <;> rfl

abbrev s_bounds : Stmt := top 22
abbrev N_bounds : List Str := ["log", "found", "entry", "event"]
theorem sc_bounds : FnScope N_bounds ["log"] (C8.fnScope s_bounds) := C8.fnScope_by (by decide +kernel)
def sp_bounds (K : PySem.W.Frag) (C : Addr) : Sp := fun vs H Q _ => ∃ (p : Addr) (W : Wd), vs = [.ref p] ∧ LogAt K C H p W ∧ W.Ok ∧ ∀ (l : Addr) (rs : List V) H', Same H H' → H l = none → H' l = some (.lst rs) → Paired (RowV K H') rs (rowsOf W) → Q (.ref l) H'
theorem ok_bounds {C f fi : Addr} {st : Stmt} {fd fdi : FuncData} (F : C8.Def K mg "bounds" s_bounds f fd) (b : Binds K fd ["log"] []) (cl : ClsL K C) (T : Gb mg) (D : IterD K mg C fi "entries" st fdi) (c_entry_bounds : C8.Cal P w K mg base 2 "entry_bounds" (sp_entry_bounds K C) []) :
    C8.Cal P w K mg base 3 "bounds" (sp_bounds K C) [] := by
  refine C8.cal0 F b .nil sc_bounds (fun vs H Q E h => ?_) (fun cdv A outer s H vs Q E hr h => ?_)
  · obtain ⟨p, W, rfl, _⟩ := h
    rfl
  · obtain ⟨p, W, rfl, hL, hok, q⟩ := h
    obtain ⟨dx, ea, es, hp, hE, hP⟩ := hL.ex
    have o1 := hok.s1
    have o2 := hok.s2
    have o3 := hok.n
    have hel := hP.length
    refine ⟨_, (pss_cons (ps_setLc (i := 1) (own := [("event", 3)]) rfl sc_bounds.nd rfl rfl (sw_true rfl rfl rfl (by decide +kernel)) (pi_range2 (by rfl) T.range (pa_cons pe_int (pa_cons (pe_fldK K rfl (pv 0) rfl) pa_nil))) (blkOk_by (N := N_bounds) (sc := C8.fnScope s_bounds) (by decide +kernel)) (fun _ _ _ _ _ => (pg_name (i := 3) sc_bounds.nd rfl (Or.inl rfl))) (fun _ _ _ _ _ => pts_nil) (fun _ _ _ _ _ => (pe_tup (pa_cons pe_int (pa_cons (pv 3) (pa_cons pe_int pa_nil))))))
(pss_cons (ps_for PassesOwn.never rfl (pi_ownT D (hr.mono (by decide)) (pv 0)) (pg_name (i := 2) sc_bounds.nd rfl (Or.inl rfl))
(pss_one (ps_expr (pe_bm PySem.F.plainAttrs_list PySem.F.slot_list_extend PySem.F.type_list_extend mt_extend (pv 1) (pa_cons (C8.pe_c c_entry_bounds hr (by decide) (by rfl) (pa_cons (pv 0) (pa_cons (pv 2) pa_nil))) pa_nil)))))
(pss_one (ps_ret (pv 1))))), ?_⟩
    refine ⟨_, rfl, p, C, dx, _, _, rfl, hp, cl.cl, cl.nSize, lf_size _ _ _ _ _, 1, (W.size : Int), rfl, ⟨by decide, by decide, by omega, by omega⟩, fun D hD => lc_range (lo := 1) (n := ((W.size : Int) - 1).toNat)
      (fun j H' => Same H H' ∧ ∃ vs, H' D = some (.lst vs) ∧ Paired (RowV K H') vs ((List.range j).map fun k => (0, k + 1, 0)))
      ⟨same_new (Same.refl _) hD, [], upd_same, .nil⟩ ?_ ?_⟩
    · rintro j H1 hj ⟨sm1, vs, hvs, hvp⟩
      have hvl := hvp.length
      rw [List.length_map, List.length_range] at hvl
      refine ⟨rfl, yes_go ?_⟩
      refine ⟨_, rfl, by show 3 ≤ sizeLine; decide, fun t ht => ?_⟩
      have smt := same_new (o := .tup [.int 0, .int (1 + (j : Int)), .int 0]) (Same.refl H1) ht
      have hvs2 := smt _ _ hvs
      refine ⟨vs, hvs2, size_lt (by omega), same_mut (sm1.trans smt) hD, vs ++ [.ref t], upd_same, ?_⟩
      rw [List.range_succ, List.map_append]
      refine Paired.snoc (L2.Paired.mapP hvp fun _ _ h => (h.mono smt).updL hvs2) ?_
      refine RowV.updL hvs2 ⟨t, rfl, SqT.of ?_⟩
      rw [upd_same]
      show some (HO.tup [.int 0, .int (1 + (j : Int)), .int 0]) = some (HO.tup [.int ((0 : Nat) : Int), .int ((j + 1 : Nat) : Int), .int 0])
      rw [show (1 + (j : Int)) = ((j + 1 : Nat) : Int) by omega]
      rfl
    rintro H1 ⟨sm1, vs0, hvs0, hvp0⟩
    rw [show ((W.size : Int) - 1).toNat = W.size - 1 by omega] at hvp0
    refine ⟨_, rfl, p, dx, _, ea, es, rfl, sm1 _ _ hp, lf_entries _ _ _ _ _, Same.tup sm1 hE, for_it (walk_tup (xs := es))
      (fun i σ H' => Same H H' ∧ ∃ vs v2 v3, H' D = some (.lst vs) ∧ Paired (RowV K H') vs (rows0 W.size ++ (W.ents.take i).flatMap (entRows W.fast W.slow W.late)) ∧ σ = [some (.ref p), some (.ref D), v2, v3])
      ⟨sm1, vs0, _, _, hvs0, by rw [List.take_zero, List.flatMap_nil, List.append_nil]; exact hvp0, rfl⟩ (fun i σ H' _ h => Same.tup h.1 hE) ?_ ?_⟩
    · rintro i x σ H2 H2' hi ⟨sm2, vs, v2, v3, hvs, hvp, rfl⟩ ⟨rfl, hx⟩
      obtain ⟨e, he, hev⟩ := paired_at hP hx
      have hvl := hvp.length
      have hfl := flat_len W.fast W.slow W.late (W.ents.take i)
      have htl : (W.ents.take i).length ≤ 60 := by rw [List.length_take]; omega
      have h0l : (rows0 W.size).length ≤ 11 := by unfold rows0; rw [List.length_map, List.length_range]; omega
      rw [List.length_append] at hvl
      refine ⟨_, rfl, .inl ⟨rfl, _, SqL.of hvs⟩, _, rfl, _, rfl, p, W, x, e, rfl, hL.mono sm2, hok, hev.mono sm2, hok.e e (List.mem_of_getElem? he), fun l rs H3 sm3 hln hl hrs => ?_⟩
      have hrl := hrs.length
      have hel2 := entRows_len W.fast W.slow W.late e
      have hvs3 := sm3 _ _ hvs
      refine ⟨D, l, vs, rs, rfl, rfl, hvs3, hl, size_le (by omega), same_mut (sm2.trans sm3) hD, vs ++ rs, _, _, upd_same, ?_, rfl⟩
      rw [take_snoc he, List.flatMap_append, ← List.append_assoc, List.flatMap_cons, List.flatMap_nil, List.append_nil]
      exact L2.Paired.mapP (paired_app (L2.Paired.mapP hvp fun _ _ h => h.mono sm3) hrs) fun _ _ h => h.updL hvs3
    · rintro σ H2 ⟨sm2, vs, v2, v3, hvs, hvp, rfl⟩
      rw [hel, List.take_length] at hvp
      exact ⟨_, rfl, q D vs H2 sm2 hD hvs hvp⟩
end
end My
namespace My
open PySem L2
def oB : Option Nat → V
  | none => .non
  | some n => nV n
theorem rep_none : ∀ n : Nat, (List.replicate n [V.non]).flatten = List.replicate n V.non
  | 0 => rfl
  | n + 1 => by rw [List.replicate_succ, List.flatten_cons, rep_none n]; rfl
theorem rep_oV (n : Nat) : List.replicate n V.non = (List.replicate n (none : Val)).map oV := by rw [List.map_replicate]; rfl
theorem rep_oB (n : Nat) : List.replicate n V.non = (List.replicate n (none : Option Nat)).map oB := by rw [List.map_replicate]; rfl
theorem at_oV {s : List Val} {i : Nat} (h : i < s.length) : (s.map oV)[i]? = some (oV (gv s i)) := by rw [List.getElem?_map, gv_at h]; rfl
theorem ixN_nat {n i : Nat} (h : i < n) : ixN n (i : Int) = some i := by
  unfold ixN
  rw [if_pos (by omega), if_pos (by omega)]
  rfl
/-- a list of rows in the heap -/
def RowsAt (K : PySem.W.Frag) (H : Hp) (a : Addr) (R : List Row) : Prop := ∃ vs, SqL K H a vs ∧ Paired (RowV K H) vs R
theorem RowsAt.mono {K : PySem.W.Frag} {H H' : Hp} {a : Addr} {R : List Row} (s : Same H H') (h : RowsAt K H a R) : RowsAt K H' a R := let ⟨vs, h1, h2⟩ := h; ⟨vs, s.seq h1, L2.Paired.mapP h2 fun _ _ => RowV.mono s⟩
/-- a round amid its rows -/
structure StepP (R : List Row) (i : Nat) (s r : List Val) (b : By) : Prop where
  len : r.length = s.length
  blen : b.length = s.length
  up : ∀ v a, gv s v = some a → ∃ c, gv r v = some c ∧ a ≤ c
  no : ∀ v, b[v]? = some none → gv r v = gv s v
  yes : ∀ v ix, b[v]? = some (some ix) → ∃ p l a, R[ix]? = some (p, v, l) ∧ gv s p = some a ∧ gv r v = some (a + l) ∧ ∀ c, gv s v = some c → c < a + l
  all : ∀ p t l a, (p, t, l) ∈ R.take i → gv s p = some a → ∃ c, gv r t = some c ∧ a + l ≤ c
theorem StepP.zero (R : List Row) (s : List Val) : StepP R 0 s s (List.replicate s.length none) := by
  refine ⟨rfl, List.length_replicate, fun v a h => ⟨a, h, Int.le_refl _⟩, fun _ _ => rfl, fun v ix h => ?_, fun p t l a h => by simp at h⟩
  rw [List.getElem?_replicate] at h
  split at h <;> cases h
theorem StepP.skip {R : List Row} {i : Nat} {s r : List Val} {b : By} (h : StepP R i s r b) {p t : Nat} {l : Int} (hR : R[i]? = some (p, t, l)) (g : ∀ a, gv s p = some a → ∃ c, gv r t = some c ∧ a + l ≤ c) : StepP R (i + 1) s r b := by
  refine ⟨h.len, h.blen, h.up, h.no, h.yes, fun p' t' l' a hm ha => ?_⟩
  rw [take_snoc hR] at hm
  rcases List.mem_append.mp hm with hm | hm
  · exact h.all p' t' l' a hm ha
  · rw [List.mem_singleton] at hm
    cases hm
    exact g a ha
theorem StepP.take {R : List Row} {i : Nat} {s r : List Val} {b : By} (h : StepP R i s r b) {p t : Nat} {l a : Int} (hR : R[i]? = some (p, t, l)) (ht : t < s.length) (ha : gv s p = some a) (g : ∀ c, gv r t = some c → c < a + l) : StepP R (i + 1) s (r.set t (some (a + l))) (b.set t (some i)) := by
  have htr : t < r.length := by rw [h.len]; exact ht
  have htb : t < b.length := by rw [h.blen]; exact ht
  have hge : ∀ v c, gv r v = some c → ∃ c', gv (r.set t (some (a + l))) v = some c' ∧ c ≤ c' := by
    intro v c hc
    rw [gv_set htr]
    by_cases e : t = v
    · subst e
      rw [if_pos rfl]
      exact ⟨_, rfl, by have := g c hc; omega⟩
    · rw [if_neg e]
      exact ⟨c, hc, Int.le_refl _⟩
  refine ⟨by rw [List.length_set]; exact h.len, by rw [List.length_set]; exact h.blen, fun v c hc => ?_, fun v hv => ?_, fun v ix hv => ?_, fun p' t' l' a' hm ha' => ?_⟩
  · obtain ⟨c1, h1, h2⟩ := h.up v c hc
    obtain ⟨c2, h3, h4⟩ := hge v c1 h1
    exact ⟨c2, h3, by omega⟩
  · rw [List.getElem?_set] at hv
    by_cases e : t = v
    · subst e
      rw [if_pos rfl, if_pos htb] at hv
      cases hv
    · rw [if_neg e] at hv
      rw [gv_set htr, if_neg e]
      exact h.no v hv
  · rw [List.getElem?_set] at hv
    by_cases e : t = v
    · subst e
      rw [if_pos rfl, if_pos htb] at hv
      cases hv
      refine ⟨p, l, a, hR, ha, by rw [gv_set htr, if_pos rfl], fun c hc => ?_⟩
      obtain ⟨c1, h1, h2⟩ := h.up t c hc
      have := g c1 h1
      omega
    · rw [if_neg e] at hv
      obtain ⟨p', l', a', h1, h2, h3, h4⟩ := h.yes v ix hv
      exact ⟨p', l', a', h1, h2, by rw [gv_set htr, if_neg e]; exact h3, h4⟩
  · rw [take_snoc hR] at hm
    rcases List.mem_append.mp hm with hm | hm
    · obtain ⟨c, h1, h2⟩ := h.all p' t' l' a' hm ha'
      obtain ⟨c2, h3, h4⟩ := hge t' c h1
      exact ⟨c2, h3, by omega⟩
    · rw [List.mem_singleton] at hm
      cases hm
      rw [ha] at ha'
      cases ha'
      exact ⟨_, by rw [gv_set htr, if_pos rfl], Int.le_refl _⟩
theorem StepP.done {R : List Row} {s r : List Val} {b : By} (h : StepP R R.length s r b) : Step R s r b := ⟨h.len, h.blen, h.up, h.no, h.yes, fun p t l a hm => h.all p t l a (by rw [List.take_length]; exact hm)⟩
section
variable {P : Program} {w : World} {K : PySem.W.Frag} {mg : Str → Option Value} {base : Heap}
abbrev s_longer_chains : Stmt := top 32
abbrev N_longer_chains : List Str := ["rows", "sums", "risen", "by", "index", "source", "target", "least", "offer"]
theorem sc_longer_chains : FnScope N_longer_chains ["rows", "sums"] (C8.fnScope s_longer_chains) := C8.fnScope_by (by decide +kernel)
def sp_longer_chains (K : PySem.W.Frag) : Sp := fun vs H Q _ => ∃ (ra sa : Addr) (R : List Row) (s : List Val), vs = [.ref ra, .ref sa] ∧ RowsAt K H ra R ∧ SqL K H sa (s.map oV) ∧ RowsLt R s.length ∧ R.length ≤ 1000 ∧ s.length ≤ 100 ∧
  ∀ (t r b : Addr) (r' : List Val) (b' : By) H', Same H H' → H r = none → H b = none → r ≠ b → H' t = some (.tup [.ref r, .ref b]) → H' r = some (.lst (r'.map oV)) → H' b = some (.lst (b'.map oB)) → Step R s r' b' → Q (.ref t) H'
theorem ok_longer_chains {f : Addr} {fd : FuncData} (F : C8.Def K mg "longer_chains" s_longer_chains f fd) (b : Binds K fd ["rows", "sums"] []) (T : Gb mg) : C8.Cal P w K mg base 1 "longer_chains" (sp_longer_chains K) [] := by
  refine C8.cal0 F b .nil sc_longer_chains (fun vs H Q E h => ?_) (fun cdv A outer s H vs Q E hr h => ?_)
  · obtain ⟨ra, sa, R, s, rfl, _⟩ := h
    rfl
  · obtain ⟨ra, sa, R, s, rfl, ⟨rvs, hra, hrp⟩, hsa, hlt, hR, hs, q⟩ := h
    have hrl := hrp.length
    refine ⟨_, (pss_cons (ps_set (i := 2) sc_longer_chains.nd rfl (Or.inl rfl) (pe_callTy call_list_of (by rfl) T.list (by decide +kernel) (pa_cons (pv 1) pa_nil)))
(pss_cons (ps_set (i := 3) sc_longer_chains.nd rfl (Or.inl rfl) (pe_op op_rep (pe_lst (pa_cons pe_non pa_nil)) (pe_callB (call_lenK K rfl) (by rfl) T.len PySem.boot_len (pa_cons (pv 1) pa_nil))))
(pss_cons (ps_for PassesOwn.never rfl (pi_range1 (by rfl) T.range (pa_cons (pe_callB (call_lenK K rfl) (by rfl) T.len PySem.boot_len (pa_cons (pv 0) pa_nil)) pa_nil)) (pg_name (i := 4) sc_longer_chains.nd rfl (Or.inl rfl))
(pss_cons (ps_asg (pe_ix (ix_listK K rfl) (pv 0) (pv 4) (fun _ _ => rfl)) (pg_tup (by rfl) (pgs_cons (pg_name (i := 5) sc_longer_chains.nd rfl (Or.inl rfl)) (pgs_cons (pg_name (i := 6) sc_longer_chains.nd rfl (Or.inl rfl)) (pgs_cons (pg_name (i := 7) sc_longer_chains.nd rfl (Or.inl rfl)) pgs_nil)))))
(pss_one (ps_if (pt_cmpR op_notN (pe_ix (ix_listK K rfl) (pv 1) (pv 5) (fun _ _ => rfl)) pe_non (nomark _))
(pss_cons (ps_set (i := 8) sc_longer_chains.nd rfl (Or.inl rfl) (pe_op op_add (pe_ix (ix_listK K rfl) (pv 1) (pv 5) (fun _ _ => rfl)) (pv 7)))
(pss_one (ps_if (PW.pt (pw_or (pt_cmpR op_isN (pe_ix (ix_listK K rfl) (pv 2) (pv 6) (fun _ _ => rfl)) pe_non (nomark _)) (pw_or1 (pt_cmpR op_gt (pv 8) (pe_ix (ix_listK K rfl) (pv 2) (pv 6) (fun _ _ => rfl)) (nomark _)))))
(pss_cons (ps_asg (pv 8) (pg_sub (pv 2) (pv 6) set_list))
(pss_one (ps_asg (pv 4) (pg_sub (pv 3) (pv 6) set_list))))
pss_nil)))
pss_nil))))
(pss_one (ps_ret (pe_tup (pa_cons (pv 2) (pa_cons (pv 3) pa_nil)))))))), ?_⟩
    refine ⟨_, rfl, sa, _, rfl, .inl hsa, fun r hr0 => ?_⟩
    have sm1 := same_new (o := .lst (s.map oV)) (Same.refl H) hr0
    have e1 : (upd H r (.lst (s.map oV))) r = some (.lst (s.map oV)) := upd_same
    revert sm1 e1
    generalize upd H r (.lst (s.map oV)) = H1
    intro sm1 e1
    refine ⟨by show 1 ≤ sizeLine; decide, fun p0 hp0 => ?_⟩
    have sm2 := same_new (o := .lst [.non]) (Same.refl H1) hp0
    refine ⟨_, rfl, sa, _, rfl, .inl ((sm1.trans sm2).seq hsa), p0, _, _, rfl, rfl, upd_same, by omega, by rw [List.length_map]; omega, ?_, fun b hb0 => ?_⟩
    · rw [List.length_map]
      exact size_le (by simp; omega)
    have hb00 : H b = none := (sm1.trans sm2).free hb0
    have nrb : r ≠ b := ne_of_none (sm2 _ _ e1) hb0
    have sm3 := same_new (o := .lst (List.replicate ((s.map oV).length : Int).toNat [V.non]).flatten) (sm1.trans sm2) hb0
    refine ⟨_, rfl, ra, rvs, rfl, .inl (sm3.seq hra), ?_⟩
    refine ⟨(rvs.length : Int), rfl, by omega, by omega, for_range (lo := 0) (n := (rvs.length : Int).toNat)
      (fun i σ H' => Same H H' ∧ ∃ (r' : List Val) (b' : By) (v4 v5 v6 v7 v8 : Option V), H' r = some (.lst (r'.map oV)) ∧ H' b = some (.lst (b'.map oB)) ∧ StepP R i s r' b' ∧ σ = [some (.ref ra), some (.ref sa), some (.ref r), some (.ref b), v4, v5, v6, v7, v8])
      ⟨sm3, s, List.replicate s.length none, none, none, none, none, none, ?_, ?_, StepP.zero R s, rfl⟩ ?_ ?_⟩
    · rw [upd_ne nrb]
      exact sm2 _ _ e1
    · rw [upd_same, rep_none, rep_oB, List.length_map]
      rw [show ((s.length : Int)).toNat = s.length by omega]
    · rintro i σ H4 hi ⟨sm4, r', b', v4, v5, v6, v7, v8, hr4, hb4, hst, rfl⟩
      have hi' : i < R.length := by omega
      have ei : (0 : Int) + (i : Int) = (i : Int) := by omega
      rw [ei]
      obtain ⟨⟨p, t, l⟩, hRi⟩ := at_ex hi'
      obtain ⟨x, hx, xa, rfl, hxt⟩ := paired_at2 hrp hRi
      obtain ⟨hpl, htl⟩ := hlt _ (List.mem_of_getElem? hRi)
      have hpl' : p < s.length := hpl
      have htl' : t < s.length := htl
      have hr'l := hst.len
      have hb'l := hst.blen
      refine ⟨_, rfl, _, rfl, ra, _, _, .ref xa, rfl, rfl, sm4.seq hra, atI_nat hx, xa, _, rfl, Same.tup sm4 hxt, rfl, _, _, rfl, _, _, rfl, _, _, rfl, rfl, ?_⟩
      refine ⟨_, rfl, _, rfl, sa, _, _, oV (gv s p), rfl, rfl, sm4.seq hsa, atI_nat (at_oV hpl'), rfl, _, rfl, ?_⟩
      cases hsp : gv s p with
      | none =>
        refine ifNF rfl ?_
        exact ⟨sm4, r', b', _, _, _, _, _, hr4, hb4, hst.skip hRi (fun a ha => by rw [hsp] at ha; cases ha), rfl⟩
      | some a =>
        refine ifNT (by intro z; cases z) ?_
        refine ⟨_, rfl, _, rfl, sa, _, _, .int a, rfl, rfl, sm4.seq hsa, atI_nat (by rw [at_oV hpl', hsp]; rfl), _, rfl, _, _, rfl, rfl, ?_⟩
        have nbr : b ≠ r := fun z => nrb z.symm
        have frr : H r = none := hr0
        have store : (∀ c, gv r' t = some c → c < a + l) →
            ∀ (D : Ends), (∀ σ H', (Same H H' ∧ ∃ (r' : List Val) (b' : By) (v4 v5 v6 v7 v8 : Option V), H' r = some (.lst (r'.map oV)) ∧ H' b = some (.lst (b'.map oB)) ∧ StepP R (i + 1) s r' b' ∧ σ = [some (.ref ra), some (.ref sa), some (.ref r), some (.ref b), v4, v5, v6, v7, v8]) → D.nx σ H') →
            (tSeq (tAsg (tVar 8) (gSub (tVar 2) (tVar 6) rSetL)) (tAsg (tVar 4) (gSub (tVar 3) (tVar 6) rSetL)))
              D [some (.ref ra), some (.ref sa), some (.ref r), some (.ref b), some (nV i), some (nV p), some (nV t), some (.int l), some (.int (a + l))] H4 := by
          intro hlt' D hD
          refine ⟨_, rfl, _, rfl, _, rfl, r, _, _, t, rfl, rfl, hr4, ixN_nat (by rw [List.length_map]; omega), ?_⟩
          have sm5 := same_mut (o := .lst ((r'.map oV).set t (.int (a + l)))) sm4 hr0
          refine ⟨_, rfl, _, rfl, _, rfl, b, _, _, t, rfl, rfl, (upd_ne nbr).trans hb4, ixN_nat (by rw [List.length_map]; omega), ?_⟩
          refine hD _ _ ⟨same_mut sm5 hb00, r'.set t (some (a + l)), b'.set t (some i), _, _, _, _, _, (upd_ne nrb).trans (upd_same.trans ?_), upd_same.trans ?_, hst.take hRi htl' hsp hlt', rfl⟩
          · rw [List.map_set]; rfl
          · rw [List.map_set]; rfl
        refine ⟨_, rfl, _, rfl, r, _, _, oV (gv r' t), rfl, rfl, .inl (.inl hr4), atI_nat (at_oV (by omega)), rfl, _, rfl, ?_⟩
        cases hrt : gv r' t with
        | none =>
          refine ifT rfl ?_
          refine store (fun c hc => by rw [hrt] at hc; cases hc) _ fun σ H' h => h
        | some c =>
          refine ifF (by intro z; cases z) ?_
          refine ⟨_, rfl, _, rfl, _, rfl, r, _, _, .int c, rfl, rfl, .inl (.inl hr4), atI_nat (by rw [at_oV (by omega), hrt]; rfl), _, _, rfl, rfl, _, rfl, ?_⟩
          by_cases e : a + l > c
          · refine ifT e ?_
            exact store (fun c' hc => by rw [hrt] at hc; cases hc; exact e) _ fun σ H' h => h
          · refine ifF e ?_
            exact ⟨sm4, r', b', _, _, _, _, _, hr4, hb4, hst.skip hRi (fun a' ha => by rw [hsp] at ha; cases ha; exact ⟨c, hrt, by omega⟩), rfl⟩
    · rintro σ H4 ⟨sm4, r', b', v4, v5, v6, v7, v8, hr4, hb4, hst, rfl⟩
      rw [show ((rvs.length : Int)).toNat = R.length by omega] at hst
      refine ⟨_, rfl, _, rfl, by show 2 ≤ sizeLine; decide, fun tt htt => ?_⟩
      exact q tt r b r' b' _ (same_new sm4 htt) hr0 hb00 nrb upd_same ((upd_ne (ne_of_none hr4 htt)).trans hr4) ((upd_ne (ne_of_none hb4 htt)).trans hb4) hst.done
end
end My
namespace My
open PySem L2
/-! ### longest sums -/
def dV : Val → PyData
  | none => .none
  | some i => .int i
theorem dp_oV {K : PySem.W.Frag} {H : Hp} : ∀ s : List Val, DpAll K H (s.map oV) (s.map dV)
  | [] => .nil
  | none :: s => .cons .non (dp_oV s)
  | some i :: s => .cons (.int i) (dp_oV s)
theorem lay_dV : ∀ s : List Val, PyData.canLayAll0 (s.map dV) = true
  | [] => by simp [PyData.canLayAll0]
  | none :: s => by simp [PyData.canLayAll0, PyData.canLay0, dV, lay_dV s]
  | some i :: s => by simp [PyData.canLayAll0, PyData.canLay0, dV, lay_dV s]
theorem depth_dV : ∀ s : List Val, PyData.depthAll (s.map dV) = 0
  | [] => by simp [PyData.depthAll]
  | none :: s => by simp [PyData.depthAll, PyData.depth, dV, depth_dV s]
  | some i :: s => by simp [PyData.depthAll, PyData.depth, dV, depth_dV s]
theorem shaped_dV (s : List Val) : SeqAt.shaped (.list (s.map dV)) = true := by
  unfold SeqAt.shaped
  rw [Bool.and_eq_true]
  refine ⟨by simp only [PyData.canLay0]; exact lay_dV s, decide_eq_true ?_⟩
  simp only [PyData.depth, depth_dV]
  omega
theorem eqv_dV1 (a b : Val) : PyData.eqv (dV a) (dV b) = decide (a = b) := by
  cases a <;> cases b <;> simp [dV, PyData.eqv]
  rename_i x y
  by_cases h : x = y
  · subst h; simp
  · simp [h]
theorem eqv_dVA : ∀ s r : List Val, PyData.eqvAll (s.map dV) (r.map dV) = decide (s = r)
  | [], [] => by simp [PyData.eqvAll]
  | [], _ :: _ => by simp [PyData.eqvAll]
  | _ :: _, [] => by simp [PyData.eqvAll]
  | a :: s, b :: r => by
    rw [List.map_cons, List.map_cons, PyData.eqvAll, eqv_dV1, eqv_dVA s r, ← Bool.decide_and]
    exact decide_eq_decide.mpr (by rw [List.cons.injEq])
theorem eqv_dV (s r : List Val) : PyData.eqv (.list (s.map dV)) (.list (r.map dV)) = decide (s = r) := by simp only [PyData.eqv]; exact eqv_dVA s r
/-- a level in the heap -/
def ByV (H : Hp) (v : V) (b : By) : Prop := ∃ a, v = .ref a ∧ H a = some (.lst (b.map oB))
theorem ByV.mono {H H' : Hp} {v : V} {b : By} (s : Same H H') (h : ByV H v b) : ByV H' v b := let ⟨a, h1, h2⟩ := h; ⟨a, h1, s _ _ h2⟩
def LevAt (H : Hp) (a : Addr) (L : List By) : Prop := ∃ vs, H a = some (.lst vs) ∧ Paired (ByV H) vs L
theorem LevAt.mono {H H' : Hp} {a : Addr} {L : List By} (s : Same H H') (h : LevAt H a L) : LevAt H' a L := let ⟨vs, h1, h2⟩ := h; ⟨vs, s _ _ h1, L2.Paired.mapP h2 fun _ _ => ByV.mono s⟩
theorem ne_of_none' {H : Hp} {a b : Addr} {o : HO} (h : H a = some o) (g : H b = none) : b ≠ a := fun z => by rw [z, h] at g; cases g
section
variable {P : Program} {w : World} {K : PySem.W.Frag} {mg : Str → Option Value} {base : Heap}
abbrev s_longest : Stmt := top 33
abbrev N_longest : List Str := ["size", "rows", "source", "sums", "levels", "_", "risen", "by"]
theorem sc_longest : FnScope N_longest ["size", "rows", "source"] (C8.fnScope s_longest) := C8.fnScope_by (by decide +kernel)
def sp_longest (K : PySem.W.Frag) : Sp := fun vs H Q _ => ∃ (ra : Addr) (N src : Nat) (R : List Row), vs = [nV N, .ref ra, nV src] ∧ RowsAt K H ra R ∧ RowsLt R N ∧ R.length ≤ 1000 ∧ N ≤ 100 ∧ src < N ∧
  ∀ (t sa la : Addr) (s : List Val) (L : List By) H', Same H H' → H sa = none → H la = none → H' t = some (.tup [.ref sa, .ref la]) → H' sa = some (.lst (s.map oV)) → LevAt H' la L → LRes R N src s L → Q (.ref t) H'
/-- amid the rounds -/
def LonI (R : List Row) (N src : Nat) (ra : Addr) (la : Addr) (H : Hp) (i : Nat) (σ : St) (H' : Hp) : Prop :=
  Same H H' ∧ ∃ (sa : Addr) (s : List Val) (L : List By) (vs : List V) (v5 v6 v7 : Option V), H sa = none ∧ sa ≠ la ∧ H' sa = some (.lst (s.map oV)) ∧ H' la = some (.lst vs) ∧ Paired (fun v b => ByV H' v b ∧ v ≠ .ref la) vs L ∧ Runs R N src s L ∧ L.length = i ∧ σ = [some (nV N), some (.ref ra), some (nV src), some (.ref sa), some (.ref la), v5, v6, v7]
theorem ok_longest {f : Addr} {fd : FuncData} (F : C8.Def K mg "longest" s_longest f fd) (b : Binds K fd ["size", "rows", "source"] []) (T : Gb mg) (c_longer_chains : C8.Cal P w K mg base 1 "longer_chains" (sp_longer_chains K) []) :
    C8.Cal P w K mg base 2 "longest" (sp_longest K) [] := by
  refine C8.cal0 F b .nil sc_longest (fun vs H Q E h => ?_) (fun cdv A outer s H vs Q E hr h => ?_)
  · obtain ⟨ra, N, src, R, rfl, _⟩ := h
    rfl
  · obtain ⟨ra, N, src, R, rfl, hrows, hlt, hR, hN, hs, q⟩ := h
    refine ⟨_, (pss_cons (ps_set (i := 3) sc_longest.nd rfl (Or.inl rfl) (pe_op op_rep (pe_lst (pa_cons pe_non pa_nil)) (pv 0)))
(pss_cons (ps_asg pe_int (pg_sub (pv 3) (pv 2) set_list))
(pss_cons (ps_set (i := 4) sc_longest.nd rfl (Or.inl rfl) (pe_lst pa_nil))
(pss_cons (ps_for PassesOwn.never rfl (pi_range1 (by rfl) T.range (pa_cons (pv 0) pa_nil)) (pg_name (i := 5) sc_longest.nd rfl (Or.inl rfl))
(pss_cons (ps_asg (C8.pe_c c_longer_chains hr (by decide) (by rfl) (pa_cons (pv 1) (pa_cons (pv 3) pa_nil))) (pg_tup (by rfl) (pgs_cons (pg_name (i := 6) sc_longest.nd rfl (Or.inl rfl)) (pgs_cons (pg_name (i := 7) sc_longest.nd rfl (Or.inl rfl)) pgs_nil))))
(pss_cons (ps_if (pt_cmpR (op_eqD hr.units) (pv 6) (pv 3) (nomark _))
(pss_one (ps_ret (pe_tup (pa_cons (pv 3) (pa_cons (pv 4) pa_nil)))))
pss_nil)
(pss_cons (ps_set (i := 3) sc_longest.nd rfl (Or.inl rfl) (pv 6))
(pss_one (ps_expr (pe_bm PySem.F.plainAttrs_list PySem.F.slot_list_append PySem.F.type_list_append mt_append (pv 4) (pa_cons (pv 7) pa_nil))))))))
(pss_one (ps_ret (pe_tup (pa_cons (pv 3) (pa_cons (pv 4) pa_nil))))))))), ?_⟩
    refine ⟨by show 1 ≤ sizeLine; decide, fun p0 hp0 => ?_⟩
    have sm1 := same_new (o := .lst [.non]) (Same.refl H) hp0
    refine ⟨_, rfl, p0, _, _, rfl, rfl, upd_same, by omega, by omega, ?_, fun sa hsa => ?_⟩
    · exact size_le (by simp; omega)
    have hsaH : H sa = none := sm1.free hsa
    have sm2 := same_new (o := .lst (List.replicate ((N : Int)).toNat [V.non]).flatten) sm1 hsa
    refine ⟨_, rfl, _, rfl, sa, _, _, src, rfl, rfl, upd_same, ixN_nat (by rw [rep_none, List.length_replicate]; omega), ?_⟩
    have sm3 := same_mut (o := .lst ((List.replicate ((N : Int)).toNat [V.non]).flatten.set src (.int 0))) sm2 hsaH
    have e3 : (upd (upd (upd H p0 (.lst [.non])) sa (.lst (List.replicate ((N : Int)).toNat [V.non]).flatten)) sa (.lst ((List.replicate ((N : Int)).toNat [V.non]).flatten.set src (.int 0)))) sa = some (.lst ((init0 N src).map oV)) := by
      rw [upd_same]
      show some (HO.lst _) = some (HO.lst _)
      unfold init0
      rw [rep_none, List.map_set, rep_oV]
      rw [show ((N : Int)).toNat = N by omega]
      rfl
    revert sm3 e3
    generalize upd (upd (upd H p0 (.lst [.non])) sa (.lst (List.replicate ((N : Int)).toNat [V.non]).flatten)) sa (.lst ((List.replicate ((N : Int)).toNat [V.non]).flatten.set src (.int 0))) = H3
    intro sm3 e3
    refine ⟨by show 0 ≤ sizeLine; decide, fun la hla => ?_⟩
    have hlaH : H la = none := sm3.free hla
    have sm4 := same_new (o := .lst []) sm3 hla
    refine ⟨_, rfl, _, rfl, by omega, by omega, for_range (lo := 0) (n := ((N : Int)).toNat)
      (LonI R N src ra la H)
      ⟨sm4, sa, init0 N src, [], [], none, none, none, hsaH, ne_of_none e3 hla, (upd_ne (ne_of_none e3 hla)).trans e3, upd_same, .nil, .start, rfl, rfl⟩ ?_ ?_⟩
    · rintro i σ H4 hi ⟨sm4, sa, s, L, vs, v5, v6, v7, hsaH, nsl, hsa, hla4, hL, hrun, hLl, rfl⟩
      have hsl := hrun.len
      have hvl := hL.length
      refine ⟨_, rfl, _, rfl, ra, sa, R, s, rfl, hrows.mono sm4, .inl (.inl hsa), by rw [hsl]; exact hlt, hR, by omega, fun t r b' r' bb H5 sm5 hr0 hb0 nrb ht hr5 hb5 hst => ?_⟩
      have hsa5 := sm5 _ _ hsa
      have hla5 := sm5 _ _ hla4
      refine ⟨t, _, rfl, SqT.of ht, rfl, _, _, rfl, _, _, rfl, rfl, ?_⟩
      refine ⟨_, rfl, _, rfl, .list (r'.map dV), .list (s.map dV), .lst (SqL.of hr5) (dp_oV r'), .lst (SqL.of hsa5) (dp_oV s), shaped_dV r', shaped_dV s, _, rfl, ?_⟩
      rw [eqv_dV]
      by_cases e : r' = s
      · subst e
        refine ifT rfl ?_
        refine ⟨_, rfl, _, rfl, by show 2 ≤ sizeLine; decide, fun tt htt => ?_⟩
        have sm6 := same_new (o := .tup [.ref sa, .ref la]) (Same.refl H5) htt
        exact q tt sa la r' L _ ((sm4.trans sm5).trans sm6) hsaH hlaH upd_same (sm6 _ _ hsa5) ⟨vs, sm6 _ _ hla5, L2.Paired.mapP hL fun _ _ h => h.1.mono (sm5.trans sm6)⟩ ⟨hrun, .inr ⟨by omega, hst.stable⟩⟩
      · refine ifF e ?_
        refine ⟨_, rfl, _, rfl, .inl ⟨rfl, _, SqL.of hla5⟩, _, rfl, la, vs, _, rfl, rfl, hla5, size_lt (by omega), ?_⟩
        have nrl : r ≠ la := ne_of_none' hla4 hr0
        have nbl : b' ≠ la := ne_of_none' hla4 hb0
        refine ⟨same_mut (sm4.trans sm5) hlaH, r, r', L ++ [bb], vs ++ [.ref b'], _, _, _, sm4.free hr0, nrl, (upd_ne nrl).trans hr5, upd_same, ?_, hrun.next hst e, by rw [List.length_append, hLl]; rfl, rfl⟩
        refine Paired.snoc (L2.Paired.mapP hL fun v b0 h => ?_) ⟨⟨b', rfl, (upd_ne nbl).trans hb5⟩, fun z => nbl (V.ref.inj z)⟩
        obtain ⟨⟨a, rfl, ha⟩, n⟩ := h
        exact ⟨⟨a, rfl, (upd_ne fun z => n (by rw [z])).trans (sm5 _ _ ha)⟩, n⟩
    · rintro σ H4 ⟨sm4, sa, s, L, vs, v5, v6, v7, hsaH, nsl, hsa, hla4, hL, hrun, hLl, rfl⟩
      refine ⟨_, rfl, _, rfl, by show 2 ≤ sizeLine; decide, fun tt htt => ?_⟩
      have sm6 := same_new (o := .tup [.ref sa, .ref la]) (Same.refl H4) htt
      exact q tt sa la s L _ (sm4.trans sm6) hsaH hlaH upd_same (sm6 _ _ hsa) ⟨vs, sm6 _ _ hla4, L2.Paired.mapP hL fun _ _ h => h.1.mono sm6⟩ ⟨hrun, .inl (by omega)⟩
end
end My
namespace My
open PySem L2
/-! ### chains back through the levels -/
structure LevOk (R : List Row) (N : Nat) (L : List By) : Prop where
  len : ∀ b ∈ L, List.length b = N
  row : ∀ b ∈ L, ∀ (v ix : Nat), b[v]? = some (some ix) → ∃ r, R[ix]? = some r
theorem Runs.levOk {R : List Row} {N src : Nat} {s : List Val} {L : List By} (h : Runs R N src s L) : LevOk R N L := by
  induction h with
  | start => exact ⟨fun b hb => absurd hb List.not_mem_nil, fun b hb => absurd hb List.not_mem_nil⟩
  | @next s r L b hr st _ ih =>
    refine ⟨fun b' hb => ?_, fun b' hb v ix hx => ?_⟩
    · rcases List.mem_append.mp hb with hb | hb
      · exact ih.len b' hb
      · rw [List.mem_singleton] at hb
        subst hb
        rw [st.blen, hr.len]
    · rcases List.mem_append.mp hb with hb | hb
      · exact ih.row b' hb v ix hx
      · rw [List.mem_singleton] at hb
        subst hb
        obtain ⟨p, l, a, h1, _⟩ := st.yes v ix hx
        exact ⟨_, h1⟩
theorem rev_drop {α : Type} {L : List α} {i : Nat} {b : α} (h : i < L.length) (hb : L[L.length - 1 - i]? = some b) : L.reverse.drop i = b :: L.reverse.drop (i + 1) := by
  have hi : i < L.reverse.length := by rw [List.length_reverse]; exact h
  rw [List.drop_eq_getElem_cons hi, List.getElem_reverse]
  congr 1
  rw [List.getElem?_eq_getElem (by omega)] at hb
  exact Option.some.inj hb
theorem at_oB {b : By} {v : Nat} {x : Option Nat} (h : b[v]? = some x) : (b.map oB)[v]? = some (oB x) := by rw [List.getElem?_map, h]; rfl
section
variable {P : Program} {w : World} {K : PySem.W.Frag} {mg : Str → Option Value} {base : Heap}
abbrev s_chain_to : Stmt := top 34
abbrev N_chain_to : List Str := ["rows", "levels", "event", "chain", "by"]
theorem sc_chain_to : FnScope N_chain_to ["rows", "levels", "event"] (C8.fnScope s_chain_to) := C8.fnScope_by (by decide +kernel)
def sp_chain_to (K : PySem.W.Frag) : Sp := fun vs H Q _ => ∃ (ra la : Addr) (N e : Nat) (R : List Row) (L : List By), vs = [.ref ra, .ref la, nV e] ∧ RowsAt K H ra R ∧ RowsLt R N ∧ LevAt H la L ∧ LevOk R N L ∧ L.length ≤ 1000 ∧ e < N ∧
  ∀ (l : Addr) H', Same H H' → H l = none → H' l = some (.lst ((chainR R L.reverse e).reverse.map nV)) → Q (.ref l) H'
theorem ok_chain_to {f : Addr} {fd : FuncData} (F : C8.Def K mg "chain_to" s_chain_to f fd) (b : Binds K fd ["rows", "levels", "event"] []) (T : Gb mg) : C8.Cal P w K mg base 1 "chain_to" (sp_chain_to K) [] := by
  refine C8.cal0 F b .nil sc_chain_to (fun vs H Q E h => ?_) (fun cdv A outer s H vs Q E hr h => ?_)
  · obtain ⟨ra, la, N, e, R, L, rfl, _⟩ := h
    rfl
  · obtain ⟨ra, la, N, e, R, L, rfl, ⟨rvs, hra, hrp⟩, hlt, ⟨lvs, hla, hlp⟩, hok, hL, he, q⟩ := h
    have hll := hlp.length
    refine ⟨_, (pss_cons (ps_set (i := 3) sc_chain_to.nd rfl (Or.inl rfl) (pe_lst pa_nil))
(pss_cons (ps_for PassesOwn.never rfl (pi_reversed (by rfl) T.reversed (pa_cons (pv 1) pa_nil)) (pg_name (i := 4) sc_chain_to.nd rfl (Or.inl rfl))
(pss_one (ps_if (pt_cmpR op_notN (pe_ix (ix_listK K rfl) (pv 4) (pv 2) (fun _ _ => rfl)) pe_non (nomark _))
(pss_cons (ps_expr (pe_bm PySem.F.plainAttrs_list PySem.F.slot_list_append PySem.F.type_list_append mt_append (pv 3) (pa_cons (pe_ix (ix_listK K rfl) (pv 4) (pv 2) (fun _ _ => rfl)) pa_nil)))
(pss_one (ps_set (i := 2) sc_chain_to.nd rfl (Or.inl rfl) (pe_ix (ix_tupK K rfl) (pe_ix (ix_listK K rfl) (pv 0) (pe_ix (ix_listK K rfl) (pv 4) (pv 2) (fun _ _ => rfl)) (fun _ _ => rfl)) pe_int (fun _ _ => rfl)))))
pss_nil)))
(pss_one (ps_ret (pe_revL (pv 3)))))), ?_⟩
    refine ⟨by show 0 ≤ sizeLine; decide, fun D hD => ?_⟩
    refine ⟨_, rfl, la, lvs, rfl, SqL.of ((same_new (o := .lst []) (Same.refl H) hD) _ _ hla), for_it (walk_rev (xs := lvs))
      (fun i σ H' => Same H H' ∧ ∃ (c : List Nat) (e' : Nat) (v4 : Option V), H' D = some (.lst (c.map nV)) ∧ c.length ≤ i ∧ e' < N ∧ chainR R L.reverse e = c ++ chainR R (L.reverse.drop i) e' ∧ σ = [some (.ref ra), some (.ref la), some (nV e'), some (.ref D), v4])
      ⟨same_new (Same.refl H) hD, [], e, _, upd_same, Nat.le_refl _, he, by rw [List.drop_zero, List.nil_append], rfl⟩ (fun i σ H' _ h => SqL.of (h.1 _ _ hla)) ?_ ?_⟩
    · rintro i x σ H2 H2' hi ⟨sm2, c, e', v4, hc, hcl, he', hch, rfl⟩ ⟨rfl, hx⟩
      obtain ⟨bb, hb, hbv⟩ := paired_at hlp hx
      obtain ⟨ba, rfl, hba⟩ := hbv
      rw [hll] at hb
      have hmem := List.mem_of_getElem? hb
      have hbl := hok.len bb hmem
      have hba2 := sm2 _ _ hba
      have hdr := rev_drop (by omega) hb
      obtain ⟨y, hy⟩ : ∃ y, bb[e']? = some y := ⟨bb[e'], List.getElem?_eq_getElem (by omega)⟩
      refine ⟨_, rfl, _, rfl, ba, _, _, oB y, rfl, rfl, .inl (.inl hba2), atI_nat (at_oB hy), rfl, _, rfl, ?_⟩
      cases y with
      | none =>
        refine ifNF rfl ?_
        refine ⟨sm2, c, e', _, hc, by omega, he', ?_, rfl⟩
        rw [hch, hdr]
        show c ++ (match bb[e']? with | some (some ix) => _ | _ => chainR R (L.reverse.drop (i + 1)) e') = _
        rw [hy]
      | some ix =>
        refine ifNT (by intro z; cases z) ?_
        obtain ⟨⟨p, t, l⟩, hRi⟩ := hok.row bb hmem e' ix hy
        obtain ⟨xr, hxr, xa, rfl, hxt⟩ := paired_at2 hrp hRi
        refine ⟨_, rfl, .inl ⟨rfl, _, SqL.of hc⟩, _, rfl, _, rfl, ba, _, _, nV ix, rfl, rfl, .inl (.inl hba2), atI_nat (at_oB hy), D, _, _, rfl, rfl, hc, size_lt (by rw [List.length_map]; omega), ?_⟩
        have sm3 := same_mut (o := .lst (c.map nV ++ [nV ix])) sm2 hD
        refine ⟨_, rfl, _, rfl, _, rfl, ba, _, _, nV ix, rfl, rfl, .inl (.inl (sm3 _ _ hba)), atI_nat (at_oB hy), ra, _, _, .ref xa, rfl, rfl, sm3.seq hra, atI_nat hxr, xa, _, 0, nV p, rfl, rfl, Same.tup sm3 hxt, rfl, ?_⟩
        refine ⟨sm3, c ++ [ix], p, _, upd_same.trans (by rw [List.map_append]; rfl), by rw [List.length_append]; simp; omega, (hlt _ (List.mem_of_getElem? hRi)).1, ?_, rfl⟩
        rw [hch, hdr, List.append_assoc]
        show c ++ (match bb[e']? with | some (some ix) => ix :: chainR R (L.reverse.drop (i + 1)) ((R[ix]?.map fun (r : Row) => r.1).getD 0) | _ => chainR R (L.reverse.drop (i + 1)) e') = _
        rw [hy]
        show c ++ (ix :: chainR R (L.reverse.drop (i + 1)) ((R[ix]?.map fun (r : Row) => r.1).getD 0)) = _
        rw [hRi]
        rfl
    · rintro σ H2 ⟨sm2, c, e', v4, hc, hcl, he', hch, rfl⟩
      rw [List.drop_of_length_le (by rw [List.length_reverse]; omega)] at hch
      have hch' : chainR R L.reverse e = c := hch.trans (List.append_nil c)
      refine ⟨_, rfl, D, _, rfl, SqL.of hc, fun p hp => ?_⟩
      refine q p _ (same_new sm2 hp) (sm2.free hp) ?_
      rw [upd_same, hch', List.map_reverse]
end
end My
namespace My
open PySem L2
/-! ### rings -/
def plc (R : List Row) (x : Nat) (c : List Nat) (i : Nat) : Nat := ((goC R x 0 (c.take i)).map (fun q => q.1)).getD 0
theorem plc_at {R : List Row} {x : Nat} {c : List Nat} {q : Nat × Int} (h : goC R x 0 c = some q) (i : Nat) : ∃ a, goC R x 0 (c.take i) = some (plc R x c i, a) := by
  obtain ⟨v, a, e⟩ := goC_take h i
  refine ⟨a, ?_⟩
  unfold plc
  rw [e]
  rfl
theorem plc_row {R : List Row} {x : Nat} {c : List Nat} {q : Nat × Int} (h : goC R x 0 c = some q) {i k : Nat} (hk : c[i]? = some k) : ∃ l, R[k]? = some (plc R x c i, plc R x c (i + 1), l) := by
  obtain ⟨a, h1⟩ := plc_at h i
  obtain ⟨b, h2⟩ := plc_at h (i + 1)
  rw [take_snoc hk, goC_app, h1] at h2
  have h3 : (match R[k]? with | some (p, t, l) => if p = plc R x c i then goC R t (a + l) [] else none | none => none) = some (plc R x c (i + 1), b) := h2
  cases e : R[k]? with
  | none => rw [e] at h3; cases h3
  | some r =>
    obtain ⟨p, t, l⟩ := r
    rw [e] at h3
    by_cases z : p = plc R x c i
    · simp only [z, if_true] at h3
      have h4 : some (t, a + l) = some (plc R x c (i + 1), b) := h3
      have h5 := Option.some.inj h4
      have h6 : t = plc R x c (i + 1) := congrArg Prod.fst h5
      exact ⟨l, by rw [z, h6]⟩
    · simp only [z, if_false] at h3
      cases h3
def RingOr (R : List Row) (x : Nat) (c r : List Nat) : Prop := (∃ i j, i < j ∧ j ≤ c.length ∧ plc R x c i = plc R x c j ∧ r = (c.take j).drop i) ∨ ∀ i j, i < j → j ≤ c.length → plc R x c i ≠ plc R x c j
theorem cut_nat {α : Type} (f : α → V) (xs : List α) {p q : Nat} (hp : p ≤ q) (hq : q ≤ xs.length) : cutV (xs.map f) (some (p : Int)) (some (q : Int)) = ((xs.take q).drop p).map f := by
  unfold cutV
  rw [HT.sIx_nat, HT.sIx_nat, List.length_map, Nat.min_eq_left hq, Nat.min_eq_left (Nat.le_trans hp hq), List.drop_take, List.map_take, List.map_drop]
section
variable {P : Program} {w : World} {K : PySem.W.Frag} {mg : Str → Option Value} {base : Heap}
section
variable {X : Cx}
theorem cr_minL (hK : X.K = K) (hc : X.calm = true) : CallR X (.builtin "min") (rMin K) := hK ▸ cr_min hc
end
abbrev s_ring_within : Stmt := top 35
abbrev N_ring_within : List Str := ["rows", "chain", "places", "place", "source", "target"]
theorem sc_ring_within : FnScope N_ring_within ["rows", "chain"] (C8.fnScope s_ring_within) := C8.fnScope_by (by decide +kernel)
def sp_ring_within (K : PySem.W.Frag) : Sp := fun vs H Q _ => ∃ (ra ca : Addr) (R : List Row) (x : Nat) (c : List Nat) (q0 : Nat × Int), vs = [.ref ra, .ref ca] ∧ RowsAt K H ra R ∧ SqL K H ca (c.map nV) ∧ goC R x 0 c = some q0 ∧ c.length ≤ 1000 ∧
  ∀ (l : Addr) (r : List Nat) H', Same H H' → H l = none → H' l = some (.lst (r.map nV)) → RingOr R x c r → Q (.ref l) H'
theorem ok_ring_within {f : Addr} {fd : FuncData} (F : C8.Def K mg "ring_within" s_ring_within f fd) (b : Binds K fd ["rows", "chain"] []) (T : Gb mg) : C8.Cal P w K mg base 1 "ring_within" (sp_ring_within K) [] := by
  refine C8.cal0 F b .nil sc_ring_within (fun vs H Q E h => ?_) (fun cdv A outer s H vs Q E hr h => ?_)
  · obtain ⟨ra, ca, R, x, c, q0, rfl, _⟩ := h
    rfl
  · obtain ⟨ra, ca, R, x, c, q0, rfl, ⟨rvs, hra, hrp⟩, hca, hgo, hcl, q⟩ := h
    have hu := L2.hu_of hr
    refine ⟨_, (pss_cons (ps_set (i := 2) sc_ring_within.nd rfl (Or.inl rfl) pe_dnewK)
(pss_cons (ps_for PassesOwn.never rfl (pi_range1 (by rfl) T.range (pa_cons (pe_callB (call_lenK K rfl) (by rfl) T.len PySem.boot_len (pa_cons (pv 1) pa_nil)) pa_nil)) (pg_name (i := 3) sc_ring_within.nd rfl (Or.inl rfl))
(pss_cons (ps_asg (pe_slice sl_tup (pe_ix (ix_listK K rfl) (pv 0) (pe_ix (ix_listK K rfl) (pv 1) (pv 3) (fun _ _ => rfl)) (fun _ _ => rfl)) po_none (po_some pe_int)) (pg_tup (by rfl) (pgs_cons (pg_name (i := 4) sc_ring_within.nd rfl (Or.inl rfl)) (pgs_cons (pg_name (i := 5) sc_ring_within.nd rfl (Or.inl rfl)) pgs_nil))))
(pss_cons (ps_dput hu (pv 2) (pv 4) (pv 3) rfl)
(pss_one (ps_if (pt_cmp (pc_din hu (pv 5) (pv 2)))
(pss_one (ps_ret (pe_slice sl_list (pv 1) (po_some (pe_dget hu (pv 2) (pv 5) (fun _ _ => rfl))) (po_some (pe_op op_add (pv 3) pe_int)))))
pss_nil)))))
(pss_one (ps_ret (pe_lst pa_nil))))), ?_⟩
    intro D hD
    have sm0 := same_new (o := .dK []) (Same.refl H) hD
    refine ⟨_, rfl, ca, _, rfl, .inl (sm0.seq hca), ?_⟩
    rw [List.length_map]
    refine ⟨(c.length : Int), rfl, by omega, by omega, for_range (lo := 0) (n := (c.length : Int).toNat)
      (fun i σ H' => Same H H' ∧ ∃ (kvs : List (Key × V)) (v3 v4 v5 : Option V), H' D = some (.dK kvs) ∧ kvs.length ≤ i ∧ (∀ p, p < i → valV kvs (Sum.inl (plc R x c p : Int)) = some (nV p)) ∧ (∀ v y, valV kvs (Sum.inl v) = some y → ∃ p, p < i ∧ y = nV p ∧ (plc R x c p : Int) = v) ∧ (∀ a b, a < b → b ≤ i → plc R x c a ≠ plc R x c b) ∧ σ = [some (.ref ra), some (.ref ca), some (.ref D), v3, v4, v5])
      ⟨sm0, [], none, none, none, upd_same, Nat.le_refl _, fun p hp => absurd hp (Nat.not_lt_zero p), (fun v y hy => by cases hy), (fun a b h1 h2 => by omega), rfl⟩ ?_ ?_⟩
    · rintro i σ H2 hi ⟨sm2, kvs, v3, v4, v5, hd, hkl, hk1, hk2, hdis, rfl⟩
      have hi' : i < c.length := by omega
      have ei : (0 : Int) + (i : Int) = (i : Int) := by omega
      rw [ei]
      obtain ⟨k, hk⟩ := at_ex hi'
      obtain ⟨l, hR⟩ := plc_row hgo hk
      obtain ⟨xr, hxr, xa, rfl, hxt⟩ := paired_at2 hrp hR
      refine ⟨_, rfl, _, rfl, _, rfl, ca, _, _, nV k, rfl, rfl, sm2.seq hca, atI_nat (by rw [List.getElem?_map, hk]; rfl), ra, _, _, .ref xa, rfl, rfl, sm2.seq hra, atI_nat hxr, 2, rfl, xa, _, rfl, Same.tup sm2 hxt, (fun z => by have := z.2; cases this), fun t ht => ?_⟩
      have sm3 := same_new (o := .tup [nV (plc R x c i), nV (plc R x c (i + 1))]) sm2 ht
      have hd3 : (upd H2 t (.tup [nV (plc R x c i), nV (plc R x c (i + 1))])) D = some (.dK kvs) := (upd_ne (ne_of_none hd ht)).trans hd
      have e3 : (upd H2 t (.tup [nV (plc R x c i), nV (plc R x c (i + 1))])) t = some (.tup [nV (plc R x c i), nV (plc R x c (i + 1))]) := upd_same
      have hnew : valV kvs (Sum.inl (plc R x c i : Int)) = none := by
        cases e : valV kvs (Sum.inl (plc R x c i : Int)) with
        | none => rfl
        | some y =>
          obtain ⟨p, hp, _, h3⟩ := hk2 _ _ e
          exact absurd (Int.ofNat.inj h3) (hdis p i hp (Nat.le_refl i))
      refine ⟨t, _, rfl, SqT.of e3, rfl, _, _, rfl, _, _, rfl, rfl, ?_⟩
      refine ⟨_, rfl, _, rfl, _, rfl, D, _, rfl, DPut.k (k := Sum.inl (plc R x c i : Int)) hd3 (size_lt (by omega)), ?_⟩
      have sm4 := same_mut (o := .dK (putK kvs (Sum.inl (plc R x c i : Int)) (nV i))) sm3 hD
      have hget : ∀ v : Int, valV (putK kvs (Sum.inl (plc R x c i : Int)) (nV i)) (Sum.inl v) = if v = (plc R x c i : Int) then some (nV i) else valV kvs (Sum.inl v) := fun v => by
        rw [valV_put]
        by_cases z : v = (plc R x c i : Int)
        · rw [if_pos z, if_pos (by rw [z])]
        · rw [if_neg z, if_neg (fun y => z (Sum.inl.inj y))]
      have hg1 : ∀ p, p < i + 1 → valV (putK kvs (Sum.inl (plc R x c i : Int)) (nV i)) (Sum.inl (plc R x c p : Int)) = some (nV p) := fun p hp => by
        rw [hget]
        by_cases z : p = i
        · subst z
          rw [if_pos rfl]
        · rw [if_neg (fun y : (plc R x c p : Int) = (plc R x c i : Int) => hdis p i (by omega) (Nat.le_refl i) (Int.ofNat.inj y))]
          exact hk1 p (by omega)
      have hg2 : ∀ v y, valV (putK kvs (Sum.inl (plc R x c i : Int)) (nV i)) (Sum.inl v) = some y → ∃ p, p < i + 1 ∧ y = nV p ∧ (plc R x c p : Int) = v := fun v y hy => by
        rw [hget] at hy
        by_cases z : v = (plc R x c i : Int)
        · rw [if_pos z] at hy
          cases hy
          exact ⟨i, by omega, rfl, z.symm⟩
        · rw [if_neg z] at hy
          obtain ⟨p, h1, h2, h3⟩ := hk2 v y hy
          exact ⟨p, by omega, h2, h3⟩
      refine ⟨_, rfl, _, rfl, D, _, rfl, DGet.k (k := Sum.inl (plc R x c (i + 1) : Int)) upd_same, _, rfl, ?_⟩
      cases e : valV (putK kvs (Sum.inl (plc R x c i : Int)) (nV i)) (Sum.inl (plc R x c (i + 1) : Int)) with
      | none =>
        refine iteF ?_
        refine ⟨sm4, _, _, _, _, upd_same, by rw [putK_new _ hnew, List.length_append]; simp; omega, hg1, hg2, fun a b hab hb => ?_, rfl⟩
        by_cases z : b = i + 1
        · subst z
          intro y
          have := hg1 a (by omega)
          rw [y, e] at this
          cases this
        · exact hdis a b hab (by omega)
      | some y =>
        refine iteT ?_
        obtain ⟨p, hp, rfl, hpe⟩ := hg2 _ _ e
        refine ⟨_, rfl, _, rfl, _, rfl, D, nV p, rfl, ?_, _, rfl, _, rfl, _, _, rfl, rfl, _, rfl, ca, _, rfl, sm4.seq hca, fun l hl => ?_⟩
        · rw [← e]
          exact DGet.k (k := Sum.inl (plc R x c (i + 1) : Int)) upd_same
        · refine q l ((c.take (i + 1)).drop p) _ (same_new sm4 hl) (sm4.free hl) ?_ (.inl ⟨p, i + 1, hp, by omega, Int.ofNat.inj hpe, rfl⟩)
          rw [upd_same, ← cut_nat nV c (by omega) (by omega)]
          rfl
    · rintro σ H2 ⟨sm2, kvs, v3, v4, v5, hd, hkl, hk1, hk2, hdis, rfl⟩
      rw [show ((c.length : Int)).toNat = c.length by omega] at hdis
      refine ⟨by show 0 ≤ sizeLine; decide, fun l hl => ?_⟩
      exact q l [] _ (same_new sm2 hl) (sm2.free hl) upd_same (.inr hdis)

/-- a closed chain above 0 -/
def RingR (R : List Row) (N : Nat) (r : List Nat) : Prop := r ≠ [] ∧ r.length ≤ N ∧ ∃ x a, goC R x 0 r = some (x, a) ∧ 0 < a
theorem ring_of {R : List Row} {N src : Nat} {s : List Val} {L : List By} (hR : RowsLt R N) (hs : src < N) (h : Runs R N src s L) (hl : L.length = N) {e : Nat} (hn : New src L e) {r : List Nat}
    (hr : RingOr R src (chainR R L.reverse e).reverse r) : RingR R N r := by
  obtain ⟨f1, f2, ⟨a, ha⟩, _⟩ := h.full hs hn
  have hgo := (h.chain hs ha).1
  have hcl : (chainR R L.reverse e).reverse.length = N := by rw [List.length_reverse, f1, hl]
  revert f2 hgo hcl hr
  generalize (chainR R L.reverse e).reverse = c
  intro hr f2 hgo hcl
  have hlt : ∀ i, plc R src c i < N := fun i => by
    obtain ⟨a1, h1⟩ := plc_at hgo i
    exact goC_lt hR hs h1
  rcases hr with ⟨i, j, hij, hj, hp, rfl⟩ | hd
  · obtain ⟨a1, h1⟩ := plc_at hgo i
    obtain ⟨a2, h2⟩ := plc_at hgo j
    have hlen : ((c.take j).drop i).length = j - i := by rw [List.length_drop, List.length_take]; omega
    refine ⟨fun z => ?_, by omega, plc R src c i, a2 - a1, ?_, ?_⟩
    · rw [z] at hlen
      simp at hlen
      omega
    · have := goC_part (by omega) h1 h2
      rw [← hp] at this
      exact this
    · rw [← hp] at h2
      have := f2 i j _ a1 a2 hij hj h1 h2
      omega
  · obtain ⟨i, j, hij, hj, hv⟩ := twice (f := plc R src c) (N := N) (m := N + 1) (by omega) (fun i _ => hlt i)
    exact absurd hv (hd i j hij (by omega))
abbrev s_ring_above : Stmt := top 36
abbrev N_ring_above : List Str := ["rows", "levels", "last", "event", "k"]
theorem sc_ring_above : FnScope N_ring_above ["rows", "levels"] (C8.fnScope s_ring_above) := C8.fnScope_by (by decide +kernel)
def newB (b : By) (k : Nat) : Bool := match b[k]? with
  | some (some _) => true
  | _ => false
def sp_ring_above (K : PySem.W.Frag) : Sp := fun vs H Q _ => ∃ (ra la : Addr) (R : List Row) (N src : Nat) (s : List Val) (L : List By), vs = [.ref ra, .ref la] ∧ RowsAt K H ra R ∧ RowsLt R N ∧ LevAt H la L ∧ LRes R N src s L ∧ L.length = N ∧ src < N ∧ N ≤ 100 ∧
  ∀ (l : Addr) (r : List Nat) H', Same H H' → H l = none → H' l = some (.lst (r.map nV)) → RingR R N r → Q (.ref l) H'
theorem ok_ring_above {f : Addr} {fd : FuncData} (F : C8.Def K mg "ring_above" s_ring_above f fd) (b : Binds K fd ["rows", "levels"] []) (T : Gb mg)
    (c_ring_within : C8.Cal P w K mg base 1 "ring_within" (sp_ring_within K) []) (c_chain_to : C8.Cal P w K mg base 1 "chain_to" (sp_chain_to K) []) : C8.Cal P w K mg base 2 "ring_above" (sp_ring_above K) [] := by
  refine C8.cal0 F b .nil sc_ring_above (fun vs H Q E h => ?_) (fun cdv A outer s H vs Q E hr h => ?_)
  · obtain ⟨ra, la, R, N, src, s, L, rfl, _⟩ := h
    rfl
  · obtain ⟨ra, la, R, N, src, s, L, rfl, hrows, hlt, hlev, hres, hLN, hs, hN, q⟩ := h
    obtain ⟨lvs, hla, hlp⟩ := hlev
    have hll := hlp.length
    obtain ⟨L0, s0, bb, hrun0, hst, hne, hL⟩ : ∃ L0 s0 bb, Runs R N src s0 L0 ∧ Step R s0 s bb ∧ s ≠ s0 ∧ L = L0 ++ [bb] := by
      have hrun := hres.run
      cases hrun with
      | start => simp at hLN; omega
      | next h1 h2 h3 => exact ⟨_, _, _, h1, h2, h3, rfl⟩
    have hlast : L[L.length - 1]? = some bb := by
      rw [hL, List.length_append]
      simp
    obtain ⟨xb, hxb, ba, rfl, hba⟩ := paired_at2 hlp hlast
    have hbl : bb.length = N := by rw [hst.blen, hrun0.len]
    refine ⟨_, (pss_cons (ps_set (i := 2) sc_ring_above.nd rfl (Or.inr rfl) (pe_ix (ix_listK K rfl) (pv 1) (pe_un un_neg pe_int) (fun _ _ => rfl)))
(pss_cons (ps_set (i := 3) sc_ring_above.nd rfl (Or.inl rfl) (pe_callB (cr_minL rfl rfl) (by rfl) T.min (by decide +kernel) (pa_cons (pe_lc (own := [("k", 4)]) rfl sc_ring_above.nd (pi_range1 (by rfl) T.range (pa_cons (pe_callB (call_lenK K rfl) (by rfl) T.len PySem.boot_len (pa_cons (pv 2) pa_nil)) pa_nil)) (blkOk_by (N := N_ring_above) (sc := C8.fnScope s_ring_above) (by decide +kernel)) (fun _ _ _ _ _ => (pg_name (i := 4) sc_ring_above.nd rfl (Or.inl rfl))) (fun _ _ _ _ _ => (pts_one (pt_cmpR op_notN (pe_ix (ix_listK K rfl) (pv 2) (pv 4) (fun _ _ => rfl)) pe_non (nomark _)))) (fun _ _ _ _ _ => (pv 4))) pa_nil)))
(pss_one (ps_ret (C8.pe_c c_ring_within hr (by decide) (by rfl) (pa_cons (pv 0) (pa_cons (C8.pe_c c_chain_to hr (by decide) (by rfl) (pa_cons (pv 0) (pa_cons (pv 1) (pa_cons (pv 3) pa_nil)))) pa_nil))))))), ?_⟩
    refine ⟨_, rfl, _, rfl, la, lvs, -1, .ref ba, rfl, rfl, .inl (.inl hla), ?_, ?_⟩
    · have h1 := take_snoc hxb
      rw [show L.length - 1 + 1 = lvs.length by omega, List.take_length] at h1
      rw [h1]
      exact atI_last _ _
    refine ⟨_, rfl, ba, _, rfl, .inl (.inl (.inl hba)), ?_⟩
    rw [List.length_map]
    have enb : ((bb.length : Int)).toNat = bb.length := by omega
    refine ⟨(bb.length : Int), rfl, by omega, by omega, fun D hD => lc_range (lo := 0) (n := ((bb.length : Int)).toNat) (fun j H' => Same H H' ∧ H' D = some (.lst (((List.range j).filter (newB bb)).map nV)))
      ⟨same_new (Same.refl _) hD, upd_same⟩ ?_ ?_⟩
    · rintro j H2 hj ⟨sm2, hD2⟩
      have ej : (0 : Int) + (j : Int) = (j : Int) := by omega
      obtain ⟨y, hy⟩ := at_ex (l := bb) (i := j) (by omega)
      have hfl : ((List.range j).filter (newB bb)).length ≤ j := by
        have := List.length_filter_le (newB bb) (List.range j)
        rw [List.length_range] at this
        exact this
      refine ⟨rfl, ?_⟩
      rw [ej]
      refine ⟨_, rfl, _, rfl, ba, _, _, oB y, rfl, rfl, .inl (.inl (sm2 _ _ hba)), atI_nat (at_oB hy), rfl, _, rfl, ?_⟩
      rw [List.range_succ, List.filter_append]
      cases y with
      | none =>
        refine ifNF rfl ?_
        have e1 : newB bb j = false := by unfold newB; rw [hy]
        refine ⟨sm2, ?_⟩
        rw [List.filter_cons_of_neg (by rw [e1]; exact Bool.false_ne_true), List.filter_nil, List.append_nil]
        exact hD2
      | some ix =>
        refine ifNT (by intro z; cases z) ?_
        have e1 : newB bb j = true := by unfold newB; rw [hy]
        refine ⟨_, rfl, _, hD2, size_lt (by rw [List.length_map]; omega), same_mut sm2 hD, ?_⟩
        rw [upd_same, List.filter_cons_of_pos e1, List.filter_nil, List.map_append]
        rfl
    rintro H2 ⟨sm2, hD2⟩
    rw [enb] at hD2
    obtain ⟨e0, ix0, he0, hix0⟩ := hst.found hne
    have e1 : newB bb e0 = true := by unfold newB; rw [hix0]
    have hmem0 : e0 ∈ (List.range bb.length).filter (newB bb) := List.mem_filter.mpr ⟨List.mem_range.mpr (by rw [hst.blen]; exact he0), e1⟩
    refine ⟨D, ((List.range bb.length).filter (newB bb)).map fun (k : Nat) => (k : Int), rfl, SqL.of (by rw [List.map_map]; exact hD2), by rw [List.length_map]; exact List.length_pos_iff.mpr (List.ne_nil_of_mem hmem0), fun m hm _ => ?_⟩
    obtain ⟨e, hem, rfl⟩ := List.mem_map.mp hm
    obtain ⟨her, hen⟩ := List.mem_filter.mp hem
    have hel := List.mem_range.mp her
    have hnew : New src L e := by
      unfold newB at hen
      cases h9 : bb[e]? with
      | none => rw [h9] at hen; cases hen
      | some y =>
        cases y with
        | none => rw [h9] at hen; cases hen
        | some ix => exact .inr ⟨L0, bb, ix, hL, h9⟩
    obtain ⟨f1, f2, ⟨a, ha⟩, _⟩ := hres.run.full hs hnew
    have hgo := (hres.run.chain hs ha).1
    refine ⟨_, rfl, _, rfl, _, rfl, _, rfl, ra, la, N, e, R, L, rfl, hrows.mono sm2, hlt, LevAt.mono sm2 ⟨lvs, hla, hlp⟩, hres.run.levOk, by omega, by omega, fun ca H3 sm3 hca0 hca => ?_⟩
    refine ⟨ra, ca, R, src, _, _, rfl, hrows.mono (sm2.trans sm3), SqL.of hca, hgo, by rw [List.length_reverse, f1]; omega, fun l r H4 sm4 hl0 hl hro => ?_⟩
    exact q l r H4 ((sm2.trans sm3).trans sm4) ((sm2.trans sm3).free hl0) hl (ring_of hlt hs hres.run hLN hnew hro)
end
end My
namespace My
open PySem L2
/-! ### earliest, and the ring it raises -/
section
variable {P : Program} {w : World} {K : PySem.W.Frag} {mg : Str → Option Value} {base : Heap}
/-- a def that may raise; read where it does not -/
theorem fn_calm {f : Addr} {fd : FuncData} {ps : List Str} {k : Nat} {sp : Sp} (F : FnOk P w K mg base (L2.CX P w) k f fd ps sp) : FnOk P w K mg base C8.CX0 k f fd ps (fun vs H Q _ => sp vs H Q (fun _ _ _ => False)) :=
  ⟨fun vs H Q _ h => F.len vs H Q _ h, fun A outer s H args us vs Q E hr e0 hb r hsp => codeAny_mono (F.run A outer s H args us vs Q (fun _ _ _ => False) hr e0 hb r hsp) fun r s' h => by
    cases r with
    | error e =>
      obtain ⟨a, B, H', cls, d, _, _, _, _, _, _, _, z⟩ := h
      exact z.elim
    | ok fl => cases fl <;> exact h⟩
theorem fnX {x qual : Str} {st : Stmt} {f : Addr} {fd : FuncData} {N ps : List Str} {k : Nat} {sp : Sp} (F : C8.Fun K x qual st f fd) (S : FnScope N ps (C8.fnScope st)) (len : ∀ vs H Q E, sp vs H Q E → vs.length = ps.length)
    (hbody : ∀ (cdv : Value) (A : Around) (outer : List Env) (s : Shared) (H : Hp) (vs : List V) (Q : VK) (E : XK), Room k (A.deeper (PyProof.Rows.envOfC qual (C8.fnScope st) s.heap.objs.size f cdv)) → sp vs H Q E →
      ∃ t, PSs (cxOf (L2.CX P w) P w K mg base N qual (C8.fnScope st) f cdv A outer s H E) (C8.fnBody st) t ∧ t { nx := fun _ H' => Q .non H', rt := Q } (start N vs) H) : FnOk P w K mg base (L2.CX P w) (k + 1) f fd ps sp := by
  obtain ⟨oc, od, dV, kV, doc, pm, an, cdv, ct, osl, rfl, lk, hcd⟩ := F.ex
  exact fn_of lk hcd S len fun A outer s H vs Q E hr hsp => hbody cdv A outer s H vs Q E hr hsp
/-- NoCourse in the written part -/
structure NoC (P : Program) (w : World) (K : PySem.W.Frag) (mg : Str → Option Value) (base : Heap) (CN : Addr) : Prop where
  T : OexC K CN
  ex : ∃ (fI : Addr) (fd : FuncData), PySem.W.findIn K (.ref CN) "__init__" = some (some (.ref fI)) ∧ PySem.W.typeIn K (.ref fI) = some (.type "function") ∧ FnOk P w K mg base C8.CX0 1 fI fd ["self", "ring"] (spX CN "ring") ∧ Binds K fd ["self", "ring"] []
  g : mg "NoCourse" = some (.ref CN)
/-- a def that may raise, by its name -/
structure CalX (P : Program) (w : World) (K : PySem.W.Frag) (mg : Str → Option Value) (base : Heap) (k : Nat) (x : Str) (sp : Sp) : Prop where
  ex : ∃ (f : Addr) (fd : FuncData) (ps : List Str), FnOk P w K mg base (L2.CX P w) k f fd ps sp ∧ mg x = some (.ref f) ∧ PySem.W.keepIn K (.ref f) = true ∧ Binds K fd ps []
abbrev s_earliest : Stmt := top 37
abbrev N_earliest : List Str := ["log", "rows", "sums", "levels"]
theorem sc_earliest : FnScope N_earliest ["log"] (C8.fnScope s_earliest) := C8.fnScope_by (by decide +kernel)
def sp_earliest (K : PySem.W.Frag) (C CN : Addr) : Sp := fun vs H Q E => ∃ (p : Addr) (W : Wd), vs = [.ref p] ∧ LogAt K C H p W ∧ W.Ok ∧
  (NP (rowsOf W) W.size → ∀ (l : Addr) (s : List Val) (L : List By) H', Same H H' → H l = none → H' l = some (.lst (s.map oV)) → LRes (rowsOf W) W.size 0 s L → Q (.ref l) H') ∧
  (¬ NP (rowsOf W) W.size → ∀ (d l : Addr) (r : List Nat) H', Same H H' → H d = none → H l = none → H' l = some (.lst (r.map nV)) → H' d = some (.xd [("ring", .ref l)]) → RingR (rowsOf W) W.size r → E (.ref CN) (some d) H')
theorem fn_earliest {C CN f : Addr} {fd : FuncData} (F : C8.Def K mg "earliest" s_earliest f fd) (b : Binds K fd ["log"] []) (cl : ClsL K C) (T : Gb mg) (NC : NoC P w K mg base CN)
    (c_bounds : C8.Cal P w K mg base 3 "bounds" (sp_bounds K C) []) (c_longest : C8.Cal P w K mg base 2 "longest" (sp_longest K) []) (c_ring_above : C8.Cal P w K mg base 2 "ring_above" (sp_ring_above K) []) : FnOk P w K mg base (L2.CX P w) 4 f fd ["log"] (sp_earliest K C CN) := by
  obtain ⟨fI, fdI, iC, tI, F1, bI⟩ := NC.ex
  refine fnX F.fn sc_earliest (fun vs H Q E h => ?_) (fun cdv A outer s H vs Q E hr h => ?_)
  · obtain ⟨p, W, rfl, _⟩ := h
    rfl
  · obtain ⟨p, W, rfl, hL, hok, q1, q2⟩ := h
    obtain ⟨dx, ea, es, hp, hE, hP⟩ := hL.ex
    have o1 := hok.s1
    have o2 := hok.s2
    refine ⟨_, (pss_cons (ps_set (i := 1) sc_earliest.nd rfl (Or.inl rfl) (C8.pe_c c_bounds hr (by decide) (by rfl) (pa_cons (pv 0) pa_nil)))
(pss_cons (ps_asg (C8.pe_c c_longest hr (by decide) (by rfl) (pa_cons (pe_fldK K rfl (pv 0) rfl) (pa_cons (pv 1) (pa_cons pe_int pa_nil)))) (pg_tup (by rfl) (pgs_cons (pg_name (i := 2) sc_earliest.nd rfl (Or.inl rfl)) (pgs_cons (pg_name (i := 3) sc_earliest.nd rfl (Or.inl rfl)) pgs_nil))))
(pss_cons (ps_if (pt_cmpR op_eq (pe_callB (call_lenK K rfl) (by rfl) T.len PySem.boot_len (pa_cons (pv 3) pa_nil)) (pe_fldK K rfl (pv 0) rfl) (nomark _))
(pss_one (ps_raise rfl (takes_of rfl rfl rfl rfl) (pmk_oex NC.T iC tI F1 (hr.mono (by decide)) bI .nil C8.pass0 (by rfl) NC.g (by exact (pa_cons (C8.pe_c c_ring_above hr (by decide) (by rfl) (pa_cons (pv 1) (pa_cons (pv 3) pa_nil))) pa_nil)))))
pss_nil)
(pss_one (ps_ret (pv 2)))))), ?_⟩
    refine ⟨_, rfl, p, W, rfl, hL, hok, fun l rs H1 sm1 hl0 hl hrs => ?_⟩
    have hlt := rowsOf_lt hok
    have hrl := rowsOf_len hok
    refine ⟨_, rfl, p, C, dx, _, _, rfl, sm1 _ _ hp, cl.cl, cl.nSize, lf_size _ _ _ _ _, _, rfl, l, W.size, 0, rowsOf W, rfl, ⟨rs, SqL.of hl, hrs⟩, hlt, by omega, by omega, by omega, fun t sa la s L H2 sm2 hsa0 hla0 ht hsa hla hres => ?_⟩
    refine ⟨t, _, rfl, SqT.of ht, rfl, _, _, rfl, _, _, rfl, rfl, ?_⟩
    obtain ⟨lvs, hlv, hlp⟩ := hla
    have hll := hlp.length
    have sm02 := sm1.trans sm2
    refine ⟨_, rfl, la, lvs, rfl, .inl (SqL.of hlv), _, rfl, p, C, dx, _, _, rfl, sm02 _ _ hp, cl.cl, cl.nSize, lf_size _ _ _ _ _, rfl, _, rfl, ?_⟩
    have hall : ∀ v, v < W.size → ∃ n w, Wk (rowsOf W) 0 v n w := fun v hv => rowsOf_start hok hv
    by_cases e : L.length = W.size
    · refine ifT (by rw [hll, e]) ?_
      refine ⟨_, rfl, _, rfl, l, la, rowsOf W, W.size, 0, s, L, rfl, ⟨rs, sm2.seq (SqL.of hl), L2.Paired.mapP hrs fun _ _ h => RowV.mono sm2 h⟩, hlt, ⟨lvs, hlv, hlp⟩, hres, e, by omega, by omega, fun rl r H3 sm3 hrl0 hrl3 hring => ?_⟩
      have sm03 := sm02.trans sm3
      refine ⟨by show 1 ≤ 1000; decide, fun a ha => ⟨a, .ref rl, rfl, upd_same, fun d hd hda => ?_⟩⟩
      have hd3 : H3 d = none := by rw [upd_ne hda] at hd; exact hd
      have nra : rl ≠ a := ne_of_none hrl3 ha
      have nrd : rl ≠ d := ne_of_none hrl3 hd3
      refine ⟨rfl, d, [("ring", .ref rl)], upd_same, (upd_ne hda).trans upd_same, hd3, ?_⟩
      refine q2 (hres.not_np (by omega) hlt e) d rl r _ ?_ (sm03.free hd3) (sm02.free hrl0) ?_ upd_same hring
      · intro b u hb
        have hb3 := sm03 _ _ hb
        have nbd : b ≠ d := ne_of_none hb3 hd3
        have nba : b ≠ a := ne_of_none hb3 ha
        rw [upd_ne nbd, del_ne nba, upd_ne nba, upd_ne nbd, upd_ne nba]
        exact hb3
      · rw [upd_ne nrd, del_ne nra, upd_ne nra, upd_ne nrd, upd_ne nra]
        exact hrl3
    · refine ifF (by rw [hll]; intro z; exact e (Int.ofNat.inj (V.int.inj z))) ?_
      have hlen : L.length < W.size := by
        rcases hres.fin with z | z
        · exact absurd z e
        · exact z.1
      exact ⟨_, rfl, q1 (hres.np_of (by omega) hlt hall hlen) sa s L H2 sm02 (sm1.free hsa0) hsa hres⟩
end
end My
namespace My
open PySem L2
/-! ### questions -/
section
variable {P : Program} {w : World} {K : PySem.W.Frag} {mg : Str → Option Value} {base : Heap}
def sp_earliestN (K : PySem.W.Frag) (C : Addr) : Sp := fun vs H Q _ => ∃ (p : Addr) (W : Wd), vs = [.ref p] ∧ LogAt K C H p W ∧ W.Ok ∧ NP (rowsOf W) W.size ∧
  ∀ (l : Addr) (s : List Val) (L : List By) H', Same H H' → H l = none → H' l = some (.lst (s.map oV)) → LRes (rowsOf W) W.size 0 s L → Q (.ref l) H'
theorem ok_earliestN {C CN f : Addr} {fd : FuncData} (F : C8.Def K mg "earliest" s_earliest f fd) (b : Binds K fd ["log"] []) (X : FnOk P w K mg base (L2.CX P w) 4 f fd ["log"] (sp_earliest K C CN)) : C8.Cal P w K mg base 4 "earliest" (sp_earliestN K C) [] :=
  ⟨f, fd, ["log"], [], (fn_calm X).imp fun vs H Q E h => by
    obtain ⟨p, W, rfl, hL, hok, np, q⟩ := h
    exact ⟨p, W, rfl, hL, hok, fun _ => q, fun n => absurd np n⟩, F.mgf, F.kp, b, .nil⟩
theorem lf_checked (a b c d e : V) : (lf a b c d e).lookup ("checked" : Str) = none := by rfl
abbrev s_check_question : Stmt := top 39
abbrev N_check_question : List Str := ["log", "x", "y"]
theorem sc_check_question : FnScope N_check_question ["log", "x", "y"] (C8.fnScope s_check_question) := C8.fnScope_by (by decide +kernel)
def sp_check_question (K : PySem.W.Frag) (C : Addr) : Sp := fun vs H Q _ => ∃ (p : Addr) (W : Wd) (x y : Nat), vs = [.ref p, nV x, nV y] ∧ LogAt K C H p W ∧ W.Ok ∧ NP (rowsOf W) W.size ∧ x < W.size ∧ y < W.size ∧ ∀ H', Same H H' → Q .non H'
theorem ok_check_question {C f : Addr} {fd : FuncData} (F : C8.Def K mg "check_question" s_check_question f fd) (b : Binds K fd ["log", "x", "y"] []) (m_checked : C8.Met P w K mg base 1 C "checked" (sp_checked K C) []) (c_earliest : C8.Cal P w K mg base 4 "earliest" (sp_earliestN K C) []) :
    C8.Cal P w K mg base 5 "check_question" (sp_check_question K C) [] := by
  refine C8.cal0 F b .nil sc_check_question (fun vs H Q E h => ?_) (fun cdv A outer s H vs Q E hr h => ?_)
  · obtain ⟨p, W, x, y, rfl, _⟩ := h
    rfl
  · obtain ⟨p, W, x, y, rfl, hL, hok, np, hx, hy, q⟩ := h
    obtain ⟨dx, ea, es, hp, hE, hP⟩ := hL.ex
    refine ⟨_, (pss_cons (ps_expr (C8.pe_mt m_checked hr (by decide) (pv 0) (pa_cons (pv 1) pa_nil)))
(pss_cons (ps_expr (C8.pe_mt m_checked hr (by decide) (pv 0) (pa_cons (pv 2) pa_nil)))
(pss_one (ps_expr (C8.pe_c c_earliest hr (by decide) (by rfl) (pa_cons (pv 0) pa_nil)))))), ?_⟩
    refine ⟨_, rfl, p, dx, _, rfl, hp, lf_checked _ _ _ _ _, _, rfl, p, W, x, rfl, hL, hx, ?_⟩
    refine ⟨_, rfl, p, dx, _, rfl, hp, lf_checked _ _ _ _ _, _, rfl, p, W, y, rfl, hL, hy, ?_⟩
    exact ⟨_, rfl, p, W, rfl, hL, hok, np, fun l s L H' sm _ _ _ => q H' sm⟩
abbrev s_gap : Stmt := top 40
abbrev N_gap : List Str := ["log", "x", "y", "rows", "least", "most"]
theorem sc_gap : FnScope N_gap ["log", "x", "y"] (C8.fnScope s_gap) := C8.fnScope_by (by decide +kernel)
def sp_gap (K : PySem.W.Frag) (C : Addr) : Sp := fun vs H Q _ => ∃ (p : Addr) (W : Wd) (x y : Nat), vs = [.ref p, nV x, nV y] ∧ LogAt K C H p W ∧ W.Ok ∧ NP (rowsOf W) W.size ∧ x < W.size ∧ y < W.size ∧
  ∀ (t : Addr) (s1 s2 : List Val) (L1 L2 : List By) H', Same H H' → LRes (rowsOf W) W.size x s1 L1 → LRes (rowsOf W) W.size y s2 L2 → H' t = some (.tup [oV (gv s1 y), oV ((gv s2 x).map fun a => -a)]) → Q (.ref t) H'
theorem ok_gap {C f : Addr} {fd : FuncData} (F : C8.Def K mg "gap" s_gap f fd) (b : Binds K fd ["log", "x", "y"] []) (cl : ClsL K C) (c_bounds : C8.Cal P w K mg base 3 "bounds" (sp_bounds K C) []) (c_longest : C8.Cal P w K mg base 2 "longest" (sp_longest K) [])
    (c_check_question : C8.Cal P w K mg base 5 "check_question" (sp_check_question K C) []) : C8.Cal P w K mg base 6 "gap" (sp_gap K C) [] := by
  refine C8.cal0 F b .nil sc_gap (fun vs H Q E h => ?_) (fun cdv A outer s H vs Q E hr h => ?_)
  · obtain ⟨p, W, x, y, rfl, _⟩ := h
    rfl
  · obtain ⟨p, W, x, y, rfl, hL, hok, np, hx, hy, q⟩ := h
    obtain ⟨dx, ea, es, hp, hE, hP⟩ := hL.ex
    have o2 := hok.s2
    have hlt := rowsOf_lt hok
    have hrl := rowsOf_len hok
    refine ⟨_, (pss_cons (ps_expr (C8.pe_c c_check_question hr (by decide) (by rfl) (pa_cons (pv 0) (pa_cons (pv 1) (pa_cons (pv 2) pa_nil)))))
(pss_cons (ps_set (i := 3) sc_gap.nd rfl (Or.inl rfl) (C8.pe_c c_bounds hr (by decide) (by rfl) (pa_cons (pv 0) pa_nil)))
(pss_cons (ps_set (i := 4) sc_gap.nd rfl (Or.inl rfl) (pe_ix (ix_listK K rfl) (pe_ix (ix_tupK K rfl) (C8.pe_c c_longest hr (by decide) (by rfl) (pa_cons (pe_fldK K rfl (pv 0) rfl) (pa_cons (pv 3) (pa_cons (pv 1) pa_nil)))) pe_int (fun _ _ => rfl)) (pv 2) (fun _ _ => rfl)))
(pss_cons (ps_set (i := 5) sc_gap.nd rfl (Or.inl rfl) (pe_ix (ix_listK K rfl) (pe_ix (ix_tupK K rfl) (C8.pe_c c_longest hr (by decide) (by rfl) (pa_cons (pe_fldK K rfl (pv 0) rfl) (pa_cons (pv 3) (pa_cons (pv 2) pa_nil)))) pe_int (fun _ _ => rfl)) (pv 1) (fun _ _ => rfl)))
(pss_one (ps_ret (pe_tup (pa_cons (pv 4) (pa_cons (pe_ifExp (pt_cmpR op_isN (pv 5) pe_non (nomark _)) pe_non (pe_un un_neg (pv 5))) pa_nil))))))))), ?_⟩
    refine ⟨_, rfl, _, rfl, _, rfl, p, W, x, y, rfl, hL, hok, np, hx, hy, fun H1 sm1 => ?_⟩
    refine ⟨_, rfl, p, W, rfl, hL.mono sm1, hok, fun l rs H2 sm2 hl0 hl hrs => ?_⟩
    have sm02 := sm1.trans sm2
    refine ⟨_, rfl, p, C, dx, _, _, rfl, sm02 _ _ hp, cl.cl, cl.nSize, lf_size _ _ _ _ _, _, rfl, _, rfl, l, W.size, x, rowsOf W, rfl, ⟨rs, SqL.of hl, hrs⟩, hlt, by omega, by omega, hx, fun t1 sa1 la1 s1 L1 H3 sm3 _ _ ht1 hsa1 _ hres1 => ?_⟩
    have hl1 := hres1.run.len
    refine ⟨t1, _, 0, .ref sa1, rfl, rfl, SqT.of ht1, rfl, _, rfl, sa1, _, _, oV (gv s1 y), rfl, rfl, .inl (.inl hsa1), atI_nat (at_oV (by omega)), ?_⟩
    have sm03 := sm02.trans sm3
    refine ⟨_, rfl, p, C, dx, _, _, rfl, sm03 _ _ hp, cl.cl, cl.nSize, lf_size _ _ _ _ _, _, rfl, _, rfl, l, W.size, y, rowsOf W, rfl, RowsAt.mono sm3 ⟨rs, SqL.of hl, hrs⟩, hlt, by omega, by omega, hy, fun t2 sa2 la2 s2 L2 H4 sm4 _ _ ht2 hsa2 _ hres2 => ?_⟩
    have hl2 := hres2.run.len
    refine ⟨t2, _, 0, .ref sa2, rfl, rfl, SqT.of ht2, rfl, _, rfl, sa2, _, _, oV (gv s2 x), rfl, rfl, .inl (.inl hsa2), atI_nat (at_oV (by omega)), ?_⟩
    have sm04 := sm03.trans sm4
    refine ⟨_, rfl, _, rfl, rfl, _, rfl, ?_⟩
    cases hg : gv s2 x with
    | none =>
      refine ifT rfl ?_
      refine ⟨by show 2 ≤ sizeLine; decide, fun t ht => ?_⟩
      exact q t s1 s2 L1 L2 _ (same_new sm04 ht) hres1 hres2 (by rw [hg]; exact upd_same)
    | some a =>
      refine ifF (by intro z; cases z) ?_
      refine ⟨_, rfl, a, rfl, by show 2 ≤ sizeLine; decide, fun t ht => ?_⟩
      exact q t s1 s2 L1 L2 _ (same_new sm04 ht) hres1 hres2 (by rw [hg]; exact upd_same)
end
end My
namespace My
open PySem L2
/-! ### ahead -/
theorem iteCut {u : TT} {σ : St} {Q' : Bool → Hp → Prop} {H1 : Hp} {c : Bool} {p : Prop} (h : ∀ bb : Bool, (bb = true ↔ p) → Q' bb H1) (g : (∀ bb : Bool, (bb = true ↔ p) → Q' bb H1) → if c = true then u σ H1 Q' else Q' false H1) : (fun (c : Bool) (H1 : Hp) => if c = true then u σ H1 Q' else Q' false H1) c H1 := g h
section
variable {P : Program} {w : World} {K : PySem.W.Frag} {mg : Str → Option Value} {base : Heap}
abbrev s_course_with : Stmt := top 41
abbrev N_course_with : List Str := ["log", "bound"]
theorem sc_course_with : FnScope N_course_with ["log", "bound"] (C8.fnScope s_course_with) := C8.fnScope_by (by decide +kernel)
def sp_course_with (K : PySem.W.Frag) (C : Addr) : Sp := fun vs H Q _ => ∃ (p : Addr) (W : Wd) (v : V) (r : Row), vs = [.ref p, v] ∧ LogAt K C H p W ∧ W.Ok ∧ RowV K H v r ∧ r.1 < W.size ∧ r.2.1 < W.size ∧
  ∀ (l : Addr) (s : List Val) (L : List By) H', Same H H' → H l = none → H' l = some (.lst (s.map oV)) → LRes (rowsOf W ++ [r]) W.size 0 s L → Q (.ref l) H'
theorem ok_course_with {C f : Addr} {fd : FuncData} (F : C8.Def K mg "course_with" s_course_with f fd) (b : Binds K fd ["log", "bound"] []) (cl : ClsL K C) (c_bounds : C8.Cal P w K mg base 3 "bounds" (sp_bounds K C) []) (c_longest : C8.Cal P w K mg base 2 "longest" (sp_longest K) []) :
    C8.Cal P w K mg base 4 "course_with" (sp_course_with K C) [] := by
  refine C8.cal0 F b .nil sc_course_with (fun vs H Q E h => ?_) (fun cdv A outer s H vs Q E hr h => ?_)
  · obtain ⟨p, W, v, r, rfl, _⟩ := h
    rfl
  · obtain ⟨p, W, v, r, rfl, hL, hok, hv, hr1, hr2, q⟩ := h
    obtain ⟨dx, ea, es, hp, hE, hP⟩ := hL.ex
    have o1 := hok.s1
    have o2 := hok.s2
    have hlt := rowsOf_lt hok
    have hrl := rowsOf_len hok
    refine ⟨_, (pss_one (ps_ret (pe_ix (ix_tupK K rfl) (C8.pe_c c_longest hr (by decide) (by rfl) (pa_cons (pe_fldK K rfl (pv 0) rfl) (pa_cons (pe_op op_cat (C8.pe_c c_bounds hr (by decide) (by rfl) (pa_cons (pv 0) pa_nil)) (pe_lst (pa_cons (pv 1) pa_nil))) (pa_cons pe_int pa_nil)))) pe_int (fun _ _ => rfl)))), ?_⟩
    refine ⟨_, rfl, p, C, dx, _, _, rfl, hp, cl.cl, cl.nSize, lf_size _ _ _ _ _, _, rfl, p, W, rfl, hL, hok, fun l rs H1 sm1 hl0 hl hrs => ?_⟩
    have hrsl := hrs.length
    refine ⟨_, rfl, by show 1 ≤ sizeLine; decide, fun p1 hp1 => ?_⟩
    have sm2 := same_new (o := .lst [v]) sm1 hp1
    have hl2 : (upd H1 p1 (.lst [v])) l = some (.lst rs) := (upd_ne (ne_of_none hl hp1)).trans hl
    refine ⟨l, p1, rs, [v], rfl, rfl, hl2, upd_same, size_le (by rw [List.length_singleton]; omega), fun p2 hp2 => ?_⟩
    have sm12 : Same H1 (upd H1 p1 (.lst [v])) := same_new (Same.refl H1) hp1
    have sm3 := same_new (o := .lst (rs ++ [v])) sm2 hp2
    have sm23 := same_new (o := .lst (rs ++ [v])) sm12 hp2
    refine ⟨p2, W.size, 0, rowsOf W ++ [r], rfl, ⟨rs ++ [v], SqL.of upd_same, Paired.snoc (L2.Paired.mapP hrs fun _ _ h => RowV.mono sm23 h) (hv.mono sm3)⟩, ?_, by rw [List.length_append, List.length_singleton]; omega, by omega, by omega, fun t sa la s L H3 sm4 hsa0 hla0 ht hsa hla hres => ?_⟩
    · intro r' hr'
      rcases List.mem_append.mp hr' with h | h
      · exact hlt r' h
      · rw [List.mem_singleton] at h
        subst h
        exact ⟨hr1, hr2⟩
    · exact ⟨t, _, 0, .ref sa, rfl, rfl, SqT.of ht, rfl, q sa s L H3 (sm3.trans sm4) (sm3.free hsa0) hsa hres⟩
abbrev s_judge_chain : Stmt := top 43
abbrev N_judge_chain : List Str := ["log", "x", "y", "least", "chain", "rows", "event", "total", "index"]
theorem sc_judge_chain : FnScope N_judge_chain ["log", "x", "y", "least", "chain"] (C8.fnScope s_judge_chain) := C8.fnScope_by (by decide +kernel)
/-- a chain of x that is a chain: told by its end and its weight -/
def sp_judge_chain (K : PySem.W.Frag) (C : Addr) : Sp := fun vs H Q _ => ∃ (p ca : Addr) (W : Wd) (x y y' : Nat) (least a : Int) (c : List Nat), vs = [.ref p, nV x, nV y, .int least, .ref ca] ∧ LogAt K C H p W ∧ W.Ok ∧ x < W.size ∧ y < W.size ∧ SqL K H ca (c.map nV) ∧ goC (rowsOf W) x 0 c = some (y', a) ∧
  ∀ H', Same H H' → Q (.bl (decide (y' = y) && decide (least ≤ a))) H'
abbrev s_ahead : Stmt := top 42
abbrev N_ahead : List Str := ["log", "x", "y", "rows", "sums", "levels"]
theorem sc_ahead : FnScope N_ahead ["log", "x", "y"] (C8.fnScope s_ahead) := C8.fnScope_by (by decide +kernel)
/-- what ahead answers -/
inductive AhR (R : List Row) (N x y : Nat) (t : Addr) (H : Hp) : Prop
  | sure (s : List Val) (L : List By) (a : Int) (l : Addr) (c : List Nat) : LRes R N x s L → gv s y = some a → 1 ≤ a → H t = some (.tup [.str "surely", .ref l]) → H l = some (.lst (c.map nV)) → goC R x 0 c = some (y, a) → c.length ≤ L.length → AhR R N x y t H
  | never (s1 s2 : List Val) (L1 L2 : List By) (a : Int) (l : Addr) (c : List Nat) : LRes R N x s1 L1 → (∀ a, gv s1 y = some a → ¬ 1 ≤ a) → LRes R N y s2 L2 → gv s2 x = some a → 0 ≤ a → H t = some (.tup [.str "never", .ref l]) → H l = some (.lst (c.map nV)) → goC R y 0 c = some (x, a) → c.length ≤ L2.length → AhR R N x y t H
  | opn (s1 s2 s3 s4 : List Val) (L1 L2 L3 L4 : List By) (l1 l2 : Addr) : LRes R N x s1 L1 → (∀ a, gv s1 y = some a → ¬ 1 ≤ a) → LRes R N y s2 L2 → (∀ a, gv s2 x = some a → ¬ 0 ≤ a) → LRes (R ++ [(x, y, 1)]) N 0 s3 L3 → LRes (R ++ [(y, x, 0)]) N 0 s4 L4 →
      H t = some (.tup [.str "open", .ref l1, .ref l2]) → H l1 = some (.lst (s3.map oV)) → H l2 = some (.lst (s4.map oV)) → AhR R N x y t H
def sp_ahead (K : PySem.W.Frag) (C : Addr) : Sp := fun vs H Q _ => ∃ (p : Addr) (W : Wd) (x y : Nat), vs = [.ref p, nV x, nV y] ∧ LogAt K C H p W ∧ W.Ok ∧ NP (rowsOf W) W.size ∧ x < W.size ∧ y < W.size ∧ ∀ (t : Addr) H', Same H H' → AhR (rowsOf W) W.size x y t H' → Q (.ref t) H'
theorem ok_ahead {C f : Addr} {fd : FuncData} (F : C8.Def K mg "ahead" s_ahead f fd) (b : Binds K fd ["log", "x", "y"] []) (cl : ClsL K C) (c_bounds : C8.Cal P w K mg base 3 "bounds" (sp_bounds K C) []) (c_longest : C8.Cal P w K mg base 2 "longest" (sp_longest K) [])
    (c_check_question : C8.Cal P w K mg base 5 "check_question" (sp_check_question K C) []) (c_chain_to : C8.Cal P w K mg base 1 "chain_to" (sp_chain_to K) []) (c_course_with : C8.Cal P w K mg base 4 "course_with" (sp_course_with K C) []) : C8.Cal P w K mg base 6 "ahead" (sp_ahead K C) [] := by
  refine C8.cal0 F b .nil sc_ahead (fun vs H Q E h => ?_) (fun cdv A outer s H vs Q E hr h => ?_)
  · obtain ⟨p, W, x, y, rfl, _⟩ := h
    rfl
  · obtain ⟨p, W, x, y, rfl, hL, hok, np, hx, hy, q⟩ := h
    obtain ⟨dx, ea, es, hp, hE, hP⟩ := hL.ex
    have o2 := hok.s2
    have hlt := rowsOf_lt hok
    have hrl := rowsOf_len hok
    refine ⟨_, (pss_cons (ps_expr (C8.pe_c c_check_question hr (by decide) (by rfl) (pa_cons (pv 0) (pa_cons (pv 1) (pa_cons (pv 2) pa_nil)))))
(pss_cons (ps_set (i := 3) sc_ahead.nd rfl (Or.inl rfl) (C8.pe_c c_bounds hr (by decide) (by rfl) (pa_cons (pv 0) pa_nil)))
(pss_cons (ps_asg (C8.pe_c c_longest hr (by decide) (by rfl) (pa_cons (pe_fldK K rfl (pv 0) rfl) (pa_cons (pv 3) (pa_cons (pv 1) pa_nil)))) (pg_tup (by rfl) (pgs_cons (pg_name (i := 4) sc_ahead.nd rfl (Or.inl rfl)) (pgs_cons (pg_name (i := 5) sc_ahead.nd rfl (Or.inl rfl)) pgs_nil))))
(pss_cons (ps_if (PW.pt (pw_and (pt_cmpR op_notN (pe_ix (ix_listK K rfl) (pv 4) (pv 2) (fun _ _ => rfl)) pe_non (nomark _)) (pw_and1 (pt_cmpR op_ge (pe_ix (ix_listK K rfl) (pv 4) (pv 2) (fun _ _ => rfl)) pe_int (nomark _)))))
(pss_one (ps_ret (pe_tup (pa_cons pe_str (pa_cons (C8.pe_c c_chain_to hr (by decide) (by rfl) (pa_cons (pv 3) (pa_cons (pv 5) (pa_cons (pv 2) pa_nil)))) pa_nil)))))
pss_nil)
(pss_cons (ps_asg (C8.pe_c c_longest hr (by decide) (by rfl) (pa_cons (pe_fldK K rfl (pv 0) rfl) (pa_cons (pv 3) (pa_cons (pv 2) pa_nil)))) (pg_tup (by rfl) (pgs_cons (pg_name (i := 4) sc_ahead.nd rfl (Or.inl rfl)) (pgs_cons (pg_name (i := 5) sc_ahead.nd rfl (Or.inl rfl)) pgs_nil))))
(pss_cons (ps_if (PW.pt (pw_and (pt_cmpR op_notN (pe_ix (ix_listK K rfl) (pv 4) (pv 1) (fun _ _ => rfl)) pe_non (nomark _)) (pw_and1 (pt_cmpR op_ge (pe_ix (ix_listK K rfl) (pv 4) (pv 1) (fun _ _ => rfl)) pe_int (nomark _)))))
(pss_one (ps_ret (pe_tup (pa_cons pe_str (pa_cons (C8.pe_c c_chain_to hr (by decide) (by rfl) (pa_cons (pv 3) (pa_cons (pv 5) (pa_cons (pv 1) pa_nil)))) pa_nil)))))
pss_nil)
(pss_one (ps_ret (pe_tup (pa_cons pe_str (pa_cons (C8.pe_c c_course_with hr (by decide) (by rfl) (pa_cons (pv 0) (pa_cons (pe_tup (pa_cons (pv 1) (pa_cons (pv 2) (pa_cons pe_int pa_nil)))) pa_nil))) (pa_cons (C8.pe_c c_course_with hr (by decide) (by rfl) (pa_cons (pv 0) (pa_cons (pe_tup (pa_cons (pv 2) (pa_cons (pv 1) (pa_cons pe_int pa_nil)))) pa_nil))) pa_nil)))))))))))), ?_⟩
    refine ⟨_, rfl, _, rfl, _, rfl, p, W, x, y, rfl, hL, hok, np, hx, hy, fun H1 sm1 => ?_⟩
    refine ⟨_, rfl, p, W, rfl, hL.mono sm1, hok, fun l rs H2 sm2 hl0 hl hrs => ?_⟩
    have sm02 := sm1.trans sm2
    have hrows : RowsAt K H2 l (rowsOf W) := ⟨rs, SqL.of hl, hrs⟩
    refine ⟨_, rfl, p, C, dx, _, _, rfl, sm02 _ _ hp, cl.cl, cl.nSize, lf_size _ _ _ _ _, _, rfl, _, rfl, l, W.size, x, rowsOf W, rfl, hrows, hlt, by omega, by omega, hx, fun t1 sa1 la1 s1 L1 H3 sm3 hsa10 hla10 ht1 hsa1 hla1 hres1 => ?_⟩
    have hl1 := hres1.run.len
    have hL1 := (hres1.np_lt hx hlt np).1
    have sm03 := sm02.trans sm3
    refine ⟨t1, _, rfl, SqT.of ht1, rfl, _, _, rfl, _, _, rfl, rfl, ?_⟩
    refine ⟨_, rfl, _, rfl, sa1, _, _, oV (gv s1 y), rfl, rfl, .inl (.inl hsa1), atI_nat (at_oV (by omega)), rfl, _, rfl, ?_⟩
    refine iteCut (p := ∃ a, gv s1 y = some a ∧ 1 ≤ a) (fun bb hbb => ?_) (fun h => ?_)
    rotate_left
    · cases hg : gv s1 y with
      | none => exact ifNF rfl (h false ⟨(fun z => by cases z), (fun ⟨a, z, _⟩ => by rw [hg] at z; cases z)⟩)
      | some a =>
        refine ifNT (by intro z; cases z) ?_
        exact ⟨_, rfl, _, rfl, sa1, _, _, .int a, rfl, rfl, .inl (.inl hsa1), atI_nat (by rw [at_oV (by omega), hg]; rfl), _, _, rfl, rfl, _, rfl, h _ ⟨fun z => ⟨a, hg, of_decide_eq_true z⟩, fun ⟨a', z1, z2⟩ => by rw [hg] at z1; cases z1; exact decide_eq_true z2⟩⟩
    cases bb with
    | true =>
      obtain ⟨a, hg, ha⟩ := hbb.mp rfl
      refine iteT ?_
      refine ⟨_, rfl, _, rfl, _, rfl, l, la1, W.size, y, rowsOf W, L1, rfl, hrows.mono sm3, hlt, hla1, hres1.run.levOk, by omega, hy, fun cl' H4 sm4 hc0 hc => ?_⟩
      refine ⟨by show 2 ≤ sizeLine; decide, fun t ht => ?_⟩
      have sm5 := same_new (o := .tup [.str "surely", .ref cl']) (Same.refl H4) ht
      obtain ⟨g1, g2⟩ := hres1.run.chain hx hg
      exact q t _ ((sm03.trans sm4).trans sm5) (.sure s1 L1 a cl' _ hres1 hg ha upd_same (sm5 _ _ hc) g1 (by rw [List.length_reverse]; exact g2))
    | false =>
      have no1 : ∀ a, gv s1 y = some a → ¬ 1 ≤ a := fun a h1 h2 => by
        have := hbb.mpr ⟨a, h1, h2⟩
        cases this
      refine iteF ?_
      refine ⟨_, rfl, p, C, dx, _, _, rfl, sm03 _ _ hp, cl.cl, cl.nSize, lf_size _ _ _ _ _, _, rfl, _, rfl, l, W.size, y, rowsOf W, rfl, hrows.mono sm3, hlt, by omega, by omega, hy, fun t2 sa2 la2 s2 L2 H4 sm4 hsa20 hla20 ht2 hsa2 hla2 hres2 => ?_⟩
      have hl2 := hres2.run.len
      have hL2 := (hres2.np_lt hy hlt np).1
      have sm04 := sm03.trans sm4
      refine ⟨t2, _, rfl, SqT.of ht2, rfl, _, _, rfl, _, _, rfl, rfl, ?_⟩
      refine ⟨_, rfl, _, rfl, sa2, _, _, oV (gv s2 x), rfl, rfl, .inl (.inl hsa2), atI_nat (at_oV (by omega)), rfl, _, rfl, ?_⟩
      refine iteCut (p := ∃ a, gv s2 x = some a ∧ 0 ≤ a) (fun bb2 hbb2 => ?_) (fun h => ?_)
      rotate_left
      · cases hg : gv s2 x with
        | none => exact ifNF rfl (h false ⟨(fun z => by cases z), (fun ⟨a, z, _⟩ => by rw [hg] at z; cases z)⟩)
        | some a =>
          refine ifNT (by intro z; cases z) ?_
          exact ⟨_, rfl, _, rfl, sa2, _, _, .int a, rfl, rfl, .inl (.inl hsa2), atI_nat (by rw [at_oV (by omega), hg]; rfl), _, _, rfl, rfl, _, rfl, h _ ⟨fun z => ⟨a, hg, of_decide_eq_true z⟩, fun ⟨a', z1, z2⟩ => by rw [hg] at z1; cases z1; exact decide_eq_true z2⟩⟩
      cases bb2 with
      | true =>
        obtain ⟨a, hg, ha⟩ := hbb2.mp rfl
        refine iteT ?_
        refine ⟨_, rfl, _, rfl, _, rfl, l, la2, W.size, x, rowsOf W, L2, rfl, hrows.mono (sm3.trans sm4), hlt, hla2, hres2.run.levOk, by omega, hx, fun cl' H5 sm5 hc0 hc => ?_⟩
        refine ⟨by show 2 ≤ sizeLine; decide, fun t ht => ?_⟩
        have sm6 := same_new (o := .tup [.str "never", .ref cl']) (Same.refl H5) ht
        obtain ⟨g1, g2⟩ := hres2.run.chain hy hg
        exact q t _ ((sm04.trans sm5).trans sm6) (.never s1 s2 L1 L2 a cl' _ hres1 no1 hres2 hg ha upd_same (sm6 _ _ hc) g1 (by rw [List.length_reverse]; exact g2))
      | false =>
        have no2 : ∀ a, gv s2 x = some a → ¬ 0 ≤ a := fun a h1 h2 => by
          have := hbb2.mpr ⟨a, h1, h2⟩
          cases this
        refine iteF ?_
        refine ⟨_, rfl, _, rfl, _, rfl, by show 3 ≤ sizeLine; decide, fun b1 hb1 => ?_⟩
        have sm5 := same_new (o := .tup [nV x, nV y, .int 1]) sm04 hb1
        refine ⟨p, W, .ref b1, (x, y, 1), rfl, hL.mono sm5, hok, ⟨b1, rfl, SqT.of upd_same⟩, hx, hy, fun l3 s3 L3 H6 sm6 hl30 hl3 hres3 => ?_⟩
        have sm06 := sm5.trans sm6
        refine ⟨_, rfl, _, rfl, _, rfl, by show 3 ≤ sizeLine; decide, fun b2 hb2 => ?_⟩
        have sm7 := same_new (o := .tup [nV y, nV x, .int 0]) sm06 hb2
        have hl37 : (upd H6 b2 (.tup [nV y, nV x, .int 0])) l3 = some (.lst (s3.map oV)) := (upd_ne (ne_of_none hl3 hb2)).trans hl3
        refine ⟨p, W, .ref b2, (y, x, 0), rfl, hL.mono sm7, hok, ⟨b2, rfl, SqT.of upd_same⟩, hy, hx, fun l4 s4 L4 H8 sm8 hl40 hl4 hres4 => ?_⟩
        refine ⟨by show 3 ≤ sizeLine; decide, fun t ht => ?_⟩
        have sm9 := same_new (o := .tup [.str "open", .ref l3, .ref l4]) (Same.refl H8) ht
        exact q t _ ((sm7.trans sm8).trans sm9) (.opn s1 s2 s3 s4 L1 L2 L3 L4 l3 l4 hres1 no1 hres2 no2 hres3 hres4 upd_same (sm9 _ _ (sm8 _ _ hl37)) (sm9 _ _ hl4))
end
end My
namespace My
open PySem L2
/-! ### judge_chain -/
section
variable {P : Program} {w : World} {K : PySem.W.Frag} {mg : Str → Option Value} {base : Heap}
theorem ok_judge_chain {C f : Addr} {fd : FuncData} (F : C8.Def K mg "judge_chain" s_judge_chain f fd) (b : Binds K fd ["log", "x", "y", "least", "chain"] []) (cl : ClsL K C) (T : Gb mg) (m_checked : C8.Met P w K mg base 1 C "checked" (sp_checked K C) []) (c_bounds : C8.Cal P w K mg base 3 "bounds" (sp_bounds K C) []) :
    C8.Cal P w K mg base 4 "judge_chain" (sp_judge_chain K C) [] := by
  refine C8.cal0 F b .nil sc_judge_chain (fun vs H Q E h => ?_) (fun cdv A outer s H vs Q E hr h => ?_)
  · obtain ⟨p, ca, W, x, y, y', least, a, c, rfl, _⟩ := h
    rfl
  · obtain ⟨p, ca, W, x, y, y', least, a, c, rfl, hL, hok, hx, hy, hca, hgo, q⟩ := h
    obtain ⟨dx, ea, es, hp, hE, hP⟩ := hL.ex
    have hrl := rowsOf_len hok
    refine ⟨_, (pss_cons (ps_expr (C8.pe_mt m_checked hr (by decide) (pv 0) (pa_cons (pv 1) pa_nil)))
(pss_cons (ps_expr (C8.pe_mt m_checked hr (by decide) (pv 0) (pa_cons (pv 2) pa_nil)))
(pss_cons (ps_set (i := 5) sc_judge_chain.nd rfl (Or.inl rfl) (C8.pe_c c_bounds hr (by decide) (by rfl) (pa_cons (pv 0) pa_nil)))
(pss_cons (ps_set (i := 6) sc_judge_chain.nd rfl (Or.inl rfl) (pv 1))
(pss_cons (ps_set (i := 7) sc_judge_chain.nd rfl (Or.inl rfl) pe_int)
(pss_cons (ps_for PassesOwn.never rfl (pi_listK K rfl (pv 4)) (pg_name (i := 8) sc_judge_chain.nd rfl (Or.inl rfl))
(pss_cons (ps_if (PW.pt (pw_or (pt_cmpR op_lt (pv 8) pe_int (nomark _)) (pw_or (pt_cmpR op_ge (pv 8) (pe_callB (call_lenK K rfl) (by rfl) T.len PySem.boot_len (pa_cons (pv 5) pa_nil)) (nomark _)) (pw_or1 (pt_cmpR op_ne (pe_ix (ix_tupK K rfl) (pe_ix (ix_listK K rfl) (pv 5) (pv 8) (fun _ _ => rfl)) pe_int (fun _ _ => rfl)) (pv 6) (nomark _))))))
(pss_one (ps_ret pe_bl))
pss_nil)
(pss_cons (ps_set (i := 6) sc_judge_chain.nd rfl (Or.inl rfl) (pe_ix (ix_tupK K rfl) (pe_ix (ix_listK K rfl) (pv 5) (pv 8) (fun _ _ => rfl)) pe_int (fun _ _ => rfl)))
(pss_one (ps_aug (i := 7) sc_judge_chain.nd rfl (.inl rfl) (pe_ix (ix_tupK K rfl) (pe_ix (ix_listK K rfl) (pv 5) (pv 8) (fun _ _ => rfl)) pe_int (fun _ _ => rfl)) ip_add)))))
(pss_one (ps_ret (pe_and (pe_cmpR op_eq (pv 6) (pv 2) (nomark _)) (pe_one (pe_cmpR op_ge (pv 7) (pv 3) (nomark _)))))))))))), ?_⟩
    refine ⟨_, rfl, p, dx, _, rfl, hp, lf_checked _ _ _ _ _, _, rfl, p, W, x, rfl, hL, hx, ?_⟩
    refine ⟨_, rfl, p, dx, _, rfl, hp, lf_checked _ _ _ _ _, _, rfl, p, W, y, rfl, hL, hy, ?_⟩
    refine ⟨_, rfl, p, W, rfl, hL, hok, fun l rs H1 sm1 hl0 hl hrs => ?_⟩
    have hrsl := hrs.length
    refine ⟨_, rfl, _, rfl, ca, rfl, ⟨_, sm1.seq hca⟩, for_it (walk_list (xs := c.map nV))
      (fun i σ H' => Same H1 H' ∧ ∃ v8, σ = [some (.ref p), some (nV x), some (nV y), some (.int least), some (.ref ca), some (.ref l), some (nV (plc (rowsOf W) x c i)), some (.int (((goC (rowsOf W) x 0 (c.take i)).map fun q => q.2).getD 0)), v8])
      ⟨Same.refl H1, _, rfl⟩ (fun i σ H' _ h => h.1.seq (sm1.seq hca)) ?_ ?_⟩
    · rintro i v σ H2 H2' hi ⟨sm2, v8, rfl⟩ ⟨rfl, hv⟩
      rw [List.getElem?_map] at hv
      obtain ⟨k, hk, rfl⟩ : ∃ k, c[i]? = some k ∧ v = nV k := by
        cases e : c[i]? with
        | none => rw [e] at hv; cases hv
        | some k => rw [e] at hv; exact ⟨k, rfl, (Option.some.inj hv).symm⟩
      obtain ⟨w1, hRk⟩ := plc_row hgo hk
      obtain ⟨xr, hxr, xa, rfl, hxt⟩ := paired_at2 hrs hRk
      have hkl : k < (rowsOf W).length := (List.getElem?_eq_some_iff.mp hRk).1
      have hl2 := sm2 _ _ hl
      have hxt2 := Same.tup sm2 hxt
      refine ⟨_, rfl, _, _, rfl, rfl, _, rfl, ?_⟩
      refine ifF (by omega) ?_
      refine ⟨_, rfl, _, rfl, l, rs, rfl, .inl (SqL.of hl2), _, _, rfl, rfl, _, rfl, ?_⟩
      refine ifF (by omega) ?_
      refine ⟨_, rfl, _, rfl, l, _, _, .ref xa, rfl, rfl, SqL.of hl2, atI_nat hxr, xa, _, 0, nV (plc (rowsOf W) x c i), rfl, rfl, hxt2, rfl, _, rfl, ?_⟩
      refine ⟨rfl, _, rfl, ?_⟩
      refine ifNF rfl ?_
      obtain ⟨a1, g1⟩ := plc_at hgo i
      obtain ⟨a2, g2⟩ := plc_at hgo (i + 1)
      have ga : a2 = a1 + w1 := by
        have h2 := g2
        rw [take_snoc hk, goC_app, g1] at h2
        have h3 : goC (rowsOf W) (plc (rowsOf W) x c i) a1 [k] = some (plc (rowsOf W) x c (i + 1), a2) := h2
        rw [goC_one hRk] at h3
        exact (congrArg Prod.snd (Option.some.inj h3)).symm
      rw [g1, g2]
      refine ⟨_, rfl, _, rfl, l, _, _, .ref xa, rfl, rfl, SqL.of hl2, atI_nat hxr, xa, _, 1, nV (plc (rowsOf W) x c (i + 1)), rfl, rfl, hxt2, rfl, ?_⟩
      refine ⟨_, rfl, _, rfl, _, rfl, l, _, _, .ref xa, rfl, rfl, SqL.of hl2, atI_nat hxr, xa, _, 2, .int w1, rfl, rfl, hxt2, rfl, _, _, rfl, rfl, ?_⟩
      refine ⟨sm2, some (nV k), ?_⟩
      rw [ga]
      rfl
    · rintro σ H2 ⟨sm2, v8, rfl⟩
      have hpl : plc (rowsOf W) x c (c.map nV).length = y' := by
        unfold plc
        rw [List.length_map, List.take_length, hgo]
        rfl
      rw [hpl, List.length_map, List.take_length, hgo]
      have h2 := q H2 (sm1.trans sm2)
      refine ⟨_, rfl, _, rfl, rfl, _, rfl, ?_⟩
      by_cases e : y' = y
      · refine ifT (by rw [e]) ?_
        rw [decide_eq_true e, Bool.true_and] at h2
        exact ⟨_, rfl, _, rfl, _, _, rfl, rfl, h2⟩
      · refine ifF (by intro z; exact e (Int.ofNat.inj (V.int.inj z))) ?_
        rw [decide_eq_false e, Bool.false_and] at h2
        exact h2
end
end My
namespace My
open PySem L2
/-! ### fits -/
section
variable {X : Cx} {K : PySem.W.Frag}
theorem pg_tupN {es : List Expr} {k n : Nat} {t : TGs} {pos : Pos} (hK : X.K = K) (hc : X.calm = true) (h : PGs X es t) (hn : (assignEach es X.env).length = n) (hst : (assignEach es X.env).findIdx? (·.1) = none := by rfl) : PG X (.Tuple es k pos) (gTup K n t) := by
  subst hK
  subst hn
  exact pg_tup hc h rfl hst
theorem cr_allK (hK : X.K = K) (hc : X.calm = true) : CallR X (.builtin "all") (rAll K) := hK ▸ cr_all hc
end
def holdsR (m : List Int) (r : Row) : Bool := decide (r.2.2 ≤ cellOf m r.2.1 - cellOf m r.1)
section
variable {P : Program} {w : World} {K : PySem.W.Frag} {mg : Str → Option Value} {base : Heap}
abbrev s_fits : Stmt := top 38
abbrev N_fits : List Str := ["log", "moments", "source", "target", "least"]
theorem sc_fits : FnScope N_fits ["log", "moments"] (C8.fnScope s_fits) := C8.fnScope_by (by decide +kernel)
def sp_fits (K : PySem.W.Frag) (C : Addr) : Sp := fun vs H Q _ => ∃ (p ma : Addr) (W : Wd) (m : List Int), vs = [.ref p, .ref ma] ∧ LogAt K C H p W ∧ W.Ok ∧ SqL K H ma (m.map V.int) ∧ m.length = W.size ∧ cellOf m 0 = 0 ∧ ∀ H', Same H H' → Q (.bl ((rowsOf W).all (holdsR m))) H'
theorem ok_fits {C f : Addr} {fd : FuncData} (F : C8.Def K mg "fits" s_fits f fd) (b : Binds K fd ["log", "moments"] []) (cl : ClsL K C) (T : Gb mg) (c_bounds : C8.Cal P w K mg base 3 "bounds" (sp_bounds K C) []) : C8.Cal P w K mg base 4 "fits" (sp_fits K C) [] := by
  refine C8.cal0 F b .nil sc_fits (fun vs H Q E h => ?_) (fun cdv A outer s H vs Q E hr h => ?_)
  · obtain ⟨p, ma, W, m, rfl, _⟩ := h
    rfl
  · obtain ⟨p, ma, W, m, rfl, hL, hok, hm, hml, hm0, q⟩ := h
    obtain ⟨dx, ea, es, hp, hE, hP⟩ := hL.ex
    have o1 := hok.s1
    have hlt := rowsOf_lt hok
    have hrl := rowsOf_len hok
    refine ⟨_, (pss_cons (ps_if (PW.pt (pw_or (pt_cmpR op_ne (pe_callB (call_lenK K rfl) (by rfl) T.len PySem.boot_len (pa_cons (pv 1) pa_nil)) (pe_fldK K rfl (pv 0) rfl) (nomark _)) (pw_or1 (pt_cmpR op_ne (pe_ix (ix_listK K rfl) (pv 1) pe_int (fun _ _ => rfl)) pe_int (nomark _)))))
(pss_one (ps_ret pe_bl))
pss_nil)
(pss_one (ps_ret (by exact (pe_callB (cr_allK rfl rfl) (by rfl) T.all (by decide +kernel) (pa_cons (pe_lc (own := [("source", 2), ("target", 3), ("least", 4)]) rfl sc_fits.nd (pi_listK K rfl (C8.pe_c c_bounds hr (by decide) (by rfl) (pa_cons (pv 0) pa_nil))) (blkOk_by (N := N_fits) (sc := C8.fnScope s_fits) (by decide +kernel)) (fun _ _ _ _ _ => (pg_tupN (n := 3) rfl rfl (pgs_cons (pg_name (i := 2) sc_fits.nd rfl (Or.inl rfl)) (pgs_cons (pg_name (i := 3) sc_fits.nd rfl (Or.inl rfl)) (pgs_cons (pg_name (i := 4) sc_fits.nd rfl (Or.inl rfl)) pgs_nil))) rfl)) (fun _ _ _ _ _ => pts_nil) (fun _ _ _ _ _ => (pe_cmpR op_ge (pe_op op_sub (pe_ix (ix_listK K rfl) (pv 1) (pv 3) (fun _ _ => rfl)) (pe_ix (ix_listK K rfl) (pv 1) (pv 2) (fun _ _ => rfl))) (pv 4) (nomark _)))) pa_nil)))))), ?_⟩
    refine ⟨_, rfl, ma, _, rfl, .inl hm, _, rfl, p, C, dx, _, _, rfl, hp, cl.cl, cl.nSize, lf_size _ _ _ _ _, rfl, _, rfl, ?_⟩
    rw [List.length_map]
    refine ifNF (by rw [hml]) ?_
    refine ⟨_, rfl, ma, _, 0, .int 0, rfl, rfl, hm, by have := atI_cell (ns := m) (j := 0) (by omega); rw [hm0] at this; exact this, rfl, _, rfl, ?_⟩
    refine ifNF rfl ?_
    refine ⟨_, rfl, p, W, rfl, hL, hok, fun l rs H1 sm1 hl0 hl hrs => ?_⟩
    have hrsl := hrs.length
    refine ⟨l, rfl, ⟨rs, SqL.of hl⟩, fun D hD => lc_it (walk_list (xs := rs))
      (fun i H' => Same H1 H' ∧ H' D = some (.lst ((((rowsOf W).take i).map (holdsR m)).map V.bl)))
      ⟨same_new (Same.refl _) hD, upd_same⟩ (fun i H' _ h => SqL.of (h.1 _ _ hl)) ?_ ?_⟩
    · rintro i x H2 H2' hi ⟨sm2, hD2⟩ ⟨rfl, hx⟩
      obtain ⟨⟨sp, tp, lw⟩, hr1, xa, rfl, hxt⟩ := paired_at hrs hx
      obtain ⟨hs1, ht1⟩ := hlt _ (List.mem_of_getElem? hr1)
      have hm2 := (sm1.trans sm2).seq hm
      refine ⟨xa, _, rfl, Same.tup sm2 hxt, rfl, _, _, rfl, _, _, rfl, _, _, rfl, rfl, ?_⟩
      have hs2 : sp < W.size := hs1
      have ht2 : tp < W.size := ht1
      rw [← hml] at hs2 ht2
      refine ⟨rfl, yes_go ?_⟩
      refine ⟨_, rfl, _, rfl, ma, _, _, .int (cellOf m tp), rfl, rfl, hm2, atI_cell ht2, _, rfl, _, rfl, ma, _, _, .int (cellOf m sp), rfl, rfl, hm2, atI_cell hs2, _, _, rfl, rfl, _, rfl, _, _, rfl, rfl, ?_⟩
      refine ⟨_, hD2, size_lt (by rw [List.length_map, List.length_map, List.length_take]; omega), same_mut sm2 hD, ?_⟩
      rw [upd_same, take_snoc hr1, List.map_append, List.map_append]
      rfl
    · rintro H2 ⟨sm2, hD2⟩
      rw [hrsl, List.take_length] at hD2
      refine ⟨D, (rowsOf W).map (holdsR m), rfl, SqL.of hD2, ?_⟩
      rw [List.all_map]
      exact q H2 (sm1.trans sm2)
end
end My
namespace My
open PySem L2
/-! ### trust -/
section
variable {P : Program} {w : World} {K : PySem.W.Frag} {mg : Str → Option Value} {base : Heap}
abbrev s_has_course : Stmt := top 45
abbrev N_has_course : List Str := ["log"]
theorem sc_has_course : FnScope N_has_course ["log"] (C8.fnScope s_has_course) := C8.fnScope_by (by decide +kernel)
def sp_has_course (K : PySem.W.Frag) (C : Addr) : Sp := fun vs H Q _ => ∃ (p : Addr) (W : Wd), vs = [.ref p] ∧ LogAt K C H p W ∧ W.Ok ∧ ∀ (bb : Bool) H', Same H H' → (bb = true ↔ NP (rowsOf W) W.size) → Q (.bl bb) H'
theorem ok_has_course {C CN f : Addr} {fd : FuncData} (F : C8.Def K mg "has_course" s_has_course f fd) (b : Binds K fd ["log"] []) (NC : NoC P w K mg base CN) (te : PySem.W.exmOne K (.ref CN) (.ref CN) = some true) (x_earliest : CalX P w K mg base 4 "earliest" (sp_earliest K C CN)) : C8.Cal P w K mg base 5 "has_course" (sp_has_course K C) [] := by
  obtain ⟨fe, fde, pse, Fe, ge, ke, be⟩ := x_earliest.ex
  refine C8.cal0 F b .nil sc_has_course (fun vs H Q E h => ?_) (fun cdv A outer s H vs Q E hr h => ?_)
  · obtain ⟨p, W, rfl, _⟩ := h
    rfl
  · obtain ⟨p, W, rfl, hL, hok, q⟩ := h
    refine ⟨_, (pss_cons (ps_try_only (c := .ref CN) (tb := fun W => tDrop (tCallS (sp_earliest K C CN) (WE W) (tCons (tVar 0) tNil))) (ts := fun _ _ _ => tRet (tC (.bl false))) (Wout := fun _ _ _ _ => False) rfl rfl ⟨by rfl, by decide, Or.inl NC.g⟩ takes0
      (fun W pn xe tk _ => pss_one (ps_expr (by exact (pe_callS Fe (hr.mono (by decide)) (by rfl) ge ke be (fun σ => passAt tk σ) (by exact (pa_cons (pv 0) pa_nil))))))
      (fun a oe cls d pn hz hf => pss_one (ps_ret pe_bl)))
(pss_one (ps_ret pe_bl))), ?_⟩
    exact ⟨_, rfl, p, W, rfl, hL, hok, fun np l s L H' sm _ _ _ => q true H' sm ⟨fun _ => np, fun _ => rfl⟩, fun n d l r H' sm _ _ _ _ _ => ⟨true, te, fun _ a _ => q false H' sm ⟨(fun z => by cases z), fun z => absurd z n⟩, fun z => by cases z⟩⟩
end
end My
namespace My
open PySem L2
/-! ### lateness: greater, and less is known -/
def sureP (R : List Row) (x y : Nat) : Prop := ∃ n w, Wk R x y n w ∧ 1 ≤ w
theorem row_late {W : Wd} {l l' : Nat} (h : l ≤ l') {r : Row} (hr : r ∈ rowsOf (W.at l')) : ∃ b, r.2.2 ≤ b ∧ (r.1, r.2.1, b) ∈ rowsOf (W.at l) := by
  rcases List.mem_append.mp hr with hr | hr
  · exact ⟨r.2.2, Int.le_refl _, List.mem_append_left _ hr⟩
  · obtain ⟨e, he, hr⟩ := List.mem_flatMap.mp hr
    have put : ∀ q : Row, q ∈ entRows W.fast W.slow l e → q ∈ rowsOf (W.at l) := fun q hq => List.mem_append_right _ (List.mem_flatMap.mpr ⟨e, he, hq⟩)
    cases e with
    | noted i t =>
      simp only [entRows, List.mem_cons, List.mem_nil_iff, or_false] at hr
      rcases hr with rfl | rfl
      · refine ⟨(t : Int) - (l : Int), ?_, put _ (List.mem_cons_self)⟩
        show (t : Int) - (l' : Int) ≤ (t : Int) - (l : Int)
        omega
      · exact ⟨_, Int.le_refl _, put _ (by simp [entRows])⟩
    | after i j t => exact ⟨_, Int.le_refl _, put _ hr⟩
    | shown i j t => exact ⟨_, Int.le_refl _, put _ hr⟩
theorem Wk.late {W : Wd} {l l' : Nat} (h : l ≤ l') {i j n : Nat} {w : Int} (hw : Wk (rowsOf (W.at l')) i j n w) : ∃ w', w ≤ w' ∧ Wk (rowsOf (W.at l)) i j n w' := by
  induction hw with
  | nil => exact ⟨0, Int.le_refl _, .nil _⟩
  | @snoc k j n w l0 _ e ih =>
    obtain ⟨a, h1, h2⟩ := ih
    obtain ⟨b, h3, h4⟩ := row_late h e
    have h3' : l0 ≤ b := h3
    exact ⟨a + b, by omega, .snoc h2 h4⟩
theorem np_late {W : Wd} {l l' : Nat} (h : l ≤ l') (np : NP (rowsOf (W.at l)) W.size) : NP (rowsOf (W.at l')) W.size := fun i n w hi hw => by
  obtain ⟨w', h1, h2⟩ := hw.late h
  have := np i n w' hi h2
  omega
theorem sure_late {W : Wd} {l l' : Nat} (h : l ≤ l') {x y : Nat} (s : sureP (rowsOf (W.at l')) x y) : sureP (rowsOf (W.at l)) x y := by
  obtain ⟨n, w, hw, h1⟩ := s
  obtain ⟨w', h2, h3⟩ := hw.late h
  exact ⟨n, w', h3, by omega⟩
theorem Wd.Ok.at {W : Wd} (h : W.Ok) {l : Nat} (hl : l ≤ 60) : (W.at l).Ok := ⟨h.s1, h.s2, h.n, h.e, h.r1, h.r2, h.r3, hl⟩
/-- what ahead says first -/
theorem AhR.word {R : List Row} {N x y : Nat} {t : Addr} {H : Hp} (hR : RowsLt R N) (np : NP R N) (hx : x < N) (hy : y < N) (h : AhR R N x y t H) :
    ∃ (word : Str) (vs : List V), H t = some (.tup (.str word :: vs)) ∧ ((word = "surely" ∧ sureP R x y) ∨ ((word = "never" ∨ word = "open") ∧ ¬ sureP R x y)) := by
  have no : ∀ (s : List Val) (L : List By), LRes R N x s L → (∀ a, gv s y = some a → ¬ 1 ≤ a) → ¬ sureP R x y := fun s L hres hno ⟨n, w, hw, h1⟩ => by
    obtain ⟨_, st⟩ := hres.np_lt hx hR np
    obtain ⟨a0, h0, h00⟩ := hres.run.source hx
    obtain ⟨b, hb, hle⟩ := st.walk hw h0
    exact hno b hb (by omega)
  cases h with
  | sure s L a l c hres hg ha ht _ _ _ =>
    obtain ⟨n, hw⟩ := hres.run.walk hx hg
    exact ⟨_, _, ht, .inl ⟨rfl, n, a, hw, ha⟩⟩
  | never s1 s2 L1 L2 a l c hres1 hno _ _ _ ht _ _ _ => exact ⟨_, _, ht, .inr ⟨.inl rfl, no s1 L1 hres1 hno⟩⟩
  | opn s1 s2 s3 s4 L1 L2 L3 L4 l1 l2 hres1 hno _ _ _ _ ht _ _ => exact ⟨_, _, ht, .inr ⟨.inr rfl, no s1 L1 hres1 hno⟩⟩
def doubtP (W : Wd) (l x y : Nat) : Prop := NP (rowsOf (W.at l)) W.size ∧ ¬ sureP (rowsOf (W.at l)) x y
section
variable {P : Program} {w : World} {K : PySem.W.Frag} {mg : Str → Option Value} {base : Heap}
abbrev s_in_doubt : Stmt := top 46
abbrev N_in_doubt : List Str := ["log", "x", "y"]
theorem sc_in_doubt : FnScope N_in_doubt ["log", "x", "y"] (C8.fnScope s_in_doubt) := C8.fnScope_by (by decide +kernel)
def sp_in_doubt (K : PySem.W.Frag) (C : Addr) : Sp := fun vs H Q _ => ∃ (p : Addr) (W : Wd) (x y : Nat), vs = [.ref p, nV x, nV y] ∧ LogAt K C H p W ∧ W.Ok ∧ x < W.size ∧ y < W.size ∧ ∀ (bb : Bool) H', Same H H' → (bb = true ↔ NP (rowsOf W) W.size ∧ ¬ sureP (rowsOf W) x y) → Q (.bl bb) H'
theorem ok_in_doubt {C f : Addr} {fd : FuncData} (F : C8.Def K mg "in_doubt" s_in_doubt f fd) (b : Binds K fd ["log", "x", "y"] []) (c_has_course : C8.Cal P w K mg base 5 "has_course" (sp_has_course K C) []) (c_ahead : C8.Cal P w K mg base 6 "ahead" (sp_ahead K C) []) : C8.Cal P w K mg base 7 "in_doubt" (sp_in_doubt K C) [] := by
  refine C8.cal0 F b .nil sc_in_doubt (fun vs H Q E h => ?_) (fun cdv A outer s H vs Q E hr h => ?_)
  · obtain ⟨p, W, x, y, rfl, _⟩ := h
    rfl
  · obtain ⟨p, W, x, y, rfl, hL, hok, hx, hy, q⟩ := h
    have hlt := rowsOf_lt hok
    refine ⟨_, (pss_one (ps_ret (pe_and (C8.pe_c c_has_course hr (by decide) (by rfl) (pa_cons (pv 0) pa_nil)) (pe_one (pe_cmpR op_ne (pe_ix (ix_tupK K rfl) (C8.pe_c c_ahead hr (by decide) (by rfl) (pa_cons (pv 0) (pa_cons (pv 1) (pa_cons (pv 2) pa_nil)))) pe_int (fun _ _ => rfl)) pe_str (nomark _)))))), ?_⟩
    refine ⟨_, rfl, p, W, rfl, hL, hok, fun bb H1 sm1 hbb => ?_⟩
    refine ⟨bb, rfl, ?_⟩
    cases bb with
    | false =>
      refine iteF ?_
      exact q false H1 sm1 ⟨(fun z => by cases z), fun z => absurd (hbb.mpr z.1) (by decide)⟩
    | true =>
      have np := hbb.mp rfl
      refine iteT ?_
      refine ⟨_, rfl, _, rfl, _, rfl, p, W, x, y, rfl, hL.mono sm1, hok, np, hx, hy, fun t H2 sm2 ha => ?_⟩
      obtain ⟨word, vs, ht, hw⟩ := ha.word hlt np hx hy
      refine ⟨t, _, 0, .str word, rfl, rfl, SqT.of ht, atI_nat (j := 0) rfl, rfl, ?_⟩
      have sm := sm1.trans sm2
      rcases hw with ⟨rfl, hs⟩ | ⟨rfl | rfl, hs⟩
      · refine q _ H2 sm ⟨fun z => absurd z (by decide +kernel), fun z => absurd hs z.2⟩
      · exact q _ H2 sm ⟨fun _ => ⟨np, hs⟩, fun _ => by decide +kernel⟩
      · exact q _ H2 sm ⟨fun _ => ⟨np, hs⟩, fun _ => by decide +kernel⟩
abbrev s_least_late : Stmt := top 47
abbrev N_least_late : List Str := ["log", "low", "high", "middle"]
theorem sc_least_late : FnScope N_least_late ["log"] (C8.fnScope s_least_late) := C8.fnScope_by (by decide +kernel)
def sp_least_late (K : PySem.W.Frag) (C : Addr) : Sp := fun vs H Q _ => ∃ (p : Addr) (W : Wd), vs = [.ref p] ∧ LogAt K C H p W ∧ W.Ok ∧ NP (rowsOf (W.at 60)) W.size ∧ ∀ (l : Nat) H', Same H H' → l ≤ 60 → NP (rowsOf (W.at l)) W.size → (l = 0 ∨ ¬ NP (rowsOf (W.at (l - 1))) W.size) → Q (nV l) H'
theorem ok_least_late {C f : Addr} {fd : FuncData} (F : C8.Def K mg "least_late" s_least_late f fd) (b : Binds K fd ["log"] []) (T : Gb mg) (c_has_course : C8.Cal P w K mg base 5 "has_course" (sp_has_course K C) []) (m_with_late : C8.Met P w K mg base 4 C "with_late" (sp_with_late K C) []) : C8.Cal P w K mg base 6 "least_late" (sp_least_late K C) [] := by
  refine C8.cal0 F b .nil sc_least_late (fun vs H Q E h => ?_) (fun cdv A outer s H vs Q E hr h => ?_)
  · obtain ⟨p, W, rfl, _⟩ := h
    rfl
  · obtain ⟨p, W, rfl, hL, hok, np60, q⟩ := h
    obtain ⟨dx, ea, es, hp, _, _⟩ := hL.ex
    refine ⟨_, (pss_cons (ps_set (i := 1) sc_least_late.nd rfl (Or.inl rfl) (pe_un un_neg pe_int))
(pss_cons (ps_set (i := 2) sc_least_late.nd rfl (Or.inl rfl) (C8.pe_gc (by rfl) T.MOST_LATE))
(pss_cons (ps_if (pt_not (pt_val (C8.pe_c c_has_course hr (by decide) (by rfl) (pa_cons (C8.pe_mt m_with_late hr (by decide) (pv 0) (pa_cons (pv 2) pa_nil)) pa_nil))))
(pss_one (ps_ret pe_non))
pss_nil)
(pss_cons (ps_while PassesOwn.never (pt_cmpR op_gt (pe_op op_sub (pv 2) (pv 1)) pe_int (nomark _))
(pss_cons (ps_set (i := 3) sc_least_late.nd rfl (Or.inl rfl) (pe_op op_fdiv (pe_op op_add (pv 1) (pv 2)) pe_int))
(pss_one (ps_if (pt_val (C8.pe_c c_has_course hr (by decide) (by rfl) (pa_cons (C8.pe_mt m_with_late hr (by decide) (pv 0) (pa_cons (pv 3) pa_nil)) pa_nil)))
(pss_one (ps_set (i := 2) sc_least_late.nd rfl (Or.inl rfl) (pv 3)))
(pss_one (ps_set (i := 1) sc_least_late.nd rfl (Or.inl rfl) (pv 3)))))))
(pss_one (ps_ret (pv 2))))))), ?_⟩
    refine ⟨1, rfl, ?_⟩
    refine ⟨_, rfl, p, dx, _, rfl, hp, rfl, _, rfl, p, W, 60, rfl, hL, hok, by omega, fun p1 H1 sm1 hL1 => ⟨p1, W.at 60, rfl, hL1, hok.at (by omega), fun bb H2 sm2 hbb => ⟨bb, rfl, ?_⟩⟩⟩
    have e1 : bb = true := hbb.mpr np60
    subst e1
    refine iteF ?_
    refine ⟨fun m σ H' => Same H H' ∧ ∃ (lo hi : Nat) (v3 : Option V), σ = [some (.ref p), some (.int ((lo : Int) - 1)), some (nV hi), v3] ∧ lo ≤ hi ∧ hi ≤ 60 ∧ NP (rowsOf (W.at hi)) W.size ∧ (lo = 0 ∨ ¬ NP (rowsOf (W.at (lo - 1))) W.size) ∧ m = hi - lo,
      ⟨60, sm1.trans sm2, 0, 60, none, rfl, by omega, by omega, np60, .inl rfl, rfl⟩, ?_⟩
    rintro m σ H3 ⟨sm3, lo, hi, v3, rfl, h1, h2, h3, h4, rfl⟩
    refine ⟨_, rfl, _, rfl, _, _, rfl, rfl, _, _, rfl, rfl, _, rfl, ?_⟩
    refine ite2 (fun hg => ?_) (fun hg => ?_)
    · have hg' : lo < hi := by have := of_decide_eq_true hg; omega
      obtain ⟨md, hmd⟩ : ∃ md : Nat, ((lo : Int) - 1 + (hi : Int)) / 2 = (md : Int) := ⟨(((lo : Int) - 1 + (hi : Int)) / 2).toNat, by omega⟩
      refine ⟨fun σ' H' => Same H H' ∧ ∃ (lo' hi' : Nat) (v3 : Option V), σ' = [some (.ref p), some (.int ((lo' : Int) - 1)), some (nV hi'), v3] ∧ lo' ≤ hi' ∧ hi' ≤ 60 ∧ NP (rowsOf (W.at hi')) W.size ∧ (lo' = 0 ∨ ¬ NP (rowsOf (W.at (lo' - 1))) W.size) ∧ hi' - lo' < hi - lo, ?_, ?_⟩
      · rintro σ' H' ⟨a1, lo', hi', v, a2, a3, a4, a5, a6, a7⟩
        exact ⟨_, a7, a1, lo', hi', v, a2, a3, a4, a5, a6, rfl⟩
      refine ⟨_, rfl, _, rfl, _, _, rfl, rfl, _, _, rfl, rfl, ⟨by decide, by decide⟩, ?_⟩
      dsimp only
      rw [hmd]
      refine ⟨_, rfl, p, dx, _, rfl, sm3 _ _ hp, rfl, _, rfl, p, W, md, rfl, hL.mono sm3, hok, by omega, fun p4 H4 sm4 hL4 => ⟨p4, W.at md, rfl, hL4, hok.at (by omega), fun bb H5 sm5 hbb2 => ⟨bb, rfl, ?_⟩⟩⟩
      have smE := (sm3.trans sm4).trans sm5
      cases bb with
      | true =>
        refine iteT ?_
        refine ⟨_, rfl, smE, lo, md, _, rfl, by omega, by omega, hbb2.mp rfl, h4, by omega⟩
      | false =>
        refine iteF ?_
        refine ⟨_, rfl, smE, md + 1, hi, some (nV md), ?_, by omega, by omega, h3, .inr (fun z => ?_), by omega⟩
        · show [some (V.ref p), some (V.int (md : Int)), some (nV hi), some (nV md)] = _
          rw [show ((md + 1 : Nat) : Int) - 1 = (md : Int) by omega]
        · have := hbb2.mpr z
          cases this
    · have hg' : lo = hi := by have := mt decide_eq_true hg; omega
      subst hg'
      exact ⟨_, rfl, q lo H3 sm3 h2 h3 h4⟩
abbrev s_trust : Stmt := top 48
abbrev N_trust : List Str := ["log", "x", "y", "low", "high", "middle"]
theorem sc_trust : FnScope N_trust ["log", "x", "y"] (C8.fnScope s_trust) := C8.fnScope_by (by decide +kernel)
def sp_trust (K : PySem.W.Frag) (C : Addr) : Sp := fun vs H Q _ => ∃ (p : Addr) (W : Wd) (x y : Nat), vs = [.ref p, nV x, nV y] ∧ LogAt K C H p W ∧ W.Ok ∧ x < W.size ∧ y < W.size ∧
  ∀ (k : Nat) H', Same H H' → k ≤ 61 → (k = 61 ∨ doubtP W k x y) → (k = 0 ∨ ¬ doubtP W (k - 1) x y) → ((k = 0 ∨ ¬ NP (rowsOf (W.at (k - 1))) W.size) → Q .non H') ∧ (1 ≤ k → NP (rowsOf (W.at (k - 1))) W.size → Q (nV (k - 1)) H')
theorem ok_trust {C f : Addr} {fd : FuncData} (F : C8.Def K mg "trust" s_trust f fd) (b : Binds K fd ["log", "x", "y"] []) (T : Gb mg) (c_has_course : C8.Cal P w K mg base 5 "has_course" (sp_has_course K C) []) (c_in_doubt : C8.Cal P w K mg base 7 "in_doubt" (sp_in_doubt K C) [])
    (m_with_late : C8.Met P w K mg base 4 C "with_late" (sp_with_late K C) []) (m_checked : C8.Met P w K mg base 1 C "checked" (sp_checked K C) []) : C8.Cal P w K mg base 8 "trust" (sp_trust K C) [] := by
  refine C8.cal0 F b .nil sc_trust (fun vs H Q E h => ?_) (fun cdv A outer s H vs Q E hr h => ?_)
  · obtain ⟨p, W, x, y, rfl, _⟩ := h
    rfl
  · obtain ⟨p, W, x, y, rfl, hL, hok, hx, hy, q⟩ := h
    obtain ⟨dx, ea, es, hp, _, _⟩ := hL.ex
    refine ⟨_, (pss_cons (ps_expr (C8.pe_mt m_checked hr (by decide) (pv 0) (pa_cons (pv 1) pa_nil)))
(pss_cons (ps_expr (C8.pe_mt m_checked hr (by decide) (pv 0) (pa_cons (pv 2) pa_nil)))
(pss_cons (ps_set (i := 3) sc_trust.nd rfl (Or.inl rfl) (pe_un un_neg pe_int))
(pss_cons (ps_set (i := 4) sc_trust.nd rfl (Or.inl rfl) (pe_op op_add (C8.pe_gc (by rfl) T.MOST_LATE) pe_int))
(pss_cons (ps_while PassesOwn.never (pt_cmpR op_gt (pe_op op_sub (pv 4) (pv 3)) pe_int (nomark _))
(pss_cons (ps_set (i := 5) sc_trust.nd rfl (Or.inl rfl) (pe_op op_fdiv (pe_op op_add (pv 3) (pv 4)) pe_int))
(pss_one (ps_if (pt_val (C8.pe_c c_in_doubt hr (by decide) (by rfl) (pa_cons (C8.pe_mt m_with_late hr (by decide) (pv 0) (pa_cons (pv 5) pa_nil)) (pa_cons (pv 1) (pa_cons (pv 2) pa_nil)))))
(pss_one (ps_set (i := 4) sc_trust.nd rfl (Or.inl rfl) (pv 5)))
(pss_one (ps_set (i := 3) sc_trust.nd rfl (Or.inl rfl) (pv 5)))))))
(pss_cons (ps_if (PW.pt (pw_or (pt_cmpR op_lt (pv 3) pe_int (nomark _)) (pw_or1 (pt_not (pt_val (C8.pe_c c_has_course hr (by decide) (by rfl) (pa_cons (C8.pe_mt m_with_late hr (by decide) (pv 0) (pa_cons (pv 3) pa_nil)) pa_nil)))))))
(pss_one (ps_ret pe_non))
pss_nil)
(pss_one (ps_ret (pv 3))))))))), ?_⟩
    refine ⟨_, rfl, p, dx, _, rfl, hp, lf_checked _ _ _ _ _, _, rfl, p, W, x, rfl, hL, hx, ?_⟩
    refine ⟨_, rfl, p, dx, _, rfl, hp, lf_checked _ _ _ _ _, _, rfl, p, W, y, rfl, hL, hy, ?_⟩
    refine ⟨1, rfl, ?_⟩
    refine ⟨_, _, rfl, rfl, ?_⟩
    refine ⟨fun m σ H' => Same H H' ∧ ∃ (lo hi : Nat) (v3 : Option V), σ = [some (.ref p), some (nV x), some (nV y), some (.int ((lo : Int) - 1)), some (nV hi), v3] ∧ lo ≤ hi ∧ hi ≤ 61 ∧ (hi = 61 ∨ doubtP W hi x y) ∧ (lo = 0 ∨ ¬ doubtP W (lo - 1) x y) ∧ m = hi - lo,
      ⟨61, Same.refl _, 0, 61, none, rfl, by omega, by omega, .inl rfl, .inl rfl, rfl⟩, ?_⟩
    rintro m σ H3 ⟨sm3, lo, hi, v3, rfl, h1, h2, h3, h4, rfl⟩
    refine ⟨_, rfl, _, rfl, _, _, rfl, rfl, _, _, rfl, rfl, _, rfl, ?_⟩
    refine ite2 (fun hg => ?_) (fun hg => ?_)
    · have hg' : lo < hi := by have := of_decide_eq_true hg; omega
      obtain ⟨md, hmd⟩ : ∃ md : Nat, ((lo : Int) - 1 + (hi : Int)) / 2 = (md : Int) := ⟨(((lo : Int) - 1 + (hi : Int)) / 2).toNat, by omega⟩
      refine ⟨fun σ' H' => Same H H' ∧ ∃ (lo' hi' : Nat) (v3 : Option V), σ' = [some (.ref p), some (nV x), some (nV y), some (.int ((lo' : Int) - 1)), some (nV hi'), v3] ∧ lo' ≤ hi' ∧ hi' ≤ 61 ∧ (hi' = 61 ∨ doubtP W hi' x y) ∧ (lo' = 0 ∨ ¬ doubtP W (lo' - 1) x y) ∧ hi' - lo' < hi - lo, ?_, ?_⟩
      · rintro σ' H' ⟨a1, lo', hi', v, a2, a3, a4, a5, a6, a7⟩
        exact ⟨_, a7, a1, lo', hi', v, a2, a3, a4, a5, a6, rfl⟩
      refine ⟨_, rfl, _, rfl, _, _, rfl, rfl, _, _, rfl, rfl, ⟨by decide, by decide⟩, ?_⟩
      dsimp only
      rw [hmd]
      refine ⟨_, rfl, p, dx, _, rfl, sm3 _ _ hp, rfl, _, rfl, p, W, md, rfl, hL.mono sm3, hok, by omega, fun p4 H4 sm4 hL4 => ⟨_, rfl, _, rfl, p4, W.at md, x, y, rfl, hL4, hok.at (by omega), hx, hy, fun bb H5 sm5 hbb2 => ⟨bb, rfl, ?_⟩⟩⟩
      have smE := (sm3.trans sm4).trans sm5
      cases bb with
      | true =>
        refine iteT ?_
        refine ⟨_, rfl, smE, lo, md, _, rfl, by omega, by omega, .inr (hbb2.mp rfl), h4, by omega⟩
      | false =>
        refine iteF ?_
        refine ⟨_, rfl, smE, md + 1, hi, some (nV md), ?_, by omega, by omega, h3, .inr (fun z => ?_), by omega⟩
        · show [some (V.ref p), some (nV x), some (nV y), some (V.int (md : Int)), some (nV hi), some (nV md)] = _
          rw [show ((md + 1 : Nat) : Int) - 1 = (md : Int) by omega]
        · have := hbb2.mpr z
          cases this
    · have hg' : lo = hi := by have := mt decide_eq_true hg; omega
      subst hg'
      refine ⟨_, rfl, _, _, rfl, rfl, _, rfl, ?_⟩
      refine ite2 (fun h0 => ?_) (fun h0 => ?_)
      · have h0' : lo = 0 := by have := of_decide_eq_true h0; omega
        refine iteT ?_
        exact (q lo H3 sm3 h2 h3 h4).1 (.inl h0')
      · have h0' : 1 ≤ lo := by have := mt decide_eq_true h0; omega
        refine ⟨_, rfl, p, dx, _, rfl, sm3 _ _ hp, rfl, _, rfl, p, W, lo - 1, ?_, hL.mono sm3, hok, by omega, fun p4 H4 sm4 hL4 => ⟨p4, W.at (lo - 1), rfl, hL4, hok.at (by omega), fun bb H5 sm5 hbb2 => ⟨bb, rfl, ?_⟩⟩⟩
        · rw [show ((lo : Int) - 1) = ((lo - 1 : Nat) : Int) by omega] <;> rfl
        have smE := (sm3.trans sm4).trans sm5
        cases bb with
        | true =>
          refine iteF ?_
          refine ⟨_, rfl, ?_⟩
          rw [show ((lo : Int) - 1) = ((lo - 1 : Nat) : Int) by omega]
          exact (q lo H5 smE h2 h3 h4).2 h0' (hbb2.mp rfl)
        | false =>
          refine iteT ?_
          exact (q lo H5 smE h2 h3 h4).1 (.inr fun z => by have := hbb2.mpr z; cases this)
end
end My
namespace My
open PySem L2
/-! ### the text of a log -/
def rateParts (W : Wd) : List Str := if W.fast = 1 then [] else ["rates", num W.fast, num W.slow]
def lateParts (W : Wd) : List Str := if W.late = 0 then [] else ["late", num W.late]
def tailParts (W : Wd) : List Str := rateParts W ++ lateParts W
def headParts (W : Wd) : List Str := "log" :: num W.size :: tailParts W
def headS (W : Wd) : Str := Txt.join " " (headParts W)
def Ent.head : Ent → Str
  | .noted _ _ => "noted"
  | .after _ _ _ => "after"
  | .shown _ _ _ => "shown"
def Ent.nums : Ent → List Nat
  | .noted e t => [e, t]
  | .after i j t => [i, j, t]
  | .shown i j t => [i, j, t]
theorem Ent.head_eq (e : Ent) : e.head = Str.ofString "noted" ∨ e.head = Str.ofString "after" ∨ e.head = Str.ofString "shown" := by
  cases e
  · exact .inl rfl
  · exact .inr (.inl rfl)
  · exact .inr (.inr rfl)
theorem Ent.vs_eq (e : Ent) : e.vs = .str e.head :: e.nums.map nV := by cases e <;> rfl
theorem Ent.nums_eq (e : Ent) : e.nums = e.evs ++ [e.last] := by cases e <;> rfl
def entParts (e : Ent) : List Str := e.head :: e.nums.map num
def entS (e : Ent) : Str := Txt.join " " (entParts e)
def lines (W : Wd) : List Str := headS W :: (W.ents.map entS ++ [Str.ofString "end"])
def logText (W : Wd) : Str := Txt.join "\n" (lines W)
theorem sp_tl : TL.tl (Str.ofString " ") = 32 :: [] := by decide +kernel
theorem nl_tl : TL.tl (Str.ofString "\n") = 10 :: [] := by decide +kernel
theorem num_free {n s : Nat} (h : s < 48 ∨ 57 < s) : s ∉ TL.tl (num n) := by
  have : TL.tl (num n) = TL.numL n := num_list n
  rw [this]
  exact TL.numL_free h
theorem tail_mem {W : Wd} {p : Str} (h : p ∈ tailParts W) : p = "rates" ∨ p = "late" ∨ ∃ n, p = num n := by
  unfold tailParts rateParts lateParts at h
  rcases List.mem_append.mp h with h | h
  · by_cases e : W.fast = 1
    · rw [if_pos e] at h; cases h
    · rw [if_neg e] at h
      simp only [List.mem_cons, List.mem_nil_iff, or_false] at h
      rcases h with h | h | h
      · exact .inl h
      · exact .inr (.inr ⟨_, h⟩)
      · exact .inr (.inr ⟨_, h⟩)
  · by_cases e : W.late = 0
    · rw [if_pos e] at h; cases h
    · rw [if_neg e] at h
      simp only [List.mem_cons, List.mem_nil_iff, or_false] at h
      rcases h with h | h
      · exact .inr (.inl h)
      · exact .inr (.inr ⟨_, h⟩)
theorem head_mem {W : Wd} {p : Str} (h : p ∈ headParts W) : p = "log" ∨ p = "rates" ∨ p = "late" ∨ ∃ n, p = num n := by
  rcases List.mem_cons.mp h with h | h
  · exact .inl h
  · rcases List.mem_cons.mp h with h | h
    · exact .inr (.inr (.inr ⟨_, h⟩))
    · exact .inr (tail_mem h)
theorem head_free {W : Wd} {s : Nat} (hs : s = 32 ∨ s = 10) : ∀ p ∈ headParts W, s ∉ TL.tl p := by
  intro p hp
  have hn : s < 48 ∨ 57 < s := by omega
  rcases head_mem hp with rfl | rfl | rfl | ⟨n, rfl⟩
  · rcases hs with rfl | rfl <;> decide +kernel
  · rcases hs with rfl | rfl <;> decide +kernel
  · rcases hs with rfl | rfl <;> decide +kernel
  · exact num_free hn
theorem ent_free {e : Ent} {s : Nat} (hs : s = 32 ∨ s = 10) : ∀ p ∈ entParts e, s ∉ TL.tl p := by
  intro p hp
  have hn : s < 48 ∨ 57 < s := by omega
  rcases List.mem_cons.mp hp with rfl | h
  · rcases e.head_eq with h | h | h <;> rw [h] <;> rcases hs with rfl | rfl <;> decide +kernel
  · obtain ⟨n, _, rfl⟩ := List.mem_map.mp h
    exact num_free hn
theorem head_split (W : Wd) : Txt.split (headS W) (Str.ofString " ") = headParts W := TL.split_join sp_tl (by decide +kernel) (by simp [headParts]) (head_free (.inl rfl))
theorem ent_split (e : Ent) : Txt.split (entS e) (Str.ofString " ") = entParts e := TL.split_join sp_tl (by decide +kernel) (by simp [entParts]) (ent_free (.inl rfl))
theorem joinL_free {S : List Nat} {s : Nat} (h : s ∉ S) : ∀ {l : List (List Nat)}, (∀ p ∈ l, s ∉ p) → s ∉ TL.joinL S l
  | [], _ => by simp [TL.joinL]
  | [p], h2 => h2 p (by simp)
  | p :: q :: r, h2 => by
    show s ∉ p ++ (S ++ TL.joinL S (q :: r))
    rw [List.mem_append, List.mem_append]
    rintro (z | z | z)
    · exact h2 p (by simp) z
    · exact h z
    · exact joinL_free h (l := q :: r) (fun p hp => h2 p (List.mem_cons_of_mem _ hp)) z
theorem join_free {ps : List Str} (h : ∀ p ∈ ps, 10 ∉ TL.tl p) : 10 ∉ TL.tl (Txt.join (Str.ofString " ") ps) := by
  rw [TL.join_eq, TL.tl_join]
  refine joinL_free (by rw [sp_tl]; decide) fun p hp => ?_
  obtain ⟨q, hq, rfl⟩ := List.mem_map.mp hp
  exact h q hq
theorem lines_split (W : Wd) : Txt.split (logText W) (Str.ofString "\n") = lines W := by
  refine TL.split_join nl_tl (by decide +kernel) (by simp [lines]) fun p hp => ?_
  rcases List.mem_cons.mp hp with rfl | hp
  · exact join_free (head_free (.inr rfl))
  · rcases List.mem_append.mp hp with hp | hp
    · obtain ⟨e, _, rfl⟩ := List.mem_map.mp hp
      exact join_free (ent_free (.inr rfl))
    · rw [List.mem_singleton.mp hp]; decide +kernel
/-! lengths -/
theorem joinL_len {S : List Nat} : ∀ l : List (List Nat), (TL.joinL S l).length ≤ (l.map List.length).sum + l.length * S.length
  | [] => by simp [TL.joinL]
  | [p] => by simp [TL.joinL]
  | p :: q :: r => by
    show (p ++ (S ++ TL.joinL S (q :: r))).length ≤ _
    have := joinL_len (S := S) (q :: r)
    rw [List.length_append, List.length_append, List.map_cons, List.sum_cons, List.length_cons, Nat.add_mul]
    omega
theorem join_len {y : Str} {ps : List Str} {b : Nat} (h : ∀ p ∈ ps, p.length ≤ b) : (Txt.join y ps).length ≤ ps.length * (b + y.length) := by
  rw [TL.len_tl, TL.join_eq, TL.tl_join]
  have h1 := joinL_len (S := TL.tl y) (ps.map TL.tl)
  have h2 : ∀ (qs : List Str), (∀ p ∈ qs, p.length ≤ b) → ((qs.map TL.tl).map List.length).sum ≤ qs.length * b := by
    intro qs
    induction qs with
    | nil => intro _; simp
    | cons q qs ih =>
      intro hq
      have h3 := ih fun p hp => hq p (List.mem_cons_of_mem _ hp)
      have h4 := hq q (by simp)
      rw [TL.len_tl] at h4
      rw [List.map_cons, List.map_cons, List.sum_cons, List.length_cons, Nat.add_mul]
      omega
  have h3 := h2 ps h
  rw [List.length_map] at h1
  rw [Nat.mul_add]
  rw [TL.len_tl y]
  omega
theorem head_parts_len {W : Wd} (h : W.Ok) : ∀ p ∈ headParts W, p.length ≤ 31 := by
  intro p hp
  have o2 := h.s2
  have o5 := h.r2
  have o6 := h.r3
  have o7 := h.l
  unfold headParts tailParts rateParts lateParts at hp
  have hnum : ∀ n : Nat, n ≤ 1000 → (num n).length ≤ 31 := fun n hn => num_len (Nat.le_trans hn (by decide))
  rcases List.mem_cons.mp hp with rfl | hp
  · decide +kernel
  rcases List.mem_cons.mp hp with rfl | hp
  · exact hnum _ (by omega)
  rcases List.mem_append.mp hp with hp | hp
  · by_cases e : W.fast = 1
    · rw [if_pos e] at hp; cases hp
    · rw [if_neg e] at hp
      simp only [List.mem_cons, List.mem_nil_iff, or_false] at hp
      rcases hp with rfl | rfl | rfl
      · decide +kernel
      · exact hnum _ (by omega)
      · exact hnum _ (by omega)
  · by_cases e : W.late = 0
    · rw [if_pos e] at hp; cases hp
    · rw [if_neg e] at hp
      simp only [List.mem_cons, List.mem_nil_iff, or_false] at hp
      rcases hp with rfl | rfl
      · decide +kernel
      · exact hnum _ (by omega)
theorem head_parts_n (W : Wd) : (headParts W).length ≤ 7 := by
  unfold headParts tailParts rateParts lateParts
  by_cases e : W.fast = 1 <;> by_cases e2 : W.late = 0 <;> simp [e, e2]
theorem headS_len {W : Wd} (h : W.Ok) : (headS W).length ≤ 250 := by
  have h1 := join_len (y := Str.ofString " ") (head_parts_len h)
  have h2 := head_parts_n W
  have h3 : (Str.ofString " ").length = 1 := by decide +kernel
  rw [h3] at h1
  unfold headS
  exact Nat.le_trans h1 (by omega)
theorem ent_parts_len {e : Ent} {N : Nat} (h : e.Ok N) (hN : N ≤ 12) : ∀ p ∈ entParts e, p.length ≤ 31 := by
  intro p hp
  rcases List.mem_cons.mp hp with rfl | hp
  · rcases e.head_eq with h | h | h <;> rw [h] <;> decide +kernel
  · obtain ⟨n, hn, rfl⟩ := List.mem_map.mp hp
    refine num_len ?_
    rw [Ent.nums_eq] at hn
    rcases List.mem_append.mp hn with hn | hn
    · have := h.ev n hn
      exact Nat.le_trans (show n ≤ 12 by omega) (by decide)
    · rw [List.mem_singleton.mp hn]
      exact h.t
theorem ent_parts_n (e : Ent) : (entParts e).length ≤ 4 := by cases e <;> simp [entParts, Ent.nums]
theorem entS_len {e : Ent} {N : Nat} (h : e.Ok N) (hN : N ≤ 12) : (entS e).length ≤ 250 := by
  have h1 := join_len (y := Str.ofString " ") (ent_parts_len h hN)
  have h2 := ent_parts_n e
  have h3 : (Str.ofString " ").length = 1 := by decide +kernel
  rw [h3] at h1
  unfold entS
  exact Nat.le_trans h1 (by omega)
theorem lines_len {W : Wd} (h : W.Ok) : ∀ p ∈ lines W, p.length ≤ 250 := by
  intro p hp
  rcases List.mem_cons.mp hp with rfl | hp
  · exact headS_len h
  · rcases List.mem_append.mp hp with hp | hp
    · obtain ⟨e, he, rfl⟩ := List.mem_map.mp hp
      exact entS_len (h.e e he) h.s2
    · rw [List.mem_singleton.mp hp]; decide +kernel
theorem lines_n {W : Wd} (h : W.Ok) : (lines W).length ≤ 62 := by
  have := h.n
  unfold lines
  rw [List.length_cons, List.length_append, List.length_map, List.length_singleton]
  omega
theorem logText_len {W : Wd} (h : W.Ok) : (logText W).length ≤ 16000 := by
  have h1 := join_len (y := Str.ofString "\n") (lines_len h)
  have h2 := lines_n h
  have h3 : (Str.ofString "\n").length = 1 := by decide +kernel
  rw [h3] at h1
  unfold logText
  exact Nat.le_trans h1 (by omega)
/-! slices -/
theorem cutV_from {xs : List V} {k : Nat} (h : k ≤ xs.length) : cutV xs (some (k : Int)) none = xs.drop k := by
  unfold cutV
  rw [HT.sIx_nat, HT.sIx_none, Nat.min_eq_left h, List.take_of_length_le (by rw [List.length_drop]; omega)]
theorem cutV_to (xs : List V) (k : Nat) : cutV xs none (some (k : Int)) = xs.take k := by
  unfold cutV
  rw [HT.sIx_nat, HT.sIx_none, List.drop_zero, Nat.sub_zero]
  rcases Nat.le_total k xs.length with h | h
  · rw [Nat.min_eq_left h]
  · rw [Nat.min_eq_right h, List.take_of_length_le h, List.take_of_length_le (Nat.le_refl _)]
theorem dp_strs {K : PySem.W.Frag} {H : Hp} : ∀ s : List Str, DpAll K H (s.map V.str) (s.map PyData.str)
  | [] => .nil
  | x :: s => .cons (.str x) (dp_strs s)
theorem lay_strs : ∀ s : List Str, (∀ x ∈ s, PyData.strOk x = true) → PyData.canLayAll0 (s.map PyData.str) = true
  | [], _ => by simp [PyData.canLayAll0]
  | x :: s, h => by simp [PyData.canLayAll0, PyData.canLay0, lay_strs s (fun y hy => h y (List.mem_cons_of_mem _ hy)), h x (List.mem_cons_self ..)]
theorem depth_strs : ∀ s : List Str, PyData.depthAll (s.map PyData.str) = 0
  | [] => by simp [PyData.depthAll]
  | x :: s => by simp [PyData.depthAll, PyData.depth, depth_strs s]
theorem shaped_strs {s : List Str} (h : ∀ x ∈ s, PyData.strOk x = true) : SeqAt.shaped (.list (s.map PyData.str)) = true := by
  unfold SeqAt.shaped
  rw [Bool.and_eq_true]
  refine ⟨by simp only [PyData.canLay0]; exact lay_strs s h, decide_eq_true ?_⟩
  simp only [PyData.depth, depth_strs]
  omega
theorem eqv_strsA : ∀ s r : List Str, PyData.eqvAll (s.map PyData.str) (r.map PyData.str) = decide (s = r)
  | [], [] => by simp [PyData.eqvAll]
  | [], _ :: _ => by simp [PyData.eqvAll]
  | _ :: _, [] => by simp [PyData.eqvAll]
  | a :: s, b :: r => by
    rw [List.map_cons, List.map_cons, PyData.eqvAll, eqv_strsA s r]
    have h1 : PyData.eqv (.str a) (.str b) = decide (a = b) := by
      simp only [PyData.eqv]
      by_cases h : a = b
      · subst h; simp
      · rw [decide_eq_false h]
        simp [h]
    rw [h1, ← Bool.decide_and]
    exact decide_eq_decide.mpr (by rw [List.cons.injEq])
theorem eqv_strs (s r : List Str) : PyData.eqv (.list (s.map PyData.str)) (.list (r.map PyData.str)) = decide (s = r) := by simp only [PyData.eqv]; exact eqv_strsA s r
theorem late_ne_rates : (Str.ofString "late") ≠ (Str.ofString "rates") := by decide +kernel
theorem tail_first (W : Wd) : decide ((tailParts W).take 1 = [Str.ofString "rates"]) = decide (W.fast ≠ 1) := by
  refine decide_eq_decide.mpr ?_
  unfold tailParts rateParts lateParts
  by_cases e : W.fast = 1
  · by_cases e2 : W.late = 0
    · simp [e, e2]
    · simp only [e, e2, if_true, if_false, List.nil_append, List.take, ne_eq, not_true_eq_false, iff_false]
      intro z
      exact late_ne_rates (List.cons.inj z).1
  · simp [e]
theorem ok_rates : ∀ x ∈ [Str.ofString "rates"], PyData.strOk x = true := fun x hx => by rw [List.mem_singleton.mp hx]; decide +kernel
theorem tail_ok (W : Wd) : ∀ x ∈ (tailParts W).take 1, PyData.strOk x = true := by
  intro x hx
  have h : x = Str.ofString "rates" ∨ x = Str.ofString "late" := by
    unfold tailParts rateParts lateParts at hx
    by_cases e : W.fast = 1
    · by_cases e2 : W.late = 0
      · simp [e, e2] at hx
      · simp only [e, e2, if_true, if_false, List.nil_append, List.take, List.mem_singleton] at hx
        exact .inr hx
    · simp [e] at hx
      exact .inl hx
  rcases h with rfl | rfl <;> decide +kernel
section
variable {P : Program} {w : World} {K : PySem.W.Frag} {mg : Str → Option Value} {base : Heap}
abbrev s_rates_in : Stmt := top 24
abbrev N_rates_in : List Str := ["parts", "fast", "slow"]
theorem sc_rates_in : FnScope N_rates_in ["parts"] (C8.fnScope s_rates_in) := C8.fnScope_by (by decide +kernel)
def sp_rates_in (K : PySem.W.Frag) : Sp := fun vs H Q _ => ∃ (a : Addr) (W : Wd), vs = [.ref a] ∧ SqL K H a ((tailParts W).map V.str) ∧ W.Ok ∧ ∀ (t : Addr) H', Same H H' → H' t = some (.tup [nV W.fast, nV W.slow]) → Q (.ref t) H'
theorem ok_rates_in {f : Addr} {fd : FuncData} (F : C8.Def K mg "rates_in" s_rates_in f fd) (b : Binds K fd ["parts"] []) (T : Gb mg) (c_number_in : C8.Cal P w K mg base 1 "number_in" sp_number_in []) : C8.Cal P w K mg base 2 "rates_in" (sp_rates_in K) [] := by
  refine C8.cal0 F b .nil sc_rates_in (fun vs H Q E h => ?_) (fun cdv A outer s H vs Q E hr h => ?_)
  · obtain ⟨a, W, rfl, _⟩ := h
    rfl
  · obtain ⟨a, W, rfl, hL, hok, q⟩ := h
    obtain ⟨o1, o2, o3, o4, o5, o6, o7, o8⟩ := hok
    refine ⟨_, (pss_cons (ps_if (pt_cmpR (op_neD hr.units) (pe_slice sl_list (pv 0) po_none (po_some pe_int)) (pe_lst (pa_cons pe_str pa_nil)) (nomark _))
(pss_one (ps_ret (pe_tup (pa_cons pe_int (pa_cons pe_int pa_nil)))))
pss_nil)
(pss_cons (ps_if (pt_cmpR op_lt (pe_callB (call_lenK K rfl) (by rfl) T.len PySem.boot_len (pa_cons (pv 0) pa_nil)) pe_int (nomark _))
(pss_one (ps_ret pe_non))
pss_nil)
(pss_cons (ps_set (i := 1) sc_rates_in.nd rfl (Or.inl rfl) (C8.pe_c c_number_in hr (by decide) (by rfl) (pa_cons (pe_ix (ix_listK K rfl) (pv 0) pe_int (fun _ _ => rfl)) (pa_cons pe_int (pa_cons (C8.pe_gc (by rfl) T.MOST_RATE) pa_nil)))))
(pss_cons (ps_if (pt_cmpR op_isN (pv 1) pe_non (nomark _))
(pss_one (ps_ret pe_non))
pss_nil)
(pss_cons (ps_set (i := 2) sc_rates_in.nd rfl (Or.inl rfl) (C8.pe_c c_number_in hr (by decide) (by rfl) (pa_cons (pe_ix (ix_listK K rfl) (pv 0) pe_int (fun _ _ => rfl)) (pa_cons pe_int (pa_cons (pv 1) pa_nil)))))
(pss_cons (ps_if (PW.pt (pw_or (pt_cmpR op_isN (pv 2) pe_non (nomark _)) (pw_or1 (pt_cmpR op_eq (pv 1) pe_int (nomark _)))))
(pss_one (ps_ret pe_non))
pss_nil)
(pss_one (ps_ret (pe_tup (pa_cons (pv 1) (pa_cons (pv 2) pa_nil))))))))))), ?_⟩
    refine ⟨_, rfl, 1, rfl, a, _, rfl, hL, fun p1 hp1 => ?_⟩
    rw [show (1 : Int) = ((1 : Nat) : Int) from rfl, cutV_to, ← List.map_take]
    refine ⟨by show 1 ≤ sizeLine; decide, fun p2 hp2 => ?_⟩
    have n12 : p1 ≠ p2 := ne_of_none upd_same hp2
    have sm := same_new (o := .lst [.str "rates"]) (same_new (o := .lst (((tailParts W).take 1).map V.str)) (Same.refl H) hp1) hp2
    refine ⟨.list (((tailParts W).take 1).map PyData.str), .list ([Str.ofString "rates"].map PyData.str), .lst (SqL.of ((upd_ne n12).trans upd_same)) (dp_strs _), .lst (SqL.of upd_same) (dp_strs [Str.ofString "rates"]), shaped_strs (tail_ok W), shaped_strs ok_rates, _, rfl, ?_⟩
    rw [eqv_strs, tail_first]
    by_cases e : W.fast = 1
    · refine ifNT (by simpa using e) ?_
      refine ⟨by show 2 ≤ sizeLine; decide, fun t ht => ?_⟩
      refine q t _ (same_new sm ht) ?_
      rw [upd_same, e, show W.slow = 1 by omega] <;> rfl
    · refine ifNF (by simpa using e) ?_
      have hL2 := sm.seq hL
      revert sm hL2
      generalize upd (upd H p1 (.lst (((tailParts W).take 1).map V.str))) p2 (.lst [.str "rates"]) = H2
      intro sm hL2
      have et : tailParts W = Str.ofString "rates" :: num W.fast :: num W.slow :: lateParts W := by
        unfold tailParts rateParts
        rw [if_neg e]
        rfl
      rw [et] at hL2
      refine ⟨_, rfl, a, _, rfl, .inl hL2, _, _, rfl, rfl, _, rfl, ?_⟩
      refine ifF (by simp only [List.map_cons, List.length_cons]; omega) ?_
      refine ⟨_, rfl, a, _, 1, .str (num W.fast), rfl, rfl, hL2, atI_nat (j := 1) rfl, W.fast, 1, 1000, rfl, by omega, by omega, by decide, ?_⟩
      refine ⟨_, rfl, rfl, _, rfl, ?_⟩
      refine ifF (by intro z; cases z) ?_
      refine ⟨_, rfl, a, _, 2, .str (num W.slow), rfl, rfl, hL2, atI_nat (j := 2) rfl, _, rfl, W.slow, 1, W.fast, rfl, by omega, by omega, Nat.le_trans (show W.fast ≤ 1000 by omega) (by decide), ?_⟩
      refine ⟨_, rfl, rfl, _, rfl, ?_⟩
      refine ifF (by intro z; cases z) ?_
      refine ⟨_, rfl, rfl, _, rfl, ?_⟩
      refine ifF (by intro z; have := V.int.inj z; omega) ?_
      refine ⟨_, rfl, _, rfl, by show 2 ≤ sizeLine; decide, fun t ht => ?_⟩
      exact q t _ (same_new sm ht) upd_same
abbrev s_late_in : Stmt := top 25
abbrev N_late_in : List Str := ["parts"]
theorem sc_late_in : FnScope N_late_in ["parts"] (C8.fnScope s_late_in) := C8.fnScope_by (by decide +kernel)
def sp_late_in (K : PySem.W.Frag) : Sp := fun vs H Q _ => ∃ (a : Addr) (W : Wd), vs = [.ref a] ∧ SqL K H a ((lateParts W).map V.str) ∧ W.Ok ∧ Q (nV W.late) H
theorem ok_late_in {f : Addr} {fd : FuncData} (F : C8.Def K mg "late_in" s_late_in f fd) (b : Binds K fd ["parts"] []) (T : Gb mg) (c_number_in : C8.Cal P w K mg base 1 "number_in" sp_number_in []) : C8.Cal P w K mg base 2 "late_in" (sp_late_in K) [] := by
  refine C8.cal0 F b .nil sc_late_in (fun vs H Q E h => ?_) (fun cdv A outer s H vs Q E hr h => ?_)
  · obtain ⟨a, W, rfl, _⟩ := h
    rfl
  · obtain ⟨a, W, rfl, hL, hok, q⟩ := h
    have o8 := hok.l
    refine ⟨_, (pss_cons (ps_if (pt_not (pt_truth (pv 0) (by intro _; rfl)))
(pss_one (ps_ret pe_int))
pss_nil)
(pss_cons (ps_if (PW.pt (pw_or (pt_cmpR op_ne (pe_callB (call_lenK K rfl) (by rfl) T.len PySem.boot_len (pa_cons (pv 0) pa_nil)) pe_int (nomark _)) (pw_or1 (pt_cmpR op_ne (pe_ix (ix_listK K rfl) (pv 0) pe_int (fun _ _ => rfl)) pe_str (nomark _)))))
(pss_one (ps_ret pe_non))
pss_nil)
(pss_one (ps_ret (C8.pe_c c_number_in hr (by decide) (by rfl) (pa_cons (pe_ix (ix_listK K rfl) (pv 0) pe_int (fun _ _ => rfl)) (pa_cons pe_int (pa_cons (C8.pe_gc (by rfl) T.MOST_LATE) pa_nil)))))))), ?_⟩
    by_cases e : W.late = 0
    · have et : lateParts W = [] := by unfold lateParts; rw [if_pos e]
      rw [et] at hL
      refine ⟨_, rfl, false, .inl ⟨[], hL, rfl⟩, ?_⟩
      refine iteT ?_
      rw [e] at q
      exact q
    · have et : lateParts W = [Str.ofString "late", num W.late] := by unfold lateParts; rw [if_neg e] <;> rfl
      rw [et] at hL
      refine ⟨_, rfl, true, .inl ⟨_, hL, rfl⟩, ?_⟩
      refine iteF ?_
      refine ⟨_, rfl, a, _, rfl, .inl hL, rfl, _, rfl, ?_⟩
      refine ifNF rfl ?_
      refine ⟨_, rfl, a, _, 0, .str "late", rfl, rfl, hL, atI_nat (j := 0) rfl, rfl, _, rfl, ?_⟩
      refine ifNF rfl ?_
      refine ⟨_, rfl, a, _, 1, .str (num W.late), rfl, rfl, hL, atI_nat (j := 1) rfl, W.late, 1, 60, rfl, by omega, by omega, by decide, q⟩
end
end My
/-! a rule that the layer lacks: for x in xs, in a generator def, with a yield in its body -/
namespace My
open PySem PySem.Spec PyProof.Rows GenW L2
section
variable {M : Model} {A : Around} {R : GenEnd} {Y : Protocol} {n : Nat} {s₀ : Shared} {c : Code} {fs : List Frame} {s : Shared} {env : Env}
  {K : Flow → Sem Fin} {J : Value → Sem Fin} {gd : Bool → Bool} {lv : List Value → List Value}
theorem seg_For {target iter : Expr} {body orelse : List Stmt} {pos : Pos} (hs : ∀ x, foldedSetIterable iter env x = pure x)
    (h : wpAny M (A.over c fs) (eval iter env) (fun x s1 => wpAny M (A.over c fs) (pyIter x) (fun it s2 => ∀ p, Seg M A R Y n s₀ (.forLoop target it body orelse env) (M.den (.forLoop target it body orelse env))
      (.ret (fun r => ((match r with | .ok f => (.pure f : Sem Flow) | .error e => .raise e).onRaise (cameBack env)).wrap K J gd lv) none (gd false) (lv []) c p [] :: fs) s2)
      (fun x s' => Seg M A R Y n s₀ c (J x) fs s') s1) (fun x s' => Seg M A R Y n s₀ c (J x) fs s') s) :
    Seg M A R Y n s₀ c ((exec (.For target iter body orelse pos) env).wrap K J gd lv) fs s := by
  rw [exec_For]
  refine seg_bind_wrap (wpAny_standAt ?_)
  refine seg_bind_wrap (wpAny_mono h (fun x s1 h1 => ?_) fun _ _ z => z)
  refine seg_bind_wrap (wpAny_of_eq (hs x) ?_)
  refine seg_bind_wrap (wpAny_standAt ?_)
  refine seg_bind_wrap (wpAny_holding (wpAny_mono h1 (fun it s2 h2 => ?_) fun _ _ z => z))
  exact seg_call h2
end
section
variable {prog : Program} {w : World} {A : Around} {R : GenEnd} {Y : Protocol} {n : Nat} {s₀ : Shared} {fs : List Frame} {s : Shared} {env : Env}
abbrev outE (prog : Program) (w : World) (A : Around) (R : GenEnd) (Y : Protocol) (n : Nat) (s₀ : Shared) (c : Code) (fs : List Frame) (env : Env) : Value → Shared → Prop := fun x s' =>
  Seg (model prog w) A R Y n s₀ c ((do noteFrame x env; theTreesLotGoes x : Sem Unit).wrap (fun _ => .raise x) .raise id id) fs s'
theorem seg_forLoop {target : Expr} {it : Value} {body : List Stmt}
    (h : wpAny (model prog w) (A.over (.forLoop target it body [] env) fs) (pyNext it) (fun r s1 => match r with
      | none => Seg (model prog w) A R Y n s₀ (.forLoop target it body [] env) (.pure (.again (.block [] env))) fs s1
      | some v => wpAny (model prog w) (A.over (.forLoop target it body [] env) fs) (letOwnedTupleGo target it v) (fun _ s1' => wpAny (model prog w) (A.over (.forLoop target it body [] env) fs) (assign target env v) (fun _ s2 =>
          Seg (model prog w) A R Y n s₀ (.forLoop target it body [] env) ((execs body env).wrap (fun f => match f with
            | .next | .cont => .pure (.again (.forLoop target it body [] env))
            | .brk => .pure (.done .next)
            | .ret v => .pure (.done (.ret v))) (fun e => (do noteFrame e env; theTreesLotGoes e : Sem Unit).wrap (fun _ => .raise e) .raise id id) id id) fs s2)
          (outE prog w A R Y n s₀ (.forLoop target it body [] env) fs env) s1') (outE prog w A R Y n s₀ (.forLoop target it body [] env) fs env) s1)
      (outE prog w A R Y n s₀ (.forLoop target it body [] env) fs env) s) :
    Seg (model prog w) A R Y n s₀ (.forLoop target it body [] env) ((model prog w).den (.forLoop target it body [] env)) fs s := by
  show Seg _ A R Y n s₀ _ ((forTurn target it body [] env).onRaise (fun x => do noteFrame x env; theTreesLotGoes x)) fs s
  have eE : ∀ x s', outE prog w A R Y n s₀ (.forLoop target it body [] env) fs env x s' → Seg (model prog w) A R Y n s₀ (.forLoop target it body [] env) ((do noteFrame x env; theTreesLotGoes x : Sem Unit).bind fun _ => .raise x) fs s' := fun x s' hx => by
    rw [Sem.bind_eq_wrap]; exact hx
  unfold forTurn
  rw [Sem.onRaise_eq_wrap]
  refine seg_bind_wrap (wpAny_standAt ?_)
  refine seg_bind_wrap (wpAny_onRaise (wpAny_mono h (fun r s1 h1 => ?_) fun x s' hx => wpAny_standAt (eE x s' hx)))
  cases r with
  | none => exact h1
  | some v =>
    refine seg_bind_wrap (wpAny_mono h1 (fun _ s1' h1' => ?_) fun x s' hx => eE x s' hx)
    refine seg_bind_wrap (wpAny_mono h1' (fun _ s2 h2 => ?_) fun x s' hx => eE x s' hx)
    rw [Sem.bind_eq_wrap', Sem.wrap_wrap]
    rw [Sem.wrap_congr (execs body env) _ _ (K' := fun f => match f with
            | .next | .cont => .pure (.again (.forLoop target it body [] env))
            | .brk => .pure (.done .next)
            | .ret v => .pure (.done (.ret v))) (H' := (fun e => (do noteFrame e env; theTreesLotGoes e : Sem Unit).wrap (fun _ => .raise e) .raise id id))
        (fun f => by cases f <;> rfl)
        (fun e => by first | exact Sem.bind_eq_wrap _ _ | (show (do noteFrame e env; theTreesLotGoes e : Sem Unit).bind (fun _ => .raise e) = _; rw [Sem.bind_eq_wrap]))]
    exact h2
end
section
variable {X : Cx}
def tGFor (wi : TI) (g : TG) (tb : TGn) : TGn := fun D ys σ H => wi σ H fun J H1 => ∃ W : Nat → Nat → List V → L2.St → Hp → Prop, (∃ m, W 0 m ys σ H1) ∧ ∀ i m ys σ H, W i m ys σ H →
  (J.stop i H ∧ D.nx ys σ H) ∨ (J.go i H ∧ ∃ N : List V → L2.St → Hp → Prop, (∀ ys' σ' H', N ys' σ' H' → ∃ m', m' < m ∧ W (i + 1) m' ys' σ' H') ∧ ∀ x H', J.yld i H x H' → g x σ H' fun σ2 H2 => tb { D with nx := N, ct := N, bk := D.nx } ys σ2 H2)
theorem gs_for {iter tg : Expr} {body : List Stmt} {wi : TI} {g : TG} {tb : TGn} {pos : Pos} (hp : PassesOwn (model X.prog X.w) X.A X.env X.xe) (hc : X.calm = true) (hi : PI X tg iter wi) (hg : PG X tg g) (hb : GSs X body tb)
    (hs : ∀ x, foldedSetIterable iter X.env x = pure x := by intro _; rfl) : GS X (.For tg iter body [] pos) (tGFor wi g tb) := by
  refine ⟨fun A S ip R n ys s₀ c fs K J gd lv s σ H D gc hn k hI ht => ?_⟩
  obtain ⟨acc, cc, r, I⟩ := hI
  refine seg_For hs ?_
  rw [gc.over]
  refine wpAny_mono (hi.run _ s σ H _ I ht) (fun v s1 h1 => wpAny_mono h1 (fun itv s2 h2 p => ?_) fun x s' hx => k.exc n s₀ x s' hx) fun x s' hx => k.exc n s₀ x s' hx
  obtain ⟨it, fp, tn, It, H2, e, I2, T, st2, f2, W, ⟨m0, w0⟩, turn⟩ := h2
  subst e
  have fS : ∀ b ∈ fp, b ≠ S := fun b hb z => (f2 b hb).2.2.2.2.2 (S, lstObj acc cc) (List.mem_append_right _ List.mem_cons_self) z.symm
  have stat : ∀ {H' : Hp} {acc' : Array Value} {cc' : Nat}, (∀ b ∈ fp, H' b = none) → ∀ b ∈ fp, FpOk X ((S, lstObj acc' cc') :: ip) H' b := fun {H' acc' cc'} hn b hb => by
    obtain ⟨_, q1, q2, q3, q4, q5⟩ := f2 b hb
    refine ⟨hn b hb, q1, q2, q3, q4, fun p hp => ?_⟩
    rcases List.mem_append.mp hp with z | z
    · exact q5 p (List.mem_append_left _ z)
    · rcases List.mem_cons.mp z with z | z
      · rw [z]; exact fun y => fS b hb y.symm
      · exact q5 p (List.mem_append_right _ (List.mem_cons_of_mem _ z))
  have gl := fun (kk : Result → Sem PySem.Fin) => gc_loop (k := kk) (c' := .forLoop tg (.ref it) body [] X.env) (l := lv []) (kp := []) (p := p) gc rfl rfl
  have loop : ∀ (m n i : Nat) (ys : List V) (s₀ s : Shared) (σ : L2.St) (H : Hp), n + ys.length = sizeLine → W i m ys σ H → GI X S ip ys σ H s → tn i s.heap → (∀ b ∈ fp, H b = none) →
      Seg (model X.prog X.w) A R (GY X S) n s₀ (.forLoop tg (.ref it) body [] X.env) ((model X.prog X.w).den (.forLoop tg (.ref it) body [] X.env))
        (.ret (fun r => ((match r with | .ok f => (.pure f : Sem Flow) | .error e => .raise e).onRaise (cameBack X.env)).wrap K J gd lv) none (gd false) (lv []) c p [] :: fs) s := by
    intro m
    induction m using Nat.strongRecOn with
    | ind m ih =>
      intro n i ys s₀ s σ H hn w hI hst hfr
      have ee : ∀ (n : Nat) (s₀ : Shared) (x : Value) (s' : Shared), X.xe x s' → Seg (model X.prog X.w) A R (GY X S) n s₀ (.forLoop tg (.ref it) body [] X.env)
          ((do noteFrame x X.env; theTreesLotGoes x : Sem Unit).wrap (fun _ => .raise x) .raise id id)
          (.ret (fun r => ((match r with | .ok f => (.pure f : Sem Flow) | .error e => .raise e).onRaise (cameBack X.env)).wrap K J gd lv) none (gd false) (lv []) c p [] :: fs) s' := fun n s₀ x s' hx => by
        refine seg_wrap ?_
        rw [(gl _).over]
        refine wpAny_bind (wpAny_mono (hp x s' hx) (fun _ s'' hcb => wpAny_theTreesLotGoes ?_) fun y s'' hcb => ?_)
        · exact seg_leaf (.error x) (seg_cameBack gc k hcb)
        · exact seg_leaf (.error y) (seg_cameBack gc k hcb)
      refine seg_forLoop ?_
      rw [(gl _).over]
      obtain ⟨acc, cc, r, I⟩ := hI
      rcases turn i m ys σ H w with ⟨stop, qn⟩ | ⟨go, N, hN, step⟩
      · refine wpAny_mono (T.done X rfl rfl rfl hc i _ s σ H X.xe I (stat hfr) hst stop) (fun r s4 h4 => ?_) fun x s' hx => ee n s₀ x s' hx
        obtain ⟨hr, I4⟩ := h4
        subst hr
        refine seg_again rfl ?_
        exact seg_leaf (.ok .next) (k.ok n ys s₀ s4 .next hn ⟨σ, H, ⟨acc, cc, r, I4⟩, qn⟩)
      · refine wpAny_mono (T.item X rfl rfl rfl hc i _ s σ H X.xe I (stat hfr) hst go) (fun r s4 h4 => ?_) fun x s' hx => ee n s₀ x s' hx
        obtain ⟨u, hr, h4⟩ := h4
        subst hr
        refine wpAny_mono h4 (fun _ s5 h5 => ?_) fun x s' hx => ee n s₀ x s' hx
        obtain ⟨x, H5, I5, r5, y5, st5, fr5⟩ := h5
        have I5' := I5.pinned (stat fr5) (T.obj _ _ st5)
        refine wpAny_mono (hg.run _ s5 σ H5 x u _ I5' r5 (step x H5 y5)) (fun _ s6 h6 => ?_) fun x s' hx => ee n s₀ x s' hx
        obtain ⟨σ6, H6, I6, q6⟩ := h6
        have hip : ∀ q ∈ ip ++ pinsAt fp s5.heap, q.1 ≠ S := fun q hq => by
          rcases List.mem_append.mp hq with z | z
          · exact gc.ip q z
          · exact fS q.1 (of_pinsAt z).1
        have g1 : GC X S (ip ++ pinsAt fp s5.heap) A (.forLoop tg (.ref it) body [] X.env) (.ret (fun r => ((match r with | .ok f => (.pure f : Sem Flow) | .error e => .raise e).onRaise (cameBack X.env)).wrap K J gd lv) none (gd false) (lv []) c p [] :: fs) id :=
          { gl _ with ip := hip }
        have back : ∀ {ys' : List V} {s7 : Shared} {σ7 : L2.St} {H7 : Hp}, GI X S (ip ++ pinsAt fp s5.heap) ys' σ7 H7 s7 → GI X S ip ys' σ7 H7 s7 := fun {ys' s7 σ7 H7} h => by
          obtain ⟨a, b, r', I'⟩ := h
          exact ⟨a, b, r', Inv.unpinned (pins := (S, lstObj a b) :: ip) (pl := pinsAt fp s5.heap) I'⟩
        have again : ∀ (n' : Nat) (ys' : List V) (s₀' s7 : Shared) (σ7 : L2.St) (H7 : Hp), n' + ys'.length = sizeLine → GI X S (ip ++ pinsAt fp s5.heap) ys' σ7 H7 s7 → N ys' σ7 H7 →
            Seg (model X.prog X.w) A R (GY X S) n' s₀' (.forLoop tg (.ref it) body [] X.env) (.pure (.again (.forLoop tg (.ref it) body [] X.env)))
              (.ret (fun r => ((match r with | .ok f => (.pure f : Sem Flow) | .error e => .raise e).onRaise (cameBack X.env)).wrap K J gd lv) none (gd false) (lv []) c p [] :: fs) s7 := fun n' ys' s₀' s7 σ7 H7 hn' I7 n7 => by
          obtain ⟨m', hm, w7⟩ := hN ys' σ7 H7 n7
          obtain ⟨a, b, r', I'⟩ := id I7
          refine seg_again rfl (ih m' hm n' (i + 1) ys' s₀' s7 σ7 H7 hn' w7 (back I7) (T.keep _ _ _ st5 fun b hb o e => (I'.pin (b, o) (List.mem_append_right _ (List.mem_append_right ((S, lstObj a _) :: ip) (mem_pinsAt hb e)))).1) fun b hb => ?_)
          obtain ⟨o, e, d⟩ := T.obj _ _ st5 b hb
          exact (I'.pin (b, o) (List.mem_append_right _ (List.mem_append_right ((S, lstObj a _) :: ip) (mem_pinsAt hb e)))).2.1
        refine hb.run A S (ip ++ pinsAt fp s5.heap) R n ys s₀ _ _ _ _ id id s6 σ6 H6 { D with nx := N, ct := N, bk := D.nx } g1 hn ⟨fun n' ys' s₀' s3 f hn' hs => ?_, fun n' s₀' x s3 hx => ee n' s₀' x s3 hx⟩ ⟨acc, cc, r, I6⟩ q6
        cases f with
        | next =>
          obtain ⟨σ3, H3, I3, n3⟩ := hs
          exact again n' ys' s₀' s3 σ3 H3 hn' I3 n3
        | cont =>
          obtain ⟨σ3, H3, I3, n3⟩ := hs
          exact again n' ys' s₀' s3 σ3 H3 hn' I3 n3
        | brk =>
          obtain ⟨σ3, H3, I3, n3⟩ := hs
          exact seg_leaf (.ok .next) (k.ok n' ys' s₀' s3 .next hn' ⟨σ3, H3, back I3, n3⟩)
        | ret v =>
          obtain ⟨x3, σ3, H3, I3, r3, q3⟩ := hs
          exact seg_leaf (.ok (.ret v)) (k.ok n' ys' s₀' s3 (.ret v) hn' ⟨x3, σ3, H3, back I3, r3, q3⟩)
  exact loop m0 n 0 ys s₀ s2 σ H2 hn w0 ⟨acc, cc, r, I2⟩ st2 fun b hb => (f2 b hb).1
end
end My
namespace My
open PySem L2
/-! ### logs read from texts -/
theorem rates_ok2 : Str.ofString "rates" ≠ Str.ofString "late" := by decide +kernel
theorem end_split : Txt.split (Str.ofString "end") (Str.ofString " ") = [Str.ofString "end"] := by
  have h : Txt.join (Str.ofString " ") [Str.ofString "end"] = Str.ofString "end" := by rw [TL.join_eq]; rfl
  have := TL.split_join sp_tl (by decide +kernel) (parts := [Str.ofString "end"]) (by simp) (fun p hp => by rw [List.mem_singleton.mp hp]; decide +kernel)
  rw [h] at this
  exact this
theorem entS_ne_end (e : Ent) : entS e ≠ Str.ofString "end" := by
  intro h
  have h1 := ent_split e
  rw [h, end_split] at h1
  have h2 := congrArg List.length h1
  cases e <;> simp [entParts, Ent.nums] at h2
theorem lineAt_ent {W : Wd} {i : Nat} {e : Ent} (h : W.ents[i]? = some e) : lineAt (lines W) (i + 1) = entS e := by
  unfold lineAt lines
  rw [List.getElem?_cons_succ, List.getElem?_append_left (by rw [List.length_map]; exact lt_of_at h), List.getElem?_map, h]
  rfl
theorem lineAt_end (W : Wd) : lineAt (lines W) (W.ents.length + 1) = Str.ofString "end" := by
  unfold lineAt lines
  rw [List.getElem?_cons_succ, List.getElem?_append_right (by rw [List.length_map]; exact Nat.le_refl _), List.length_map, Nat.sub_self]
  rfl
theorem lines_length (W : Wd) : (lines W).length = W.ents.length + 2 := by
  unfold lines
  rw [List.length_cons, List.length_append, List.length_map, List.length_singleton]
theorem lens0 {s : Str} (h : s = Str.ofString " " ∨ s = Str.ofString "\n") : (s.length == 0) = false := by rcases h with rfl | rfl <;> decide +kernel
theorem strV_at {ls : List Str} {i : Nat} {x : Str} (h : ls[i]? = some x) : (ls.map V.str)[i]? = some (.str x) := by rw [List.getElem?_map, h]; rfl
theorem inV_non (ns : List Nat) : inV V.non (ns.map nV) = false := by
  unfold inV
  rw [List.any_map, List.any_eq_false]
  intro n _
  exact Bool.false_ne_true
theorem flat_nV (ns : List Nat) : (ns.map nV).all flatV = true := by
  rw [List.all_map, List.all_eq_true]
  intro n _
  rfl
section
variable {P : Program} {w : World} {K : PySem.W.Frag} {mg : Str → Option Value} {base : Heap}
abbrev s_head_in : Stmt := top 26
abbrev N_head_in : List Str := ["line", "head", "parts", "size", "rates", "late"]
theorem sc_head_in : FnScope N_head_in ["line"] (C8.fnScope s_head_in) := C8.fnScope_by (by decide +kernel)
def sp_head_in (K : PySem.W.Frag) : Sp := fun vs H Q _ => ∃ (W : Wd), vs = [.str (headS W)] ∧ W.Ok ∧ ∀ (t : Addr) H', Same H H' → H' t = some (.tup [nV W.size, nV W.fast, nV W.slow, nV W.late]) → Q (.ref t) H'
theorem ok_head_in {f : Addr} {fd : FuncData} (F : C8.Def K mg "head_in" s_head_in f fd) (b : Binds K fd ["line"] []) (T : Gb mg) (c_number_in : C8.Cal P w K mg base 1 "number_in" sp_number_in []) (c_rates_in : C8.Cal P w K mg base 2 "rates_in" (sp_rates_in K) []) (c_late_in : C8.Cal P w K mg base 2 "late_in" (sp_late_in K) []) : C8.Cal P w K mg base 3 "head_in" (sp_head_in K) [] := by
  refine C8.cal0 F b .nil sc_head_in (fun vs H Q E h => ?_) (fun cdv A outer s H vs Q E hr h => ?_)
  · obtain ⟨W, rfl, _⟩ := h
    rfl
  · obtain ⟨W, rfl, hok, q⟩ := h
    obtain ⟨o1, o2, o3, o4, o5, o6, o7, o8⟩ := id hok
    refine ⟨_, (pss_cons (ps_asg (pe_split (pv 0) pe_str) (pg_star rfl (pg_name (i := 1) sc_head_in.nd rfl (Or.inl rfl)) (pg_name (i := 2) sc_head_in.nd rfl (Or.inl rfl))))
(pss_cons (ps_if (PW.pt (pw_or (pt_cmpR op_ne (pv 1) pe_str (nomark _)) (pw_or1 (pt_not (pt_truth (pv 2) (by intro _; rfl))))))
(pss_one (ps_ret pe_non))
pss_nil)
(pss_cons (ps_set (i := 3) sc_head_in.nd rfl (Or.inl rfl) (C8.pe_c c_number_in hr (by decide) (by rfl) (pa_cons (pe_ix (ix_listK K rfl) (pv 2) pe_int (fun _ _ => rfl)) (pa_cons pe_int (pa_cons (C8.pe_gc (by rfl) T.MOST_EVENTS) pa_nil)))))
(pss_cons (ps_set (i := 4) sc_head_in.nd rfl (Or.inl rfl) (C8.pe_c c_rates_in hr (by decide) (by rfl) (pa_cons (pe_slice sl_list (pv 2) (po_some pe_int) po_none) pa_nil)))
(pss_cons (ps_if (PW.pt (pw_or (pt_cmpR op_isN (pv 3) pe_non (nomark _)) (pw_or1 (pt_cmpR op_isN (pv 4) pe_non (nomark _)))))
(pss_one (ps_ret pe_non))
pss_nil)
(pss_cons (ps_set (i := 5) sc_head_in.nd rfl (Or.inl rfl) (C8.pe_c c_late_in hr (by decide) (by rfl) (pa_cons (pe_ifExp (pt_cmpR (op_eqD hr.units) (pe_slice sl_list (pv 2) (po_some pe_int) (po_some pe_int)) (pe_lst (pa_cons pe_str pa_nil)) (nomark _)) (pe_slice sl_list (pv 2) (po_some pe_int) po_none) (pe_slice sl_list (pv 2) (po_some pe_int) po_none)) pa_nil)))
(pss_cons (ps_if (pt_cmpR op_isN (pv 5) pe_non (nomark _))
(pss_one (ps_ret pe_non))
pss_nil)
(pss_one (ps_ret (pe_tup (pa_cons (pv 3) (pa_cons (pe_ix (ix_tupK K rfl) (pv 4) pe_int (fun _ _ => rfl)) (pa_cons (pe_ix (ix_tupK K rfl) (pv 4) pe_int (fun _ _ => rfl)) (pa_cons (pv 5) pa_nil)))))))))))))), ?_⟩
    have hlen := headS_len hok
    refine ⟨_, rfl, ⟨_, rfl⟩, headS W, Str.ofString " ", rfl, rfl, lens0 (.inl rfl), size_le (by omega), fun p0 hp0 => ?_⟩
    rw [head_split]
    refine ⟨p0, .str "log", (num W.size :: tailParts W).map V.str, rfl, SqL.of upd_same, ?_, fun p hp => ?_⟩
    · have := head_parts_n W
      rw [List.length_map]
      exact Nat.le_trans (Nat.le_of_succ_le (by exact this)) (by decide)
    have sm := same_new (o := .lst ((num W.size :: tailParts W).map V.str)) (same_new (o := .lst ((headParts W).map V.str)) (Same.refl H) hp0) hp
    have hL : (upd (upd H p0 (.lst ((headParts W).map V.str))) p (.lst ((num W.size :: tailParts W).map V.str))) p = some (.lst (V.str (num W.size) :: (tailParts W).map V.str)) := upd_same
    revert sm hL
    generalize upd (upd H p0 (.lst ((headParts W).map V.str))) p (.lst ((num W.size :: tailParts W).map V.str)) = H1
    intro sm hL
    refine ⟨_, rfl, rfl, _, rfl, ?_⟩
    refine ifNF rfl ?_
    refine ⟨_, rfl, true, .inl ⟨_, SqL.of hL, rfl⟩, ?_⟩
    refine iteF ?_
    refine ⟨_, rfl, p, _, 0, .str (num W.size), rfl, rfl, SqL.of hL, atI_nat (j := 0) rfl, W.size, 1, 12, rfl, by omega, by omega, by decide, ?_⟩
    refine ⟨_, rfl, 1, rfl, p, _, rfl, SqL.of hL, fun p1 hp1 => ?_⟩
    rw [show (1 : Int) = ((1 : Nat) : Int) from rfl, cutV_from (by rw [List.length_cons]; omega)]
    have sm1 := same_new (o := .lst ((tailParts W).map V.str)) (Same.refl H1) hp1
    refine ⟨p1, W, rfl, SqL.of upd_same, hok, fun t H2 sm2 ht => ?_⟩
    have hL2 := sm2 _ _ (sm1 _ _ hL)
    refine ⟨_, rfl, rfl, _, rfl, ?_⟩
    refine ifF (by intro z; cases z) ?_
    refine ⟨_, rfl, rfl, _, rfl, ?_⟩
    refine ifF (by intro z; cases z) ?_
    have cut12 : cutV (V.str (num W.size) :: (tailParts W).map V.str) (some (1 : Int)) (some (2 : Int)) = ((tailParts W).take 1).map V.str := by
      unfold cutV
      rw [show (1 : Int) = ((1 : Nat) : Int) from rfl, show (2 : Int) = ((2 : Nat) : Int) from rfl, HT.sIx_nat, HT.sIx_nat, List.length_cons, List.length_map]
      cases e : tailParts W with
      | nil => rfl
      | cons x xs =>
        rw [List.length_cons, Nat.min_eq_left (by omega), Nat.min_eq_left (by omega)]
        rfl
    refine ⟨_, rfl, 1, rfl, 2, rfl, p, _, rfl, SqL.of hL2, fun p2 hp2 => ?_⟩
    rw [cut12]
    refine ⟨by show 1 ≤ sizeLine; decide, fun p3 hp3 => ?_⟩
    have n23 : p2 ≠ p3 := ne_of_none upd_same hp3
    have sm3 := same_new (o := .lst [.str "rates"]) (same_new (o := .lst (((tailParts W).take 1).map V.str)) (Same.refl H2) hp2) hp3
    refine ⟨.list (((tailParts W).take 1).map PyData.str), .list ([Str.ofString "rates"].map PyData.str), .lst (SqL.of ((upd_ne n23).trans upd_same)) (dp_strs _), .lst (SqL.of upd_same) (dp_strs [Str.ofString "rates"]), shaped_strs (tail_ok W), shaped_strs ok_rates, _, rfl, ?_⟩
    rw [eqv_strs, tail_first]
    have hL3 := sm3 _ _ hL2
    have ht3 := sm3 _ _ ht
    have smT := sm.trans ((sm1.trans sm2).trans sm3)
    revert sm3 hL3 ht3 smT
    generalize upd (upd H2 p2 (.lst (((tailParts W).take 1).map V.str))) p3 (.lst [.str "rates"]) = H3
    intro sm3 hL3 ht3 smT
    by_cases e : W.fast = 1
    · refine ifF (by simpa using e) ?_
      refine ⟨_, rfl, 1, rfl, p, _, rfl, SqL.of hL3, fun p4 hp4 => ?_⟩
      rw [show (1 : Int) = ((1 : Nat) : Int) from rfl, cutV_from (by rw [List.length_cons]; omega)]
      have et : tailParts W = lateParts W := by unfold tailParts rateParts; rw [if_pos e]; rfl
      have sm4 := same_new (o := .lst ((tailParts W).map V.str)) smT hp4
      have ht4 : (upd H3 p4 (.lst ((tailParts W).map V.str))) t = _ := (upd_ne (ne_of_none ht3 hp4)).trans ht3
      refine ⟨p4, W, rfl, SqL.of (by rw [← et]; exact upd_same), hok, ?_⟩
      refine ⟨_, rfl, rfl, _, rfl, ?_⟩
      refine ifF (by intro z; cases z) ?_
      refine ⟨_, rfl, _, rfl, t, _, 0, nV W.fast, rfl, rfl, SqT.of ht4, rfl, _, rfl, t, _, 1, nV W.slow, rfl, rfl, SqT.of ht4, rfl, _, rfl, by show 4 ≤ sizeLine; decide, fun t5 ht5 => ?_⟩
      exact q t5 _ (same_new sm4 ht5) upd_same
    · refine ifT (by simpa using e) ?_
      have et : tailParts W = Str.ofString "rates" :: num W.fast :: num W.slow :: lateParts W := by unfold tailParts rateParts; rw [if_neg e]; rfl
      refine ⟨_, rfl, 4, rfl, p, _, rfl, SqL.of hL3, fun p4 hp4 => ?_⟩
      rw [show (4 : Int) = ((4 : Nat) : Int) from rfl, cutV_from (by rw [et, List.length_cons, List.length_map]; simp only [List.length_cons]; omega)]
      have ed : (V.str (num W.size) :: (tailParts W).map V.str).drop 4 = (lateParts W).map V.str := by rw [et]; rfl
      rw [ed]
      have sm4 := same_new (o := .lst ((lateParts W).map V.str)) smT hp4
      have ht4 : (upd H3 p4 (.lst ((lateParts W).map V.str))) t = _ := (upd_ne (ne_of_none ht3 hp4)).trans ht3
      refine ⟨p4, W, rfl, SqL.of upd_same, hok, ?_⟩
      refine ⟨_, rfl, rfl, _, rfl, ?_⟩
      refine ifF (by intro z; cases z) ?_
      refine ⟨_, rfl, _, rfl, t, _, 0, nV W.fast, rfl, rfl, SqT.of ht4, rfl, _, rfl, t, _, 1, nV W.slow, rfl, rfl, SqT.of ht4, rfl, _, rfl, by show 4 ≤ sizeLine; decide, fun t5 ht5 => ?_⟩
      exact q t5 _ (same_new sm4 ht5) upd_same
abbrev s_entry_in : Stmt := top 27
abbrev N_entry_in : List Str := ["line", "size", "head", "parts", "events", "numbers", "part"]
theorem sc_entry_in : FnScope N_entry_in ["line", "size"] (C8.fnScope s_entry_in) := C8.fnScope_by (by decide +kernel)
def sp_entry_in (K : PySem.W.Frag) : Sp := fun vs H Q _ => ∃ (e : Ent) (N : Nat), vs = [.str (entS e), nV N] ∧ e.Ok N ∧ 1 ≤ N ∧ N ≤ 12 ∧ ∀ (t : Addr) H', Same H H' → H t = none → H' t = some (.tup e.vs) → Q (.ref t) H'
theorem ok_entry_in {f : Addr} {fd : FuncData} (F : C8.Def K mg "entry_in" s_entry_in f fd) (b : Binds K fd ["line", "size"] []) (T : Gb mg) (c_number_in : C8.Cal P w K mg base 1 "number_in" sp_number_in []) : C8.Cal P w K mg base 2 "entry_in" (sp_entry_in K) [] := by
  refine C8.cal0 F b .nil sc_entry_in (fun vs H Q E h => ?_) (fun cdv A outer s H vs Q E hr h => ?_)
  · obtain ⟨e, N, rfl, _⟩ := h
    rfl
  · obtain ⟨e, N, rfl, hok, hN1, hN2, q⟩ := h
    refine ⟨_, (pss_cons (ps_asg (pe_split (pv 0) pe_str) (pg_star rfl (pg_name (i := 2) sc_entry_in.nd rfl (Or.inl rfl)) (pg_name (i := 3) sc_entry_in.nd rfl (Or.inl rfl))))
(C8.pss_cut (ps_if (pt_cmpR op_eq (pv 2) pe_str (nomark _))
(pss_one (ps_set (i := 4) sc_entry_in.nd rfl (Or.inl rfl) pe_int))
(pss_one (ps_if (PW.pt (pw_or (pt_cmpR op_eq (pv 2) pe_str (nomark _)) (pw_or1 (pt_cmpR op_eq (pv 2) pe_str (nomark _)))))
(pss_one (ps_set (i := 4) sc_entry_in.nd rfl (Or.inl rfl) pe_int))
(pss_one (ps_ret pe_non)))))
(pss_cons (ps_if (pt_cmpR op_ne (pe_callB (call_lenK K rfl) (by rfl) T.len PySem.boot_len (pa_cons (pv 3) pa_nil)) (pe_op op_add (pv 4) pe_int) (nomark _))
(pss_one (ps_ret pe_non))
pss_nil)
(pss_cons (ps_set (i := 5) sc_entry_in.nd rfl (Or.inl rfl) (pe_op op_cat (pe_lc (own := [("part", 6)]) rfl sc_entry_in.nd (pi_listK K rfl (pe_slice sl_list (pv 3) po_none (po_some (pv 4)))) (blkOk_by (N := N_entry_in) (sc := C8.fnScope s_entry_in) (by decide +kernel)) (fun _ _ _ _ _ => (pg_name (i := 6) sc_entry_in.nd rfl (Or.inl rfl))) (fun _ _ _ _ _ => pts_nil) (fun _ _ _ _ _ => (C8.pe_c c_number_in hr (by decide) (by rfl) (pa_cons (pv 6) (pa_cons pe_int (pa_cons (pe_op op_sub (pv 1) pe_int) pa_nil)))))) (pe_lst (pa_cons (C8.pe_c c_number_in hr (by decide) (by rfl) (pa_cons (pe_ix (ix_listK K rfl) (pv 3) (pv 4) (fun _ _ => rfl)) (pa_cons pe_int (pa_cons (C8.pe_gc (by rfl) T.MOST) pa_nil)))) pa_nil))))
(pss_cons (ps_if (pt_cmpR (op_inK K rfl) pe_non (pv 5) rfl)
(pss_one (ps_ret pe_non))
pss_nil)
(pss_one (ps_ret (pe_tup (pa_cons (pv 2) (StX.pa_star (pv 5) pa_nil)))))))))), ?_⟩
    have hlen := entS_len hok hN2
    refine ⟨_, rfl, ⟨_, rfl⟩, entS e, Str.ofString " ", rfl, rfl, lens0 (.inl rfl), size_le (by omega), fun p0 hp0 => ?_⟩
    rw [ent_split]
    have hnl : e.nums.length ≤ 3 := by cases e <;> simp [Ent.nums]
    refine ⟨p0, .str e.head, (e.nums.map num).map V.str, rfl, SqL.of upd_same, ?_, fun p hp => ?_⟩
    · rw [List.length_map, List.length_map]
      exact Nat.le_trans hnl (by decide)
    have sm := same_new (o := .lst ((e.nums.map num).map V.str)) (same_new (o := .lst ((entParts e).map V.str)) (Same.refl H) hp0) hp
    have hL : (upd (upd H p0 (.lst ((entParts e).map V.str))) p (.lst ((e.nums.map num).map V.str))) p = some (.lst ((e.nums.map num).map V.str)) := upd_same
    revert sm hL
    generalize upd (upd H p0 (.lst ((entParts e).map V.str))) p (.lst ((e.nums.map num).map V.str)) = H1
    intro sm hL
    refine ⟨fun σ' H' => H' = H1 ∧ σ' = [some (.str (entS e)), some (nV N), some (.str e.head), some (.ref p), some (nV e.evs.length), none, none], ?_, ?_⟩
    · cases e with
      | noted i t =>
        refine ⟨_, rfl, rfl, _, rfl, ?_⟩
        refine ifT rfl ?_
        exact ⟨rfl, rfl⟩
      | after i j t =>
        refine ⟨_, rfl, rfl, _, rfl, ?_⟩
        refine ifF (by intro z; exact absurd (V.str.inj z) (show ¬ (Str.ofString "after" = Str.ofString "noted") by decide +kernel)) ?_
        refine ⟨_, rfl, rfl, _, rfl, ?_⟩
        refine ifT rfl ?_
        exact ⟨rfl, rfl⟩
      | shown i j t =>
        refine ⟨_, rfl, rfl, _, rfl, ?_⟩
        refine ifF (by intro z; exact absurd (V.str.inj z) (show ¬ (Str.ofString "shown" = Str.ofString "noted") by decide +kernel)) ?_
        refine ⟨_, rfl, rfl, _, rfl, ?_⟩
        refine ifF (by intro z; exact absurd (V.str.inj z) (show ¬ (Str.ofString "shown" = Str.ofString "after") by decide +kernel)) ?_
        refine ⟨_, rfl, rfl, _, rfl, ?_⟩
        refine ifT rfl ?_
        exact ⟨rfl, rfl⟩
    rintro σ' H' ⟨rfl, rfl⟩
    have hen : e.nums = e.evs ++ [e.last] := e.nums_eq
    have hel : e.nums.length = e.evs.length + 1 := by rw [hen, List.length_append, List.length_singleton]
    refine ⟨_, rfl, p, _, rfl, .inl (SqL.of hL), _, rfl, _, _, rfl, rfl, rfl, _, rfl, ?_⟩
    refine ifNF (by rw [List.length_map, List.length_map, hel]; rfl) ?_
    refine ⟨_, rfl, _, rfl, (e.evs.length : Int), rfl, p, _, rfl, SqL.of hL, fun p1 hp1 => ?_⟩
    rw [cutV_to, ← List.map_take, ← List.map_take, hen, List.take_left]
    rw [hen] at hL
    have sm1 := same_new (o := .lst ((e.evs.map num).map V.str)) sm hp1
    have hL1 : (upd H' p1 (.lst ((e.evs.map num).map V.str))) p = _ := (upd_ne (ne_of_none hL hp1)).trans hL
    have hE1 : (upd H' p1 (.lst ((e.evs.map num).map V.str))) p1 = some (.lst ((e.evs.map num).map V.str)) := upd_same
    revert sm1 hL1 hE1
    generalize upd H' p1 (.lst ((e.evs.map num).map V.str)) = H2
    intro sm1 hL1 hE1
    refine ⟨p1, rfl, ⟨_, SqL.of hE1⟩, fun D hD => lc_it (walk_list (xs := (e.evs.map num).map V.str)) (fun i H' => Same H2 H' ∧ H' D = some (.lst ((e.evs.take i).map nV)))
      ⟨same_new (Same.refl _) hD, upd_same⟩ (fun i H' _ h => SqL.of (h.1 _ _ hE1)) ?_ ?_⟩
    · rintro i x H4 H4' hi ⟨sm4, hD4⟩ ⟨rfl, hx⟩
      rw [List.map_map] at hx
      obtain ⟨n, hn, rfl⟩ := at_map hx
      have hnN := hok.ev n (List.mem_of_getElem? hn)
      refine ⟨rfl, yes_go ?_⟩
      refine ⟨_, rfl, _, rfl, _, _, rfl, rfl, n, 0, N - 1, ?_, by omega, by omega, Nat.le_trans (show N - 1 ≤ 12 by omega) (by decide), ?_⟩
      · show [V.str (num n), V.int 0, V.int ((N : Int) - 1)] = [V.str (num n), V.int ((0 : Nat) : Int), V.int ((N - 1 : Nat) : Int)]
        rw [show ((N : Int) - 1) = ((N - 1 : Nat) : Int) by omega] <;> rfl
      refine ⟨_, hD4, size_lt (by rw [List.length_map, List.length_take]; omega), same_mut sm4 hD, ?_⟩
      rw [upd_same, take_snoc hn, List.map_append]
      rfl
    rintro H4 ⟨sm4, hD4⟩
    rw [List.length_map, List.length_map, List.take_length] at hD4
    have hL4 := sm4 _ _ hL1
    have hlast := hok.t
    refine ⟨_, rfl, _, rfl, p, _, _, .str (num e.last), rfl, rfl, SqL.of hL4, atI_nat (j := e.evs.length) (by rw [List.map_map, List.getElem?_map, List.getElem?_append_right (Nat.le_refl _), Nat.sub_self]; rfl), e.last, 0, 10 ^ 30, rfl, by omega, hlast, Nat.le_refl _, ?_⟩
    refine ⟨by show 1 ≤ sizeLine; decide, fun p5 hp5 => ?_⟩
    have n5 : D ≠ p5 := ne_of_none hD4 hp5
    have sm5 := same_new (o := .lst [nV e.last]) (sm1.trans sm4) hp5
    refine ⟨D, p5, e.evs.map nV, [nV e.last], rfl, rfl, (upd_ne n5).trans hD4, upd_same, size_le (by rw [List.length_map, List.length_singleton]; omega), fun p6 hp6 => ?_⟩
    have sm6 := same_new (o := .lst (e.evs.map nV ++ [nV e.last])) sm5 hp6
    have hn6 : (upd (upd H4 p5 (.lst [nV e.last])) p6 (.lst (e.evs.map nV ++ [nV e.last]))) p6 = some (.lst (e.nums.map nV)) := by rw [upd_same, hen, List.map_append] <;> rfl
    refine ⟨_, rfl, p6, _, rfl, .inl (SqL.of hn6), rfl, flat_nV _, _, rfl, ?_⟩
    rw [inV_non]
    refine iteF ?_
    refine ⟨_, rfl, _, rfl, p6, _, rfl, .inr (SqL.of hn6), ?_⟩
    refine ⟨by show (V.str e.head :: (e.nums.map nV ++ [])).length ≤ sizeLine; rw [List.append_nil, List.length_cons, List.length_map]; exact size_le (by omega), fun t ht => ?_⟩
    refine q t _ (same_new sm6 ht) (sm6.free ht) ?_
    rw [upd_same, e.vs_eq, List.append_nil]
end
end My
namespace My
open PySem L2
/-! ### read_log -/
section
variable {P : Program} {w : World} {K : PySem.W.Frag} {mg : Str → Option Value} {base : Heap}
abbrev s_read_log : Stmt := top 28
abbrev N_read_log : List Str := ["text", "first", "lines", "head", "size", "fast", "slow", "late", "entries", "entry"]
theorem sc_read_log : FnScope N_read_log ["text", "first"] (C8.fnScope s_read_log) := C8.fnScope_by (by decide +kernel)
def sp_read_log (K : PySem.W.Frag) (C : Addr) : Sp := fun vs H Q _ => ∃ (W : Wd) (v : V), vs = [.str (logText W), v] ∧ W.Ok ∧ ∀ (p : Addr) H', Same H H' → H p = none → LogAt K C H' p W → Q (.ref p) H'
theorem fn_read_log {C f : Addr} {fd : FuncData} (F : C8.Def K mg "read_log" s_read_log f fd) (T : Gb mg) (c_head_in : C8.Cal P w K mg base 3 "head_in" (sp_head_in K) []) (c_entry_in : C8.Cal P w K mg base 2 "entry_in" (sp_entry_in K) []) (c_line_at : C8.Cal P w K mg base 1 "line_at" (sp_line_at K) []) (c_check_end : C8.Cal P w K mg base 1 "check_end" (sp_check_end K) [])
    (c_Log : C8.Mak P w K mg base 2 "Log" C (sp_initL K C) []) : FnOk P w K mg base C8.CX0 4 f fd ["text", "first"] (sp_read_log K C) := by
  refine C8.fn0 F.fn sc_read_log (fun vs H Q E h => ?_) (fun cdv A outer s H vs Q E hr h => ?_)
  · obtain ⟨W, v, rfl, _⟩ := h
    rfl
  · obtain ⟨W, v, rfl, hok, q⟩ := h
    have o3 := hok.n
    refine ⟨_, (pss_cons (ps_set (i := 2) sc_read_log.nd rfl (Or.inl rfl) (pe_split (pv 0) pe_str))
(pss_cons (ps_set (i := 3) sc_read_log.nd rfl (Or.inl rfl) (C8.pe_c c_head_in hr (by decide) (by rfl) (pa_cons (pe_ix (ix_listK K rfl) (pv 2) pe_int (fun _ _ => rfl)) pa_nil)))
(pss_cons (ps_if (pt_cmpR op_isN (pv 3) pe_non (nomark _))
(pss_one ps_never)
pss_nil)
(pss_cons (ps_asg (pv 3) (pg_tup (by rfl) (pgs_cons (pg_name (i := 4) sc_read_log.nd rfl (Or.inl rfl)) (pgs_cons (pg_name (i := 5) sc_read_log.nd rfl (Or.inl rfl)) (pgs_cons (pg_name (i := 6) sc_read_log.nd rfl (Or.inl rfl)) (pgs_cons (pg_name (i := 7) sc_read_log.nd rfl (Or.inl rfl)) pgs_nil))))))
(pss_cons (ps_set (i := 8) sc_read_log.nd rfl (Or.inl rfl) (pe_lst pa_nil))
(pss_cons (ps_while PassesOwn.never (pt_cmpR op_ne (C8.pe_c c_line_at hr (by decide) (by rfl) (pa_cons (pv 2) (pa_cons (pe_op op_add (pe_callB (call_lenK K rfl) (by rfl) T.len PySem.boot_len (pa_cons (pv 8) pa_nil)) pe_int) pa_nil))) pe_str (nomark _))
(pss_cons (ps_set (i := 9) sc_read_log.nd rfl (Or.inl rfl) (C8.pe_c c_entry_in hr (by decide) (by rfl) (pa_cons (C8.pe_c c_line_at hr (by decide) (by rfl) (pa_cons (pv 2) (pa_cons (pe_op op_add (pe_callB (call_lenK K rfl) (by rfl) T.len PySem.boot_len (pa_cons (pv 8) pa_nil)) pe_int) pa_nil))) (pa_cons (pv 4) pa_nil))))
(pss_cons (ps_if (PW.pt (pw_or (pt_cmpR op_isN (pv 9) pe_non (nomark _)) (pw_or1 (pt_cmpR op_eq (pe_callB (call_lenK K rfl) (by rfl) T.len PySem.boot_len (pa_cons (pv 8) pa_nil)) (C8.pe_gc (by rfl) T.MOST_ENTRIES) (nomark _)))))
(pss_one ps_never)
pss_nil)
(pss_one (ps_expr (pe_bm PySem.F.plainAttrs_list PySem.F.slot_list_append PySem.F.type_list_append mt_append (pv 8) (pa_cons (pv 9) pa_nil)))))))
(pss_cons (ps_expr (C8.pe_c c_check_end hr (by decide) (by rfl) (pa_cons (pv 2) (pa_cons (pe_op op_add (pe_callB (call_lenK K rfl) (by rfl) T.len PySem.boot_len (pa_cons (pv 8) pa_nil)) pe_int) (pa_cons (pv 1) pa_nil)))))
(pss_one (ps_ret (C8.pe_mk c_Log hr (by decide) (by rfl) (pa_cons (pv 4) (pa_cons (pv 8) (pa_cons (pv 5) (pa_cons (pv 6) (pa_cons (pv 7) pa_nil))))))))))))))), ?_⟩
    have htl := logText_len hok
    have htn := lines_n hok
    refine ⟨_, rfl, ⟨_, rfl⟩, logText W, Str.ofString "\n", rfl, rfl, lens0 (.inr rfl), size_le (by omega), fun p0 hp0 => ?_⟩
    rw [lines_split]
    have sm0 := same_new (o := .lst ((lines W).map V.str)) (Same.refl H) hp0
    have hL0 : (upd H p0 (.lst ((lines W).map V.str))) p0 = some (.lst ((lines W).map V.str)) := upd_same
    revert sm0 hL0
    generalize upd H p0 (.lst ((lines W).map V.str)) = H0
    intro sm0 hL0
    refine ⟨_, rfl, p0, _, 0, .str (headS W), rfl, rfl, SqL.of hL0, atI_nat (j := 0) rfl, W, rfl, hok, fun t H1 sm1 ht => ?_⟩
    refine ⟨_, rfl, rfl, _, rfl, ?_⟩
    refine ifF (by intro z; cases z) ?_
    refine ⟨_, rfl, t, _, rfl, SqT.of ht, rfl, _, _, rfl, _, _, rfl, _, _, rfl, _, _, rfl, rfl, ?_⟩
    refine ⟨by show 0 ≤ sizeLine; decide, fun D hD => ?_⟩
    have hL1 := sm1 _ _ hL0
    have sm01 := sm0.trans sm1
    have hDH : H D = none := sm01.free hD
    have sm2 := same_new (o := .lst []) (Same.refl H1) hD
    refine ⟨fun m σ H' => ∃ (i : Nat) (vs : List V) (v9 : Option V), Same H1 H' ∧ i + m = W.ents.length ∧ H' D = some (.lst vs) ∧ Paired (EntV K H') vs (W.ents.take i) ∧ σ = [some (.str (logText W)), some v, some (.ref p0), some (.ref t), some (nV W.size), some (nV W.fast), some (nV W.slow), some (nV W.late), some (.ref D), v9],
      ⟨W.ents.length, 0, [], none, sm2, by omega, upd_same, by rw [List.take_zero]; exact .nil, rfl⟩, ?_⟩
    rintro m σ H3 ⟨i, vs, v9, sm3, him, hvs, hvp, rfl⟩
    have hvl := hvp.length
    rw [List.length_take, Nat.min_eq_left (by omega)] at hvl
    have hL3 := sm3 _ _ hL1
    refine ⟨_, rfl, _, rfl, D, vs, rfl, .inl (SqL.of hvs), _, _, rfl, rfl, p0, lines W, i + 1, ?_, SqL.of hL3, rfl, _, rfl, ?_⟩
    · show [V.ref p0, V.int ((vs.length : Int) + 1)] = _
      rw [hvl] <;> rfl
    by_cases hi : i < W.ents.length
    · obtain ⟨e, he⟩ := at_ex hi
      have heok := hok.e e (List.mem_of_getElem? he)
      rw [lineAt_ent he]
      refine ifNT (by intro z; exact entS_ne_end e (V.str.inj z)) ?_
      refine ⟨fun σ' H' => ∃ (vs : List V) (v9 : Option V), Same H1 H' ∧ H' D = some (.lst vs) ∧ Paired (EntV K H') vs (W.ents.take (i + 1)) ∧ σ' = [some (.str (logText W)), some v, some (.ref p0), some (.ref t), some (nV W.size), some (nV W.fast), some (nV W.slow), some (nV W.late), some (.ref D), v9], ?_, ?_⟩
      · rintro σ' H' ⟨vs', v', a1, a2, a3, a4⟩
        exact ⟨m - 1, by omega, i + 1, vs', v', a1, by omega, a2, a3, a4⟩
      refine ⟨_, rfl, _, rfl, D, vs, rfl, .inl (SqL.of hvs), _, _, rfl, rfl, p0, lines W, i + 1, ?_, SqL.of hL3, ?_⟩
      · show [V.ref p0, V.int ((vs.length : Int) + 1)] = _
        rw [hvl] <;> rfl
      rw [lineAt_ent he]
      refine ⟨_, rfl, e, W.size, rfl, heok, hok.s1, hok.s2, fun te H4 sm4 hte0 hte => ?_⟩
      have hvs4 := sm4 _ _ hvs
      refine ⟨_, rfl, rfl, _, rfl, ?_⟩
      refine ifF (by intro z; cases z) ?_
      refine ⟨_, rfl, D, vs, rfl, .inl (SqL.of hvs4), rfl, _, rfl, ?_⟩
      refine ifF (by rw [hvl]; intro z; have := V.int.inj z; omega) ?_
      refine ⟨_, rfl, .inl ⟨rfl, _, SqL.of hvs4⟩, _, rfl, D, _, _, rfl, rfl, hvs4, size_lt (by omega), ?_⟩
      refine ⟨vs ++ [.ref te], _, same_mut (sm3.trans sm4) hD, upd_same, ?_, rfl⟩
      rw [take_snoc he]
      exact Paired.snoc (L2.Paired.mapP hvp fun _ _ h => (h.mono sm4).updL hvs4) ⟨te, rfl, SqT.updL hvs4 (SqT.of hte)⟩
    · have hi' : i = W.ents.length := by omega
      subst hi'
      rw [lineAt_end]
      refine ifNF rfl ?_
      rw [List.take_length] at hvp
      refine ⟨_, rfl, _, rfl, D, vs, rfl, .inl (SqL.of hvs), _, _, rfl, rfl, _, rfl, p0, (lines W).map V.str, W.ents.length + 2, v, ?_, SqL.of hL3, by rw [List.length_map, lines_length]; exact Nat.le_refl _, ?_⟩
      · show [V.ref p0, V.int ((vs.length : Int) + 2), v] = _
        rw [hvl] <;> rfl
      refine ⟨_, rfl, _, rfl, _, rfl, _, rfl, _, rfl, fun x dx' hx hdx hne => ?_⟩
      have sg := same_new (o := .ins C dx' []) (same_new (o := .own x) (Same.refl H3) hdx) (p := x) (by rw [upd_ne hne.symm]; exact hx)
      have smA := sm01.trans sm3
      refine ⟨x, dx', D, vs, W, rfl, upd_same, SqL.of (sg _ _ hvs), L2.Paired.mapP hvp fun _ _ h => h.mono sg, hok, fun H5 smx hL5 => ⟨rfl, q x H5 (fun b o e => smx b o (ne_of_none (smA b o e) hx) (sg b o (smA b o e))) (smA.free hx) hL5⟩⟩
end
end My
namespace My
open PySem L2
/-! ### log_lines, show_log -/
def rateS (W : Wd) : Str := if W.fast = 1 then Str.ofString "" else (((Str.empty ++ Str.ofString " rates ") ++ num W.fast) ++ Str.ofString " ") ++ num W.slow
def lateS (W : Wd) : Str := if W.late = 0 then Str.ofString "" else (Str.empty ++ Str.ofString " late ") ++ num W.late
theorem tl_log : TL.tl (Str.ofString "log ") = TL.tl (Str.ofString "log") ++ [32] := by decide +kernel
theorem tl_rates : TL.tl (Str.ofString " rates ") = 32 :: (TL.tl (Str.ofString "rates") ++ [32]) := by decide +kernel
theorem tl_late : TL.tl (Str.ofString " late ") = 32 :: (TL.tl (Str.ofString "late") ++ [32]) := by decide +kernel
theorem tl_empty : TL.tl Str.empty = [] := rfl
theorem tl_empty2 : TL.tl (Str.ofString "") = [] := by decide +kernel
theorem tl_headS (W : Wd) : TL.tl (headS W) = TL.tl (Str.ofString "log") ++ (32 :: (TL.tl (num W.size) ++ ((if W.fast = 1 then [] else 32 :: (TL.tl (Str.ofString "rates") ++ 32 :: (TL.tl (num W.fast) ++ 32 :: TL.tl (num W.slow)))) ++ (if W.late = 0 then [] else 32 :: (TL.tl (Str.ofString "late") ++ 32 :: TL.tl (num W.late)))))) := by
  unfold headS headParts tailParts rateParts lateParts
  rw [TL.join_eq, TL.tl_join, sp_tl]
  by_cases e : W.fast = 1 <;> by_cases e2 : W.late = 0 <;> simp [e, e2, TL.joinL]
theorem head_eq (W : Wd) : (((Str.empty ++ Str.ofString "log ") ++ num W.size) ++ rateS W) ++ lateS W = headS W := by
  apply TL.ext_tl
  rw [tl_headS]
  unfold rateS lateS
  by_cases e : W.fast = 1 <;> by_cases e2 : W.late = 0 <;> simp [e, e2, TL.tl_append, tl_log, tl_rates, tl_late, tl_empty, tl_empty2, sp_tl]
theorem len_app (a b : Str) : (a ++ b).length = a.length + b.length := by rw [TL.len_tl, TL.len_tl, TL.len_tl, TL.tl_append, List.length_append]
theorem lenE : Str.empty.length = 0 := rfl
theorem join_ok {ys : List Str} {sep : Str} {b n : Nat} (h : ∀ p ∈ ys, p.length + sep.length ≤ b) (hn : ys.length ≤ n) (hb : n * b ≤ 16777216) : JoinOk sep ys = true := by
  have key : ∀ (l : List Str) (a : Nat), (∀ p ∈ l, p.length + sep.length ≤ b) → l.foldl (· + ·.length + sep.length) a ≤ a + l.length * b := by
    intro l
    induction l with
    | nil => intro a _; simp
    | cons p l ih =>
      intro a hl
      have h1 := ih (a + p.length + sep.length) fun q hq => hl q (List.mem_cons_of_mem _ hq)
      have h2 := hl p (List.mem_cons_self ..)
      rw [List.foldl_cons, List.length_cons, Nat.add_mul]
      omega
  unfold JoinOk
  rw [List.foldl_toArray, Bool.not_eq_true']
  have h1 := key ys 0 h
  have h2 : ys.length * b ≤ n * b := Nat.mul_le_mul_right _ hn
  unfold Builtin.Str.tooLong
  refine decide_eq_false ?_
  have : sizeLine = 16777216 := by decide
  omega
section
variable {X : Cx}
theorem call_str_any : CallR X (.type "str") (fun xs H Q => (∃ i, xs = [.int i] ∧ i.natAbs.log2 < 1920 ∧ Q (.str (toString i)) H) ∨ (∃ a, xs = [.str a] ∧ Q (.str a) H)) := by
  intro pins s σ H xs us Q I r h
  rcases h with h | h
  · exact call_str_int pins s σ H xs us Q I r h
  · exact SkE.call_str_str pins s σ H xs us Q I r h
theorem passF {P : Program} {w : World} : Passes (CX P w) X C8.E0 := fun pins σ H s e s' _ h => by
  obtain ⟨_, _, _, _, _, _, _, _, _, _, _, _, z⟩ := h
  exact z.elim
theorem noStopF {K : PySem.W.Frag} : NoStop K C8.E0 := fun _ _ _ z => z.elim
/-- a walk in a generator's for -/
theorem for_itG {J : It} {n : Nat} {G : Hp → Prop} {Y : Nat → Hp → V → Hp → Prop} (w : Walk J n G Y) {g : TG} {tb : TGn} {D : GEnds} {ys : List V} {σ : L2.St} {H : Hp} (Pv : Nat → List V → L2.St → Hp → Prop) (h0 : Pv 0 ys σ H) (hG : ∀ i ys σ H, i ≤ n → Pv i ys σ H → G H)
    (hs : ∀ i x ys σ H H', i < n → Pv i ys σ H → Y i H x H' → g x σ H' fun σ2 H2 => tb { D with nx := Pv (i + 1), ct := Pv (i + 1), bk := D.nx } ys σ2 H2) (hd : ∀ ys σ H, Pv n ys σ H → D.nx ys σ H) :
    ∃ W : Nat → Nat → List V → L2.St → Hp → Prop, (∃ m, W 0 m ys σ H) ∧ ∀ i m ys σ H, W i m ys σ H →
      (J.stop i H ∧ D.nx ys σ H) ∨ (J.go i H ∧ ∃ N : List V → L2.St → Hp → Prop, (∀ ys' σ' H', N ys' σ' H' → ∃ m', m' < m ∧ W (i + 1) m' ys' σ' H') ∧ ∀ x H', J.yld i H x H' → g x σ H' fun σ2 H2 => tb { D with nx := N, ct := N, bk := D.nx } ys σ2 H2) := by
  refine ⟨fun i m ys σ H => m = n - i ∧ i ≤ n ∧ Pv i ys σ H, ⟨n, by simp, Nat.zero_le _, h0⟩, ?_⟩
  rintro i m ys σ H ⟨rfl, hi, p⟩
  have q := hG i ys σ H hi p
  by_cases hlt : i < n
  · exact .inr ⟨w.goes i H hlt q, Pv (i + 1), fun ys' σ' H' p' => ⟨n - (i + 1), by omega, rfl, hlt, p'⟩, fun x H' y => hs i x ys σ H H' hlt p (w.yields i H x H' hlt q y)⟩
  · have e : i = n := by omega
    subst e
    exact .inl ⟨w.stops H q, hd ys σ H p⟩
end
def gscC (N P : List Str) (sc : Scope) : Bool :=
  decide (sc.kind = .function) && !sc.isCoroutine && sc.isGenerator && decide N.Nodup && decide (N.take P.length = P) && P.all (fun x => decide (sc.names.lookup x = some .local) || decide (sc.names.lookup x = some .cell)) && sc.names.all (fun y => decide (y.2 ≠ .free))
theorem gScope_by {N P : List Str} {sc : Scope} (h : gscC N P sc = true) : GScope N P sc := by
  unfold gscC at h
  simp only [Bool.and_eq_true, Bool.not_eq_true', decide_eq_true_eq, List.all_eq_true, Bool.or_eq_true] at h
  obtain ⟨⟨⟨⟨⟨⟨h1, h2⟩, h3⟩, h4⟩, h5⟩, h6⟩, h7⟩ := h
  exact ⟨h1, h2, h3, h4, h5, h6, h7⟩
theorem ent_item {e : Ent} {j : Nat} {x : V} (h : e.vs[j]? = some x) : ∃ s, (entParts e)[j]? = some s ∧ (x = .str s ∨ ∃ n, n ∈ e.nums ∧ x = nV n ∧ s = num n) := by
  rw [e.vs_eq] at h
  unfold entParts
  cases j with
  | zero =>
    rw [List.getElem?_cons_zero] at h
    exact ⟨e.head, rfl, .inl (Option.some.inj h).symm⟩
  | succ j =>
    rw [List.getElem?_cons_succ] at h
    obtain ⟨n, hn, rfl⟩ := at_map h
    exact ⟨num n, by rw [List.getElem?_cons_succ, List.getElem?_map, hn] <;> rfl, .inr ⟨n, List.mem_of_getElem? hn, rfl, rfl⟩⟩
theorem num_le {e : Ent} {N : Nat} (h : e.Ok N) (hN : N ≤ 12) {n : Nat} (hn : n ∈ e.nums) : n ≤ 10 ^ 30 := by
  rw [Ent.nums_eq] at hn
  rcases List.mem_append.mp hn with hn | hn
  · have := h.ev n hn
    exact Nat.le_trans (show n ≤ 12 by omega) (by decide)
  · rw [List.mem_singleton.mp hn]
    exact h.t
theorem vs_len (e : Ent) : e.vs.length = (entParts e).length := by cases e <;> rfl
theorem sum_le {b : Nat} : ∀ {ys : List Str}, (∀ p ∈ ys, p.length ≤ b) → (ys.map (·.length)).sum ≤ ys.length * b
  | [], _ => by simp
  | y :: ys, h => by
    have h1 := sum_le (ys := ys) fun p hp => h p (List.mem_cons_of_mem _ hp)
    have h2 := h y (List.mem_cons_self ..)
    rw [List.map_cons, List.sum_cons, List.length_cons, Nat.add_mul]
    omega
theorem lines_at {W : Wd} {i : Nat} {e : Ent} (h : W.ents[i]? = some e) : (lines W)[i + 1]? = some (entS e) := by
  unfold lines
  rw [List.getElem?_cons_succ, List.getElem?_append_left (by rw [List.length_map]; exact lt_of_at h), List.getElem?_map, h]
  rfl
theorem lines_all (W : Wd) : (lines W).take (W.ents.length + 1) ++ [Str.ofString "end"] = lines W := by
  unfold lines
  rw [List.take_succ_cons, List.take_append_of_le_length (by rw [List.length_map]; exact Nat.le_refl _), List.take_of_length_le (by rw [List.length_map]; exact Nat.le_refl _), List.cons_append]
section
variable {P : Program} {w : World} {K : PySem.W.Frag} {mg : Str → Option Value} {base : Heap}
abbrev s_log_lines : Stmt := top 29
abbrev N_log_lines : List Str := ["log", "rates", "late", "entry", "item"]
theorem sc_log_lines : GScope N_log_lines ["log"] (C8.fnScope s_log_lines) := gScope_by (by decide +kernel)
def sp_log_lines (K : PySem.W.Frag) (C : Addr) : SpG := fun vs H Q _ => ∃ (p : Addr) (W : Wd), vs = [.ref p] ∧ LogAt K C H p W ∧ W.Ok ∧ ∀ H', Same H H' → Q ((lines W).map V.str) H'
theorem gn_log_lines {C f : Addr} {fd : FuncData} (F : C8.Def K mg "log_lines" s_log_lines f fd) (cl : ClsL K C) (T : Gb mg) : GFn P w K mg base 1 f fd ["log"] (sp_log_lines K C) := by
  obtain ⟨oc, od, dV, kV, doc, pm, an, cdv, ct, osl, rfl, lk, hcd⟩ := F.fn.ex
  refine gfn_of lk hcd sc_log_lines (fun vs H Q E h => ?_) (fun A outer s H vs Q E pn hr h => ?_)
  · obtain ⟨p, W, rfl, _⟩ := h
    rfl
  · obtain ⟨p, W, rfl, hL, hok, q⟩ := h
    obtain ⟨dx, ea, es, hp, hE, hP⟩ := hL.ex
    obtain ⟨o1, o2, o3, o4, o5, o6, o7, o8⟩ := id hok
    have hel := hP.length
    refine ⟨_, gss_cons (gs_ps (ps_set (i := 1) sc_log_lines.nd rfl (Or.inl rfl) (pe_ifExp (PW.pt (pw_and (pt_cmpR op_eq (pe_fldK K rfl (pv 0) rfl) pe_int (nomark _)) (pw_and1 (pt_cmpR op_eq (pe_fldK K rfl (pv 0) rfl) pe_int (nomark _))))) pe_str (pe_joined (.cons pe_str (.cons (pe_fmt (pe_fldK K rfl (pv 0) rfl)) (.cons pe_str (.cons (pe_fmt (pe_fldK K rfl (pv 0) rfl)) .nil))))))))
(gss_cons (gs_ps (ps_set (i := 2) sc_log_lines.nd rfl (Or.inl rfl) (pe_ifExp (pt_cmpR op_eq (pe_fldK K rfl (pv 0) rfl) pe_int (nomark _)) pe_str (pe_joined (.cons pe_str (.cons (pe_fmt (pe_fldK K rfl (pv 0) rfl)) .nil))))))
(gss_cons (gs_yield (pe_joined (.cons pe_str (.cons (pe_fmt (pe_fldK K rfl (pv 0) rfl)) (.cons (pe_fmt (pv 1)) (.cons (pe_fmt (pv 2)) .nil))))))
(gss_cons (gs_for owns_gcx rfl (pi_tupK K rfl (pe_fldK K rfl (pv 0) rfl)) (pg_name (i := 3) sc_log_lines.nd rfl (Or.inl rfl))
(gss_cons (gs_yield (pe_join pe_str (pe_lc (own := [("item", 4)]) rfl sc_log_lines.nd (pi_tupK K rfl (pv 3)) (blkOk_by (N := N_log_lines) (sc := C8.fnScope s_log_lines) (by decide +kernel)) (fun _ _ _ _ _ => (pg_name (i := 4) sc_log_lines.nd rfl (Or.inl rfl))) (fun _ _ _ _ _ => pts_nil) (fun _ _ _ _ _ => (pe_callTy call_str_any (by rfl) T.str (by decide +kernel) (pa_cons (pv 4) pa_nil)))))) gss_nil))
(gss_cons (gs_yield pe_str) gss_nil)))), ?_⟩
    have hnum : ∀ n : Nat, n ≤ 1000 → (num n).length ≤ 31 := fun n hn => num_len (Nat.le_trans hn (by decide))
    have hlg : ∀ n : Nat, n ≤ 1000 → (n : Int).natAbs.log2 < 1920 := fun n hn => num_log (Nat.le_trans hn (by decide))
    have lf_ : (Str.ofString (toString ((W.fast : Nat) : Int))).length ≤ 31 := hnum W.fast (by omega)
    have ls_ : (Str.ofString (toString ((W.slow : Nat) : Int))).length ≤ 31 := hnum W.slow (by omega)
    have ll_ : (Str.ofString (toString ((W.late : Nat) : Int))).length ≤ 31 := hnum W.late (by omega)
    have lz_ : (Str.ofString (toString ((W.size : Nat) : Int))).length ≤ 31 := hnum W.size (by omega)
    have c1 : (Str.ofString " rates ").length = 7 := by decide +kernel
    have c2 : (Str.ofString " ").length = 1 := by decide +kernel
    have c3 : (Str.ofString " late ").length = 6 := by decide +kernel
    have c4 : (Str.ofString "log ").length = 4 := by decide +kernel
    have c0 : (Str.ofString "").length = 0 := by decide +kernel
    have hslow : W.fast = 1 → W.slow = 1 := by omega
    refine ⟨_, rfl, p, C, dx, _, _, rfl, hp, cl.cl, cl.nFast, lf_fast _ _ _ _ _, rfl, _, rfl, ?_⟩
    have L : ∀ {x y : Str} {a : Nat}, x.length + y.length ≤ a → a ≤ 100000 → (x ++ y).length ≤ sizeLine := fun {x y a} h1 h2 => by rw [len_app]; exact size_le (by omega)
    by_cases e : W.fast = 1
    case' pos =>
      refine ifT (by rw [e] <;> rfl) ?_
      refine ⟨_, rfl, p, C, dx, _, _, rfl, hp, cl.cl, cl.nSlow, lf_slow _ _ _ _ _, rfl, _, rfl, ?_⟩
      refine ifT (by rw [hslow e] <;> rfl) ?_
    case' neg =>
      refine ifF (by intro z; exact e (Int.ofNat.inj (V.int.inj z))) ?_
      refine iteF ?_
      refine ⟨_, rfl, size_le (by simp only [len_app, lenE, c0, c1, c2, c3, c4]; omega), _, rfl, p, C, dx, _, _, rfl, hp, cl.cl, cl.nFast, lf_fast _ _ _ _ _, .inr ⟨_, rfl, hlg _ (by omega), _, rfl, size_le (by simp only [len_app, lenE, c0, c1, c2, c3, c4]; omega), _, rfl, size_le (by simp only [len_app, lenE, c0, c1, c2, c3, c4]; omega), _, rfl, p, C, dx, _, _, rfl, hp, cl.cl, cl.nSlow, lf_slow _ _ _ _ _, .inr ⟨_, rfl, hlg _ (by omega), _, rfl, size_le (by simp only [len_app, lenE, c0, c1, c2, c3, c4]; omega), ?_⟩⟩⟩
    all_goals
      refine ⟨_, rfl, p, C, dx, _, _, rfl, hp, cl.cl, cl.nLate, lf_late _ _ _ _ _, rfl, _, rfl, ?_⟩
      by_cases e2 : W.late = 0
      case' pos => refine ifT (by rw [e2] <;> rfl) ?_
      case' neg =>
        refine ifF (by intro z; exact e2 (Int.ofNat.inj (V.int.inj z))) ?_
        refine ⟨_, rfl, size_le (by simp only [len_app, lenE, c0, c1, c2, c3, c4]; omega), _, rfl, p, C, dx, _, _, rfl, hp, cl.cl, cl.nLate, lf_late _ _ _ _ _, .inr ⟨_, rfl, hlg _ (by omega), _, rfl, size_le (by simp only [len_app, lenE, c0, c1, c2, c3, c4]; omega), ?_⟩⟩
      all_goals
        refine ⟨by show 0 < sizeLine; decide, ?_⟩
        refine ⟨_, rfl, size_le (by simp only [len_app, lenE, c0, c1, c2, c3, c4]; omega), _, rfl, p, C, dx, _, _, rfl, hp, cl.cl, cl.nSize, lf_size _ _ _ _ _, .inr ⟨_, rfl, hlg _ (by omega), _, rfl, size_le (by simp only [len_app, lenE, c0, c1, c2, c3, c4]; omega), ?_⟩⟩
        refine ⟨_, rfl, .inl ⟨_, rfl, size_le (by simp only [len_app, lenE, c0, c1, c2, c3, c4]; omega), _, rfl, size_le (by simp only [len_app, lenE, c0, c1, c2, c3, c4]; omega), ?_⟩⟩
        refine ⟨_, rfl, .inl ⟨_, rfl, size_le (by simp only [len_app, lenE, c0, c1, c2, c3, c4]; omega), _, rfl, size_le (by simp only [len_app, lenE, c0, c1, c2, c3, c4]; omega), ?_⟩⟩
        have hhd := head_eq W
        unfold rateS lateS at hhd
        first | rw [if_pos e] at hhd | rw [if_neg e] at hhd
        first | rw [if_pos e2] at hhd | rw [if_neg e2] at hhd
        refine ⟨_, rfl, p, C, dx, _, _, rfl, hp, cl.cl, cl.nEntries, lf_entries _ _ _ _ _, ea, rfl, ⟨es, hE⟩, for_itG (walk_tup (xs := es))
          (fun i ys σ H' => Same H H' ∧ ys = ((lines W).take (i + 1)).map V.str ∧ ∃ v1 v2 v3 v4, σ = [some (.ref p), v1, v2, v3, v4])
          ⟨Same.refl H, ?_, _, _, _, _, rfl⟩ (fun i ys σ H' _ h => Same.tup h.1 hE) ?_ ?_⟩
        · show [V.str _] = [V.str (headS W)]
          rw [← hhd] <;> rfl
        · rintro i x ys σ H1 H1' hi ⟨sm1, rfl, v1, v2, v3, v4, rfl⟩ ⟨rfl, hx⟩
          obtain ⟨en, he, a, rfl, ha⟩ := paired_at hP hx
          have heok := o4 en (List.mem_of_getElem? he)
          have ha1 := Same.tup sm1 ha
          have hvl := vs_len en
          have hpn := ent_parts_n en
          refine ⟨by rw [List.length_map, List.length_take]; exact size_lt (by omega), ⟨_, rfl⟩, ?_⟩
          refine ⟨_, rfl, a, rfl, ⟨_, ha1⟩, fun D hD => lc_it (walk_tup (xs := en.vs)) (fun j H' => Same H1' H' ∧ H' D = some (.lst (((entParts en).take j).map V.str)))
            ⟨same_new (Same.refl _) hD, upd_same⟩ (fun j H' _ h => Same.tup h.1 ha1) ?_ ?_⟩
          · rintro j x H4 H4' hj ⟨sm4, hD4⟩ ⟨rfl, hx⟩
            obtain ⟨s, hs, hxs⟩ := ent_item hx
            have fin : ∀ (_ : True), ∃ acc, H4' D = some (.lst acc) ∧ acc.length < sizeLine ∧ (Same H1' (upd H4' D (.lst (acc ++ [.str s]))) ∧ (upd H4' D (.lst (acc ++ [.str s]))) D = some (.lst (((entParts en).take (j + 1)).map V.str))) := fun _ => by
              refine ⟨_, hD4, size_lt (by rw [List.length_map, List.length_take]; omega), same_mut sm4 hD, ?_⟩
              rw [upd_same, take_snoc hs, List.map_append]
              rfl
            refine ⟨rfl, yes_go ?_⟩
            rcases hxs with rfl | ⟨n, hn, rfl, rfl⟩
            · exact ⟨_, rfl, .inr ⟨s, rfl, fin trivial⟩⟩
            · exact ⟨_, rfl, .inl ⟨(n : Int), rfl, num_log (num_le heok o2 hn), fin trivial⟩⟩
          · rintro H4 ⟨sm4, hD4⟩
            rw [hvl, List.take_length] at hD4
            refine ⟨Str.ofString " ", D, entParts en, rfl, rfl, .inl (SqL.of hD4), ?_, ?_⟩
            · have := sum_le (ent_parts_len heok o2)
              rw [c2]
              omega
            refine ⟨sm1.trans sm4, ?_, _, _, _, _, rfl⟩
            rw [take_snoc (lines_at he), List.map_append]
            rfl
        · rintro ys σ H1 ⟨sm1, rfl, v1, v2, v3, v4, rfl⟩
          refine ⟨by rw [List.length_map, List.length_take]; exact size_lt (by omega), ?_⟩
          have hq := q H1 sm1
          rw [← lines_all W, List.map_append] at hq
          rw [hel]
          exact hq
abbrev s_show_log : Stmt := top 30
abbrev N_show_log : List Str := ["log"]
theorem sc_show_log : FnScope N_show_log ["log"] (C8.fnScope s_show_log) := C8.fnScope_by (by decide +kernel)
def sp_show_log (K : PySem.W.Frag) (C : Addr) : Sp := fun vs H Q _ => ∃ (p : Addr) (W : Wd), vs = [.ref p] ∧ LogAt K C H p W ∧ W.Ok ∧ ∀ H', Same H H' → Q (.str (logText W)) H'
/-- a generator def, by its name -/
structure CalG (P : Program) (w : World) (K : PySem.W.Frag) (mg : Str → Option Value) (base : Heap) (k : Nat) (x : Str) (sp : SpG) : Prop where
  ex : ∃ (f : Addr) (fd : FuncData) (ps : List Str), GFn P w K mg base k f fd ps sp ∧ mg x = some (.ref f) ∧ PySem.W.keepIn K (.ref f) = true ∧ Binds K fd ps []
theorem ok_show_log {C f : Addr} {fd : FuncData} (F : C8.Def K mg "show_log" s_show_log f fd) (b : Binds K fd ["log"] []) (g_log_lines : CalG P w K mg base 1 "log_lines" (sp_log_lines K C)) : C8.Cal P w K mg base 6 "show_log" (sp_show_log K C) [] := by
  obtain ⟨fg, fdg, psg, G, mgg, kpg, bg⟩ := g_log_lines.ex
  refine C8.cal0 F b .nil sc_show_log (fun vs H Q E h => ?_) (fun cdv A outer s H vs Q E hr h => ?_)
  · obtain ⟨p, W, rfl, _⟩ := h
    rfl
  · obtain ⟨p, W, rfl, hL, hok, q⟩ := h
    refine ⟨_, (pss_one (ps_ret (by exact (pe_joinM pe_str (pgen_call G (hr.mono (by decide)) (by rfl) mgg kpg bg .nil (pa_cons (pv 0) pa_nil)) passF noStopF (hr.mono (by decide)))))), ?_⟩
    have hn := lines_n hok
    refine ⟨Str.ofString "\n", rfl, _, rfl, p, W, rfl, hL, hok, fun H1 sm1 => ⟨lines W, rfl, ?_, fun r hr0 => ?_⟩⟩
    · refine join_ok (b := 251) (n := 62) (fun p hp => ?_) hn (by decide)
      have := lines_len hok p hp
      have h3 : (Str.ofString "\n").length = 1 := by decide +kernel
      omega
    · exact q _ (same_new sm1 hr0)
end
end My
namespace My
open PySem L2
/-! ### entries as data; Log.__eq__ -/
def dNs (ns : List Nat) : List PyData := ns.map fun (n : Nat) => PyData.int (n : Int)
def dEnt (e : Ent) : PyData := .tuple (.str e.head :: dNs e.nums)
def dEnts (es : List Ent) : List PyData := es.map dEnt
def dLog (W : Wd) : PyData := .tuple [.int (W.size : Int), .tuple (dEnts W.ents), .int (W.fast : Int), .int (W.slow : Int), .int (W.late : Int)]
theorem lay_ns : ∀ ns : List Nat, PyData.canLayAll0 (dNs ns) = true
  | [] => by simp [dNs, PyData.canLayAll0]
  | n :: ns => by
    have := lay_ns ns
    unfold dNs at this ⊢
    rw [List.map_cons, PyData.canLayAll0, this]
    rfl
theorem depth_ns : ∀ ns : List Nat, PyData.depthAll (dNs ns) = 0
  | [] => by simp [dNs, PyData.depthAll]
  | n :: ns => by
    have := depth_ns ns
    unfold dNs at this ⊢
    rw [List.map_cons, PyData.depthAll, this]
    rfl
theorem head_strOk (e : Ent) : PyData.strOk e.head = true := by rcases e.head_eq with h | h | h <;> rw [h] <;> decide +kernel
theorem lay_ent (e : Ent) : (dEnt e).canLay0 = true := by
  unfold dEnt
  simp only [PyData.canLay0, PyData.canLayAll0, head_strOk, lay_ns, Bool.and_self]
theorem depth_ent (e : Ent) : (dEnt e).depth = 1 := by
  unfold dEnt
  simp only [PyData.depth, PyData.depthAll, depth_ns]
  rfl
theorem lay_ents : ∀ es : List Ent, PyData.canLayAll0 (dEnts es) = true
  | [] => by simp [dEnts, PyData.canLayAll0]
  | e :: es => by
    have := lay_ents es
    unfold dEnts at this ⊢
    rw [List.map_cons, PyData.canLayAll0, this, lay_ent]
    rfl
theorem depth_ents : ∀ es : List Ent, PyData.depthAll (dEnts es) ≤ 1
  | [] => by simp [dEnts, PyData.depthAll]
  | e :: es => by
    have := depth_ents es
    unfold dEnts at this ⊢
    rw [List.map_cons, PyData.depthAll, depth_ent]
    omega
theorem shaped_ents (es : List Ent) : SeqAt.shaped (.tuple (dEnts es)) = true := by
  unfold SeqAt.shaped
  rw [Bool.and_eq_true]
  refine ⟨by simp only [PyData.canLay0]; exact lay_ents es, decide_eq_true ?_⟩
  simp only [PyData.depth]
  have := depth_ents es
  omega
theorem lay_log (W : Wd) : (dLog W).canLay0 = true := by
  unfold dLog
  simp only [PyData.canLay0, PyData.canLayAll0, lay_ents, Bool.and_self]
theorem shaped_log (W : Wd) : SeqAt.shaped (dLog W) = true := by
  unfold SeqAt.shaped
  rw [Bool.and_eq_true]
  refine ⟨lay_log W, decide_eq_true ?_⟩
  unfold dLog
  simp only [PyData.depth, PyData.depthAll]
  have := depth_ents W.ents
  omega
section
variable {K : PySem.W.Frag} {H : Hp}
theorem dp_ns : ∀ ns : List Nat, DpAll K H (ns.map nV) (dNs ns)
  | [] => .nil
  | n :: ns => .cons (.int (n : Int)) (dp_ns ns)
theorem dp_ent {v : V} {e : Ent} (h : EntV K H v e) : Dp K H v (dEnt e) := by
  obtain ⟨a, rfl, ha⟩ := h
  rw [e.vs_eq] at ha
  exact .tup ha (.cons (.str e.head) (dp_ns e.nums))
theorem dp_ents : ∀ {vs : List V} {es : List Ent}, Paired (EntV K H) vs es → DpAll K H vs (dEnts es)
  | _, _, .nil => .nil
  | _, _, .cons r t => .cons (dp_ent r) (dp_ents t)
theorem dp_log {W : Wd} {t a : Addr} {vs : List V} (ht : SqT K H t [nV W.size, .ref a, nV W.fast, nV W.slow, nV W.late]) (ha : SqT K H a vs) (hp : Paired (EntV K H) vs W.ents) : Dp K H (.ref t) (dLog W) :=
  .tup ht (.cons (.int (W.size : Int)) (.cons (.tup ha (dp_ents hp)) (.cons (.int (W.fast : Int)) (.cons (.int (W.slow : Int)) (.cons (.int (W.late : Int)) .nil)))))
end
section
variable {P : Program} {w : World} {K : PySem.W.Frag} {mg : Str → Option Value} {base : Heap}
abbrev s_Log_eq : Stmt := inClass (top 20) 4
abbrev N_Log_eq : List Str := ["self", "other", "told"]
theorem sc_Log_eq : FnScope N_Log_eq ["self", "other"] (C8.fnScope s_Log_eq) := C8.fnScope_by (by decide +kernel)
def LogR (K : PySem.W.Frag) (C : Addr) : Addr → Addr → Hp → Prop := fun a b H => ∃ W, LogAt K C H a W ∧ LogAt K C H b W
theorem fn_Log_eq {C f : Addr} {fd : FuncData} (F : C8.Fun K "__eq__" "Log.__eq__" s_Log_eq f fd) (cl : ClsL K C) (T : Gb mg) (IC : C8.InsC K C) (hmC : mg "Log" = some (.ref C)) : FnOk P w K mg base C8.CX0 1 f fd ["self", "other"] (spEq (LogR K C)) := by
  refine C8.fn0 F sc_Log_eq (fun vs H Q E h => ?_) (fun cdv A outer s H vs Q E hr h => ?_)
  · obtain ⟨a, b, rfl, _⟩ := h
    rfl
  · obtain ⟨a, b, rfl, ⟨W, hA, hB⟩, q⟩ := h
    obtain ⟨dxa, ea, es, hpa, hEa, hPa⟩ := hA.ex
    obtain ⟨dxb, eb, fs, hpb, hEb, hPb⟩ := hB.ex
    refine ⟨_, (pss_cons (ps_if (pt_not (pt_val (pe_callB (C8.call_isC IC) (by rfl) T.isinstance (by decide +kernel) (pa_cons (pv 1) (pa_cons (C8.pe_gc (v := .ref C) (by rfl) ⟨_, hmC, rfl⟩) pa_nil)))))
(pss_one (ps_ret pe_bl))
pss_nil)
(pss_cons (ps_set (i := 2) sc_Log_eq.nd rfl (Or.inl rfl) (pe_tup (pa_cons (pe_fldK K rfl (pv 0) rfl) (pa_cons (pe_fldK K rfl (pv 0) rfl) (pa_cons (pe_fldK K rfl (pv 0) rfl) (pa_cons (pe_fldK K rfl (pv 0) rfl) (pa_cons (pe_fldK K rfl (pv 0) rfl) pa_nil)))))))
(pss_one (ps_ret (pe_cmpR (op_eqD hr.units) (pv 2) (pe_tup (pa_cons (pe_fldK K rfl (pv 1) rfl) (pa_cons (pe_fldK K rfl (pv 1) rfl) (pa_cons (pe_fldK K rfl (pv 1) rfl) (pa_cons (pe_fldK K rfl (pv 1) rfl) (pa_cons (pe_fldK K rfl (pv 1) rfl) pa_nil)))))) (nomark _)))))), ?_⟩
    refine ⟨_, rfl, b, dxb, _, rfl, hpb, true, rfl, ?_⟩
    refine iteF ?_
    refine ⟨_, rfl, a, C, dxa, _, _, rfl, hpa, cl.cl, cl.nSize, lf_size _ _ _ _ _, _, rfl, a, C, dxa, _, _, rfl, hpa, cl.cl, cl.nEntries, lf_entries _ _ _ _ _, _, rfl, a, C, dxa, _, _, rfl, hpa, cl.cl, cl.nFast, lf_fast _ _ _ _ _, _, rfl, a, C, dxa, _, _, rfl, hpa, cl.cl, cl.nSlow, lf_slow _ _ _ _ _, _, rfl, a, C, dxa, _, _, rfl, hpa, cl.cl, cl.nLate, lf_late _ _ _ _ _, by show 5 ≤ sizeLine; decide, fun t1 ht1 => ?_⟩
    have sm1 := same_new (o := .tup [nV W.size, .ref ea, nV W.fast, nV W.slow, nV W.late]) (Same.refl H) ht1
    have hpb1 := sm1 _ _ hpb
    refine ⟨_, rfl, _, rfl, b, C, dxb, _, _, rfl, hpb1, cl.cl, cl.nSize, lf_size _ _ _ _ _, _, rfl, b, C, dxb, _, _, rfl, hpb1, cl.cl, cl.nEntries, lf_entries _ _ _ _ _, _, rfl, b, C, dxb, _, _, rfl, hpb1, cl.cl, cl.nFast, lf_fast _ _ _ _ _, _, rfl, b, C, dxb, _, _, rfl, hpb1, cl.cl, cl.nSlow, lf_slow _ _ _ _ _, _, rfl, b, C, dxb, _, _, rfl, hpb1, cl.cl, cl.nLate, lf_late _ _ _ _ _, by show 5 ≤ sizeLine; decide, fun t2 ht2 => ?_⟩
    have sm2 := same_new (o := .tup [nV W.size, .ref eb, nV W.fast, nV W.slow, nV W.late]) sm1 ht2
    have n12 : t1 ≠ t2 := ne_of_none upd_same ht2
    refine ⟨dLog W, dLog W, dp_log (SqT.of ((upd_ne n12).trans upd_same)) (Same.tup sm2 hEa) (L2.Paired.mapP hPa fun _ _ => EntV.mono sm2), dp_log (SqT.of upd_same) (Same.tup sm2 hEb) (L2.Paired.mapP hPb fun _ _ => EntV.mono sm2), shaped_log W, shaped_log W, ?_⟩
    rw [SeqAt.eqv_refl _ (lay_log W)]
    exact q _ sm2
end
end My
namespace My
open PySem L2
/-! ### the law's helpers -/
/-- the heap without some objects -/
def hideL (H : Hp) (l : List Addr) : Hp := fun b => if b ∈ l then none else H b
theorem hide_same (H : Hp) (l : List Addr) : Same (hideL H l) H := fun b o h => by
  unfold hideL at h
  split at h
  · cases h
  · exact h
theorem hide_none {H : Hp} {l : List Addr} {b : Addr} (h : b ∈ l) : hideL H l b = none := by unfold hideL; rw [if_pos h]
theorem hide_at {H : Hp} {l : List Addr} {b : Addr} (h : b ∉ l) : hideL H l b = H b := by unfold hideL; rw [if_neg h]
theorem same_hide {F H : Hp} {l : List Addr} (s : Same F H) (h : ∀ b ∈ l, F b = none) : Same F (hideL H l) := fun b o e => by
  rw [hide_at fun z => by rw [h b z] at e; cases e]
  exact s b o e
theorem hide_tup {K : PySem.W.Frag} {H : Hp} {l : List Addr} {a : Addr} {xs : List V} (hl : ∀ b ∈ l, ∃ ys, H b = some (.lst ys)) (h : SqT K H a xs) : SqT K (hideL H l) a xs := by
  have hn : ∀ {o : HO}, H a = some o → (∀ ys, o ≠ .lst ys) → a ∉ l := fun {o} e hne z => by
    obtain ⟨ys, hy⟩ := hl a z
    rw [e] at hy
    exact hne ys (Option.some.inj hy)
  rcases h with (h | ⟨ob, h⟩) | h
  · exact .inl (.inl (by rw [hide_at (hn h (by intro ys z; cases z))]; exact h))
  · exact .inl (.inr ⟨ob, by rw [hide_at (hn h (by intro ys z; cases z))]; exact h⟩)
  · exact .inr h
section
variable {P : Program} {w : World} {K : PySem.W.Frag} {mg : Str → Option Value} {base : Heap}
abbrev s_law_cell : Stmt := top 50
abbrev N_law_cell : List Str := ["script", "k"]
theorem sc_law_cell : FnScope N_law_cell ["script", "k"] (C8.fnScope s_law_cell) := C8.fnScope_by (by decide +kernel)
def sp_law_cell (K : PySem.W.Frag) : Sp := fun vs H Q _ => ∃ (a : Addr) (ns : List Int) (k : Nat), vs = [.ref a, .int (k : Int)] ∧ SqL K H a (ns.map V.int) ∧ ∀ c : Int, Q (.int c) H
theorem ok_law_cell {f : Addr} {fd : FuncData} (F : C8.Def K mg "_law_cell" s_law_cell f fd) (b : Binds K fd ["script", "k"] []) (T : Gb mg) : C8.Cal P w K mg base 1 "_law_cell" (sp_law_cell K) [] := by
  refine C8.cal0 F b .nil sc_law_cell (fun vs H Q E h => ?_) (fun cdv A outer s H vs Q E hr h => ?_)
  · obtain ⟨a, ns, k, rfl, _⟩ := h
    rfl
  · obtain ⟨a, ns, k, rfl, hL, q⟩ := h
    refine ⟨_, (pss_cons (ps_if (pt_cmpR op_lt (pv 1) (pe_callB (call_lenK K rfl) (by rfl) T.len PySem.boot_len (pa_cons (pv 0) pa_nil)) (nomark _))
(pss_one (ps_ret (pe_ix (ix_listK K rfl) (pv 0) (pv 1) (fun _ _ => rfl))))
pss_nil)
(pss_one (ps_ret pe_int))), ?_⟩
    refine ⟨_, rfl, _, rfl, a, _, rfl, .inl hL, _, _, rfl, rfl, _, rfl, ?_⟩
    refine ite2 (fun hlt => ?_) (fun _ => q 0)
    have hk : k < ns.length := by
      have := of_decide_eq_true hlt
      rw [List.length_map] at this
      omega
    obtain ⟨c, hc⟩ := at_ex hk
    refine ⟨_, rfl, _, rfl, a, _, _, .int c, rfl, rfl, hL, atI_nat ?_, q c⟩
    rw [List.getElem?_map, hc]
    rfl

abbrev s_law_numbers : Stmt := top 51
abbrev N_law_numbers : List Str := ["cell", "salt", "count", "many", "numbers", "rest", "great", "k", "mixed"]
theorem sc_law_numbers : FnScope N_law_numbers ["cell", "salt", "count", "many"] (C8.fnScope s_law_numbers) := C8.fnScope_by (by decide +kernel)
def sp_law_numbers : Sp := fun vs H Q _ => ∃ (c : Int) (salt count many : Nat), vs = [.int c, .int (salt : Int), .int (count : Int), .int (many : Int)] ∧ salt ≤ 1000 ∧ count ≤ 1000 ∧ 0 < many ∧ many < 1000000000 ∧
  ∀ (p : Addr) (ns : List Nat) (H' : Hp), Same H H' → H p = none → H' p = some (.lst (ns.map nV)) → ns.length = count → (∀ n ∈ ns, n < many) → Q (.ref p) H'
theorem ok_law_numbers {f : Addr} {fd : FuncData} (F : C8.Def K mg "_law_numbers" s_law_numbers f fd) (b : Binds K fd ["cell", "salt", "count", "many"] []) (T : Gb mg) : C8.Cal P w K mg base 1 "_law_numbers" sp_law_numbers [] := by
  refine C8.cal0 F b .nil sc_law_numbers (fun vs H Q E h => ?_) (fun cdv A outer s H vs Q E hr h => ?_)
  · obtain ⟨c, a, b, d, rfl, _⟩ := h
    rfl
  · obtain ⟨c, salt, count, many, rfl, h1, h2, h3, h4, q⟩ := h
    refine ⟨_, (pss_cons (ps_set (i := 4) sc_law_numbers.nd rfl (Or.inl rfl) (pe_lst pa_nil))
(pss_cons (ps_set (i := 5) sc_law_numbers.nd rfl (Or.inl rfl) (pe_callB call_abs (by rfl) T.abs (by decide +kernel) (pa_cons (pv 0) pa_nil)))
(pss_cons (ps_set (i := 6) sc_law_numbers.nd rfl (Or.inl rfl) (pe_cmpR op_ge (pv 5) (pe_op op_pow pe_int pe_int) (nomark _)))
(pss_cons (ps_for PassesOwn.never rfl (pi_range1 (by rfl) T.range (pa_cons (pv 2) pa_nil)) (pg_name (i := 7) sc_law_numbers.nd rfl (Or.inl rfl))
(pss_one (ps_if (PW.pt (pw_and (pt_val (pv 6)) (pw_and1 (pt_cmpR op_gt (pv 5) pe_int (nomark _)))))
(pss_cons (ps_expr (pe_bm PySem.F.plainAttrs_list PySem.F.slot_list_append PySem.F.type_list_append mt_append (pv 4) (pa_cons (pe_op op_mod (pe_callTy call_int1 (by rfl) T.int (by decide +kernel) (pa_cons (pv 5) pa_nil)) (pv 3)) pa_nil)))
(pss_one (ps_set (i := 5) sc_law_numbers.nd rfl (Or.inl rfl) (pe_op op_fdiv (pv 5) (pv 3)))))
(pss_cons (ps_set (i := 8) sc_law_numbers.nd rfl (Or.inl rfl) (pe_op op_mod (pe_callTy call_int1 (by rfl) T.int (by decide +kernel) (pa_cons (pe_op op_add (pe_op op_add (pe_op op_add (pe_callB call_abs (by rfl) T.abs (by decide +kernel) (pa_cons (pv 0) pa_nil)) (pe_op op_mul (pv 1) pe_int)) (pe_op op_mul (pv 7) pe_int)) pe_int) pa_nil)) pe_int))
(pss_cons (ps_set (i := 8) sc_law_numbers.nd rfl (Or.inl rfl) (pe_op op_mod (pe_callTy call_int1 (by rfl) T.int (by decide +kernel) (pa_cons (pe_op op_add (pe_op op_mul (pv 8) pe_int) pe_int) pa_nil)) pe_int))
(pss_cons (ps_set (i := 8) sc_law_numbers.nd rfl (Or.inl rfl) (pe_op op_mod (pe_callTy call_int1 (by rfl) T.int (by decide +kernel) (pa_cons (pe_op op_add (pe_op op_add (pe_op op_mul (pv 8) (pv 8)) (pe_op op_mul (pv 8) pe_int)) (pe_op op_mul (pv 7) pe_int)) pa_nil)) pe_int))
(pss_one (ps_expr (pe_bm PySem.F.plainAttrs_list PySem.F.slot_list_append PySem.F.type_list_append mt_append (pv 4) (pa_cons (pe_op op_mod (pe_callTy call_int1 (by rfl) T.int (by decide +kernel) (pa_cons (pe_op op_fdiv (pv 8) pe_int) pa_nil)) (pv 3)) pa_nil))))))))))
(pss_one (ps_ret (pv 4))))))), ?_⟩
    refine ⟨Nat.zero_le _, fun l hl => ?_⟩
    refine ⟨_, rfl, c, rfl, ?_⟩
    refine ⟨_, rfl, _, _, rfl, rfl, ⟨by omega, by omega, by decide⟩, _, _, rfl, rfl, ?_⟩
    refine ⟨_, rfl, (count : Int), rfl, by omega, by omega, for_range (lo := 0) (n := (count : Int).toNat)
      (fun i σ H' => ∃ (ns : List Nat) (r : Int) (gt : Bool) (v7 v8 : Option V), Same H H' ∧ H' l = some (.lst (ns.map nV)) ∧ ns.length = i ∧ (∀ n ∈ ns, n < many) ∧ 0 ≤ r ∧ σ = [some (.int c), some (.int (salt : Int)), some (.int (count : Int)), some (.int (many : Int)), some (.ref l), some (.int r), some (.bl gt), v7, v8])
      ⟨[], _, _, none, none, same_new (Same.refl _) hl, upd_same, rfl, (by intro n hn; cases hn), ?_, rfl⟩ ?_ ?_⟩
    · split <;> omega
    · rintro i σ H1 hi ⟨ns, r, gt, v7, v8, sm, hnl, hlen, hns, hr0, rfl⟩
      have fin : ∀ (x : Int) (H2 : Hp), 0 ≤ x → x < (many : Int) → H2 = upd H1 l (.lst (ns.map nV ++ [.int x])) → ∃ ns' : List Nat, Same H H2 ∧ H2 l = some (.lst (ns'.map nV)) ∧ ns'.length = i + 1 ∧ (∀ n ∈ ns', n < many) := by
        intro x H2 hx0 hx1 e
        subst e
        refine ⟨ns ++ [x.toNat], same_mut sm hl, ?_, by rw [List.length_append, hlen]; rfl, fun n hn => ?_⟩
        · rw [upd_same, List.map_append]
          have : x = (x.toNat : Int) := by omega
          rw [this]
          rfl
        · rcases List.mem_append.mp hn with hn | hn
          · exact hns n hn
          · rw [List.mem_singleton] at hn
            omega
      have hsz : (ns.map nV).length < sizeLine := size_lt (by rw [List.length_map]; omega)
      have hmod : ∀ z : Int, 0 ≤ z % (many : Int) ∧ z % (many : Int) < (many : Int) := fun z => ⟨Int.emod_nonneg _ (by omega), Int.emod_lt_of_pos _ (by omega)⟩
      have small : ∀ H2 : Hp, H2 = H1 → ∀ σ2, σ2 = [some (.int c), some (.int (salt : Int)), some (.int (count : Int)), some (.int (many : Int)), some (.ref l), some (.int r), some (.bl gt), some (.int ((0 : Int) + (i : Int))), v8] → True := fun _ _ _ _ => trivial
      refine ⟨_, rfl, gt, rfl, ?_⟩
      have other : ∀ (D : Ends), (∀ (ns' : List Nat) H2 v8, Same H H2 → H2 l = some (.lst (ns'.map nV)) → ns'.length = i + 1 → (∀ n ∈ ns', n < many) → D.nx [some (.int c), some (.int (salt : Int)), some (.int (count : Int)), some (.int (many : Int)), some (.ref l), some (.int r), some (.bl gt), some (.int ((0 : Int) + (i : Int))), v8] H2) →
          (tSeq (tAsg (tOp (rI (fun _ j => 0 < j) fun i j => .int (i % j)) (tCB (fun xs H Q => (∃ i, xs = [.int i] ∧ Q (.int i) H) ∨ ∃ k, xs = [.bl k] ∧ Q (.int (if k then 1 else 0)) H) (tCons (tOp (rI0 fun i j => .int (i + j)) (tOp (rI0 fun i j => .int (i + j)) (tOp (rI0 fun i j => .int (i + j)) (tCB (fun xs H Q => ∃ i, xs = [.int i] ∧ Q (.int (if i < 0 then -i else i)) H) (tCons (tVar 0) tNil)) (tOp (rI CMul fun i j => .int (i * j)) (tVar 1) (tC (.int 7919)))) (tOp (rI CMul fun i j => .int (i * j)) (tVar 7) (tC (.int 104729)))) (tC (.int 17))) tNil)) (tC (.int 2147483647))) (gName 8))
           (tSeq (tAsg (tOp (rI (fun _ j => 0 < j) fun i j => .int (i % j)) (tCB (fun xs H Q => (∃ i, xs = [.int i] ∧ Q (.int i) H) ∨ ∃ k, xs = [.bl k] ∧ Q (.int (if k then 1 else 0)) H) (tCons (tOp (rI0 fun i j => .int (i + j)) (tOp (rI CMul fun i j => .int (i * j)) (tVar 8) (tC (.int 48271))) (tC (.int 5))) tNil)) (tC (.int 2147483647))) (gName 8))
           (tSeq (tAsg (tOp (rI (fun _ j => 0 < j) fun i j => .int (i % j)) (tCB (fun xs H Q => (∃ i, xs = [.int i] ∧ Q (.int i) H) ∨ ∃ k, xs = [.bl k] ∧ Q (.int (if k then 1 else 0)) H) (tCons (tOp (rI0 fun i j => .int (i + j)) (tOp (rI0 fun i j => .int (i + j)) (tOp (rI CMul fun i j => .int (i * j)) (tVar 8) (tVar 8)) (tOp (rI CMul fun i j => .int (i * j)) (tVar 8) (tC (.int 69621)))) (tOp (rI CMul fun i j => .int (i * j)) (tVar 7) (tC (.int 31)))) tNil)) (tC (.int 2147483629))) (gName 8))
             (tDrop (tBM K "list" rAppend (tVar 4) (tCons (tOp (rI (fun _ j => 0 < j) fun i j => .int (i % j)) (tCB (fun xs H Q => (∃ i, xs = [.int i] ∧ Q (.int i) H) ∨ ∃ k, xs = [.bl k] ∧ Q (.int (if k then 1 else 0)) H) (tCons (tOp (rI CDiv fun i j => .int (i / j)) (tVar 8) (tC (.int 7))) tNil)) (tVar 3)) tNil)))))) D
            [some (.int c), some (.int (salt : Int)), some (.int (count : Int)), some (.int (many : Int)), some (.ref l), some (.int r), some (.bl gt), some (.int ((0 : Int) + (i : Int))), v8] H1 := by
        intro D hD
        refine ⟨_, rfl, c, rfl, _, rfl, _, _, rfl, rfl, .inr ⟨by decide, by decide⟩, _, _, rfl, rfl, _, rfl, _, _, rfl, rfl, .inr ⟨by decide, by decide⟩, _, _, rfl, rfl, _, _, rfl, rfl, .inl ⟨_, rfl, _, _, rfl, rfl, by show (0 : Int) < 2147483647; decide, ?_⟩⟩
        dsimp only
        generalize hm1 : ((if c < 0 then -c else c) + (salt : Int) * 7919 + (0 + (i : Int)) * 104729 + 17) % 2147483647 = m1
        have b1 : 0 ≤ m1 ∧ m1 < 2147483647 := by rw [← hm1]; exact ⟨Int.emod_nonneg _ (by decide), Int.emod_lt_of_pos _ (by decide)⟩
        refine ⟨_, rfl, _, _, rfl, rfl, .inr ⟨by decide, by decide⟩, _, _, rfl, rfl, .inl ⟨_, rfl, _, _, rfl, rfl, by show (0 : Int) < 2147483647; decide, ?_⟩⟩
        dsimp only
        generalize hm2 : (m1 * 48271 + 5) % 2147483647 = m2
        have b2 : 0 ≤ m2 ∧ m2 < 2147483647 := by rw [← hm2]; exact ⟨Int.emod_nonneg _ (by decide), Int.emod_lt_of_pos _ (by decide)⟩
        refine ⟨_, rfl, _, rfl, _, _, rfl, rfl, .inl ⟨by omega, by omega⟩, _, rfl, _, _, rfl, rfl, .inr ⟨by decide, by decide⟩, _, _, rfl, rfl, _, rfl, _, _, rfl, rfl, .inr ⟨by decide, by decide⟩, _, _, rfl, rfl, .inl ⟨_, rfl, _, _, rfl, rfl, by show (0 : Int) < 2147483629; decide, ?_⟩⟩
        dsimp only
        generalize hm3 : (m2 * m2 + m2 * 69621 + (0 + (i : Int)) * 31) % 2147483629 = m3
        refine ⟨_, rfl, .inl ⟨rfl, _, SqL.of hnl⟩, _, rfl, _, _, rfl, rfl, ⟨by decide, by decide⟩, .inl ⟨_, rfl, _, rfl, _, _, rfl, rfl, by show (0 : Int) < (many : Int); omega, l, _, _, rfl, rfl, hnl, hsz, ?_⟩⟩
        obtain ⟨ns', z1, z2, z3, z4⟩ := fin _ _ (hmod (m3 / 7)).1 (hmod (m3 / 7)).2 rfl
        exact hD ns' _ _ z1 z2 z3 z4
      cases gt with
      | false =>
        refine iteF ?_
        refine iteF ?_
        exact other _ fun ns' H2 v8 z1 z2 z3 z4 => ⟨ns', r, false, _, _, z1, z2, z3, z4, hr0, rfl⟩
      | true =>
        refine iteT ?_
        refine ⟨_, rfl, _, _, rfl, rfl, _, rfl, ?_⟩
        refine ite2 (fun hgt => ?_) (fun hgt => ?_)
        · refine ⟨_, rfl, .inl ⟨rfl, _, SqL.of hnl⟩, _, rfl, .inl ⟨_, rfl, _, rfl, _, _, rfl, rfl, by show (0 : Int) < (many : Int); omega, l, _, _, rfl, rfl, hnl, hsz, ?_⟩⟩
          obtain ⟨ns', z1, z2, z3, z4⟩ := fin _ _ (hmod r).1 (hmod r).2 rfl
          refine ⟨_, rfl, _, rfl, _, _, rfl, rfl, ⟨by omega, by omega⟩, ns', _, true, _, _, z1, z2, z3, z4, Int.ediv_nonneg hr0 (by omega), rfl⟩
        · exact other _ fun ns' H2 v8 z1 z2 z3 z4 => ⟨ns', r, true, _, _, z1, z2, z3, z4, hr0, rfl⟩
    · rintro σ H1 ⟨ns, r, gt, v7, v8, sm, hnl, hlen, hns, hr0, rfl⟩
      exact ⟨_, rfl, q l ns H1 sm hl hnl (by omega) hns⟩
abbrev s_law_is : Stmt := top 52
abbrev N_law_is : List Str := ["actual", "expected"]
theorem sc_law_is : FnScope N_law_is ["actual", "expected"] (C8.fnScope s_law_is) := C8.fnScope_by (by decide +kernel)
def sp_law_is : Sp := fun vs H Q _ => ∃ x : Val, vs = [oV x, oV x] ∧ Q (.bl true) H
theorem ok_law_is {f : Addr} {fd : FuncData} (F : C8.Def K mg "_law_is" s_law_is f fd) (b : Binds K fd ["actual", "expected"] []) (T : Gb mg) : C8.Cal P w K mg base 1 "_law_is" sp_law_is [] := by
  refine C8.cal0 F b .nil sc_law_is (fun vs H Q E h => ?_) (fun cdv A outer s H vs Q E hr h => ?_)
  · obtain ⟨x, rfl, _⟩ := h
    rfl
  · obtain ⟨x, rfl, q⟩ := h
    refine ⟨_, (pss_cons (ps_if (pt_cmpR op_isN (pv 1) pe_non (nomark _))
(pss_one (ps_ret (pe_cmpR op_isN (pv 0) pe_non (nomark _))))
pss_nil)
(pss_one (ps_ret (pe_and (pe_callB call_isi (by rfl) T.isinstance (by decide +kernel) (pa_cons (pv 0) (pa_cons (pe_bltn (v := .ty "int") (by rfl) T.int (by decide +kernel) rfl) pa_nil))) (pe_and (pe_not (pe_callB call_isi (by rfl) T.isinstance (by decide +kernel) (pa_cons (pv 0) (pa_cons (pe_bltn (v := .ty "bool") (by rfl) T.bool (by decide +kernel) rfl) pa_nil)))) (pe_one (pe_cmpR op_eq (pv 0) (pv 1) (nomark _)))))))), ?_⟩
    refine ⟨_, rfl, rfl, _, rfl, ?_⟩
    cases x with
    | none =>
      refine iteT ?_
      exact ⟨_, rfl, rfl, q⟩
    | some x =>
      refine iteF ?_
      refine ⟨_, rfl, .int x, .ty "int", .type "int", .type "int", true, rfl, .ty _, .base (.int x), kit_ty (by decide +kernel), true, rfl, ?_⟩
      refine iteT ?_
      refine ⟨_, rfl, .int x, .ty "bool", .type "int", .type "bool", false, rfl, .ty _, .base (.int x), kit_ty (by decide +kernel), false, rfl, true, rfl, ?_⟩
      refine iteT ?_
      refine ⟨_, rfl, _, rfl, rfl, ?_⟩
      rw [decide_eq_true rfl]
      exact q
end
end My
namespace My
open PySem L2
/-! ### the law's world -/
/-- [size, entries, fast, slow, late, moments] -/
def WorldAt (K : PySem.W.Frag) (H : Hp) (a : Addr) (W : Wd) (m : List Int) : Prop := ∃ (ea ma : Addr) (vs : List V), SqL K H a [nV W.size, .ref ea, nV W.fast, nV W.slow, nV W.late, .ref ma] ∧ SqL K H ea vs ∧ Paired (EntV K H) vs W.ents ∧ SqL K H ma (m.map V.int)
theorem WorldAt.mono {K : PySem.W.Frag} {H H' : Hp} {a : Addr} {W : Wd} {m : List Int} (s : Same H H') (h : WorldAt K H a W m) : WorldAt K H' a W m := by
  obtain ⟨ea, ma, vs, h1, h2, h3, h4⟩ := h
  exact ⟨ea, ma, vs, s.seq h1, s.seq h2, L2.Paired.mapP h3 fun _ _ => EntV.mono s, s.seq h4⟩
def rowM (N : Nat) (M : Mat) (i : Nat) : List Val := (List.range N).map (M i)
def FarV (K : PySem.W.Frag) (H : Hp) (N : Nat) (M : Mat) (v : V) (i : Nat) : Prop := ∃ b, v = .ref b ∧ SqL K H b ((rowM N M i).map oV)
def FarAt (K : PySem.W.Frag) (H : Hp) (a : Addr) (N : Nat) (M : Mat) : Prop := ∃ vs, SqL K H a vs ∧ Paired (FarV K H N M) vs (List.range N)
theorem FarAt.mono {K : PySem.W.Frag} {H H' : Hp} {a : Addr} {N : Nat} {M : Mat} (s : Same H H') (h : FarAt K H a N M) : FarAt K H' a N M := by
  obtain ⟨vs, h1, h2⟩ := h
  exact ⟨vs, s.seq h1, L2.Paired.mapP h2 fun _ _ ⟨b, e, h⟩ => ⟨b, e, s.seq h⟩⟩
theorem rowM_at {N : Nat} {M : Mat} {i j : Nat} (h : j < N) : ((rowM N M i).map oV)[j]? = some (oV (M i j)) := by
  unfold rowM
  rw [List.getElem?_map, List.getElem?_map, List.getElem?_range h]
  rfl
theorem rowM_len (N : Nat) (M : Mat) (i : Nat) : (rowM N M i).length = N := by unfold rowM; rw [List.length_map, List.length_range]
theorem FarAt.at {K : PySem.W.Frag} {H : Hp} {a : Addr} {N : Nat} {M : Mat} (h : FarAt K H a N M) {i : Nat} (hi : i < N) : ∃ vs b, SqL K H a vs ∧ vs.length = N ∧ vs[i]? = some (.ref b) ∧ SqL K H b ((rowM N M i).map oV) := by
  obtain ⟨vs, h1, h2⟩ := h
  have hl := h2.length
  rw [List.length_range] at hl
  obtain ⟨v, hv, b, rfl, hb⟩ := paired_at2 h2 (List.getElem?_range hi)
  exact ⟨vs, b, h1, hl, hv, hb⟩
def withV (M : Mat) (x y : Nat) (least : Int) (k : Nat) : Int := match M y k with
  | none => (M 0 k).getD 0
  | some b => if (M 0 x).getD 0 + least + b > (M 0 k).getD 0 then (M 0 x).getD 0 + least + b else (M 0 k).getD 0
theorem take_range' {n i : Nat} (h : i ≤ n) : (List.range n).take i = List.range i := by rw [List.take_range, Nat.min_eq_left h]
section
variable {P : Program} {w : World} {K : PySem.W.Frag} {mg : Str → Option Value} {base : Heap}
abbrev s_law_list : Stmt := top 53
abbrev N_law_list : List Str := ["told", "due", "k"]
theorem sc_law_list : FnScope N_law_list ["told", "due"] (C8.fnScope s_law_list) := C8.fnScope_by (by decide +kernel)
def sp_law_list (K : PySem.W.Frag) : Sp := fun vs H Q _ => ∃ (a b : Addr) (s : List Val), vs = [.ref a, .ref b] ∧ H a = some (.lst (s.map oV)) ∧ SqL K H b (s.map oV) ∧ s.length ≤ 1000 ∧ Q (.bl true) H
theorem ok_law_list {f : Addr} {fd : FuncData} (F : C8.Def K mg "_law_list" s_law_list f fd) (b : Binds K fd ["told", "due"] []) (T : Gb mg) (c__law_is : C8.Cal P w K mg base 1 "_law_is" sp_law_is []) : C8.Cal P w K mg base 2 "_law_list" (sp_law_list K) [] := by
  refine C8.cal0 F b .nil sc_law_list (fun vs H Q E h => ?_) (fun cdv A outer s H vs Q E hr h => ?_)
  · obtain ⟨a, b, s, rfl, _⟩ := h
    rfl
  · obtain ⟨a, b, s, rfl, ha, hb, hs, q⟩ := h
    refine ⟨_, (pss_cons (ps_if (PW.pt (pw_or (pt_not (pt_val (pe_callB call_isi (by rfl) T.isinstance (by decide +kernel) (pa_cons (pv 0) (pa_cons (pe_bltn (v := .ty "list") (by rfl) T.list (by decide +kernel) rfl) pa_nil))))) (pw_or1 (pt_cmpR op_ne (pe_callB (call_lenK K rfl) (by rfl) T.len PySem.boot_len (pa_cons (pv 0) pa_nil)) (pe_callB (call_lenK K rfl) (by rfl) T.len PySem.boot_len (pa_cons (pv 1) pa_nil)) (nomark _)))))
(pss_one (ps_ret pe_bl))
pss_nil)
(pss_cons (ps_for PassesOwn.never rfl (pi_range1 (by rfl) T.range (pa_cons (pe_callB (call_lenK K rfl) (by rfl) T.len PySem.boot_len (pa_cons (pv 1) pa_nil)) pa_nil)) (pg_name (i := 2) sc_law_list.nd rfl (Or.inl rfl))
(pss_one (ps_if (pt_not (pt_val (C8.pe_c c__law_is hr (by decide) (by rfl) (pa_cons (pe_ix (ix_listK K rfl) (pv 0) (pv 2) (fun _ _ => rfl)) (pa_cons (pe_ix (ix_listK K rfl) (pv 1) (pv 2) (fun _ _ => rfl)) pa_nil)))))
(pss_one (ps_ret pe_bl))
pss_nil)))
(pss_one (ps_ret pe_bl)))), ?_⟩
    refine ⟨_, rfl, .ref a, .ty "list", .type "list", .type "list", true, rfl, .ty _, .base (.lst ha), kit_ty (by decide +kernel), true, rfl, ?_⟩
    refine iteF ?_
    refine ⟨_, rfl, a, _, rfl, .inl (SqL.of ha), _, rfl, b, _, rfl, .inl hb, rfl, _, rfl, ?_⟩
    refine ifNF rfl ?_
    refine ⟨_, rfl, b, _, rfl, .inl hb, ?_⟩
    rw [List.length_map]
    refine ⟨(s.length : Int), rfl, by omega, by omega, for_range (lo := 0) (n := (s.length : Int).toNat) (fun i σ H' => H' = H ∧ ∃ v2, σ = [some (.ref a), some (.ref b), v2])
      ⟨rfl, _, rfl⟩ ?_ ?_⟩
    · rintro i σ H1 hi ⟨rfl, v2, rfl⟩
      rw [show (0 : Int) + (i : Int) = (i : Int) by omega]
      have hi' : i < s.length := by omega
      refine ⟨_, rfl, _, rfl, a, _, _, oV (gv s i), rfl, rfl, SqL.of ha, atI_nat (at_oV hi'), _, rfl, _, rfl, b, _, _, oV (gv s i), rfl, rfl, hb, atI_nat (at_oV hi'), gv s i, rfl, true, rfl, ?_⟩
      refine iteF ?_
      exact ⟨rfl, _, rfl⟩
    · rintro σ H1 ⟨rfl, v2, rfl⟩
      exact q
abbrev s_law_short : Stmt := top 59
abbrev N_law_short : List Str := ["told", "most", "k"]
theorem sc_law_short : FnScope N_law_short ["told", "most"] (C8.fnScope s_law_short) := C8.fnScope_by (by decide +kernel)
def sp_law_short : Sp := fun vs H Q _ => ∃ (a : Addr) (c : List Nat) (n : Int), vs = [.ref a, .int n] ∧ H a = some (.lst (c.map nV)) ∧ (c.length : Int) ≤ n ∧ Q (.bl true) H
theorem ok_law_short {f : Addr} {fd : FuncData} (F : C8.Def K mg "_law_short" s_law_short f fd) (b : Binds K fd ["told", "most"] []) (T : Gb mg) : C8.Cal P w K mg base 1 "_law_short" sp_law_short [] := by
  refine C8.cal0 F b .nil sc_law_short (fun vs H Q E h => ?_) (fun cdv A outer s H vs Q E hr h => ?_)
  · obtain ⟨a, c, n, rfl, _⟩ := h
    rfl
  · obtain ⟨a, c, n, rfl, ha, hn, q⟩ := h
    refine ⟨_, (pss_cons (ps_if (PW.pt (pw_or (pt_not (pt_val (pe_callB call_isi (by rfl) T.isinstance (by decide +kernel) (pa_cons (pv 0) (pa_cons (pe_bltn (v := .ty "list") (by rfl) T.list (by decide +kernel) rfl) pa_nil))))) (pw_or1 (pt_cmpR op_gt (pe_callB (call_lenK K rfl) (by rfl) T.len PySem.boot_len (pa_cons (pv 0) pa_nil)) (pv 1) (nomark _)))))
(pss_one (ps_ret pe_bl))
pss_nil)
(pss_cons (ps_for PassesOwn.never rfl (pi_listK K rfl (pv 0)) (pg_name (i := 2) sc_law_short.nd rfl (Or.inl rfl))
(pss_one (ps_if (PW.pt (pw_or (pt_not (pt_val (pe_callB call_isi (by rfl) T.isinstance (by decide +kernel) (pa_cons (pv 2) (pa_cons (pe_bltn (v := .ty "int") (by rfl) T.int (by decide +kernel) rfl) pa_nil))))) (pw_or1 (pt_val (pe_callB call_isi (by rfl) T.isinstance (by decide +kernel) (pa_cons (pv 2) (pa_cons (pe_bltn (v := .ty "bool") (by rfl) T.bool (by decide +kernel) rfl) pa_nil)))))))
(pss_one (ps_ret pe_bl))
pss_nil)))
(pss_one (ps_ret pe_bl)))), ?_⟩
    refine ⟨_, rfl, .ref a, .ty "list", .type "list", .type "list", true, rfl, .ty _, .base (.lst ha), kit_ty (by decide +kernel), true, rfl, ?_⟩
    refine iteF ?_
    refine ⟨_, rfl, a, _, rfl, .inl (SqL.of ha), _, rfl, _, _, rfl, rfl, _, rfl, ?_⟩
    rw [List.length_map]
    refine ifF (by omega) ?_
    refine ⟨_, rfl, a, rfl, ⟨_, SqL.of ha⟩, for_it (walk_list (xs := c.map nV)) (fun i σ H' => H' = H ∧ ∃ v2, σ = [some (.ref a), some (.int n), v2])
      ⟨rfl, _, rfl⟩ (fun i σ H' _ h => by rw [h.1]; exact SqL.of ha) ?_ ?_⟩
    · rintro i x σ H1 H1' hi ⟨rfl, v2, rfl⟩ ⟨rfl, hx⟩
      obtain ⟨k, hk, rfl⟩ := at_map hx
      refine ⟨_, rfl, .int (k : Int), .ty "int", .type "int", .type "int", true, rfl, .ty _, .base (.int _), kit_ty (by decide +kernel), true, rfl, ?_⟩
      refine iteF ?_
      refine ⟨_, rfl, .int (k : Int), .ty "bool", .type "int", .type "bool", false, rfl, .ty _, .base (.int _), kit_ty (by decide +kernel), false, rfl, ?_⟩
      refine iteF ?_
      exact ⟨rfl, _, rfl⟩
    · rintro σ H1 ⟨rfl, v2, rfl⟩
      exact q
abbrev s_law_chain : Stmt := top 58
abbrev N_law_chain : List Str := ["rows", "x", "y", "least", "chain", "at", "total", "k"]
theorem sc_law_chain : FnScope N_law_chain ["rows", "x", "y", "least", "chain"] (C8.fnScope s_law_chain) := C8.fnScope_by (by decide +kernel)
def sp_law_chain (K : PySem.W.Frag) : Sp := fun vs H Q _ => ∃ (ra ca : Addr) (R : List Row) (x y : Nat) (least a : Int) (c : List Nat), vs = [.ref ra, nV x, nV y, .int least, .ref ca] ∧ RowsAt K H ra R ∧ SqL K H ca (c.map nV) ∧ goC R x 0 c = some (y, a) ∧ least ≤ a ∧ Q (.bl true) H
theorem ok_law_chain {f : Addr} {fd : FuncData} (F : C8.Def K mg "_law_chain" s_law_chain f fd) (b : Binds K fd ["rows", "x", "y", "least", "chain"] []) (T : Gb mg) : C8.Cal P w K mg base 1 "_law_chain" (sp_law_chain K) [] := by
  refine C8.cal0 F b .nil sc_law_chain (fun vs H Q E h => ?_) (fun cdv A outer s H vs Q E hr h => ?_)
  · obtain ⟨ra, ca, R, x, y, least, a, c, rfl, _⟩ := h
    rfl
  · obtain ⟨ra, ca, R, x, y, least, a, c, rfl, ⟨rs, hl, hrs⟩, hca, hgo, hle, q⟩ := h
    have hrsl := hrs.length
    refine ⟨_, (pss_cons (ps_set (i := 5) sc_law_chain.nd rfl (Or.inl rfl) (pv 1))
(pss_cons (ps_set (i := 6) sc_law_chain.nd rfl (Or.inl rfl) pe_int)
(pss_cons (ps_for PassesOwn.never rfl (pi_listK K rfl (pv 4)) (pg_name (i := 7) sc_law_chain.nd rfl (Or.inl rfl))
(pss_cons (ps_if (PW.pt (pw_or (pt_cmpR op_lt (pv 7) pe_int (nomark _)) (pw_or (pt_cmpR op_ge (pv 7) (pe_callB (call_lenK K rfl) (by rfl) T.len PySem.boot_len (pa_cons (pv 0) pa_nil)) (nomark _)) (pw_or1 (pt_cmpR op_ne (pe_ix (ix_tupK K rfl) (pe_ix (ix_listK K rfl) (pv 0) (pv 7) (fun _ _ => rfl)) pe_int (fun _ _ => rfl)) (pv 5) (nomark _))))))
(pss_one (ps_ret pe_bl))
pss_nil)
(pss_cons (ps_set (i := 6) sc_law_chain.nd rfl (Or.inl rfl) (pe_op op_add (pv 6) (pe_ix (ix_tupK K rfl) (pe_ix (ix_listK K rfl) (pv 0) (pv 7) (fun _ _ => rfl)) pe_int (fun _ _ => rfl))))
(pss_one (ps_set (i := 5) sc_law_chain.nd rfl (Or.inl rfl) (pe_ix (ix_tupK K rfl) (pe_ix (ix_listK K rfl) (pv 0) (pv 7) (fun _ _ => rfl)) pe_int (fun _ _ => rfl)))))))
(pss_one (ps_ret (pe_and (pe_cmpR op_eq (pv 5) (pv 2) (nomark _)) (pe_one (pe_cmpR op_ge (pv 6) (pv 3) (nomark _))))))))), ?_⟩
    refine ⟨_, rfl, _, rfl, ca, rfl, ⟨_, hca⟩, for_it (walk_list (xs := c.map nV))
      (fun i σ H' => H' = H ∧ ∃ v8, σ = [some (.ref ra), some (nV x), some (nV y), some (.int least), some (.ref ca), some (nV (plc R x c i)), some (.int (((goC R x 0 (c.take i)).map fun q => q.2).getD 0)), v8])
      ⟨rfl, _, rfl⟩ (fun i σ H' _ h => by rw [h.1]; exact hca) ?_ ?_⟩
    · rintro i v σ H2 H2' hi ⟨rfl, v8, rfl⟩ ⟨rfl, hv⟩
      obtain ⟨k, hk, rfl⟩ := at_map hv
      obtain ⟨w1, hRk⟩ := plc_row hgo hk
      obtain ⟨xr, hxr, xa, rfl, hxt⟩ := paired_at2 hrs hRk
      have hkl : k < R.length := lt_of_at hRk
      refine ⟨_, rfl, _, _, rfl, rfl, _, rfl, ?_⟩
      refine ifF (by omega) ?_
      refine ⟨_, rfl, _, rfl, ra, rs, rfl, .inl hl, _, _, rfl, rfl, _, rfl, ?_⟩
      refine ifF (by omega) ?_
      refine ⟨_, rfl, _, rfl, ra, _, _, .ref xa, rfl, rfl, hl, atI_nat hxr, xa, _, 0, nV (plc R x c i), rfl, rfl, hxt, rfl, _, rfl, ?_⟩
      refine ⟨rfl, _, rfl, ?_⟩
      refine ifNF rfl ?_
      obtain ⟨a1, g1⟩ := plc_at hgo i
      obtain ⟨a2, g2⟩ := plc_at hgo (i + 1)
      have ga : a2 = a1 + w1 := by
        have h2 := g2
        rw [take_snoc hk, goC_app, g1] at h2
        have h3 : goC R (plc R x c i) a1 [k] = some (plc R x c (i + 1), a2) := h2
        rw [goC_one hRk] at h3
        exact (congrArg Prod.snd (Option.some.inj h3)).symm
      rw [g1, g2]
      refine ⟨_, rfl, _, rfl, _, rfl, ra, _, _, .ref xa, rfl, rfl, hl, atI_nat hxr, xa, _, 2, .int w1, rfl, rfl, hxt, rfl, _, _, rfl, rfl, ?_⟩
      refine ⟨_, rfl, _, rfl, ra, _, _, .ref xa, rfl, rfl, hl, atI_nat hxr, xa, _, 1, nV (plc R x c (i + 1)), rfl, rfl, hxt, rfl, ?_⟩
      refine ⟨rfl, some (nV k), ?_⟩
      rw [ga]
      rfl
    · rintro σ H2 ⟨rfl, v8, rfl⟩
      have hpl : plc R x c (c.map nV).length = y := by
        unfold plc
        rw [List.length_map, List.take_length, hgo]
        rfl
      rw [hpl, List.length_map, List.take_length, hgo]
      refine ⟨_, rfl, _, rfl, rfl, _, rfl, ?_⟩
      refine ifT rfl ?_
      refine ⟨_, rfl, _, rfl, _, _, rfl, rfl, ?_⟩
      show Q (V.bl (decide (least ≤ a))) H2
      rw [decide_eq_true hle]
      exact q
abbrev s_law_possible : Stmt := top 56
abbrev N_law_possible : List Str := ["far", "k"]
theorem sc_law_possible : FnScope N_law_possible ["far"] (C8.fnScope s_law_possible) := C8.fnScope_by (by decide +kernel)
def sp_law_possible (K : PySem.W.Frag) : Sp := fun vs H Q _ => ∃ (a : Addr) (N : Nat) (M : Mat), vs = [.ref a] ∧ FarAt K H a N M ∧ N ≤ 1000 ∧ (∀ k, k < N → ∃ w, M k k = some w) ∧ ∀ bb : Bool, (bb = true ↔ okM N M) → Q (.bl bb) H
theorem ok_law_possible {f : Addr} {fd : FuncData} (F : C8.Def K mg "_law_possible" s_law_possible f fd) (b : Binds K fd ["far"] []) (T : Gb mg) : C8.Cal P w K mg base 1 "_law_possible" (sp_law_possible K) [] := by
  refine C8.cal0 F b .nil sc_law_possible (fun vs H Q E h => ?_) (fun cdv A outer s H vs Q E hr h => ?_)
  · obtain ⟨a, N, M, rfl, _⟩ := h
    rfl
  · obtain ⟨a, N, M, rfl, hF, hN, hd, q⟩ := h
    refine ⟨_, (pss_cons (ps_for PassesOwn.never rfl (pi_range1 (by rfl) T.range (pa_cons (pe_callB (call_lenK K rfl) (by rfl) T.len PySem.boot_len (pa_cons (pv 0) pa_nil)) pa_nil)) (pg_name (i := 1) sc_law_possible.nd rfl (Or.inl rfl))
(pss_one (ps_if (pt_cmpR op_gt (pe_ix (ix_listK K rfl) (pe_ix (ix_listK K rfl) (pv 0) (pv 1) (fun _ _ => rfl)) (pv 1) (fun _ _ => rfl)) pe_int (nomark _))
(pss_one (ps_ret pe_bl))
pss_nil)))
(pss_one (ps_ret pe_bl))), ?_⟩
    obtain ⟨vs, h1, h2⟩ := id hF
    have hvl := h2.length
    rw [List.length_range] at hvl
    refine ⟨_, rfl, a, vs, rfl, .inl h1, ?_⟩
    refine ⟨(vs.length : Int), rfl, by omega, by omega, for_range (lo := 0) (n := (vs.length : Int).toNat) (fun i σ H' => H' = H ∧ (∀ k, k < i → ∀ w, M k k = some w → w ≤ 0) ∧ ∃ v1, σ = [some (.ref a), v1])
      ⟨rfl, (fun k hk => by omega), _, rfl⟩ ?_ ?_⟩
    · rintro i σ H1 hi ⟨rfl, hk, v1, rfl⟩
      rw [show (0 : Int) + (i : Int) = (i : Int) by omega]
      have hi' : i < N := by omega
      obtain ⟨vs', b, g1, g2, g3, g4⟩ := hF.at hi'
      obtain ⟨w, hw⟩ := hd i hi'
      have hat := rowM_at (N := N) (M := M) (i := i) hi'
      rw [hw] at hat
      refine ⟨_, rfl, _, rfl, a, _, _, .ref b, rfl, rfl, g1, atI_nat g3, _, rfl, b, _, _, .int w, rfl, rfl, g4, atI_nat hat, _, _, rfl, rfl, _, rfl, ?_⟩
      refine ite2 (fun hg => ?_) (fun hg => ?_)
      · have hg' := of_decide_eq_true hg
        exact q false ⟨(fun z => by cases z), fun z => by have := z i hi' w hw; omega⟩
      · have hg' := mt decide_eq_true hg
        refine ⟨rfl, fun k hk' w' hw' => ?_, _, rfl⟩
        by_cases e : k = i
        · subst e
          rw [hw] at hw'
          have := Option.some.inj hw'
          omega
        · exact hk k (by omega) w' hw'
    · rintro σ H1 ⟨rfl, hk, v1, rfl⟩
      exact q true ⟨fun _ k hk' w hw => hk k (by omega) w hw, fun _ => rfl⟩
abbrev s_law_with : Stmt := top 60
abbrev N_law_with : List Str := ["far", "x", "y", "least", "moments", "k", "moment"]
theorem sc_law_with : FnScope N_law_with ["far", "x", "y", "least"] (C8.fnScope s_law_with) := C8.fnScope_by (by decide +kernel)
def sp_law_with (K : PySem.W.Frag) : Sp := fun vs H Q _ => ∃ (a : Addr) (N : Nat) (M : Mat) (x y : Nat) (least : Int), vs = [.ref a, nV x, nV y, .int least] ∧ FarAt K H a N M ∧ N ≤ 1000 ∧ x < N ∧ y < N ∧ (∀ k, k < N → ∃ w, M 0 k = some w) ∧
  ∀ (p : Addr) H', Same H H' → H p = none → H' p = some (.lst (((List.range N).map (withV M x y least)).map V.int)) → Q (.ref p) H'
theorem ok_law_with {f : Addr} {fd : FuncData} (F : C8.Def K mg "_law_with" s_law_with f fd) (b : Binds K fd ["far", "x", "y", "least"] []) (T : Gb mg) : C8.Cal P w K mg base 1 "_law_with" (sp_law_with K) [] := by
  refine C8.cal0 F b .nil sc_law_with (fun vs H Q E h => ?_) (fun cdv A outer s H vs Q E hr h => ?_)
  · obtain ⟨a, N, M, x, y, least, rfl, _⟩ := h
    rfl
  · obtain ⟨a, N, M, x, y, least, rfl, hF, hN, hx, hy, h0, q⟩ := h
    refine ⟨_, (pss_cons (ps_set (i := 4) sc_law_with.nd rfl (Or.inl rfl) (pe_lst pa_nil))
(pss_cons (ps_for PassesOwn.never rfl (pi_range1 (by rfl) T.range (pa_cons (pe_callB (call_lenK K rfl) (by rfl) T.len PySem.boot_len (pa_cons (pv 0) pa_nil)) pa_nil)) (pg_name (i := 5) sc_law_with.nd rfl (Or.inl rfl))
(pss_cons (ps_set (i := 6) sc_law_with.nd rfl (Or.inl rfl) (pe_ix (ix_listK K rfl) (pe_ix (ix_listK K rfl) (pv 0) pe_int (fun _ _ => rfl)) (pv 5) (fun _ _ => rfl)))
(C8.pss_cut (ps_if (pt_cmpR op_notN (pe_ix (ix_listK K rfl) (pe_ix (ix_listK K rfl) (pv 0) (pv 2) (fun _ _ => rfl)) (pv 5) (fun _ _ => rfl)) pe_non (nomark _))
(pss_one (ps_set (i := 6) sc_law_with.nd rfl (Or.inl rfl) (pe_callB (call_max2 rfl) (by rfl) T.max (by decide +kernel) (pa_cons (pv 6) (pa_cons (pe_op op_add (pe_op op_add (pe_ix (ix_listK K rfl) (pe_ix (ix_listK K rfl) (pv 0) pe_int (fun _ _ => rfl)) (pv 1) (fun _ _ => rfl)) (pv 3)) (pe_ix (ix_listK K rfl) (pe_ix (ix_listK K rfl) (pv 0) (pv 2) (fun _ _ => rfl)) (pv 5) (fun _ _ => rfl))) pa_nil)))))
pss_nil)
(pss_one (ps_expr (pe_bm PySem.F.plainAttrs_list PySem.F.slot_list_append PySem.F.type_list_append mt_append (pv 4) (pa_cons (pv 6) pa_nil)))))))
(pss_one (ps_ret (pv 4))))), ?_⟩
    obtain ⟨vs, h1, h2⟩ := id hF
    have hvl := h2.length
    rw [List.length_range] at hvl
    refine ⟨by show 0 ≤ sizeLine; decide, fun l hl => ?_⟩
    have sm0 := same_new (o := .lst []) (Same.refl H) hl
    refine ⟨_, rfl, a, vs, rfl, .inl (sm0.seq h1), ?_⟩
    refine ⟨(vs.length : Int), rfl, by omega, by omega, for_range (lo := 0) (n := (vs.length : Int).toNat) (fun i σ H' => Same H H' ∧ H' l = some (.lst (((List.range i).map (withV M x y least)).map V.int)) ∧ ∃ v5 v6, σ = [some (.ref a), some (nV x), some (nV y), some (.int least), some (.ref l), v5, v6])
      ⟨sm0, upd_same, _, _, rfl⟩ ?_ ?_⟩
    · rintro i σ H1 hi ⟨sm1, hl1, v5, v6, rfl⟩
      rw [show (0 : Int) + (i : Int) = (i : Int) by omega]
      have hi' : i < N := by omega
      have hF1 := hF.mono sm1
      obtain ⟨vs0, b0, g1, g2, g3, g4⟩ := hF1.at (i := 0) (by omega)
      obtain ⟨vsy, by_, k1, k2, k3, k4⟩ := hF1.at hy
      obtain ⟨w0, hw0⟩ := h0 i hi'
      obtain ⟨wx, hwx⟩ := h0 x hx
      have e0 := rowM_at (N := N) (M := M) (i := 0) hi'
      rw [hw0] at e0
      have ex := rowM_at (N := N) (M := M) (i := 0) hx
      rw [hwx] at ex
      have ey := rowM_at (N := N) (M := M) (i := y) hi'
      refine ⟨_, rfl, a, _, 0, .ref b0, rfl, rfl, g1, atI_nat (j := 0) g3, _, rfl, b0, _, _, .int w0, rfl, rfl, g4, atI_nat e0, ?_⟩
      refine ⟨fun σ' H' => H' = H1 ∧ σ' = [some (.ref a), some (nV x), some (nV y), some (.int least), some (.ref l), some (nV i), some (.int (withV M x y least i))], ?_, ?_⟩
      · cases hm : M y i with
        | none =>
          rw [hm] at ey
          refine ⟨_, rfl, _, rfl, a, _, _, .ref by_, rfl, rfl, k1, atI_nat k3, _, rfl, by_, _, _, .non, rfl, rfl, k4, atI_nat ey, rfl, _, rfl, ?_⟩
          refine iteF ?_
          refine ⟨rfl, ?_⟩
          have : withV M x y least i = w0 := by unfold withV; rw [hm, hw0]; rfl
          rw [this] <;> rfl
        | some wy =>
          rw [hm] at ey
          refine ⟨_, rfl, _, rfl, a, _, _, .ref by_, rfl, rfl, k1, atI_nat k3, _, rfl, by_, _, _, .int wy, rfl, rfl, k4, atI_nat ey, rfl, _, rfl, ?_⟩
          refine iteT ?_
          refine ⟨_, rfl, _, rfl, a, _, 0, .ref b0, rfl, rfl, g1, atI_nat (j := 0) g3, _, rfl, b0, _, _, .int wx, rfl, rfl, g4, atI_nat ex, _, rfl, _, _, rfl, rfl, _, rfl, _, rfl, a, _, _, .ref by_, rfl, rfl, k1, atI_nat k3, _, rfl, by_, _, _, .int wy, rfl, rfl, k4, atI_nat ey, _, _, rfl, rfl, _, _, rfl, ?_⟩
          refine ⟨rfl, ?_⟩
          have : withV M x y least i = if wx + least + wy > w0 then wx + least + wy else w0 := by unfold withV; rw [hm, hw0, hwx]; rfl
          rw [this] <;> rfl
      rintro σ' H' ⟨rfl, rfl⟩
      refine ⟨_, rfl, .inl ⟨rfl, _, SqL.of hl1⟩, _, rfl, l, _, _, rfl, rfl, hl1, size_lt (by rw [List.length_map, List.length_map, List.length_range]; omega), ?_⟩
      refine ⟨same_mut sm1 hl, ?_, _, _, rfl⟩
      rw [upd_same, List.range_succ, List.map_append, List.map_append]
      rfl
    · rintro σ H1 ⟨sm1, hl1, v5, v6, rfl⟩
      rw [show (vs.length : Int).toNat = N by omega] at hl1
      exact ⟨_, rfl, q l H1 sm1 hl hl1⟩
end
end My
namespace My
open PySem L2
/-! ### _law_bounds, _law_keeps -/
theorem ceilD_le {p q x : Int} (hq : 0 < q) : ceilD p q ≤ x ↔ p ≤ x * q := by
  unfold ceilD
  have : -x ≤ (-p) / q ↔ -x * q ≤ -p := Int.le_ediv_iff_mul_le hq
  rw [Int.neg_mul] at this
  omega
theorem ceilD_eq {p q : Int} (hq : 0 < q) : (p + q - 1) / q = ceilD p q := by
  obtain ⟨n, hn⟩ : ∃ n, n = (p + q - 1) / q := ⟨_, rfl⟩
  rw [← hn]
  have h1 : n * q ≤ p + q - 1 := (Int.le_ediv_iff_mul_le hq).mp (by omega)
  have h2 : ¬ (n + 1) * q ≤ p + q - 1 := fun z => by
    have := (Int.le_ediv_iff_mul_le hq).mpr z
    omega
  rw [Int.add_mul, Int.one_mul] at h2
  have h3 : ceilD p q ≤ n := (ceilD_le hq).mpr (by omega)
  have h4 : ¬ ceilD p q ≤ n - 1 := fun z => by
    have := (ceilD_le hq).mp z
    rw [Int.sub_mul, Int.one_mul] at this
    omega
  omega
/-- what holds of an entry by its rows -/
theorem keeps_ent {W : Wd} {l : Nat} {m : Nat → Int} (hp : Pot (rowsOf (W.at l)) m) {e : Ent} (he : e ∈ W.ents) : ∀ r ∈ entRows W.fast W.slow l e, m r.1 + r.2.2 ≤ m r.2.1 := fun r hr =>
  hp r.1 r.2.1 r.2.2 (List.mem_append_right _ (List.mem_flatMap.mpr ⟨e, he, hr⟩))
theorem keeps_zero {W : Wd} {m : Nat → Int} (hp : Pot (rowsOf W) m) (h0 : m 0 = 0) {k : Nat} (hk : k < W.size) : 0 ≤ m k := by
  by_cases e : k = 0
  · subst e; omega
  · have := hp 0 k 0 (List.mem_append_left _ (List.mem_map.mpr ⟨k - 1, List.mem_range.mpr (by omega), by rw [show k - 1 + 1 = k by omega]⟩))
    omega
section
variable {P : Program} {w : World} {K : PySem.W.Frag} {mg : Str → Option Value} {base : Heap}
abbrev s_law_bounds : Stmt := top 54
abbrev N_law_bounds : List Str := ["world", "lag", "rows", "entry", "event"]
theorem sc_law_bounds : FnScope N_law_bounds ["world", "lag"] (C8.fnScope s_law_bounds) := C8.fnScope_by (by decide +kernel)
def sp_law_bounds (K : PySem.W.Frag) : Sp := fun vs H Q _ => ∃ (a : Addr) (W : Wd) (m : List Int) (lag : Nat), vs = [.ref a, nV lag] ∧ WorldAt K H a W m ∧ W.Ok ∧ ∀ (l : Addr) (rs : List V) H', Same H H' → H l = none → H' l = some (.lst rs) → Paired (RowV K H') rs (rowsOf (W.at lag)) → Q (.ref l) H'
theorem ok_law_bounds {f : Addr} {fd : FuncData} (F : C8.Def K mg "_law_bounds" s_law_bounds f fd) (b : Binds K fd ["world", "lag"] []) (T : Gb mg) : C8.Cal P w K mg base 1 "_law_bounds" (sp_law_bounds K) [] := by
  refine C8.cal0 F b .nil sc_law_bounds (fun vs H Q E h => ?_) (fun cdv A outer s H vs Q E hr h => ?_)
  · obtain ⟨a, W, m, lag, rfl, _⟩ := h
    rfl
  · obtain ⟨a, W, m, lag, rfl, hW, hok, q⟩ := h
    obtain ⟨ea, ma, es, hA, hE, hP, _⟩ := hW
    obtain ⟨o1, o2, o3, o4, o5, o6, o7, o8⟩ := id hok
    have hel := hP.length
    refine ⟨_, (pss_cons (ps_setLc (i := 2) (own := [("event", 4)]) rfl sc_law_bounds.nd rfl rfl (sw_true rfl rfl rfl (by decide +kernel)) (pi_range2 (by rfl) T.range (pa_cons pe_int (pa_cons (pe_ix (ix_listK K rfl) (pv 0) pe_int (fun _ _ => rfl)) pa_nil))) (blkOk_by (N := N_law_bounds) (sc := C8.fnScope s_law_bounds) (by decide +kernel)) (fun _ _ _ _ _ => (pg_name (i := 4) sc_law_bounds.nd rfl (Or.inl rfl))) (fun _ _ _ _ _ => pts_nil) (fun _ _ _ _ _ => (pe_tup (pa_cons pe_int (pa_cons (pv 4) (pa_cons pe_int pa_nil))))))
(pss_cons (ps_for PassesOwn.never rfl (pi_listK K rfl (pe_ix (ix_listK K rfl) (pv 0) pe_int (fun _ _ => rfl))) (pg_name (i := 3) sc_law_bounds.nd rfl (Or.inl rfl))
(pss_one (ps_if (pt_cmpR op_eq (pe_ix (ix_tupK K rfl) (pv 3) pe_int (fun _ _ => rfl)) pe_str (nomark _))
(pss_one (ps_expr (pe_bm PySem.F.plainAttrs_list PySem.F.slot_list_append PySem.F.type_list_append mt_append (pv 2) (pa_cons (pe_tup (pa_cons (pe_ix (ix_tupK K rfl) (pv 3) pe_int (fun _ _ => rfl)) (pa_cons (pe_ix (ix_tupK K rfl) (pv 3) pe_int (fun _ _ => rfl)) (pa_cons (pe_ix (ix_tupK K rfl) (pv 3) pe_int (fun _ _ => rfl)) pa_nil)))) pa_nil))))
(pss_one (ps_if (pt_cmpR op_eq (pe_ix (ix_tupK K rfl) (pv 3) pe_int (fun _ _ => rfl)) pe_str (nomark _))
(pss_cons (ps_expr (pe_bm PySem.F.plainAttrs_list PySem.F.slot_list_append PySem.F.type_list_append mt_append (pv 2) (pa_cons (pe_tup (pa_cons (pe_ix (ix_tupK K rfl) (pv 3) pe_int (fun _ _ => rfl)) (pa_cons (pe_ix (ix_tupK K rfl) (pv 3) pe_int (fun _ _ => rfl)) (pa_cons (pe_op op_fdiv (pe_op op_sub (pe_op op_add (pe_op op_mul (pe_ix (ix_tupK K rfl) (pv 3) pe_int (fun _ _ => rfl)) (pe_ix (ix_listK K rfl) (pv 0) pe_int (fun _ _ => rfl))) (pe_ix (ix_listK K rfl) (pv 0) pe_int (fun _ _ => rfl))) pe_int) (pe_ix (ix_listK K rfl) (pv 0) pe_int (fun _ _ => rfl))) pa_nil)))) pa_nil)))
(pss_one (ps_expr (pe_bm PySem.F.plainAttrs_list PySem.F.slot_list_append PySem.F.type_list_append mt_append (pv 2) (pa_cons (pe_tup (pa_cons (pe_ix (ix_tupK K rfl) (pv 3) pe_int (fun _ _ => rfl)) (pa_cons (pe_ix (ix_tupK K rfl) (pv 3) pe_int (fun _ _ => rfl)) (pa_cons (pe_op op_sub pe_int (pe_op op_fdiv (pe_op op_mul (pe_ix (ix_tupK K rfl) (pv 3) pe_int (fun _ _ => rfl)) (pe_ix (ix_listK K rfl) (pv 0) pe_int (fun _ _ => rfl))) (pe_ix (ix_listK K rfl) (pv 0) pe_int (fun _ _ => rfl)))) pa_nil)))) pa_nil)))))
(pss_cons (ps_expr (pe_bm PySem.F.plainAttrs_list PySem.F.slot_list_append PySem.F.type_list_append mt_append (pv 2) (pa_cons (pe_tup (pa_cons pe_int (pa_cons (pe_ix (ix_tupK K rfl) (pv 3) pe_int (fun _ _ => rfl)) (pa_cons (pe_op op_sub (pe_ix (ix_tupK K rfl) (pv 3) pe_int (fun _ _ => rfl)) (pv 1)) pa_nil)))) pa_nil)))
(pss_one (ps_expr (pe_bm PySem.F.plainAttrs_list PySem.F.slot_list_append PySem.F.type_list_append mt_append (pv 2) (pa_cons (pe_tup (pa_cons (pe_ix (ix_tupK K rfl) (pv 3) pe_int (fun _ _ => rfl)) (pa_cons pe_int (pa_cons (pe_op op_sub pe_int (pe_ix (ix_tupK K rfl) (pv 3) pe_int (fun _ _ => rfl))) pa_nil)))) pa_nil))))))))))
(pss_one (ps_ret (pv 2))))), ?_⟩
    refine ⟨_, rfl, a, _, 0, nV W.size, rfl, rfl, hA, rfl, 1, (W.size : Int), rfl, ⟨by decide, by decide, by omega, by omega⟩, fun D hD => lc_range (lo := 1) (n := ((W.size : Int) - 1).toNat)
      (fun j H' => Same H H' ∧ ∃ vs, H' D = some (.lst vs) ∧ Paired (RowV K H') vs ((List.range j).map fun k => (0, k + 1, 0)))
      ⟨same_new (Same.refl _) hD, [], upd_same, .nil⟩ ?_ ?_⟩
    · rintro j H1 hj ⟨sm1, vs, hvs, hvp⟩
      have hvl := hvp.length
      rw [List.length_map, List.length_range] at hvl
      refine ⟨rfl, yes_go ?_⟩
      refine ⟨_, rfl, by show 3 ≤ sizeLine; decide, fun t ht => ?_⟩
      have smt := same_new (o := .tup [.int 0, .int (1 + (j : Int)), .int 0]) (Same.refl H1) ht
      have hvs2 := smt _ _ hvs
      refine ⟨vs, hvs2, size_lt (by omega), same_mut (sm1.trans smt) hD, vs ++ [.ref t], upd_same, ?_⟩
      rw [List.range_succ, List.map_append]
      refine Paired.snoc (L2.Paired.mapP hvp fun _ _ h => (h.mono smt).updL hvs2) ?_
      refine RowV.updL hvs2 ⟨t, rfl, SqT.of ?_⟩
      rw [upd_same]
      show some (HO.tup [.int 0, .int (1 + (j : Int)), .int 0]) = some (HO.tup [.int ((0 : Nat) : Int), .int ((j + 1 : Nat) : Int), .int 0])
      rw [show (1 + (j : Int)) = ((j + 1 : Nat) : Int) by omega]
      rfl
    rintro H1 ⟨sm1, vs0, hvs0, hvp0⟩
    rw [show ((W.size : Int) - 1).toNat = W.size - 1 by omega] at hvp0
    have hA1 := sm1.seq hA
    have hE1 := sm1.seq hE
    refine ⟨_, rfl, a, _, 1, .ref ea, rfl, rfl, hA1, rfl, ea, rfl, ⟨es, hE1⟩, for_it (walk_list (xs := es))
      (fun i σ H' => Same H H' ∧ ∃ vs v3 v4, H' D = some (.lst vs) ∧ Paired (RowV K H') vs (rows0 W.size ++ (W.ents.take i).flatMap (entRows W.fast W.slow lag)) ∧ σ = [some (.ref a), some (nV lag), some (.ref D), v3, v4])
      ⟨sm1, vs0, _, _, hvs0, by rw [List.take_zero, List.flatMap_nil, List.append_nil]; exact hvp0, rfl⟩ (fun i σ H' _ h => h.1.seq hE) ?_ ?_⟩
    · rintro i x σ H2 H2' hi ⟨sm2, vs, v3, v4, hvs, hvp, rfl⟩ ⟨rfl, hx⟩
      obtain ⟨e, he, hev⟩ := paired_at hP hx
      have hvl := hvp.length
      have hfl := flat_len W.fast W.slow lag (W.ents.take i)
      have htl : (W.ents.take i).length ≤ 60 := by rw [List.length_take]; omega
      have h0l : (rows0 W.size).length ≤ 11 := by unfold rows0; rw [List.length_map, List.length_range]; omega
      rw [List.length_append] at hvl
      obtain ⟨ta, rfl, hta0⟩ := hev
      have hfold : rows0 W.size ++ (W.ents.take (i + 1)).flatMap (entRows W.fast W.slow lag) = (rows0 W.size ++ (W.ents.take i).flatMap (entRows W.fast W.slow lag)) ++ entRows W.fast W.slow lag e := by
        rw [take_snoc he, List.flatMap_append, ← List.append_assoc, List.flatMap_cons, List.flatMap_nil, List.append_nil]
      rw [hfold]
      have push : ∀ (H2 : Hp) (vs : List V) (R : List Row) (t : Addr) (r : Row), Same H H2 → H2 D = some (.lst vs) → Paired (RowV K H2) vs R → H2 t = none →
          ∃ H3, H3 = upd H2 t (.tup [nV r.1, nV r.2.1, .int r.2.2]) ∧ H3 D = some (.lst vs) ∧ ∃ H4, H4 = upd H3 D (.lst (vs ++ [.ref t])) ∧ Same H H4 ∧ H4 D = some (.lst (vs ++ [.ref t])) ∧ Paired (RowV K H4) (vs ++ [.ref t]) (R ++ [r]) := by
        intro H2 vs R t r sm2 hvs hvp ht
        have sm3 := same_new (o := .tup [nV r.1, nV r.2.1, .int r.2.2]) (Same.refl H2) ht
        have hD3 := sm3 _ _ hvs
        exact ⟨_, rfl, hD3, _, rfl, same_mut (sm2.trans sm3) hD, upd_same, Paired.snoc (L2.Paired.mapP hvp fun _ _ h => (h.mono sm3).updL hD3) (RowV.updL hD3 ⟨t, rfl, SqT.of upd_same⟩)⟩
      have hA2 := sm2.seq hA
      have hta := Same.tup sm2 hta0
      have hsz : vs.length < sizeLine := size_lt (by omega)
      cases e with
      | noted ev tm =>
        refine ⟨_, rfl, ta, _, 0, .str "noted", rfl, rfl, hta, rfl, rfl, _, rfl, ?_⟩
        refine ifF (by intro z; exact absurd (V.str.inj z) (show ¬ (Str.ofString "noted" = Str.ofString "after") by decide +kernel)) ?_
        refine ⟨_, rfl, ta, _, 0, .str "noted", rfl, rfl, hta, rfl, rfl, _, rfl, ?_⟩
        refine ifF (by intro z; exact absurd (V.str.inj z) (show ¬ (Str.ofString "noted" = Str.ofString "shown") by decide +kernel)) ?_
        refine ⟨_, rfl, .inl ⟨rfl, _, SqL.of hvs⟩, _, rfl, ta, _, 1, nV ev, rfl, rfl, hta, rfl, _, rfl, ta, _, 2, nV tm, rfl, rfl, hta, rfl, _, rfl, _, _, rfl, rfl, by show 3 ≤ sizeLine; decide, fun t ht => ?_⟩
        obtain ⟨H3, e3, z3, H4, e4, z4, z5, z6⟩ := push _ _ _ t (0, ev, (tm : Int) - (lag : Int)) sm2 hvs hvp ht
        refine ⟨D, vs, _, rfl, rfl, e3 ▸ z3, hsz, ?_⟩
        have hta4 := Same.tup z4 hta0
        subst e3
        subst e4
        refine ⟨_, rfl, .inl ⟨rfl, _, SqL.of z5⟩, _, rfl, ta, _, 1, nV ev, rfl, rfl, hta4, rfl, _, rfl, ta, _, 2, nV tm, rfl, rfl, hta4, rfl, _, _, rfl, rfl, by show 3 ≤ sizeLine; decide, fun t' ht' => ?_⟩
        obtain ⟨H5, e5, y3, H6, e6, y4, y5, y6⟩ := push _ _ _ t' (ev, 0, 0 - (tm : Int)) z4 z5 z6 ht'
        refine ⟨D, vs ++ [.ref t], _, rfl, rfl, e5 ▸ y3, size_lt (by rw [List.length_append, List.length_singleton]; omega), ?_⟩
        subst e5
        subst e6
        refine ⟨y4, _, _, _, y5, ?_, rfl⟩
        rw [show entRows W.fast W.slow lag (.noted ev tm) = [(0, ev, (tm : Int) - (lag : Int))] ++ [(ev, 0, 0 - (tm : Int))] by rw [Int.zero_sub] <;> rfl, ← List.append_assoc]
        exact y6
      | after ei ej tm =>
        refine ⟨_, rfl, ta, _, 0, .str "after", rfl, rfl, hta, rfl, rfl, _, rfl, ?_⟩
        refine ifT rfl ?_
        refine ⟨_, rfl, .inl ⟨rfl, _, SqL.of hvs⟩, _, rfl, ta, _, 1, nV ei, rfl, rfl, hta, rfl, _, rfl, ta, _, 2, nV ej, rfl, rfl, hta, rfl, _, rfl, ta, _, 3, nV tm, rfl, rfl, hta, rfl, by show 3 ≤ sizeLine; decide, fun t ht => ?_⟩
        obtain ⟨H3, e3, z3, H4, e4, z4, z5, z6⟩ := push _ _ _ t (ei, ej, (tm : Int)) sm2 hvs hvp ht
        refine ⟨D, vs, _, rfl, rfl, e3 ▸ z3, hsz, ?_⟩
        subst e3
        subst e4
        exact ⟨z4, _, _, _, z5, z6, rfl⟩
      | shown ei ej tm =>
        refine ⟨_, rfl, ta, _, 0, .str "shown", rfl, rfl, hta, rfl, rfl, _, rfl, ?_⟩
        refine ifF (by intro z; exact absurd (V.str.inj z) (show ¬ (Str.ofString "shown" = Str.ofString "after") by decide +kernel)) ?_
        refine ⟨_, rfl, ta, _, 0, .str "shown", rfl, rfl, hta, rfl, rfl, _, rfl, ?_⟩
        refine ifT rfl ?_
        refine ⟨_, rfl, .inl ⟨rfl, _, SqL.of hvs⟩, _, rfl, ta, _, 1, nV ei, rfl, rfl, hta, rfl, _, rfl, ta, _, 2, nV ej, rfl, rfl, hta, rfl, _, rfl, ta, _, 3, nV tm, rfl, rfl, hta, rfl, _, rfl, a, _, 3, nV W.slow, rfl, rfl, hA2, rfl, _, _, rfl, rfl, .inr ⟨by omega, by omega⟩, _, rfl, a, _, 2, nV W.fast, rfl, rfl, hA2, rfl, _, _, rfl, rfl, _, _, rfl, rfl, _, rfl, a, _, 2, nV W.fast, rfl, rfl, hA2, rfl, _, _, rfl, rfl, ⟨by omega, by omega⟩, by show 3 ≤ sizeLine; decide, fun t ht => ?_⟩
        obtain ⟨H3, e3, z3, H4, e4, z4, z5, z6⟩ := push _ _ _ t (ei, ej, ((tm : Int) * (W.slow : Int) + (W.fast : Int) - 1) / (W.fast : Int)) sm2 hvs hvp ht
        refine ⟨D, vs, _, rfl, rfl, e3 ▸ z3, hsz, ?_⟩
        have hta4 := Same.tup z4 hta0
        have hA4 := z4.seq hA
        subst e3
        subst e4
        refine ⟨_, rfl, .inl ⟨rfl, _, SqL.of z5⟩, _, rfl, ta, _, 2, nV ej, rfl, rfl, hta4, rfl, _, rfl, ta, _, 1, nV ei, rfl, rfl, hta4, rfl, _, rfl, ta, _, 3, nV tm, rfl, rfl, hta4, rfl, _, rfl, a, _, 2, nV W.fast, rfl, rfl, hA4, rfl, _, _, rfl, rfl, .inr ⟨by omega, by omega⟩, _, rfl, a, _, 3, nV W.slow, rfl, rfl, hA4, rfl, _, _, rfl, rfl, ⟨by omega, by omega⟩, _, _, rfl, rfl, by show 3 ≤ sizeLine; decide, fun t' ht' => ?_⟩
        obtain ⟨H5, e5, y3, H6, e6, y4, y5, y6⟩ := push _ _ _ t' (ej, ei, 0 - ((tm : Int) * (W.fast : Int)) / (W.slow : Int)) z4 z5 z6 ht'
        refine ⟨D, vs ++ [.ref t], _, rfl, rfl, e5 ▸ y3, size_lt (by rw [List.length_append, List.length_singleton]; omega), ?_⟩
        subst e5
        subst e6
        refine ⟨y4, _, _, _, y5, ?_, rfl⟩
        rw [show entRows W.fast W.slow lag (.shown ei ej tm) = [(ei, ej, ((tm : Int) * (W.slow : Int) + (W.fast : Int) - 1) / (W.fast : Int))] ++ [(ej, ei, 0 - ((tm : Int) * (W.fast : Int)) / (W.slow : Int))] by rw [Int.zero_sub, ceilD_eq (by omega)] <;> rfl, ← List.append_assoc]
        exact y6
    · rintro σ H2 ⟨sm2, vs, v3, v4, hvs, hvp, rfl⟩
      rw [hel, List.take_length] at hvp
      exact ⟨_, rfl, q D vs H2 sm2 hD hvs hvp⟩
end
end My
namespace My
open PySem L2
/-! ### _law_keeps -/
section
variable {P : Program} {w : World} {K : PySem.W.Frag} {mg : Str → Option Value} {base : Heap}
abbrev s_law_keeps : Stmt := top 57
abbrev N_law_keeps : List Str := ["world", "lag", "moments", "entry", "x"]
theorem sc_law_keeps : FnScope N_law_keeps ["world", "lag", "moments"] (C8.fnScope s_law_keeps) := C8.fnScope_by (by decide +kernel)
def sp_law_keeps (K : PySem.W.Frag) : Sp := fun vs H Q _ => ∃ (a ma : Addr) (W : Wd) (m0 m : List Int) (lag : Nat), vs = [.ref a, nV lag, .ref ma] ∧ WorldAt K H a W m0 ∧ W.Ok ∧ SqL K H ma (m.map V.int) ∧ m.length = W.size ∧ cellOf m 0 = 0 ∧ Pot (rowsOf (W.at lag)) (cellOf m) ∧ Q (.bl true) H
theorem mem_cell {m : List Int} {v : Int} (h : v ∈ m) : ∃ k, k < m.length ∧ cellOf m k = v := by
  obtain ⟨k, hk, e⟩ := List.getElem_of_mem h
  refine ⟨k, hk, ?_⟩
  unfold L2.cellOf
  rw [List.getD_eq_getElem?_getD, List.getElem?_eq_getElem hk]
  exact e
theorem ok_law_keeps {f : Addr} {fd : FuncData} (F : C8.Def K mg "_law_keeps" s_law_keeps f fd) (b : Binds K fd ["world", "lag", "moments"] []) (T : Gb mg) : C8.Cal P w K mg base 1 "_law_keeps" (sp_law_keeps K) [] := by
  refine C8.cal0 F b .nil sc_law_keeps (fun vs H Q E h => ?_) (fun cdv A outer s H vs Q E hr h => ?_)
  · obtain ⟨a, ma, W, m0, m, lag, rfl, _⟩ := h
    rfl
  · obtain ⟨a, ma, W, m0, m, lag, rfl, hW, hok, hm, hml, hm0, hpot, q⟩ := h
    obtain ⟨ea, ma0, es, hA, hE, hP, _⟩ := hW
    obtain ⟨o1, o2, o3, o4, o5, o6, o7, o8⟩ := id hok
    have hel := hP.length
    refine ⟨_, (pss_cons (ps_if (PW.pt (pw_or (pt_cmpR op_ne (pe_callB (call_lenK K rfl) (by rfl) T.len PySem.boot_len (pa_cons (pv 2) pa_nil)) (pe_ix (ix_listK K rfl) (pv 0) pe_int (fun _ _ => rfl)) (nomark _)) (pw_or (pt_cmpR op_ne (pe_ix (ix_listK K rfl) (pv 2) pe_int (fun _ _ => rfl)) pe_int (nomark _)) (pw_or1 (pt_cmpR op_lt (pe_callB (cr_minL rfl rfl) (by rfl) T.min (by decide +kernel) (pa_cons (pv 2) pa_nil)) pe_int (nomark _))))))
(pss_one (ps_ret pe_bl))
pss_nil)
(pss_cons (ps_for PassesOwn.never rfl (pi_listK K rfl (pe_ix (ix_listK K rfl) (pv 0) pe_int (fun _ _ => rfl))) (pg_name (i := 3) sc_law_keeps.nd rfl (Or.inl rfl))
(pss_one (ps_if (pt_cmpR op_eq (pe_ix (ix_tupK K rfl) (pv 3) pe_int (fun _ _ => rfl)) pe_str (nomark _))
(pss_one (ps_if (PW.pt (pw_or (pt_cmpR op_gt (pe_ix (ix_listK K rfl) (pv 2) (pe_ix (ix_tupK K rfl) (pv 3) pe_int (fun _ _ => rfl)) (fun _ _ => rfl)) (pe_ix (ix_tupK K rfl) (pv 3) pe_int (fun _ _ => rfl)) (nomark _)) (pw_or1 (pt_cmpR op_lt (pe_ix (ix_listK K rfl) (pv 2) (pe_ix (ix_tupK K rfl) (pv 3) pe_int (fun _ _ => rfl)) (fun _ _ => rfl)) (pe_op op_sub (pe_ix (ix_tupK K rfl) (pv 3) pe_int (fun _ _ => rfl)) (pv 1)) (nomark _)))))
(pss_one (ps_ret pe_bl))
pss_nil))
(pss_cons (ps_set (i := 4) sc_law_keeps.nd rfl (Or.inl rfl) (pe_op op_sub (pe_ix (ix_listK K rfl) (pv 2) (pe_ix (ix_tupK K rfl) (pv 3) pe_int (fun _ _ => rfl)) (fun _ _ => rfl)) (pe_ix (ix_listK K rfl) (pv 2) (pe_ix (ix_tupK K rfl) (pv 3) pe_int (fun _ _ => rfl)) (fun _ _ => rfl))))
(pss_cons (ps_if (PW.pt (pw_and (pt_cmpR op_eq (pe_ix (ix_tupK K rfl) (pv 3) pe_int (fun _ _ => rfl)) pe_str (nomark _)) (pw_and1 (pt_cmpR op_lt (pv 4) (pe_ix (ix_tupK K rfl) (pv 3) pe_int (fun _ _ => rfl)) (nomark _)))))
(pss_one (ps_ret pe_bl))
pss_nil)
(pss_one (ps_if (PW.pt (pw_and (pt_cmpR op_eq (pe_ix (ix_tupK K rfl) (pv 3) pe_int (fun _ _ => rfl)) pe_str (nomark _)) (pw_and1 (PW.pt (pw_or (pt_cmpR op_gt (pe_op op_mul (pe_ix (ix_listK K rfl) (pv 0) pe_int (fun _ _ => rfl)) (pv 4)) (pe_op op_mul (pe_ix (ix_listK K rfl) (pv 0) pe_int (fun _ _ => rfl)) (pe_ix (ix_tupK K rfl) (pv 3) pe_int (fun _ _ => rfl))) (nomark _)) (pw_or1 (pt_cmpR op_gt (pe_op op_mul (pe_ix (ix_listK K rfl) (pv 0) pe_int (fun _ _ => rfl)) (pe_ix (ix_tupK K rfl) (pv 3) pe_int (fun _ _ => rfl))) (pe_op op_mul (pe_ix (ix_listK K rfl) (pv 0) pe_int (fun _ _ => rfl)) (pv 4)) (nomark _))))))))
(pss_one (ps_ret pe_bl))
pss_nil)))))))
(pss_one (ps_ret pe_bl)))), ?_⟩
    have cell : ∀ {k : Nat}, k < W.size → atI (m.map V.int) ((k : Nat) : Int) = some (V.int (cellOf m k)) := fun {k} hk => atI_cell (by rw [hml]; exact hk)
    refine ⟨_, rfl, ma, _, rfl, .inl hm, _, rfl, a, _, 0, nV W.size, rfl, rfl, hA, rfl, rfl, _, rfl, ?_⟩
    rw [List.length_map]
    refine ifNF (by rw [hml]) ?_
    have c0 := cell (k := 0) (by omega)
    rw [hm0] at c0
    refine ⟨_, rfl, ma, _, 0, .int 0, rfl, rfl, hm, c0, rfl, _, rfl, ?_⟩
    refine ifNF rfl ?_
    refine ⟨_, rfl, ma, m, rfl, hm, by omega, fun v hv _ => ⟨_, _, rfl, rfl, _, rfl, ?_⟩⟩
    have hv0 : 0 ≤ v := by
      obtain ⟨k, hk, rfl⟩ := mem_cell hv
      exact keeps_zero (W := W.at lag) hpot hm0 (by rw [hml] at hk; exact hk)
    refine ifF (by omega) ?_
    refine ⟨_, rfl, a, _, 1, .ref ea, rfl, rfl, hA, rfl, ea, rfl, ⟨es, hE⟩, for_it (walk_list (xs := es)) (fun i σ H' => H' = H ∧ ∃ v3 v4, σ = [some (.ref a), some (nV lag), some (.ref ma), v3, v4])
      ⟨rfl, _, _, rfl⟩ (fun i σ H' _ h => by rw [h.1]; exact hE) ?_ ?_⟩
    · rintro i x σ H1 H1' hi ⟨rfl, v3, v4, rfl⟩ ⟨rfl, hx⟩
      obtain ⟨e, he, ta, rfl, hta⟩ := paired_at hP hx
      have hmem := List.mem_of_getElem? he
      have hrows := keeps_ent hpot hmem
      have hev := (o4 e hmem).ev
      cases e with
      | noted ev tm =>
        have hv : ev < W.size := hev ev (by simp [Ent.evs])
        have r1 := hrows (0, ev, (tm : Int) - (lag : Int)) (by simp [entRows])
        have r2 := hrows (ev, 0, -(tm : Int)) (by simp [entRows])
        have r1' : cellOf m 0 + ((tm : Int) - (lag : Int)) ≤ cellOf m ev := r1
        have r2' : cellOf m ev + -(tm : Int) ≤ cellOf m 0 := r2
        refine ⟨_, rfl, ta, _, 0, .str "noted", rfl, rfl, hta, rfl, rfl, _, rfl, ?_⟩
        refine ifT rfl ?_
        refine ⟨_, rfl, _, rfl, ta, _, 1, nV ev, rfl, rfl, hta, rfl, ma, _, _, .int (cellOf m ev), rfl, rfl, hm, cell hv, _, rfl, ta, _, 2, nV tm, rfl, rfl, hta, rfl, _, _, rfl, rfl, _, rfl, ?_⟩
        refine ifF (by omega) ?_
        refine ⟨_, rfl, _, rfl, ta, _, 1, nV ev, rfl, rfl, hta, rfl, ma, _, _, .int (cellOf m ev), rfl, rfl, hm, cell hv, _, rfl, ta, _, 2, nV tm, rfl, rfl, hta, rfl, _, rfl, _, _, rfl, rfl, _, _, rfl, rfl, _, rfl, ?_⟩
        refine ifF (by omega) ?_
        exact ⟨rfl, _, _, rfl⟩
      | after ei ej tm =>
        have hi1 : ei < W.size := hev ei (by simp [Ent.evs])
        have hj1 : ej < W.size := hev ej (by simp [Ent.evs])
        have r1 := hrows (ei, ej, (tm : Int)) (by simp [entRows])
        have r1' : cellOf m ei + (tm : Int) ≤ cellOf m ej := r1
        refine ⟨_, rfl, ta, _, 0, .str "after", rfl, rfl, hta, rfl, rfl, _, rfl, ?_⟩
        refine ifF (by intro z; exact absurd (V.str.inj z) (show ¬ (Str.ofString "after" = Str.ofString "noted") by decide +kernel)) ?_
        refine ⟨_, rfl, _, rfl, ta, _, 2, nV ej, rfl, rfl, hta, rfl, ma, _, _, .int (cellOf m ej), rfl, rfl, hm, cell hj1, _, rfl, _, rfl, ta, _, 1, nV ei, rfl, rfl, hta, rfl, ma, _, _, .int (cellOf m ei), rfl, rfl, hm, cell hi1, _, _, rfl, rfl, ?_⟩
        refine ⟨_, rfl, ta, _, 0, .str "after", rfl, rfl, hta, rfl, rfl, _, rfl, ?_⟩
        refine ifT rfl ?_
        refine ⟨_, rfl, _, rfl, ta, _, 3, nV tm, rfl, rfl, hta, rfl, _, _, rfl, rfl, _, rfl, ?_⟩
        refine ifF (by omega) ?_
        refine ⟨_, rfl, ta, _, 0, .str "after", rfl, rfl, hta, rfl, rfl, _, rfl, ?_⟩
        refine ifF (by intro z; exact absurd (V.str.inj z) (show ¬ (Str.ofString "after" = Str.ofString "shown") by decide +kernel)) ?_
        exact ⟨rfl, _, _, rfl⟩
      | shown ei ej tm =>
        have hi1 : ei < W.size := hev ei (by simp [Ent.evs])
        have hj1 : ej < W.size := hev ej (by simp [Ent.evs])
        have r1 := hrows (ei, ej, ceilD ((tm : Int) * (W.slow : Int)) (W.fast : Int)) (by simp [entRows])
        have r2 := hrows (ej, ei, -(((tm : Int) * (W.fast : Int)) / (W.slow : Int))) (by simp [entRows])
        have r1' : cellOf m ei + ceilD ((tm : Int) * (W.slow : Int)) (W.fast : Int) ≤ cellOf m ej := r1
        have r2' : cellOf m ej + -(((tm : Int) * (W.fast : Int)) / (W.slow : Int)) ≤ cellOf m ei := r2
        have k1 : (tm : Int) * (W.slow : Int) ≤ (cellOf m ej - cellOf m ei) * (W.fast : Int) := (ceilD_le (by omega)).mp (by omega)
        have k2 : (cellOf m ej - cellOf m ei) * (W.slow : Int) ≤ (tm : Int) * (W.fast : Int) := (Int.le_ediv_iff_mul_le (by omega)).mp (by omega)
        rw [Int.mul_comm (tm : Int), Int.mul_comm _ (W.fast : Int)] at k1
        rw [Int.mul_comm (tm : Int), Int.mul_comm _ (W.slow : Int)] at k2
        refine ⟨_, rfl, ta, _, 0, .str "shown", rfl, rfl, hta, rfl, rfl, _, rfl, ?_⟩
        refine ifF (by intro z; exact absurd (V.str.inj z) (show ¬ (Str.ofString "shown" = Str.ofString "noted") by decide +kernel)) ?_
        refine ⟨_, rfl, _, rfl, ta, _, 2, nV ej, rfl, rfl, hta, rfl, ma, _, _, .int (cellOf m ej), rfl, rfl, hm, cell hj1, _, rfl, _, rfl, ta, _, 1, nV ei, rfl, rfl, hta, rfl, ma, _, _, .int (cellOf m ei), rfl, rfl, hm, cell hi1, _, _, rfl, rfl, ?_⟩
        refine ⟨_, rfl, ta, _, 0, .str "shown", rfl, rfl, hta, rfl, rfl, _, rfl, ?_⟩
        refine ifF (by intro z; exact absurd (V.str.inj z) (show ¬ (Str.ofString "shown" = Str.ofString "after") by decide +kernel)) ?_
        refine iteF ?_
        refine ⟨_, rfl, ta, _, 0, .str "shown", rfl, rfl, hta, rfl, rfl, _, rfl, ?_⟩
        refine ifT rfl ?_
        refine ⟨_, rfl, a, _, 3, nV W.slow, rfl, rfl, hA, rfl, _, rfl, _, _, rfl, rfl, .inl ⟨by omega, by omega⟩, _, rfl, a, _, 2, nV W.fast, rfl, rfl, hA, rfl, _, rfl, ta, _, 3, nV tm, rfl, rfl, hta, rfl, _, _, rfl, rfl, .inl ⟨by omega, by omega⟩, _, _, rfl, rfl, _, rfl, ?_⟩
        refine ifF (by omega) ?_
        refine ⟨_, rfl, a, _, 3, nV W.slow, rfl, rfl, hA, rfl, _, rfl, ta, _, 3, nV tm, rfl, rfl, hta, rfl, _, _, rfl, rfl, .inl ⟨by omega, by omega⟩, _, rfl, a, _, 2, nV W.fast, rfl, rfl, hA, rfl, _, rfl, _, _, rfl, rfl, .inl ⟨by omega, by omega⟩, _, _, rfl, rfl, _, rfl, ?_⟩
        refine ifF (by omega) ?_
        exact ⟨rfl, _, _, rfl⟩
    · rintro σ H1 ⟨rfl, v3, v4, rfl⟩
      exact q
end
end My
namespace My
open PySem L2
/-! ### _law_far -/
structure FarNew (H H' : Hp) (D : Addr) (rs : List Addr) (N : Nat) (M : Mat) : Prop where
  sm : Same H H'
  dn : H D = none
  d : H' D = some (.lst (rs.map V.ref))
  len : rs.length = N
  nd : rs.Nodup
  nD : D ∉ rs
  at_ : ∀ (i : Nat) (r : Addr), rs[i]? = some r → H r = none ∧ H' r = some (.lst ((rowM N M i).map oV))
theorem rowM_set {N : Nat} {M : Mat} {i j : Nat} {v : Val} (hj : j < N) : rowM N (setM M i j v) i = (rowM N M i).set j v := by
  unfold rowM
  apply List.ext_getElem?
  intro k
  rw [List.getElem?_map, List.getElem?_set, List.getElem?_map, List.length_map, List.length_range]
  by_cases e : j = k
  · subst e
    rw [if_pos rfl, if_pos hj, List.getElem?_range hj]
    show some (setM M i j v i j) = some v
    simp [setM]
  · rw [if_neg e]
    rcases Nat.lt_or_ge k N with h | h
    · rw [List.getElem?_range h]
      show some (setM M i j v i k) = some (M i k)
      unfold setM
      rw [if_neg fun z => e z.2.symm]
    · rw [List.getElem?_eq_none (by rw [List.length_range]; exact h)]
      rfl
theorem rowM_ne {N : Nat} {M : Mat} {i i' j : Nat} {v : Val} (h : i' ≠ i) : rowM N (setM M i j v) i' = rowM N M i' := by
  unfold rowM
  refine List.map_congr_left fun k _ => ?_
  simp [setM, h]
theorem FarNew.get {K : PySem.W.Frag} {H H' : Hp} {D : Addr} {rs : List Addr} {N : Nat} {M : Mat} (h : FarNew H H' D rs N M) {i : Nat} (hi : i < N) : ∃ r, rs[i]? = some r ∧ atI (rs.map V.ref) ((i : Nat) : Int) = some (.ref r) ∧ H' r = some (.lst ((rowM N M i).map oV)) ∧ ∀ j, j < N → atI ((rowM N M i).map oV) ((j : Nat) : Int) = some (oV (M i j)) := by
  obtain ⟨r, hr⟩ := at_ex (l := rs) (i := i) (by rw [h.len]; exact hi)
  exact ⟨r, hr, atI_nat (by rw [List.getElem?_map, hr] <;> rfl), (h.at_ i r hr).2, fun j hj => atI_nat (rowM_at hj)⟩
theorem FarNew.put {H H' : Hp} {D : Addr} {rs : List Addr} {N : Nat} {M : Mat} (h : FarNew H H' D rs N M) {i j : Nat} {r : Addr} (hr : rs[i]? = some r) (hj : j < N) (v : Val) : FarNew H (upd H' r (.lst (((rowM N M i).map oV).set j (oV v)))) D rs N (setM M i j v) := by
  have hn := (h.at_ i r hr).1
  have hDr : D ≠ r := fun z => h.nD (by rw [z]; exact List.mem_of_getElem? hr)
  refine ⟨same_mut h.sm hn, h.dn, (upd_ne hDr).trans h.d, h.len, h.nd, h.nD, fun i' r' hr' => ?_⟩
  obtain ⟨g1, g2⟩ := h.at_ i' r' hr'
  refine ⟨g1, ?_⟩
  by_cases e : i' = i
  · subst e
    rw [hr] at hr'
    cases hr'
    rw [upd_same, rowM_set hj, List.map_set]
  · have hne : r' ≠ r := fun z => by
      subst z
      have h1 := lt_of_at hr
      have h2 := lt_of_at hr'
      rw [List.getElem?_eq_getElem h1] at hr
      rw [List.getElem?_eq_getElem h2] at hr'
      have h3 := (Option.some.inj hr').trans (Option.some.inj hr).symm
      have hp := List.pairwise_iff_getElem.mp h.nd
      rcases Nat.lt_trichotomy i' i with q | q | q
      · exact hp i' i h2 h1 q h3
      · exact e q
      · exact hp i i' h1 h2 q h3.symm
    rw [upd_ne hne, g2, rowM_ne e]
theorem FarNew.far {K : PySem.W.Frag} {H H' : Hp} {D : Addr} {rs : List Addr} {N : Nat} {M : Mat} (h : FarNew H H' D rs N M) : FarAt K H' D N M := by
  refine ⟨rs.map V.ref, SqL.of h.d, ?_⟩
  have key : ∀ (l : List Addr) (k : Nat), (∀ i r, l[i]? = some r → H' r = some (.lst ((rowM N M (k + i)).map oV))) → Paired (FarV K H' N M) (l.map V.ref) (List.range' k l.length) := by
    intro l
    induction l with
    | nil => intro k _; exact .nil
    | cons r l ih =>
      intro k hl
      rw [List.map_cons, List.length_cons, List.range'_succ]
      refine .cons ⟨r, rfl, SqL.of (hl 0 r rfl)⟩ (ih (k + 1) fun i r' hr' => ?_)
      have := hl (i + 1) r' (by rw [List.getElem?_cons_succ]; exact hr')
      rw [show k + 1 + i = k + (i + 1) by omega]
      exact this
  have := key rs 0 fun i r hr => by rw [Nat.zero_add]; exact (h.at_ i r hr).2
  rw [h.len, ← List.range_eq_range'] at this
  exact this
def diagM (k : Nat) : Mat := fun i j => if i = j ∧ i < k then some 0 else none
theorem diagM_step (k : Nat) : setM (diagM k) k k (some 0) = diagM (k + 1) := by
  funext i j
  unfold setM diagM
  by_cases e : i = k ∧ j = k
  · obtain ⟨rfl, rfl⟩ := e
    rw [if_pos ⟨rfl, rfl⟩, if_pos ⟨rfl, by omega⟩]
  · rw [if_neg e]
    by_cases e2 : i = j ∧ i < k
    · rw [if_pos e2, if_pos ⟨e2.1, by omega⟩]
    · rw [if_neg e2, if_neg (by rintro ⟨rfl, h⟩; exact e ⟨by omega, by omega⟩)]
theorem diagM_zero : diagM 0 = fun _ _ => none := by
  funext i j
  unfold diagM
  rw [if_neg (by omega)]
/-- the rows offered so far -/
structure OffI (R : List Row) (N i : Nat) (M : Mat) : Prop where
  snd : Snd R N M
  dg : ∀ k, k < N → ∃ w, M k k = some w ∧ 0 ≤ w
  rw_ : ∀ s t l, (s, t, l) ∈ R.take i → ∃ w, M s t = some w ∧ l ≤ w
theorem OffI.zero {R : List Row} {N : Nat} : OffI R N 0 (diagM N) := by
  refine ⟨fun i j w hi hj h => ?_, fun k hk => ⟨0, by unfold diagM; rw [if_pos ⟨rfl, hk⟩], Int.le_refl _⟩, fun s t l h => by simp at h⟩
  unfold diagM at h
  split at h
  · rename_i e
    obtain ⟨rfl, _⟩ := e
    cases h
    exact ⟨0, .nil i⟩
  · cases h
theorem OffI.next {R : List Row} {N i : Nat} {M : Mat} (h : OffI R N i M) {s t : Nat} {l : Int} (hr : R[i]? = some (s, t, l)) : OffI R N (i + 1) (offer M s t l) := by
  have hle := offer_le M s t l
  refine ⟨h.snd.offer ⟨1, .one (List.mem_of_getElem? hr)⟩, fun k hk => ?_, fun s' t' l' hm => ?_⟩
  · obtain ⟨w, h1, h2⟩ := h.dg k hk
    obtain ⟨w', h3, h4⟩ := hle k k w h1
    exact ⟨w', h3, by omega⟩
  · rw [take_snoc hr] at hm
    rcases List.mem_append.mp hm with hm | hm
    · obtain ⟨w, h1, h2⟩ := h.rw_ s' t' l' hm
      obtain ⟨w', h3, h4⟩ := hle s' t' w h1
      exact ⟨w', h3, by omega⟩
    · rw [List.mem_singleton] at hm
      cases hm
      exact offer_ge M s t l
theorem OffI.cov {R : List Row} {N : Nat} {M : Mat} (h : OffI R N R.length M) : Cov R N 0 M := by
  intro i j w hi hj c
  rcases c with c | ⟨rfl, rfl⟩
  · exact h.rw_ i j w (by rw [List.take_length]; exact c)
  · exact h.dg i hi
/-- amid a round over the place k: M0 at its beginning, all pairs ahead of (a, b) are done -/
structure RndI (R : List Row) (N k : Nat) (M0 : Mat) (a b : Nat) (M : Mat) : Prop where
  snd : Snd R N M
  le : LeM M0 M
  done : ∀ i j u v, i < N → j < N → (i < a ∨ (i = a ∧ j < b)) → M0 i k = some u → M0 k j = some v → ∃ w', M i j = some w' ∧ u + v ≤ w'
theorem RndI.start {R : List Row} {N k : Nat} {M0 : Mat} (h : Snd R N M0) : RndI R N k M0 0 0 M0 := ⟨h, .refl _, fun i j u v _ _ hq => by omega⟩
theorem RndI.row {R : List Row} {N k a : Nat} {M0 M : Mat} (h : RndI R N k M0 a N M) : RndI R N k M0 (a + 1) 0 M := ⟨h.snd, h.le, fun i j u v hi hj hq => h.done i j u v hi hj (by omega)⟩
theorem RndI.skip {R : List Row} {N k a : Nat} {M0 M : Mat} (h : RndI R N k M0 a 0 M) (hn : M a k = none) : RndI R N k M0 (a + 1) 0 M := by
  refine ⟨h.snd, h.le, fun i j u v hi hj hq hu hv => ?_⟩
  by_cases e : i = a
  · subst e
    obtain ⟨w, h1, _⟩ := h.le _ _ _ hu
    rw [hn] at h1
    cases h1
  · exact h.done i j u v hi hj (by omega) hu hv
theorem RndI.none {R : List Row} {N k a b : Nat} {M0 M : Mat} (h : RndI R N k M0 a b M) (hn : M k b = none) : RndI R N k M0 a (b + 1) M := by
  refine ⟨h.snd, h.le, fun i j u v hi hj hq hu hv => ?_⟩
  by_cases e : i = a ∧ j = b
  · obtain ⟨rfl, rfl⟩ := e
    obtain ⟨w, h1, _⟩ := h.le _ _ _ hv
    rw [hn] at h1
    cases h1
  · exact h.done i j u v hi hj (by omega) hu hv
theorem RndI.next {R : List Row} {N k a b : Nat} {M0 M : Mat} (h : RndI R N k M0 a b M) (hk : k < N) (ha : a < N) (hb : b < N) {x y : Int} (hx : M a k = some x) (hy : M k b = some y) : RndI R N k M0 a (b + 1) (offer M a b (x + y)) := by
  have hle := offer_le M a b (x + y)
  refine ⟨h.snd.offer ?_, h.le.trans hle, fun i j u v hi hj hq hu hv => ?_⟩
  · obtain ⟨n, g1⟩ := h.snd a k x ha hk hx
    obtain ⟨m, g2⟩ := h.snd k b y hk hb hy
    exact ⟨n + m, g1.app g2⟩
  · by_cases e : i = a ∧ j = b
    · obtain ⟨rfl, rfl⟩ := e
      obtain ⟨u', h1, h2⟩ := h.le _ _ _ hu
      obtain ⟨v', h3, h4⟩ := h.le _ _ _ hv
      rw [hx] at h1
      rw [hy] at h3
      cases h1
      cases h3
      obtain ⟨w', h5, h6⟩ := offer_ge M i j (x + y)
      exact ⟨w', h5, by omega⟩
    · obtain ⟨w, h1, h2⟩ := h.done i j u v hi hj (by omega) hu hv
      obtain ⟨w', h3, h4⟩ := hle i j w h1
      exact ⟨w', h3, by omega⟩
theorem RndI.cov {R : List Row} {N k : Nat} {M0 M : Mat} (hk : k < N) (c : Cov R N k M0) (h : RndI R N k M0 N 0 M) : Cov R N (k + 1) M :=
  c.next hk h.le fun i j u v hi hj hu hv => h.done i j u v hi hj (.inl hi) hu hv
end My
namespace My
open PySem L2
/-! ### _law_far -/
theorem oV_non {v : Val} : (oV v = V.non) ↔ v = none := by cases v <;> simp [oV]
theorem rowM_none (N : Nat) (i : Nat) : (rowM N (fun _ _ => none) i).map oV = (List.replicate N [V.non]).flatten := by
  rw [rep_none]
  unfold rowM
  apply List.ext_getElem?
  intro k
  rw [List.getElem?_map, List.getElem?_map, List.getElem?_replicate]
  rcases Nat.lt_or_ge k N with h | h
  · rw [List.getElem?_range h, if_pos h]
    rfl
  · rw [List.getElem?_eq_none (by rw [List.length_range]; exact h), if_neg (by omega)]
    rfl
section
variable {P : Program} {w : World} {K : PySem.W.Frag} {mg : Str → Option Value} {base : Heap}
abbrev s_law_far : Stmt := top 55
abbrev N_law_far : List Str := ["size", "rows", "k", "far", "row", "mid", "one", "two", "total"]
theorem sc_law_far : FnScope N_law_far ["size", "rows"] (C8.fnScope s_law_far) := C8.fnScope_by (by decide +kernel)
def sp_law_far (K : PySem.W.Frag) : Sp := fun vs H Q _ => ∃ (ra : Addr) (N : Nat) (R : List Row), vs = [nV N, .ref ra] ∧ RowsAt K H ra R ∧ RowsLt R N ∧ N ≤ 100 ∧ R.length ≤ 1000 ∧ ∀ (a : Addr) (M : Mat) H', Same H H' → FarAt K H' a N M → Far R N M → Q (.ref a) H'
theorem ok_law_far {f : Addr} {fd : FuncData} (F : C8.Def K mg "_law_far" s_law_far f fd) (b : Binds K fd ["size", "rows"] []) (T : Gb mg) : C8.Cal P w K mg base 1 "_law_far" (sp_law_far K) [] := by
  refine C8.cal0 F b .nil sc_law_far (fun vs H Q E h => ?_) (fun cdv A outer s H vs Q E hr h => ?_)
  · obtain ⟨ra, N, R, rfl, _⟩ := h
    rfl
  · obtain ⟨ra, N, R, rfl, ⟨rws, hra, hrp⟩, hlt, hN, hRl, q⟩ := h
    have hrl := hrp.length
    refine ⟨_, (pss_cons (ps_setLc (i := 3) (own := [("k", 2)]) rfl sc_law_far.nd rfl rfl (sw_true rfl rfl rfl (by decide +kernel)) (pi_range1 (by rfl) T.range (pa_cons (pv 0) pa_nil)) (blkOk_by (N := N_law_far) (sc := C8.fnScope s_law_far) (by decide +kernel)) (fun _ _ _ _ _ => (pg_name (i := 2) sc_law_far.nd rfl (Or.inl rfl))) (fun _ _ _ _ _ => pts_nil) (fun _ _ _ _ _ => (pe_op op_rep (pe_lst (pa_cons pe_non pa_nil)) (pv 0))))
(C8.pss_cut (ps_for PassesOwn.never rfl (pi_range1 (by rfl) T.range (pa_cons (pv 0) pa_nil)) (pg_name (i := 2) sc_law_far.nd rfl (Or.inl rfl))
(pss_one (ps_asg pe_int (pg_sub (pe_ix (ix_listK K rfl) (pv 3) (pv 2) (fun _ _ => rfl)) (pv 2) set_list))))
(C8.pss_cut (ps_for PassesOwn.never rfl (pi_listK K rfl (pv 1)) (pg_name (i := 4) sc_law_far.nd rfl (Or.inl rfl))
(pss_one (ps_if (PW.pt (pw_or (pt_cmpR op_isN (pe_ix (ix_listK K rfl) (pe_ix (ix_listK K rfl) (pv 3) (pe_ix (ix_tupK K rfl) (pv 4) pe_int (fun _ _ => rfl)) (fun _ _ => rfl)) (pe_ix (ix_tupK K rfl) (pv 4) pe_int (fun _ _ => rfl)) (fun _ _ => rfl)) pe_non (nomark _)) (pw_or1 (pt_cmpR op_lt (pe_ix (ix_listK K rfl) (pe_ix (ix_listK K rfl) (pv 3) (pe_ix (ix_tupK K rfl) (pv 4) pe_int (fun _ _ => rfl)) (fun _ _ => rfl)) (pe_ix (ix_tupK K rfl) (pv 4) pe_int (fun _ _ => rfl)) (fun _ _ => rfl)) (pe_ix (ix_tupK K rfl) (pv 4) pe_int (fun _ _ => rfl)) (nomark _)))))
(pss_one (ps_asg (pe_ix (ix_tupK K rfl) (pv 4) pe_int (fun _ _ => rfl)) (pg_sub (pe_ix (ix_listK K rfl) (pv 3) (pe_ix (ix_tupK K rfl) (pv 4) pe_int (fun _ _ => rfl)) (fun _ _ => rfl)) (pe_ix (ix_tupK K rfl) (pv 4) pe_int (fun _ _ => rfl)) set_list)))
pss_nil)))
(pss_cons (ps_for PassesOwn.never rfl (pi_range1 (by rfl) T.range (pa_cons (pv 0) pa_nil)) (pg_name (i := 5) sc_law_far.nd rfl (Or.inl rfl))
(pss_one (ps_for PassesOwn.never rfl (pi_range1 (by rfl) T.range (pa_cons (pv 0) pa_nil)) (pg_name (i := 6) sc_law_far.nd rfl (Or.inl rfl))
(pss_one (ps_if (pt_cmpR op_notN (pe_ix (ix_listK K rfl) (pe_ix (ix_listK K rfl) (pv 3) (pv 6) (fun _ _ => rfl)) (pv 5) (fun _ _ => rfl)) pe_non (nomark _))
(pss_one (ps_for PassesOwn.never rfl (pi_range1 (by rfl) T.range (pa_cons (pv 0) pa_nil)) (pg_name (i := 7) sc_law_far.nd rfl (Or.inl rfl))
(pss_one (ps_if (pt_cmpR op_notN (pe_ix (ix_listK K rfl) (pe_ix (ix_listK K rfl) (pv 3) (pv 5) (fun _ _ => rfl)) (pv 7) (fun _ _ => rfl)) pe_non (nomark _))
(pss_cons (ps_set (i := 8) sc_law_far.nd rfl (Or.inl rfl) (pe_op op_add (pe_ix (ix_listK K rfl) (pe_ix (ix_listK K rfl) (pv 3) (pv 6) (fun _ _ => rfl)) (pv 5) (fun _ _ => rfl)) (pe_ix (ix_listK K rfl) (pe_ix (ix_listK K rfl) (pv 3) (pv 5) (fun _ _ => rfl)) (pv 7) (fun _ _ => rfl))))
(pss_one (ps_if (PW.pt (pw_or (pt_cmpR op_isN (pe_ix (ix_listK K rfl) (pe_ix (ix_listK K rfl) (pv 3) (pv 6) (fun _ _ => rfl)) (pv 7) (fun _ _ => rfl)) pe_non (nomark _)) (pw_or1 (pt_cmpR op_lt (pe_ix (ix_listK K rfl) (pe_ix (ix_listK K rfl) (pv 3) (pv 6) (fun _ _ => rfl)) (pv 7) (fun _ _ => rfl)) (pv 8) (nomark _)))))
(pss_one (ps_asg (pv 8) (pg_sub (pe_ix (ix_listK K rfl) (pv 3) (pv 6) (fun _ _ => rfl)) (pv 7) set_list)))
pss_nil)))
pss_nil))))
pss_nil)))))
(pss_one (ps_ret (pv 3))))))), ?_⟩
    refine ⟨_, rfl, (N : Int), rfl, by omega, by omega, fun D hD => lc_range (lo := 0) (n := (N : Int).toNat)
      (fun i H' => Same H H' ∧ ∃ rs : List Addr, H' D = some (.lst (rs.map V.ref)) ∧ rs.length = i ∧ rs.Nodup ∧ D ∉ rs ∧ ∀ r ∈ rs, H r = none ∧ H' r = some (.lst ((List.replicate N [V.non]).flatten)))
      ⟨same_new (Same.refl _) hD, [], upd_same, rfl, .nil, (by simp), (by intro r hr; cases hr)⟩ ?_ ?_⟩
    · rintro i H1 hi ⟨sm1, rs, hD1, hlen, hnd, hnD, hrs⟩
      refine ⟨rfl, yes_go ?_⟩
      refine ⟨by show 1 ≤ sizeLine; decide, fun p1 hp1 => ?_⟩
      have sm2 := same_new (o := .lst [.non]) sm1 hp1
      refine ⟨_, rfl, p1, _, _, rfl, rfl, upd_same, by omega, by omega, size_le (by simp; omega), fun p2 hp2 => ?_⟩
      have n12 : p1 ≠ p2 := ne_of_none upd_same hp2
      have hD2 : (upd H1 p1 (.lst [.non])) D = some (.lst (rs.map V.ref)) := (upd_ne (ne_of_none hD1 hp1)).trans hD1
      have hD3 := (upd_ne (o := .lst ((List.replicate ((N : Int)).toNat [V.non]).flatten)) (ne_of_none hD2 hp2)).trans hD2
      have hDp : D ≠ p2 := ne_of_none hD2 hp2
      refine ⟨_, hD3, size_lt (by rw [List.length_map, hlen]; omega), ?_⟩
      have sm3 := same_new (o := .lst ((List.replicate ((N : Int)).toNat [V.non]).flatten)) sm2 hp2
      refine ⟨same_mut sm3 hD, rs ++ [p2], by rw [upd_same, List.map_append] <;> rfl, by rw [List.length_append, hlen] <;> rfl, ?_, ?_, ?_⟩
      · rw [List.nodup_append]
        refine ⟨hnd, by simp, fun x hx y hy => ?_⟩
        rw [List.mem_singleton] at hy
        subst hy
        have hx1 := (hrs x hx).2
        exact ne_of_none ((upd_ne (ne_of_none hx1 hp1)).trans hx1) hp2
      · rw [List.mem_append, List.mem_singleton]
        rintro (z | z)
        · exact hnD z
        · exact hDp z
      · intro r hr
        rcases List.mem_append.mp hr with hr | hr
        · obtain ⟨g1, g2⟩ := hrs r hr
          have g3 : (upd H1 p1 (.lst [.non])) r = _ := (upd_ne (ne_of_none g2 hp1)).trans g2
          have nrD : r ≠ D := fun z => hnD (by rw [← z]; exact hr)
          exact ⟨g1, by rw [upd_ne nrD, upd_ne (ne_of_none g3 hp2)]; exact g3⟩
        · rw [List.mem_singleton] at hr
          subst hr
          exact ⟨sm2.free hp2, by rw [upd_ne (Ne.symm hDp), upd_same] <;> rfl⟩
    rintro H1 ⟨sm1, rs, hD1, hlen, hnd, hnD, hrs⟩
    have hlen' : rs.length = N := by omega
    have F0 : FarNew H H1 D rs N (diagM 0) := by
      refine ⟨sm1, hD, hD1, hlen', hnd, hnD, fun i r hr => ?_⟩
      obtain ⟨g1, g2⟩ := hrs r (List.mem_of_getElem? hr)
      exact ⟨g1, by rw [diagM_zero, rowM_none]; exact g2⟩
    have ixl : ∀ {M : Mat} {i j : Nat}, j < N → ixN (((rowM N M i).map oV).length) ((j : Nat) : Int) = some j := fun {M i j} hj => ixN_nat (by rw [List.length_map, rowM_len]; exact hj)
    have hra' : ∀ {H' : Hp} {M : Mat}, FarNew H H' D rs N M → SqL K H' ra rws := fun h => h.sm.seq hra
    refine ⟨fun σ H' => FarNew H H' D rs N (diagM N) ∧ ∃ v2, σ = [some (nV N), some (.ref ra), v2, some (.ref D), none, none, none, none, none], ?_, ?_⟩
    · refine ⟨_, rfl, (N : Int), rfl, by omega, by omega, for_range (lo := 0) (n := (N : Int).toNat) (fun i σ H' => FarNew H H' D rs N (diagM i) ∧ ∃ v2, σ = [some (nV N), some (.ref ra), v2, some (.ref D), none, none, none, none, none])
        ⟨F0, _, rfl⟩ ?_ ?_⟩
      · rintro i σ H2 hi ⟨FN, v2, rfl⟩
        rw [show (0 : Int) + (i : Int) = (i : Int) by omega]
        have hi' : i < N := by omega
        obtain ⟨r, hr, hat, hrr, hcell⟩ := FN.get (K := K) hi'
        refine ⟨_, rfl, _, rfl, D, _, _, .ref r, rfl, rfl, SqL.of FN.d, hat, _, rfl, r, _, _, i, rfl, rfl, hrr, ixl hi', ?_⟩
        have := FN.put hr hi' (some 0)
        rw [diagM_step] at this
        exact ⟨this, _, rfl⟩
      · rintro σ H2 ⟨FN, v2, rfl⟩
        rw [show ((N : Int)).toNat = N by omega] at FN
        exact ⟨FN, _, rfl⟩
    rintro σ1 H2 ⟨FN1, v2, rfl⟩
    refine ⟨fun σ H' => ∃ M, FarNew H H' D rs N M ∧ OffI R N R.length M ∧ ∃ v2 v4, σ = [some (nV N), some (.ref ra), v2, some (.ref D), v4, none, none, none, none], ?_, ?_⟩
    · refine ⟨_, rfl, ra, rfl, ⟨rws, hra' FN1⟩, for_it (walk_list (xs := rws)) (fun i σ H' => ∃ M, FarNew H H' D rs N M ∧ OffI R N i M ∧ ∃ v2 v4, σ = [some (nV N), some (.ref ra), v2, some (.ref D), v4, none, none, none, none])
        ⟨_, FN1, OffI.zero, _, _, rfl⟩ (fun i σ H' _ h => by obtain ⟨M, h1, _⟩ := h; exact hra' h1) ?_ ?_⟩
      · rintro i x σ H3 H3' hi ⟨M, FN, hO, v2, v4, rfl⟩ ⟨rfl, hx⟩
        obtain ⟨⟨s, t, l⟩, hR1, ta, rfl, hta0⟩ := paired_at hrp hx
        obtain ⟨hs', ht'⟩ := hlt _ (List.mem_of_getElem? hR1)
        have hs : s < N := hs'
        have ht : t < N := ht'
        have hta := Same.tup FN.sm hta0
        obtain ⟨r, hr, hat, hrr, hcell⟩ := FN.get (K := K) hs
        have hnext := hO.next hR1
        refine ⟨_, rfl, _, rfl, ta, _, 0, nV s, rfl, rfl, hta, rfl, D, _, _, .ref r, rfl, rfl, SqL.of FN.d, hat, _, rfl, ta, _, 1, nV t, rfl, rfl, hta, rfl, r, _, _, oV (M s t), rfl, rfl, SqL.of hrr, hcell t ht, rfl, _, rfl, ?_⟩
        have store : FarNew H (upd H3' r (.lst (((rowM N M s).map oV).set t (oV (some l))))) D rs N (setM M s t (some l)) := FN.put hr ht (some l)
        cases hm : M s t with
        | none =>
          refine ifT rfl ?_
          refine ⟨_, rfl, ta, _, 2, .int l, rfl, rfl, hta, rfl, _, rfl, _, rfl, ta, _, 0, nV s, rfl, rfl, hta, rfl, D, _, _, .ref r, rfl, rfl, SqL.of FN.d, hat, _, rfl, ta, _, 1, nV t, rfl, rfl, hta, rfl, r, _, _, t, rfl, rfl, hrr, ixl ht, ?_⟩
          refine ⟨_, store, ?_, _, _, rfl⟩
          unfold offer at hnext
          rw [hm] at hnext
          exact hnext
        | some v =>
          refine ifF (by intro z; cases z) ?_
          have hcell2 := hcell t ht
          rw [hm] at hcell2
          refine ⟨_, rfl, _, rfl, ta, _, 0, nV s, rfl, rfl, hta, rfl, D, _, _, .ref r, rfl, rfl, SqL.of FN.d, hat, _, rfl, ta, _, 1, nV t, rfl, rfl, hta, rfl, r, _, _, .int v, rfl, rfl, SqL.of hrr, hcell2, _, rfl, ta, _, 2, .int l, rfl, rfl, hta, rfl, _, _, rfl, rfl, _, rfl, ?_⟩
          unfold offer at hnext
          rw [hm] at hnext
          refine ite2 (fun hg => ?_) (fun hg => ?_)
          · have hg' := of_decide_eq_true hg
            simp only [hg', if_true] at hnext
            refine ⟨_, rfl, ta, _, 2, .int l, rfl, rfl, hta, rfl, _, rfl, _, rfl, ta, _, 0, nV s, rfl, rfl, hta, rfl, D, _, _, .ref r, rfl, rfl, SqL.of FN.d, hat, _, rfl, ta, _, 1, nV t, rfl, rfl, hta, rfl, r, _, _, t, rfl, rfl, hrr, ixl ht, ?_⟩
            exact ⟨_, store, hnext, _, _, rfl⟩
          · have hg' := mt decide_eq_true hg
            simp only [hg', if_false] at hnext
            exact ⟨_, FN, hnext, _, _, rfl⟩
      · rintro σ H3 ⟨M, FN, hO, v2, v4, rfl⟩
        rw [hrl] at hO
        exact ⟨M, FN, hO, _, _, rfl⟩
    rintro σ2 H3 ⟨M1, FN1, hO1, v2, v4, rfl⟩
    refine ⟨_, rfl, (N : Int), rfl, by omega, by omega, for_range (lo := 0) (n := (N : Int).toNat) (fun k σ H' => ∃ M, FarNew H H' D rs N M ∧ Snd R N M ∧ Cov R N k M ∧ ∃ v5 v6 v7 v8, σ = [some (nV N), some (.ref ra), v2, some (.ref D), v4, v5, v6, v7, v8])
      ⟨M1, FN1, hO1.snd, hO1.cov, _, _, _, _, rfl⟩ ?_ ?_⟩
    · rintro k σ H4 hk ⟨M0, FN0, hS0, hC0, v5, v6, v7, v8, rfl⟩
      rw [show (0 : Int) + (k : Int) = (k : Int) by omega]
      have hk' : k < N := by omega
      refine ⟨_, rfl, (N : Int), rfl, by omega, by omega, for_range (lo := 0) (n := (N : Int).toNat) (fun a σ H' => ∃ M, FarNew H H' D rs N M ∧ RndI R N k M0 a 0 M ∧ ∃ v6 v7 v8, σ = [some (nV N), some (.ref ra), v2, some (.ref D), v4, some (nV k), v6, v7, v8])
        ⟨M0, FN0, RndI.start hS0, _, _, _, rfl⟩ ?_ ?_⟩
      · rintro a σ H5 ha ⟨M, FN, hI, v6, v7, v8, rfl⟩
        rw [show (0 : Int) + (a : Int) = (a : Int) by omega]
        have ha' : a < N := by omega
        obtain ⟨r, hr, hat, hrr, hcell⟩ := FN.get (K := K) ha'
        refine ⟨_, rfl, _, rfl, D, _, _, .ref r, rfl, rfl, SqL.of FN.d, hat, _, rfl, r, _, _, oV (M a k), rfl, rfl, SqL.of hrr, hcell k hk', rfl, _, rfl, ?_⟩
        cases hm : M a k with
        | none =>
          refine ifNF rfl ?_
          exact ⟨M, FN, hI.skip hm, _, _, _, rfl⟩
        | some x =>
          refine ifNT (by intro z; cases z) ?_
          refine ⟨_, rfl, (N : Int), rfl, by omega, by omega, for_range (lo := 0) (n := (N : Int).toNat) (fun b σ H' => ∃ M, FarNew H H' D rs N M ∧ RndI R N k M0 a b M ∧ (∃ x, M a k = some x) ∧ ∃ v7 v8, σ = [some (nV N), some (.ref ra), v2, some (.ref D), v4, some (nV k), some (nV a), v7, v8])
            ⟨M, FN, hI, ⟨x, hm⟩, _, _, rfl⟩ ?_ ?_⟩
          · rintro b σ H6 hb ⟨M, FN, hI, ⟨x, hm⟩, v7, v8, rfl⟩
            rw [show (0 : Int) + (b : Int) = (b : Int) by omega]
            have hb' : b < N := by omega
            obtain ⟨ra_, hra_, hata, hrra, hcella⟩ := FN.get (K := K) ha'
            obtain ⟨rk, hrk, hatk, hrrk, hcellk⟩ := FN.get (K := K) hk'
            refine ⟨_, rfl, _, rfl, D, _, _, .ref rk, rfl, rfl, SqL.of FN.d, hatk, _, rfl, rk, _, _, oV (M k b), rfl, rfl, SqL.of hrrk, hcellk b hb', rfl, _, rfl, ?_⟩
            cases hy : M k b with
            | none =>
              refine ifNF rfl ?_
              exact ⟨M, FN, hI.none hy, ⟨x, hm⟩, _, _, rfl⟩
            | some y =>
              refine ifNT (by intro z; cases z) ?_
              have ca := hcella k hk'
              rw [hm] at ca
              have ck := hcellk b hb'
              rw [hy] at ck
              have hnext := hI.next hk' ha' hb' hm hy
              have store : FarNew H (upd H6 ra_ (.lst (((rowM N M a).map oV).set b (oV (some (x + y)))))) D rs N (setM M a b (some (x + y))) := FN.put hra_ hb' (some (x + y))
              have hoff : ∃ x', offer M a b (x + y) a k = some x' := by
                obtain ⟨x', h1, _⟩ := offer_le M a b (x + y) a k x hm
                exact ⟨x', h1⟩
              refine ⟨_, rfl, _, rfl, D, _, _, .ref ra_, rfl, rfl, SqL.of FN.d, hata, _, rfl, ra_, _, _, .int x, rfl, rfl, SqL.of hrra, ca, _, rfl, _, rfl, D, _, _, .ref rk, rfl, rfl, SqL.of FN.d, hatk, _, rfl, rk, _, _, .int y, rfl, rfl, SqL.of hrrk, ck, _, _, rfl, rfl, ?_⟩
              refine ⟨_, rfl, _, rfl, D, _, _, .ref ra_, rfl, rfl, SqL.of FN.d, hata, _, rfl, ra_, _, _, oV (M a b), rfl, rfl, SqL.of hrra, hcella b hb', rfl, _, rfl, ?_⟩
              cases hz : M a b with
              | none =>
                refine ifT rfl ?_
                refine ⟨_, rfl, _, rfl, _, rfl, D, _, _, .ref ra_, rfl, rfl, SqL.of FN.d, hata, _, rfl, ra_, _, _, b, rfl, rfl, hrra, ixl hb', ?_⟩
                unfold offer at hnext hoff
                rw [hz] at hnext hoff
                exact ⟨_, store, hnext, hoff, _, _, rfl⟩
              | some v =>
                refine ifF (by intro z; cases z) ?_
                have cb := hcella b hb'
                rw [hz] at cb
                refine ⟨_, rfl, _, rfl, D, _, _, .ref ra_, rfl, rfl, SqL.of FN.d, hata, _, rfl, ra_, _, _, .int v, rfl, rfl, SqL.of hrra, cb, _, rfl, _, _, rfl, rfl, _, rfl, ?_⟩
                unfold offer at hnext hoff
                rw [hz] at hnext hoff
                refine ite2 (fun hg => ?_) (fun hg => ?_)
                · have hg' := of_decide_eq_true hg
                  simp only [hg', if_true] at hnext hoff
                  refine ⟨_, rfl, _, rfl, _, rfl, D, _, _, .ref ra_, rfl, rfl, SqL.of FN.d, hata, _, rfl, ra_, _, _, b, rfl, rfl, hrra, ixl hb', ?_⟩
                  exact ⟨_, store, hnext, hoff, _, _, rfl⟩
                · have hg' := mt decide_eq_true hg
                  simp only [hg', if_false] at hnext hoff
                  exact ⟨_, FN, hnext, hoff, _, _, rfl⟩
          · rintro σ H6 ⟨M, FN, hI, _, v7, v8, rfl⟩
            rw [show ((N : Int)).toNat = N by omega] at hI
            exact ⟨M, FN, hI.row, _, _, _, rfl⟩
      · rintro σ H5 ⟨M, FN, hI, v6, v7, v8, rfl⟩
        rw [show ((N : Int)).toNat = N by omega] at hI
        exact ⟨M, FN, hI.snd, hI.cov hk' hC0, _, _, _, _, rfl⟩
    · rintro σ H4 ⟨M, FN, hS, hC, v5, v6, v7, v8, rfl⟩
      rw [show ((N : Int)).toNat = N by omega] at hC
      exact ⟨_, rfl, q D M H4 FN.sm FN.far ⟨hS, hC⟩⟩
end
end My
namespace My
open PySem L2
/-! ### courses with one bound more -/
theorem Wk.sub {R R' : List Row} (h : ∀ r ∈ R, r ∈ R') {i j n : Nat} {w : Int} (hw : Wk R i j n w) : Wk R' i j n w := by
  induction hw with
  | nil => exact .nil _
  | snoc _ e ih => exact .snoc ih (h _ e)
theorem withV_none {M : Mat} {x y k : Nat} {least : Int} (h : M y k = none) : withV M x y least k = (M 0 k).getD 0 := by unfold withV; rw [h]
theorem withV_some {M : Mat} {x y k : Nat} {least b : Int} (h : M y k = some b) : withV M x y least k = if (M 0 x).getD 0 + least + b > (M 0 k).getD 0 then (M 0 x).getD 0 + least + b else (M 0 k).getD 0 := by unfold withV; rw [h]
section
variable {R : List Row} {N : Nat} {M : Mat} {x y : Nat} {least : Int}
structure WithH (R : List Row) (N : Nat) (M : Mat) (x y : Nat) (least : Int) : Prop where
  hR : RowsLt R N
  hF : Far R N M
  np : NP R N
  h0 : 0 < N
  hx : x < N
  hy : y < N
  all : ∀ k, k < N → ∃ w, M 0 k = some w
  ok : ∀ b, M y x = some b → least + b ≤ 0
theorem WithH.edge (h : WithH R N M x y least) {i s t : Nat} {l a : Int} (hi : i < N) (hm : (s, t, l) ∈ R) (ha : M i s = some a) : ∃ c, M i t = some c ∧ a + l ≤ c := by
  obtain ⟨hs, ht⟩ := h.hR _ hm
  obtain ⟨n, g⟩ := h.hF.snd i s a hi hs ha
  exact h.hF.ge h.hR h.np hi ht (g.app (.one hm))
theorem WithH.pot (h : WithH R N M x y least) : Pot (R ++ [(x, y, least)]) (withV M x y least) := by
  intro s t l hm
  rcases List.mem_append.mp hm with hm | hm
  · obtain ⟨hs, ht⟩ := h.hR _ hm
    obtain ⟨a, ha⟩ := h.all s hs
    obtain ⟨c, hc, hle⟩ := h.edge h.h0 hm ha
    have lo : (M 0 t).getD 0 ≤ withV M x y least t := by
      cases e : M y t with
      | none => rw [withV_none e]; exact Int.le_refl _
      | some d => rw [withV_some e]; split <;> omega
    cases e : M y s with
    | none =>
      rw [withV_none e, ha]
      rw [hc] at lo
      have lo' : c ≤ _ := lo
      show a + l ≤ _
      omega
    | some b =>
      obtain ⟨d, hd, hle2⟩ := h.edge h.hy hm e
      rw [withV_some e, withV_some hd, ha, hc]
      show (if (M 0 x).getD 0 + least + b > a then (M 0 x).getD 0 + least + b else a) + l ≤ (if (M 0 x).getD 0 + least + d > c then (M 0 x).getD 0 + least + d else c)
      split <;> split <;> omega
  · rw [List.mem_singleton] at hm
    cases hm
    obtain ⟨a, ha⟩ := h.all x h.hx
    obtain ⟨c, hc⟩ := h.all y h.hy
    have h1 : withV M x y least x = a := by
      cases e : M y x with
      | none => rw [withV_none e, ha]; rfl
      | some b =>
        have := h.ok b e
        rw [withV_some e, ha]
        show (if a + least + b > a then a + least + b else a) = a
        split <;> omega
    have e := h.hF.self h.hR h.np h.hy
    rw [h1, withV_some e, ha, hc]
    show a + least ≤ (if a + least + 0 > c then a + least + 0 else c)
    split <;> omega
theorem WithH.zero (h : WithH R N M x y least) : withV M x y least 0 = 0 := by
  have e0 := h.hF.self h.hR h.np h.h0
  obtain ⟨a, ha⟩ := h.all x h.hx
  cases e : M y 0 with
  | none => rw [withV_none e, e0]; rfl
  | some b =>
    obtain ⟨c, hc, hle⟩ := h.hF.tri h.hR h.np h.hy h.h0 h.hx e ha
    have := h.ok c hc
    rw [withV_some e, e0, ha]
    show (if a + least + b > 0 then a + least + b else 0) = 0
    split <;> omega
theorem WithH.walk (h : WithH R N M x y least) {k : Nat} (hk : k < N) : ∃ n, Wk (R ++ [(x, y, least)]) 0 k n (withV M x y least k) := by
  have sub : ∀ {i j n : Nat} {w : Int}, Wk R i j n w → Wk (R ++ [(x, y, least)]) i j n w := fun hw => hw.sub fun r hr => List.mem_append_left _ hr
  obtain ⟨c, hc⟩ := h.all k hk
  obtain ⟨n0, g0⟩ := h.hF.snd 0 k c h.h0 hk hc
  cases e : M y k with
  | none =>
    rw [withV_none e, hc]
    exact ⟨n0, sub g0⟩
  | some b =>
    obtain ⟨a, ha⟩ := h.all x h.hx
    obtain ⟨n1, g1⟩ := h.hF.snd 0 x a h.h0 h.hx ha
    obtain ⟨n2, g2⟩ := h.hF.snd y k b h.hy hk e
    rw [withV_some e, hc, ha]
    show ∃ n, Wk _ 0 k n (if a + least + b > c then a + least + b else c)
    split
    · exact ⟨_, ((sub g1).app (.one (List.mem_append_right _ (List.mem_singleton.mpr rfl)))).app (sub g2)⟩
    · exact ⟨n0, sub g0⟩
theorem WithH.rows (h : WithH R N M x y least) : RowsLt (R ++ [(x, y, least)]) N := fun r hr => by
  rcases List.mem_append.mp hr with hr | hr
  · exact h.hR r hr
  · rw [List.mem_singleton] at hr
    subst hr
    exact ⟨h.hx, h.hy⟩
theorem WithH.sums (h : WithH R N M x y least) {s : List Val} {L : List By} (hres : LRes (R ++ [(x, y, least)]) N 0 s L) : s = ((List.range N).map (withV M x y least)).map some := by
  have np' : NP (R ++ [(x, y, least)]) N := h.pot.np
  have hl := hres.run.len
  obtain ⟨_, st⟩ := hres.np_lt h.h0 h.rows np'
  obtain ⟨a0, h0, h00⟩ := hres.run.source h.h0
  symm
  refine gv_ext (by rw [List.length_map, List.length_map, List.length_range, hl]) fun v hv => ?_
  have hv' : v < N := by omega
  have e1 : gv (((List.range N).map (withV M x y least)).map some) v = some (withV M x y least v) := by
    unfold gv
    rw [List.getElem?_map, List.getElem?_map, List.getElem?_range hv']
    rfl
  rw [e1]
  obtain ⟨n, g⟩ := h.walk hv'
  obtain ⟨b, hb, hle⟩ := st.walk g h0
  obtain ⟨n2, g2⟩ := hres.run.walk h.h0 hb
  have := h.pot.walk g2
  rw [h.zero] at this
  rw [hb]
  have : withV M x y least v = b := by omega
  rw [this]
end
theorem rows_np_all {W : Wd} (hok : W.Ok) {M : Mat} (hF : Far (rowsOf W) W.size M) (np : NP (rowsOf W) W.size) : ∀ k, k < W.size → ∃ w, M 0 k = some w := fun k hk => by
  obtain ⟨n, w, hw⟩ := rowsOf_start hok hk
  have h1 := hok.s1
  obtain ⟨w', h2, _⟩ := hF.ge (rowsOf_lt hok) np (by omega) hk hw
  exact ⟨w', h2⟩
theorem cell_map {N : Nat} {f : Nat → Int} {k : Nat} (h : k < N) : L2.cellOf ((List.range N).map f) k = f k := by
  unfold L2.cellOf
  rw [List.getD_eq_getElem?_getD, List.getElem?_map, List.getElem?_range h]
  rfl
theorem WithH.keep {W : Wd} {M : Mat} {x y : Nat} {least : Int} (h : WithH (rowsOf W) W.size M x y least) : Pot (rowsOf (W.at W.late)) (L2.cellOf ((List.range W.size).map (withV M x y least))) := fun s t l hm => by
  obtain ⟨hs, ht⟩ := h.hR _ hm
  have hs' : s < W.size := hs
  have ht' : t < W.size := ht
  rw [cell_map hs', cell_map ht']
  exact h.pot s t l (List.mem_append_left _ hm)
theorem sure_far {R : List Row} {N : Nat} {M : Mat} (hR : RowsLt R N) (hF : Far R N M) (np : NP R N) {x y : Nat} (hx : x < N) (hy : y < N) : sureP R x y ↔ ∃ a, M x y = some a ∧ 1 ≤ a := by
  constructor
  · rintro ⟨n, w, hw, h1⟩
    obtain ⟨w', h2, h3⟩ := hF.ge hR np hx hy hw
    exact ⟨w', h2, by omega⟩
  · rintro ⟨a, ha, h1⟩
    obtain ⟨n, hw⟩ := hF.snd x y a hx hy ha
    exact ⟨n, a, hw, h1⟩
section
variable {P : Program} {w : World} {K : PySem.W.Frag} {mg : Str → Option Value} {base : Heap}
abbrev s_law_sure : Stmt := top 63
abbrev N_law_sure : List Str := ["world", "lag", "x", "y", "far"]
theorem sc_law_sure : FnScope N_law_sure ["world", "lag", "x", "y"] (C8.fnScope s_law_sure) := C8.fnScope_by (by decide +kernel)
def sp_law_sure (K : PySem.W.Frag) : Sp := fun vs H Q _ => ∃ (a : Addr) (W : Wd) (m : List Int) (lag x y : Nat), vs = [.ref a, nV lag, nV x, nV y] ∧ WorldAt K H a W m ∧ W.Ok ∧ lag ≤ 60 ∧ x < W.size ∧ y < W.size ∧
  ∀ H', Same H H' → (¬ NP (rowsOf (W.at lag)) W.size → Q .non H') ∧ (NP (rowsOf (W.at lag)) W.size → ∀ bb : Bool, (bb = true ↔ sureP (rowsOf (W.at lag)) x y) → Q (.bl bb) H')
theorem ok_law_sure {f : Addr} {fd : FuncData} (F : C8.Def K mg "_law_sure" s_law_sure f fd) (b : Binds K fd ["world", "lag", "x", "y"] []) (c__law_bounds : C8.Cal P w K mg base 1 "_law_bounds" (sp_law_bounds K) []) (c__law_far : C8.Cal P w K mg base 1 "_law_far" (sp_law_far K) []) (c__law_possible : C8.Cal P w K mg base 1 "_law_possible" (sp_law_possible K) []) :
    C8.Cal P w K mg base 2 "_law_sure" (sp_law_sure K) [] := by
  refine C8.cal0 F b .nil sc_law_sure (fun vs H Q E h => ?_) (fun cdv A outer s H vs Q E hr h => ?_)
  · obtain ⟨a, W, m, lag, x, y, rfl, _⟩ := h
    rfl
  · obtain ⟨a, W, m, lag, x, y, rfl, hW, hok, hlag, hx, hy, q⟩ := h
    refine ⟨_, (pss_cons (ps_set (i := 4) sc_law_sure.nd rfl (Or.inl rfl) (C8.pe_c c__law_far hr (by decide) (by rfl) (pa_cons (pe_ix (ix_listK K rfl) (pv 0) pe_int (fun _ _ => rfl)) (pa_cons (C8.pe_c c__law_bounds hr (by decide) (by rfl) (pa_cons (pv 0) (pa_cons (pv 1) pa_nil))) pa_nil))))
(pss_cons (ps_if (pt_not (pt_val (C8.pe_c c__law_possible hr (by decide) (by rfl) (pa_cons (pv 4) pa_nil))))
(pss_one (ps_ret pe_non))
pss_nil)
(pss_one (ps_ret (pe_and (pe_cmpR op_notN (pe_ix (ix_listK K rfl) (pe_ix (ix_listK K rfl) (pv 4) (pv 2) (fun _ _ => rfl)) (pv 3) (fun _ _ => rfl)) pe_non (nomark _)) (pe_one (pe_cmpR op_ge (pe_ix (ix_listK K rfl) (pe_ix (ix_listK K rfl) (pv 4) (pv 2) (fun _ _ => rfl)) (pv 3) (fun _ _ => rfl)) pe_int (nomark _)))))))), ?_⟩
    have hok' : (W.at lag).Ok := hok.at hlag
    obtain ⟨ea, ma, es, hA, _⟩ := id hW
    have hN := hok.s2
    refine ⟨_, rfl, a, _, 0, nV W.size, rfl, rfl, hA, rfl, _, rfl, _, rfl, a, W, m, lag, rfl, hW, hok, fun l rs H1 sm1 hl0 hl hrs => ?_⟩
    have hlt : RowsLt (rowsOf (W.at lag)) W.size := rowsOf_lt hok'
    refine ⟨l, W.size, rowsOf (W.at lag), rfl, ⟨rs, SqL.of hl, hrs⟩, hlt, by omega, by have := rowsOf_len hok'; omega, fun fa M H2 sm2 hFA hF => ?_⟩
    have sm := sm1.trans sm2
    obtain ⟨q1, q2⟩ := q H2 sm
    have hdg : ∀ k, k < W.size → ∃ w, M k k = some w := fun k hk => by
      obtain ⟨w, h1, _⟩ := hF.cov k k 0 hk hk (Cv.up (Nat.zero_le _) (.inr ⟨rfl, rfl⟩))
      exact ⟨w, h1⟩
    refine ⟨_, rfl, fa, W.size, M, rfl, hFA, by omega, hdg, fun bb hbb => ⟨bb, rfl, ?_⟩⟩
    rw [hF.np hlt] at hbb
    cases bb with
    | false =>
      refine iteT ?_
      exact q1 fun z => by have := hbb.mpr z; cases this
    | true =>
      have np := hbb.mp rfl
      refine iteF ?_
      obtain ⟨vs, b, g1, g2, g3, g4⟩ := hFA.at hx
      have hs := sure_far hlt hF np hx hy
      have hat := rowM_at (N := W.size) (M := M) (i := x) hy
      refine ⟨_, rfl, _, rfl, fa, _, _, .ref b, rfl, rfl, g1, atI_nat g3, _, rfl, b, _, _, oV (M x y), rfl, rfl, g4, atI_nat hat, rfl, _, rfl, ?_⟩
      cases hm : M x y with
      | none =>
        refine iteF ?_
        refine q2 np false ⟨(fun z => by cases z), fun z => ?_⟩
        obtain ⟨a, h1, _⟩ := hs.mp z
        rw [hm] at h1
        cases h1
      | some v =>
        rw [hm] at hat
        refine iteT ?_
        refine ⟨_, rfl, _, rfl, fa, _, _, .ref b, rfl, rfl, g1, atI_nat g3, _, rfl, b, _, _, .int v, rfl, rfl, g4, atI_nat hat, _, _, rfl, rfl, ?_⟩
        refine q2 np _ ?_
        constructor
        · intro z
          exact hs.mpr ⟨v, hm, of_decide_eq_true z⟩
        · intro z
          obtain ⟨a, h1, h2⟩ := hs.mp z
          rw [hm] at h1
          cases h1
          exact decide_eq_true h2
end
end My
namespace My
open PySem L2
/-! ### _law_verdict, _law_pair -/
/-- what a log is asked with: the log, the law's world, its rows and its table -/
structure AskAt (K : PySem.W.Frag) (C : Addr) (H : Hp) (p wa ra fa : Addr) (W : Wd) (mo : List Int) (M : Mat) : Prop where
  log : LogAt K C H p W
  wd : WorldAt K H wa W mo
  rows : RowsAt K H ra (rowsOf W)
  far : FarAt K H fa W.size M
theorem AskAt.mono {K : PySem.W.Frag} {C : Addr} {H H' : Hp} {p wa ra fa : Addr} {W : Wd} {mo : List Int} {M : Mat} (s : Same H H') (h : AskAt K C H p wa ra fa W mo M) : AskAt K C H' p wa ra fa W mo M :=
  ⟨h.log.mono s, h.wd.mono s, h.rows.mono s, h.far.mono s⟩
theorem map_som (l : List Int) : (l.map some).map oV = l.map V.int := by rw [List.map_map]; rfl
section
variable {P : Program} {w : World} {K : PySem.W.Frag} {mg : Str → Option Value} {base : Heap}
abbrev s_law_verdict : Stmt := top 61
abbrev N_law_verdict : List Str := ["log", "world", "rows", "far", "x", "y", "told", "one", "two"]
theorem sc_law_verdict : FnScope N_law_verdict ["log", "world", "rows", "far", "x", "y"] (C8.fnScope s_law_verdict) := C8.fnScope_by (by decide +kernel)
def sp_law_verdict (K : PySem.W.Frag) (C : Addr) : Sp := fun vs H Q _ => ∃ (p wa ra fa : Addr) (W : Wd) (mo : List Int) (M : Mat) (x y : Nat), vs = [.ref p, .ref wa, .ref ra, .ref fa, nV x, nV y] ∧ AskAt K C H p wa ra fa W mo M ∧ W.Ok ∧ Far (rowsOf W) W.size M ∧ NP (rowsOf W) W.size ∧ x < W.size ∧ y < W.size ∧ ∀ H', Same H H' → Q (.bl true) H'
theorem ok_law_verdict {C f : Addr} {fd : FuncData} (F : C8.Def K mg "_law_verdict" s_law_verdict f fd) (b : Binds K fd ["log", "world", "rows", "far", "x", "y"] []) (T : Gb mg) (c_ahead : C8.Cal P w K mg base 6 "ahead" (sp_ahead K C) []) (c__law_short : C8.Cal P w K mg base 1 "_law_short" sp_law_short []) (c__law_chain : C8.Cal P w K mg base 1 "_law_chain" (sp_law_chain K) [])
    (c__law_with : C8.Cal P w K mg base 1 "_law_with" (sp_law_with K) []) (c__law_keeps : C8.Cal P w K mg base 1 "_law_keeps" (sp_law_keeps K) []) (c__law_list : C8.Cal P w K mg base 2 "_law_list" (sp_law_list K) []) : C8.Cal P w K mg base 7 "_law_verdict" (sp_law_verdict K C) [] := by
  refine C8.cal0 F b .nil sc_law_verdict (fun vs H Q E h => ?_) (fun cdv A outer s H vs Q E hr h => ?_)
  · obtain ⟨p, wa, ra, fa, W, mo, M, x, y, rfl, _⟩ := h
    rfl
  · obtain ⟨p, wa, ra, fa, W, mo, M, x, y, rfl, hA, hok, hF, np, hx, hy, q⟩ := h
    have hlt := rowsOf_lt hok
    have o1 := hok.s1
    have o2 := hok.s2
    refine ⟨_, (pss_cons (ps_set (i := 6) sc_law_verdict.nd rfl (Or.inl rfl) (C8.pe_c c_ahead hr (by decide) (by rfl) (pa_cons (pv 0) (pa_cons (pv 4) (pa_cons (pv 5) pa_nil)))))
(pss_cons (ps_if (PW.pt (pw_or (pt_not (pt_val (pe_callB call_isi (by rfl) T.isinstance (by decide +kernel) (pa_cons (pv 6) (pa_cons (pe_bltn (v := .ty "tuple") (by rfl) T.tuple (by decide +kernel) rfl) pa_nil))))) (pw_or1 (pt_cmpR op_lt (pe_callB (call_lenK K rfl) (by rfl) T.len PySem.boot_len (pa_cons (pv 6) pa_nil)) pe_int (nomark _)))))
(pss_one (ps_ret pe_bl))
pss_nil)
(pss_cons (ps_if (PW.pt (pw_and (pt_cmpR op_notN (pe_ix (ix_listK K rfl) (pe_ix (ix_listK K rfl) (pv 3) (pv 4) (fun _ _ => rfl)) (pv 5) (fun _ _ => rfl)) pe_non (nomark _)) (pw_and1 (pt_cmpR op_ge (pe_ix (ix_listK K rfl) (pe_ix (ix_listK K rfl) (pv 3) (pv 4) (fun _ _ => rfl)) (pv 5) (fun _ _ => rfl)) pe_int (nomark _)))))
(pss_cons (ps_if (PW.pt (pw_or (pt_cmpR op_ne (pe_callB (call_lenK K rfl) (by rfl) T.len PySem.boot_len (pa_cons (pv 6) pa_nil)) pe_int (nomark _)) (pw_or (pt_cmpR op_ne (pe_ix (ix_tupK K rfl) (pv 6) pe_int (fun _ _ => rfl)) pe_str (nomark _)) (pw_or1 (pt_not (pt_val (C8.pe_c c__law_short hr (by decide) (by rfl) (pa_cons (pe_ix (ix_tupK K rfl) (pv 6) pe_int (fun _ _ => rfl)) (pa_cons (pe_op op_sub (pe_ix (ix_listK K rfl) (pv 1) pe_int (fun _ _ => rfl)) pe_int) pa_nil)))))))))
(pss_one (ps_ret pe_bl))
pss_nil)
(pss_one (ps_ret (C8.pe_c c__law_chain hr (by decide) (by rfl) (pa_cons (pv 2) (pa_cons (pv 4) (pa_cons (pv 5) (pa_cons pe_int (pa_cons (pe_ix (ix_tupK K rfl) (pv 6) pe_int (fun _ _ => rfl)) pa_nil)))))))))
pss_nil)
(pss_cons (ps_if (PW.pt (pw_and (pt_cmpR op_notN (pe_ix (ix_listK K rfl) (pe_ix (ix_listK K rfl) (pv 3) (pv 5) (fun _ _ => rfl)) (pv 4) (fun _ _ => rfl)) pe_non (nomark _)) (pw_and1 (pt_cmpR op_ge (pe_ix (ix_listK K rfl) (pe_ix (ix_listK K rfl) (pv 3) (pv 5) (fun _ _ => rfl)) (pv 4) (fun _ _ => rfl)) pe_int (nomark _)))))
(pss_cons (ps_if (PW.pt (pw_or (pt_cmpR op_ne (pe_callB (call_lenK K rfl) (by rfl) T.len PySem.boot_len (pa_cons (pv 6) pa_nil)) pe_int (nomark _)) (pw_or (pt_cmpR op_ne (pe_ix (ix_tupK K rfl) (pv 6) pe_int (fun _ _ => rfl)) pe_str (nomark _)) (pw_or1 (pt_not (pt_val (C8.pe_c c__law_short hr (by decide) (by rfl) (pa_cons (pe_ix (ix_tupK K rfl) (pv 6) pe_int (fun _ _ => rfl)) (pa_cons (pe_op op_sub (pe_ix (ix_listK K rfl) (pv 1) pe_int (fun _ _ => rfl)) pe_int) pa_nil)))))))))
(pss_one (ps_ret pe_bl))
pss_nil)
(pss_one (ps_ret (C8.pe_c c__law_chain hr (by decide) (by rfl) (pa_cons (pv 2) (pa_cons (pv 5) (pa_cons (pv 4) (pa_cons pe_int (pa_cons (pe_ix (ix_tupK K rfl) (pv 6) pe_int (fun _ _ => rfl)) pa_nil)))))))))
pss_nil)
(pss_cons (ps_set (i := 7) sc_law_verdict.nd rfl (Or.inl rfl) (C8.pe_c c__law_with hr (by decide) (by rfl) (pa_cons (pv 3) (pa_cons (pv 4) (pa_cons (pv 5) (pa_cons pe_int pa_nil))))))
(pss_cons (ps_set (i := 8) sc_law_verdict.nd rfl (Or.inl rfl) (C8.pe_c c__law_with hr (by decide) (by rfl) (pa_cons (pv 3) (pa_cons (pv 5) (pa_cons (pv 4) (pa_cons pe_int pa_nil))))))
(pss_cons (ps_if (PW.pt (pw_or (pt_not (pt_val (C8.pe_c c__law_keeps hr (by decide) (by rfl) (pa_cons (pv 1) (pa_cons (pe_ix (ix_listK K rfl) (pv 1) pe_int (fun _ _ => rfl)) (pa_cons (pv 7) pa_nil)))))) (pw_or (pt_not (pt_val (C8.pe_c c__law_keeps hr (by decide) (by rfl) (pa_cons (pv 1) (pa_cons (pe_ix (ix_listK K rfl) (pv 1) pe_int (fun _ _ => rfl)) (pa_cons (pv 8) pa_nil)))))) (pw_or (pt_cmpR op_ge (pe_ix (ix_listK K rfl) (pv 7) (pv 4) (fun _ _ => rfl)) (pe_ix (ix_listK K rfl) (pv 7) (pv 5) (fun _ _ => rfl)) (nomark _)) (pw_or1 (pt_cmpR op_lt (pe_ix (ix_listK K rfl) (pv 8) (pv 4) (fun _ _ => rfl)) (pe_ix (ix_listK K rfl) (pv 8) (pv 5) (fun _ _ => rfl)) (nomark _)))))))
(pss_one (ps_ret pe_bl))
pss_nil)
(pss_one (ps_ret (pe_and (pe_cmpR op_eq (pe_callB (call_lenK K rfl) (by rfl) T.len PySem.boot_len (pa_cons (pv 6) pa_nil)) pe_int (nomark _)) (pe_and (pe_cmpR op_eq (pe_ix (ix_tupK K rfl) (pv 6) pe_int (fun _ _ => rfl)) pe_str (nomark _)) (pe_and (C8.pe_c c__law_list hr (by decide) (by rfl) (pa_cons (pe_ix (ix_tupK K rfl) (pv 6) pe_int (fun _ _ => rfl)) (pa_cons (pv 7) pa_nil))) (pe_one (C8.pe_c c__law_list hr (by decide) (by rfl) (pa_cons (pe_ix (ix_tupK K rfl) (pv 6) pe_int (fun _ _ => rfl)) (pa_cons (pv 8) pa_nil)))))))))))))))), ?_⟩
    refine ⟨_, rfl, _, rfl, _, rfl, p, W, x, y, rfl, hA.log, hok, np, hx, hy, fun t H1 sm1 ha => ?_⟩
    have hA1 := hA.mono sm1
    obtain ⟨ea, ma, es, hwA, _⟩ := id hA1.wd
    have cellF : ∀ {i j : Nat}, i < W.size → j < W.size → ∃ vs b, SqL K H1 fa vs ∧ atI vs ((i : Nat) : Int) = some (.ref b) ∧ SqL K H1 b ((rowM W.size M i).map oV) ∧ atI ((rowM W.size M i).map oV) ((j : Nat) : Int) = some (oV (M i j)) := fun {i j} hi hj => by
      obtain ⟨vs, b, g1, g2, g3, g4⟩ := hA1.far.at hi
      exact ⟨vs, b, g1, atI_nat g3, g4, atI_nat (rowM_at hj)⟩
    obtain ⟨vsx, bx, fx1, fx2, fx3, fx4⟩ := cellF hx hy
    obtain ⟨vsy, by_, fy1, fy2, fy3, fy4⟩ := cellF hy hx
    cases ha with
    | sure s L a l c hres hg hge ht hl hgo hcl =>
      have hM : M x y = some a := by rw [← hres.far hx hlt hF np hy]; exact hg
      have hlen := (hres.np_lt hx hlt np).1
      rw [hM] at fx4
      refine ⟨_, rfl, .ref t, .ty "tuple", .type "tuple", .type "tuple", true, rfl, .ty _, .base (.tup ht), kit_ty (by decide +kernel), true, rfl, ?_⟩
      refine iteF ?_
      refine ⟨_, rfl, t, _, rfl, .inr (SqT.of ht), _, _, rfl, rfl, _, rfl, ?_⟩
      refine ifF (by simp) ?_
      refine ⟨_, rfl, _, rfl, fa, _, _, .ref bx, rfl, rfl, fx1, fx2, _, rfl, bx, _, _, .int a, rfl, rfl, fx3, fx4, rfl, _, rfl, ?_⟩
      refine iteT ?_
      refine ⟨_, rfl, _, rfl, fa, _, _, .ref bx, rfl, rfl, fx1, fx2, _, rfl, bx, _, _, .int a, rfl, rfl, fx3, fx4, _, _, rfl, rfl, _, rfl, ?_⟩
      refine ifT hge ?_
      refine ⟨_, rfl, t, _, rfl, .inr (SqT.of ht), rfl, _, rfl, ?_⟩
      refine ifNF rfl ?_
      refine ⟨_, rfl, t, _, 0, .str "surely", rfl, rfl, SqT.of ht, rfl, rfl, _, rfl, ?_⟩
      refine ifNF rfl ?_
      refine ⟨_, rfl, t, _, 1, .ref l, rfl, rfl, SqT.of ht, rfl, _, rfl, wa, _, 0, nV W.size, rfl, rfl, hwA, rfl, _, _, rfl, rfl, l, c, (W.size : Int) - 1, rfl, hl, by omega, true, rfl, ?_⟩
      refine iteF ?_
      refine ⟨_, rfl, _, rfl, _, rfl, _, rfl, t, _, 1, .ref l, rfl, rfl, SqT.of ht, rfl, ra, l, rowsOf W, x, y, 1, a, c, rfl, hA1.rows, SqL.of hl, hgo, hge, ?_⟩
      exact q H1 sm1
    | never s1 s2 L1 L2 a l c hres1 no1 hres2 hg hge ht hl hgo hcl =>
      have hM : M y x = some a := by rw [← hres2.far hy hlt hF np hx]; exact hg
      have hlen := (hres2.np_lt hy hlt np).1
      have hxy : gv s1 y = M x y := hres1.far hx hlt hF np hy
      rw [hM] at fy4
      refine ⟨_, rfl, .ref t, .ty "tuple", .type "tuple", .type "tuple", true, rfl, .ty _, .base (.tup ht), kit_ty (by decide +kernel), true, rfl, ?_⟩
      refine iteF ?_
      refine ⟨_, rfl, t, _, rfl, .inr (SqT.of ht), _, _, rfl, rfl, _, rfl, ?_⟩
      refine ifF (by simp) ?_
      refine ⟨_, rfl, _, rfl, fa, _, _, .ref bx, rfl, rfl, fx1, fx2, _, rfl, bx, _, _, oV (M x y), rfl, rfl, fx3, fx4, rfl, _, rfl, ?_⟩
      have rest : ∀ (_ : True), True := fun _ => trivial
      rw [← hxy] at fx4
      have go2 : ∀ (D : Prop), D → D := fun _ h => h
      cases hz : gv s1 y with
      | none =>
        rw [← hxy, hz]
        refine iteF ?_
        refine iteF ?_
        refine ⟨_, rfl, _, rfl, fa, _, _, .ref by_, rfl, rfl, fy1, fy2, _, rfl, by_, _, _, .int a, rfl, rfl, fy3, fy4, rfl, _, rfl, ?_⟩
        refine iteT ?_
        refine ⟨_, rfl, _, rfl, fa, _, _, .ref by_, rfl, rfl, fy1, fy2, _, rfl, by_, _, _, .int a, rfl, rfl, fy3, fy4, _, _, rfl, rfl, _, rfl, ?_⟩
        refine ifT hge ?_
        refine ⟨_, rfl, t, _, rfl, .inr (SqT.of ht), rfl, _, rfl, ?_⟩
        refine ifNF rfl ?_
        refine ⟨_, rfl, t, _, 0, .str "never", rfl, rfl, SqT.of ht, rfl, rfl, _, rfl, ?_⟩
        refine ifNF rfl ?_
        refine ⟨_, rfl, t, _, 1, .ref l, rfl, rfl, SqT.of ht, rfl, _, rfl, wa, _, 0, nV W.size, rfl, rfl, hwA, rfl, _, _, rfl, rfl, l, c, (W.size : Int) - 1, rfl, hl, by omega, true, rfl, ?_⟩
        refine iteF ?_
        refine ⟨_, rfl, _, rfl, _, rfl, _, rfl, t, _, 1, .ref l, rfl, rfl, SqT.of ht, rfl, ra, l, rowsOf W, y, x, 0, a, c, rfl, hA1.rows, SqL.of hl, hgo, hge, ?_⟩
        exact q H1 sm1
      | some b =>
        have hb := no1 b hz
        rw [← hxy, hz]
        rw [hz] at fx4
        refine iteT ?_
        refine ⟨_, rfl, _, rfl, fa, _, _, .ref bx, rfl, rfl, fx1, fx2, _, rfl, bx, _, _, .int b, rfl, rfl, fx3, fx4, _, _, rfl, rfl, _, rfl, ?_⟩
        refine ifF hb ?_
        refine ⟨_, rfl, _, rfl, fa, _, _, .ref by_, rfl, rfl, fy1, fy2, _, rfl, by_, _, _, .int a, rfl, rfl, fy3, fy4, rfl, _, rfl, ?_⟩
        refine iteT ?_
        refine ⟨_, rfl, _, rfl, fa, _, _, .ref by_, rfl, rfl, fy1, fy2, _, rfl, by_, _, _, .int a, rfl, rfl, fy3, fy4, _, _, rfl, rfl, _, rfl, ?_⟩
        refine ifT hge ?_
        refine ⟨_, rfl, t, _, rfl, .inr (SqT.of ht), rfl, _, rfl, ?_⟩
        refine ifNF rfl ?_
        refine ⟨_, rfl, t, _, 0, .str "never", rfl, rfl, SqT.of ht, rfl, rfl, _, rfl, ?_⟩
        refine ifNF rfl ?_
        refine ⟨_, rfl, t, _, 1, .ref l, rfl, rfl, SqT.of ht, rfl, _, rfl, wa, _, 0, nV W.size, rfl, rfl, hwA, rfl, _, _, rfl, rfl, l, c, (W.size : Int) - 1, rfl, hl, by omega, true, rfl, ?_⟩
        refine iteF ?_
        refine ⟨_, rfl, _, rfl, _, rfl, _, rfl, t, _, 1, .ref l, rfl, rfl, SqT.of ht, rfl, ra, l, rowsOf W, y, x, 0, a, c, rfl, hA1.rows, SqL.of hl, hgo, hge, ?_⟩
        exact q H1 sm1
    | opn s1 s2 s3 s4 L1 L2 L3 L4 l1 l2 hres1 no1 hres2 no2 hres3 hres4 ht hl1 hl2 =>
      have hxy : gv s1 y = M x y := hres1.far hx hlt hF np hy
      have hyx : gv s2 x = M y x := hres2.far hy hlt hF np hx
      have hall := rows_np_all hok hF np
      have W1 : WithH (rowsOf W) W.size M x y 1 := ⟨hlt, hF, np, by omega, hx, hy, hall, fun b hb => by have := no2 b (by rw [hyx]; exact hb); omega⟩
      have W2 : WithH (rowsOf W) W.size M y x 0 := ⟨hlt, hF, np, by omega, hy, hx, hall, fun b hb => by have := no1 b (by rw [hxy]; exact hb); omega⟩
      have e3 := W1.sums hres3
      have e4 := W2.sums hres4
      have p1 := W1.pot x y 1 (List.mem_append_right _ (List.mem_singleton.mpr rfl))
      have p2 := W2.pot y x 0 (List.mem_append_right _ (List.mem_singleton.mpr rfl))
      refine ⟨_, rfl, .ref t, .ty "tuple", .type "tuple", .type "tuple", true, rfl, .ty _, .base (.tup ht), kit_ty (by decide +kernel), true, rfl, ?_⟩
      refine iteF ?_
      refine ⟨_, rfl, t, _, rfl, .inr (SqT.of ht), _, _, rfl, rfl, _, rfl, ?_⟩
      refine ifF (by simp) ?_
      refine ⟨_, rfl, _, rfl, fa, _, _, .ref bx, rfl, rfl, fx1, fx2, _, rfl, bx, _, _, oV (M x y), rfl, rfl, fx3, fx4, rfl, _, rfl, ?_⟩
      rw [← hxy] at fx4 ⊢
      cases hz : gv s1 y
      case' none =>
        refine iteF ?_
        refine iteF ?_
      case' some b =>
        have hb := no1 b hz
        rw [hz] at fx4
        refine iteT ?_
        refine ⟨_, rfl, _, rfl, fa, _, _, .ref bx, rfl, rfl, fx1, fx2, _, rfl, bx, _, _, .int b, rfl, rfl, fx3, fx4, _, _, rfl, rfl, _, rfl, ?_⟩
        refine ifF hb ?_
      all_goals
        refine ⟨_, rfl, _, rfl, fa, _, _, .ref by_, rfl, rfl, fy1, fy2, _, rfl, by_, _, _, oV (M y x), rfl, rfl, fy3, fy4, rfl, _, rfl, ?_⟩
        rw [← hyx] at fy4 ⊢
        cases hz2 : gv s2 x
        case' none =>
          refine iteF ?_
          refine iteF ?_
        case' some b2 =>
          have hb2 := no2 b2 hz2
          rw [hz2] at fy4
          refine iteT ?_
          refine ⟨_, rfl, _, rfl, fa, _, _, .ref by_, rfl, rfl, fy1, fy2, _, rfl, by_, _, _, .int b2, rfl, rfl, fy3, fy4, _, _, rfl, rfl, _, rfl, ?_⟩
          refine ifF hb2 ?_
        all_goals
          refine ⟨_, rfl, _, rfl, _, rfl, fa, W.size, M, x, y, 1, rfl, hA1.far, by omega, hx, hy, hall, fun p7 H2 sm2 _ h7 => ?_⟩
          have hA2 := hA1.mono sm2
          refine ⟨_, rfl, _, rfl, _, rfl, fa, W.size, M, y, x, 0, rfl, hA2.far, by omega, hy, hx, hall, fun p8 H3 sm3 _ h8 => ?_⟩
          have hA3 := hA2.mono sm3
          have h73 := sm3 _ _ h7
          obtain ⟨ea3, ma3, es3, hwA3, _⟩ := id hA3.wd
          have ml : ∀ (u v : Nat) (d : Int), ((List.range W.size).map (withV M u v d)).length = W.size := fun u v d => by rw [List.length_map, List.length_range]
          have cl : ∀ (u v k : Nat) (d : Int), k < W.size → atI (((List.range W.size).map (withV M u v d)).map V.int) ((k : Nat) : Int) = some (.int (withV M u v d k)) := fun u v k d hk => by
            have := atI_cell (ns := (List.range W.size).map (withV M u v d)) (j := k) (by rw [ml]; exact hk)
            rw [cell_map hk] at this
            exact this
          refine ⟨_, rfl, _, rfl, wa, _, 4, nV W.late, rfl, rfl, hwA3, rfl, _, rfl, wa, p7, W, mo, (List.range W.size).map (withV M x y 1), W.late, rfl, hA3.wd, hok, SqL.of h73, ml x y 1, by rw [cell_map (by omega)]; exact W1.zero, W1.keep, true, rfl, ?_⟩
          refine iteF ?_
          refine ⟨_, rfl, _, rfl, wa, _, 4, nV W.late, rfl, rfl, hwA3, rfl, _, rfl, wa, p8, W, mo, (List.range W.size).map (withV M y x 0), W.late, rfl, hA3.wd, hok, SqL.of h8, ml y x 0, by rw [cell_map (by omega)]; exact W2.zero, W2.keep, true, rfl, ?_⟩
          refine iteF ?_
          refine ⟨_, rfl, _, rfl, p7, _, _, .int (withV M x y 1 x), rfl, rfl, SqL.of h73, cl x y x 1 hx, _, rfl, _, rfl, p7, _, _, .int (withV M x y 1 y), rfl, rfl, SqL.of h73, cl x y y 1 hy, _, _, rfl, rfl, _, rfl, ?_⟩
          refine ifF (by omega) ?_
          refine ⟨_, rfl, _, rfl, p8, _, _, .int (withV M y x 0 x), rfl, rfl, SqL.of h8, cl y x x 0 hx, _, rfl, _, rfl, p8, _, _, .int (withV M y x 0 y), rfl, rfl, SqL.of h8, cl y x y 0 hy, _, _, rfl, rfl, _, rfl, ?_⟩
          refine ifF (by omega) ?_
          have ht3 := sm3 _ _ (sm2 _ _ ht)
          have hl13 := sm3 _ _ (sm2 _ _ hl1)
          have hl23 := sm3 _ _ (sm2 _ _ hl2)
          rw [e3] at hl13
          rw [e4] at hl23
          refine ⟨_, rfl, t, _, rfl, .inr (SqT.of ht3), rfl, _, rfl, ?_⟩
          refine ifT rfl ?_
          refine ⟨_, rfl, t, _, 0, .str "open", rfl, rfl, SqT.of ht3, rfl, rfl, _, rfl, ?_⟩
          refine ifT rfl ?_
          refine ⟨_, rfl, t, _, 1, .ref l1, rfl, rfl, SqT.of ht3, rfl, _, rfl, l1, p7, _, rfl, hl13, by rw [map_som]; exact SqL.of h73, by rw [List.length_map, ml]; omega, true, rfl, ?_⟩
          refine iteT ?_
          refine ⟨_, rfl, t, _, 2, .ref l2, rfl, rfl, SqT.of ht3, rfl, _, rfl, l2, p8, _, rfl, hl23, by rw [map_som]; exact SqL.of h8, by rw [List.length_map, ml]; omega, ?_⟩
          exact q H3 ((sm1.trans sm2).trans sm3)
end
end My
namespace My
open PySem L2
/-! ### _law_pair, _law_log_text, _law_same -/
section
variable {X : Cx} {K : PySem.W.Frag}
def rJoinK (K : PySem.W.Frag) : V → List V → Hp → VK → Prop := fun x xs H Q => ∃ a p, ∃ ys : List Str, x = .str a ∧ xs = [.ref p] ∧ (SqL K H p (ys.map V.str) ∨ SqT K H p (ys.map V.str)) ∧ (ys.map (·.length)).sum + ys.length * a.length ≤ 16777216 ∧ Q (.str (Txt.join a ys)) H
theorem pe_joinK {o e : Expr} {to te : TE} {apos pos : Pos} (hK : X.K = K) (ho : PE X o to) (he : PE X e te) (hs : starEach [e] X.env = [(false, eval e X.env)] := by rfl) (hbase : attributeBase o "join" X.env (eval o X.env) = eval o X.env := by rfl) (hline : (apos.endLine == pos.line) = true := by rfl) :
    PE X (.Call (.Attribute o "join" apos) [e] [] pos) (tM1 (rJoinK K) to te) := by
  subst hK
  exact pe_join ho he hs hbase hline
theorem pg_unlK {es : List Expr} {k : Nat} {t : TGs} {n : Nat} {pos : Pos} (hK : X.K = K) (hc : X.calm = true) (h : PGs X es t) (hn : (assignEach es X.env).length = n := by rfl) (hst : (assignEach es X.env).findIdx? (·.1) = none := by rfl) : PG X (.Tuple es k pos) (gUnl K n t) := by
  subst hK
  exact pg_unl hc h hn hst
end
def lineA (W : Wd) : Str := Str.ofString "log " ++ num W.size
def lineB (W : Wd) : Str := if W.fast = 1 then lineA W else (((lineA W ++ Str.ofString " rates ") ++ num W.fast) ++ Str.ofString " ") ++ num W.slow
def lineC (W : Wd) : Str := if W.late = 0 then lineB W else (lineB W ++ Str.ofString " late ") ++ num W.late
theorem lineC_eq (W : Wd) : lineC W = headS W := by
  apply TL.ext_tl
  rw [tl_headS]
  unfold lineC lineB lineA
  by_cases e : W.fast = 1 <;> by_cases e2 : W.late = 0 <;> simp [e, e2, TL.tl_append, tl_log, tl_rates, tl_late, sp_tl]
section
variable {P : Program} {w : World} {K : PySem.W.Frag} {mg : Str → Option Value} {base : Heap}
abbrev s_law_pair : Stmt := top 62
abbrev N_law_pair : List Str := ["log", "world", "rows", "far", "x", "y", "told"]
theorem sc_law_pair : FnScope N_law_pair ["log", "world", "rows", "far", "x", "y"] (C8.fnScope s_law_pair) := C8.fnScope_by (by decide +kernel)
theorem ok_law_pair {C f : Addr} {fd : FuncData} (F : C8.Def K mg "_law_pair" s_law_pair f fd) (b : Binds K fd ["log", "world", "rows", "far", "x", "y"] []) (T : Gb mg) (c_gap : C8.Cal P w K mg base 6 "gap" (sp_gap K C) []) (c__law_is : C8.Cal P w K mg base 1 "_law_is" sp_law_is []) (c__law_verdict : C8.Cal P w K mg base 7 "_law_verdict" (sp_law_verdict K C) []) :
    C8.Cal P w K mg base 8 "_law_pair" (sp_law_verdict K C) [] := by
  refine C8.cal0 F b .nil sc_law_pair (fun vs H Q E h => ?_) (fun cdv A outer s H vs Q E hr h => ?_)
  · obtain ⟨p, wa, ra, fa, W, mo, M, x, y, rfl, _⟩ := h
    rfl
  · obtain ⟨p, wa, ra, fa, W, mo, M, x, y, rfl, hA, hok, hF, np, hx, hy, q⟩ := h
    have hlt := rowsOf_lt hok
    refine ⟨_, (pss_cons (ps_set (i := 6) sc_law_pair.nd rfl (Or.inl rfl) (C8.pe_c c_gap hr (by decide) (by rfl) (pa_cons (pv 0) (pa_cons (pv 4) (pa_cons (pv 5) pa_nil)))))
(pss_cons (ps_if (PW.pt (pw_or (pt_not (pt_val (pe_callB call_isi (by rfl) T.isinstance (by decide +kernel) (pa_cons (pv 6) (pa_cons (pe_bltn (v := .ty "tuple") (by rfl) T.tuple (by decide +kernel) rfl) pa_nil))))) (pw_or (pt_cmpR op_ne (pe_callB (call_lenK K rfl) (by rfl) T.len PySem.boot_len (pa_cons (pv 6) pa_nil)) pe_int (nomark _)) (pw_or1 (pt_not (pt_val (C8.pe_c c__law_is hr (by decide) (by rfl) (pa_cons (pe_ix (ix_tupK K rfl) (pv 6) pe_int (fun _ _ => rfl)) (pa_cons (pe_ix (ix_listK K rfl) (pe_ix (ix_listK K rfl) (pv 3) (pv 4) (fun _ _ => rfl)) (pv 5) (fun _ _ => rfl)) pa_nil)))))))))
(pss_one (ps_ret pe_bl))
pss_nil)
(pss_cons (ps_if (pt_not (pt_val (C8.pe_c c__law_is hr (by decide) (by rfl) (pa_cons (pe_ix (ix_tupK K rfl) (pv 6) pe_int (fun _ _ => rfl)) (pa_cons (pe_ifExp (pt_cmpR op_isN (pe_ix (ix_listK K rfl) (pe_ix (ix_listK K rfl) (pv 3) (pv 5) (fun _ _ => rfl)) (pv 4) (fun _ _ => rfl)) pe_non (nomark _)) pe_non (pe_op op_sub pe_int (pe_ix (ix_listK K rfl) (pe_ix (ix_listK K rfl) (pv 3) (pv 5) (fun _ _ => rfl)) (pv 4) (fun _ _ => rfl)))) pa_nil)))))
(pss_one (ps_ret pe_bl))
pss_nil)
(pss_one (ps_ret (C8.pe_c c__law_verdict hr (by decide) (by rfl) (pa_cons (pv 0) (pa_cons (pv 1) (pa_cons (pv 2) (pa_cons (pv 3) (pa_cons (pv 4) (pa_cons (pv 5) pa_nil)))))))))))), ?_⟩
    refine ⟨_, rfl, _, rfl, _, rfl, p, W, x, y, rfl, hA.log, hok, np, hx, hy, fun t s1 s2 L1 L2 H1 sm1 hres1 hres2 ht => ?_⟩
    have hA1 := hA.mono sm1
    have hxy : gv s1 y = M x y := hres1.far hx hlt hF np hy
    have hyx : gv s2 x = M y x := hres2.far hy hlt hF np hx
    rw [hxy, hyx] at ht
    have cellF : ∀ {i j : Nat}, i < W.size → j < W.size → ∃ vs b, SqL K H1 fa vs ∧ atI vs ((i : Nat) : Int) = some (.ref b) ∧ SqL K H1 b ((rowM W.size M i).map oV) ∧ atI ((rowM W.size M i).map oV) ((j : Nat) : Int) = some (oV (M i j)) := fun {i j} hi hj => by
      obtain ⟨vs, b, g1, g2, g3, g4⟩ := hA1.far.at hi
      exact ⟨vs, b, g1, atI_nat g3, g4, atI_nat (rowM_at hj)⟩
    obtain ⟨vsx, bx, fx1, fx2, fx3, fx4⟩ := cellF hx hy
    obtain ⟨vsy, by_, fy1, fy2, fy3, fy4⟩ := cellF hy hx
    refine ⟨_, rfl, .ref t, .ty "tuple", .type "tuple", .type "tuple", true, rfl, .ty _, .base (.tup ht), kit_ty (by decide +kernel), true, rfl, ?_⟩
    refine iteF ?_
    refine ⟨_, rfl, t, _, rfl, .inr (SqT.of ht), rfl, _, rfl, ?_⟩
    refine ifNF rfl ?_
    refine ⟨_, rfl, t, _, 0, oV (M x y), rfl, rfl, SqT.of ht, rfl, _, rfl, _, rfl, fa, _, _, .ref bx, rfl, rfl, fx1, fx2, _, rfl, bx, _, _, oV (M x y), rfl, rfl, fx3, fx4, M x y, rfl, true, rfl, ?_⟩
    refine iteF ?_
    refine ⟨_, rfl, t, _, 1, oV ((M y x).map fun a => -a), rfl, rfl, SqT.of ht, rfl, ?_⟩
    refine ⟨_, rfl, _, rfl, fa, _, _, .ref by_, rfl, rfl, fy1, fy2, _, rfl, by_, _, _, oV (M y x), rfl, rfl, fy3, fy4, rfl, _, rfl, ?_⟩
    cases hm : M y x with
    | none =>
      refine ifT rfl ?_
      refine ⟨none, rfl, true, rfl, ?_⟩
      refine iteF ?_
      exact ⟨_, rfl, _, rfl, _, rfl, _, rfl, _, rfl, _, rfl, p, wa, ra, fa, W, mo, M, x, y, rfl, hA1, hok, hF, np, hx, hy, fun H2 sm2 => q H2 (sm1.trans sm2)⟩
    | some v =>
      rw [hm] at fy4
      refine ifF (by intro z; cases z) ?_
      refine ⟨_, rfl, _, rfl, fa, _, _, .ref by_, rfl, rfl, fy1, fy2, _, rfl, by_, _, _, .int v, rfl, rfl, fy3, fy4, _, _, rfl, rfl, some (-v), ?_, true, rfl, ?_⟩
      · show [V.int (-v), V.int (0 - v)] = [V.int (-v), V.int (-v)]
        rw [Int.zero_sub]
      refine iteF ?_
      exact ⟨_, rfl, _, rfl, _, rfl, _, rfl, _, rfl, _, rfl, p, wa, ra, fa, W, mo, M, x, y, rfl, hA1, hok, hF, np, hx, hy, fun H2 sm2 => q H2 (sm1.trans sm2)⟩
abbrev s_law_log_text : Stmt := top 64
abbrev N_law_log_text : List Str := ["data", "size", "entries", "fast", "slow", "late", "line", "entry", "item"]
theorem sc_law_log_text : FnScope N_law_log_text ["data"] (C8.fnScope s_law_log_text) := C8.fnScope_by (by decide +kernel)
def sp_law_log_text (K : PySem.W.Frag) : Sp := fun vs H Q _ => ∃ (a ea : Addr) (es : List V) (W : Wd), vs = [.ref a] ∧ SqL K H a [nV W.size, .ref ea, nV W.fast, nV W.slow, nV W.late] ∧ SqL K H ea es ∧ Paired (EntV K H) es W.ents ∧ W.Ok ∧ ∀ (l : Addr) H', Same H H' → H l = none → H' l = some (.lst ((lines W).map V.str)) → Q (.ref l) H'
theorem ok_law_log_text {f : Addr} {fd : FuncData} (F : C8.Def K mg "_law_log_text" s_law_log_text f fd) (b : Binds K fd ["data"] []) (T : Gb mg) : C8.Cal P w K mg base 1 "_law_log_text" (sp_law_log_text K) [] := by
  refine C8.cal0 F b .nil sc_law_log_text (fun vs H Q E h => ?_) (fun cdv A outer s H vs Q E hr h => ?_)
  · obtain ⟨a, ea, es, W, rfl, _⟩ := h
    rfl
  · obtain ⟨a, ea, es, W, rfl, hA, hE, hP, hok, q⟩ := h
    obtain ⟨o1, o2, o3, o4, o5, o6, o7, o8⟩ := id hok
    have hel := hP.length
    refine ⟨_, (pss_cons (ps_asg (pv 0) (pg_unlK rfl (by rfl) (pgs_cons (pg_name (i := 1) sc_law_log_text.nd rfl (Or.inl rfl)) (pgs_cons (pg_name (i := 2) sc_law_log_text.nd rfl (Or.inl rfl)) (pgs_cons (pg_name (i := 3) sc_law_log_text.nd rfl (Or.inl rfl)) (pgs_cons (pg_name (i := 4) sc_law_log_text.nd rfl (Or.inl rfl)) (pgs_cons (pg_name (i := 5) sc_law_log_text.nd rfl (Or.inl rfl)) pgs_nil)))))))
(pss_cons (ps_set (i := 6) sc_law_log_text.nd rfl (Or.inl rfl) (pe_op op_add_str pe_str (pe_callTy call_str_int (by rfl) T.str (by decide +kernel) (pa_cons (pv 1) pa_nil))))
(C8.pss_cut (ps_if (pt_cmpR op_gt (pv 3) pe_int (nomark _))
(pss_one (ps_set (i := 6) sc_law_log_text.nd rfl (Or.inl rfl) (pe_op op_add_str (pe_op op_add_str (pe_op op_add_str (pe_op op_add_str (pv 6) pe_str) (pe_callTy call_str_int (by rfl) T.str (by decide +kernel) (pa_cons (pv 3) pa_nil))) pe_str) (pe_callTy call_str_int (by rfl) T.str (by decide +kernel) (pa_cons (pv 4) pa_nil)))))
pss_nil)
(C8.pss_cut (ps_if (pt_cmpR op_gt (pv 5) pe_int (nomark _))
(pss_one (ps_set (i := 6) sc_law_log_text.nd rfl (Or.inl rfl) (pe_op op_add_str (pe_op op_add_str (pv 6) pe_str) (pe_callTy call_str_int (by rfl) T.str (by decide +kernel) (pa_cons (pv 5) pa_nil)))))
pss_nil)
(pss_one (ps_ret (pe_op op_cat (pe_op op_cat (pe_lst (pa_cons (pv 6) pa_nil)) (pe_lc (own := [("entry", 7)]) rfl sc_law_log_text.nd (pi_listK K rfl (pv 2)) (blkOk_by (N := N_law_log_text) (sc := C8.fnScope s_law_log_text) (by decide +kernel)) (fun _ _ _ _ _ => (pg_name (i := 7) sc_law_log_text.nd rfl (Or.inl rfl))) (fun _ _ _ _ _ => pts_nil) (fun _ _ _ _ _ => (pe_joinK (K := K) rfl pe_str (pe_lc (own := [("item", 8)]) rfl sc_law_log_text.nd (pi_tupK K rfl (pv 7)) (blkOk_by (N := N_law_log_text) (sc := { kind := .function, names := [(".0", .local), ("entry", .local)], isGenerator := false, isCoroutine := false }) (by decide +kernel)) (fun _ _ _ _ _ => (pg_name (i := 8) sc_law_log_text.nd rfl (Or.inl rfl))) (fun _ _ _ _ _ => pts_nil) (fun _ _ _ _ _ => (pe_callTy call_str_any (by rfl) T.str (by decide +kernel) (pa_cons (pv 8) pa_nil)))))))) (pe_lst (pa_cons pe_str pa_nil))))))))), ?_⟩
    have hlg : ∀ n : Nat, n ≤ 1000 → (n : Int).natAbs.log2 < 1920 := fun n hn => num_log (Nat.le_trans hn (by decide))
    have hnum : ∀ n : Nat, n ≤ 1000 → (Str.ofString (toString ((n : Nat) : Int))).length ≤ 31 := fun n hn => num_len (n := n) (Nat.le_trans hn (by decide))
    have lf_ := hnum W.fast (by omega)
    have ls_ := hnum W.slow (by omega)
    have ll_ := hnum W.late (by omega)
    have lz_ := hnum W.size (by omega)
    have c1 : (Str.ofString " rates ").length = 7 := by decide +kernel
    have c2 : (Str.ofString " ").length = 1 := by decide +kernel
    have c3 : (Str.ofString " late ").length = 6 := by decide +kernel
    have c4 : (Str.ofString "log ").length = 4 := by decide +kernel
    have hA0 : (lineA W).length ≤ 35 := by unfold lineA num; simp only [len_app, c4]; omega
    have hB0 : (lineB W).length ≤ 110 := by unfold lineB num; split <;> first | omega | (simp only [len_app, c1, c2]; omega)
    refine ⟨_, rfl, a, _, rfl, hA, rfl, _, _, rfl, _, _, rfl, _, _, rfl, _, _, rfl, _, _, rfl, rfl, ?_⟩
    refine ⟨_, rfl, (W.size : Int), rfl, hlg _ (by omega), _, _, rfl, rfl, size_le (by simp only [len_app, c4]; omega), ?_⟩
    refine ⟨fun σ' H' => H' = H ∧ σ' = [some (.ref a), some (nV W.size), some (.ref ea), some (nV W.fast), some (nV W.slow), some (nV W.late), some (.str (lineB W)), none, none], ?_, ?_⟩
    · refine ⟨_, rfl, _, _, rfl, rfl, _, rfl, ?_⟩
      by_cases e : W.fast = 1
      · refine ifF (by omega) ?_
        refine ⟨rfl, ?_⟩
        unfold lineB
        rw [if_pos e]
        rfl
      · refine ifT (by omega) ?_
        have hA0' : (Str.ofString "log " ++ Str.ofString (toString ((W.size : Nat) : Int))).length ≤ 35 := hA0
        refine ⟨_, rfl, _, _, rfl, rfl, size_le (by simp only [len_app, c1, c2, c4]; omega), _, rfl, (W.fast : Int), rfl, hlg _ (by omega), _, _, rfl, rfl, size_le (by simp only [len_app, c1, c2, c4]; omega), _, _, rfl, rfl, size_le (by simp only [len_app, c1, c2, c4]; omega), _, rfl, (W.slow : Int), rfl, hlg _ (by omega), _, _, rfl, rfl, size_le (by simp only [len_app, c1, c2, c4]; omega), ?_⟩
        refine ⟨rfl, ?_⟩
        unfold lineB
        rw [if_neg e]
        rfl
    rintro σ' H' ⟨rfl, rfl⟩
    refine ⟨fun σ' H'' => H'' = H' ∧ σ' = [some (.ref a), some (nV W.size), some (.ref ea), some (nV W.fast), some (nV W.slow), some (nV W.late), some (.str (lineC W)), none, none], ?_, ?_⟩
    · refine ⟨_, rfl, _, _, rfl, rfl, _, rfl, ?_⟩
      by_cases e : W.late = 0
      · refine ifF (by omega) ?_
        refine ⟨rfl, ?_⟩
        unfold lineC
        rw [if_pos e]
      · refine ifT (by omega) ?_
        refine ⟨_, rfl, _, _, rfl, rfl, size_le (by simp only [len_app, c3]; omega), _, rfl, (W.late : Int), rfl, hlg _ (by omega), _, _, rfl, rfl, size_le (by simp only [len_app, c3]; omega), ?_⟩
        refine ⟨rfl, ?_⟩
        unfold lineC
        rw [if_neg e]
        rfl
    rintro σ' H ⟨rfl, rfl⟩
    rw [lineC_eq]
    refine ⟨_, rfl, by show 1 ≤ sizeLine; decide, fun p1 hp1 => ?_⟩
    have sm1 := same_new (o := .lst [.str (headS W)]) (Same.refl H) hp1
    have hp11 : (upd H p1 (.lst [.str (headS W)])) p1 = some (.lst [.str (headS W)]) := upd_same
    revert sm1 hp11
    generalize upd H p1 (.lst [.str (headS W)]) = H1
    intro sm1 hp11
    have hE1 := sm1.seq hE
    refine ⟨_, rfl, ea, rfl, ⟨_, hE1⟩, fun D hD => lc_it (walk_list (xs := es)) (fun i H' => Same H1 H' ∧ H' D = some (.lst (((W.ents.take i).map entS).map V.str)))
      ⟨same_new (Same.refl _) hD, upd_same⟩ (fun i H' _ h => h.1.seq hE1) ?_ ?_⟩
    · rintro i x H3 H3' hi ⟨sm3, hD3⟩ ⟨rfl, hx⟩
      obtain ⟨en, he, t, rfl, hta0⟩ := paired_at hP hx
      have heok := o4 en (List.mem_of_getElem? he)
      have hta := Same.tup (sm1.trans sm3) hta0
      have hvl := vs_len en
      have hpn := ent_parts_n en
      have htl : (W.ents.take i).length ≤ 60 := by rw [List.length_take]; omega
      refine ⟨rfl, yes_go ?_⟩
      refine ⟨⟨_, rfl⟩, _, rfl, t, rfl, ⟨_, hta⟩, fun D2 hD2 => lc_it (walk_tup (xs := en.vs)) (fun j H' => Same H3' H' ∧ H' D2 = some (.lst (((entParts en).take j).map V.str)))
        ⟨same_new (Same.refl _) hD2, upd_same⟩ (fun j H' _ h => Same.tup h.1 hta) ?_ ?_⟩
      · rintro j x H4 H4' hj ⟨sm4, hD4⟩ ⟨rfl, hx⟩
        obtain ⟨s, hs, hxs⟩ := ent_item hx
        have fin : ∃ acc, H4' D2 = some (.lst acc) ∧ acc.length < sizeLine ∧ (Same H3' (upd H4' D2 (.lst (acc ++ [.str s]))) ∧ (upd H4' D2 (.lst (acc ++ [.str s]))) D2 = some (.lst (((entParts en).take (j + 1)).map V.str))) := by
          refine ⟨_, hD4, size_lt (by rw [List.length_map, List.length_take]; omega), same_mut sm4 hD2, ?_⟩
          rw [upd_same, take_snoc hs, List.map_append]
          rfl
        refine ⟨rfl, yes_go ?_⟩
        rcases hxs with rfl | ⟨n, hn, rfl, rfl⟩
        · exact ⟨_, rfl, .inr ⟨s, rfl, fin⟩⟩
        · exact ⟨_, rfl, .inl ⟨(n : Int), rfl, num_log (num_le heok o2 hn), fin⟩⟩
      · rintro H4 ⟨sm4, hD4⟩
        rw [hvl, List.take_length] at hD4
        refine ⟨Str.ofString " ", D2, entParts en, rfl, rfl, .inl (SqL.of hD4), ?_, ?_⟩
        · have := sum_le (ent_parts_len heok o2)
          rw [c2]
          omega
        have hD34 := sm4 _ _ hD3
        refine ⟨_, hD34, size_lt (by rw [List.length_map, List.length_map]; omega), same_mut (sm3.trans sm4) hD, ?_⟩
        rw [upd_same, take_snoc he, List.map_append, List.map_append]
        rfl
    · rintro H3 ⟨sm3, hD3⟩
      rw [hel, List.take_length] at hD3
      have hp13 := sm3 _ _ hp11
      refine ⟨p1, D, _, _, rfl, rfl, hp13, hD3, size_le (by rw [List.length_singleton, List.length_map, List.length_map]; omega), fun p4 hp4 => ?_⟩
      have smA := same_new (o := .lst ([.str (headS W)] ++ (W.ents.map entS).map V.str)) (sm1.trans sm3) hp4
      have hp44 : (upd H3 p4 (.lst ([.str (headS W)] ++ (W.ents.map entS).map V.str))) p4 = some (.lst ([.str (headS W)] ++ (W.ents.map entS).map V.str)) := upd_same
      refine ⟨by show 1 ≤ sizeLine; decide, fun p5 hp5 => ?_⟩
      have smB := same_new (o := .lst [.str "end"]) smA hp5
      have hp45 : (upd (upd H3 p4 (.lst ([.str (headS W)] ++ (W.ents.map entS).map V.str))) p5 (.lst [.str "end"])) p4 = _ := (upd_ne (ne_of_none hp44 hp5)).trans hp44
      refine ⟨p4, p5, _, _, rfl, rfl, hp45, upd_same, size_le (by rw [List.length_append, List.length_singleton, List.length_map, List.length_map, List.length_singleton]; omega), fun p6 hp6 => ?_⟩
      refine q p6 _ (same_new smB hp6) (smB.free hp6) ?_
      rw [upd_same]
      unfold lines
      rw [List.map_cons, List.map_append]
      rfl
end
end My
namespace My
open PySem L2
/-! ### _law_same, _law_words -/
/-- a def that takes its last parameter by keyword alone -/
structure CalK (P : Program) (w : World) (K : PySem.W.Frag) (mg : Str → Option Value) (base : Heap) (k : Nat) (x : Str) (n : Nat) (ks : List Str) (sp : Sp) : Prop where
  ex : ∃ (f : Addr) (fd : FuncData) (ps : List Str), FnOk P w K mg base C8.CX0 k f fd ps sp ∧ mg x = some (.ref f) ∧ PySem.W.keepIn K (.ref f) = true ∧ KBn K fd ps n ks (fun us ws => us ++ ws) (fun vs zs => vs ++ zs)
theorem text_sum {W : Wd} (h : W.Ok) : ((lines W).map (·.length)).sum + (lines W).length * (Str.ofString "\n").length ≤ 16777216 := by
  have h1 := sum_le (lines_len h)
  have h2 := lines_n h
  have h3 : (Str.ofString "\n").length = 1 := by decide +kernel
  rw [h3]
  omega
theorem cut5 (W : Wd) (ea : Addr) (v : V) : cutV [nV W.size, .ref ea, nV W.fast, nV W.slow, nV W.late, v] none (some (5 : Int)) = [nV W.size, .ref ea, nV W.fast, nV W.slow, nV W.late] := rfl
theorem cut4 (W : Wd) (ea : Addr) (v : V) : cutV [nV W.size, .ref ea, nV W.fast, nV W.slow, nV W.late, v] none (some (4 : Int)) = [nV W.size, .ref ea, nV W.fast, nV W.slow] := rfl
section
variable {P : Program} {w : World} {K : PySem.W.Frag} {mg : Str → Option Value} {base : Heap}
abbrev s_law_same : Stmt := top 67
abbrev N_law_same : List Str := ["log", "world"]
theorem sc_law_same : FnScope N_law_same ["log", "world"] (C8.fnScope s_law_same) := C8.fnScope_by (by decide +kernel)
def sp_law_same (K : PySem.W.Frag) (C : Addr) : Sp := fun vs H Q _ => ∃ (p wa : Addr) (W : Wd) (mo : List Int), vs = [.ref p, .ref wa] ∧ LogAt K C H p W ∧ WorldAt K H wa W mo ∧ W.Ok ∧ ∀ H', Same H H' → Q (.bl true) H'
theorem ok_law_same {C f : Addr} {fd : FuncData} (F : C8.Def K mg "_law_same" s_law_same f fd) (b : Binds K fd ["log", "world"] []) (cl : ClsL K C) (T : Gb mg) (IC : C8.InsC K C) (hmC : mg "Log" = some (.ref C)) (c__law_is : C8.Cal P w K mg base 1 "_law_is" sp_law_is []) (c_show_log : C8.Cal P w K mg base 6 "show_log" (sp_show_log K C) [])
    (c__law_log_text : C8.Cal P w K mg base 1 "_law_log_text" (sp_law_log_text K) []) : C8.Cal P w K mg base 7 "_law_same" (sp_law_same K C) [] := by
  refine C8.cal0 F b .nil sc_law_same (fun vs H Q E h => ?_) (fun cdv A outer s H vs Q E hr h => ?_)
  · obtain ⟨p, wa, W, mo, rfl, _⟩ := h
    rfl
  · obtain ⟨p, wa, W, mo, rfl, hL, hW, hok, q⟩ := h
    obtain ⟨dx, a, vs, hp, hE, hP⟩ := id hL.ex
    obtain ⟨ea, ma, es, hA, hwE, hwP, _⟩ := id hW
    refine ⟨_, (pss_cons (ps_if (PW.pt (pw_or (pt_not (pt_val (pe_callB (C8.call_isC IC) (by rfl) T.isinstance (by decide +kernel) (pa_cons (pv 0) (pa_cons (C8.pe_gc (v := .ref C) (by rfl) ⟨_, hmC, rfl⟩) pa_nil))))) (pw_or (pt_not (pt_val (C8.pe_c c__law_is hr (by decide) (by rfl) (pa_cons (pe_fldK K rfl (pv 0) rfl) (pa_cons (pe_ix (ix_listK K rfl) (pv 1) pe_int (fun _ _ => rfl)) pa_nil))))) (pw_or1 (pt_not (pt_val (C8.pe_c c__law_is hr (by decide) (by rfl) (pa_cons (pe_fldK K rfl (pv 0) rfl) (pa_cons (pe_ix (ix_listK K rfl) (pv 1) pe_int (fun _ _ => rfl)) pa_nil)))))))))
(pss_one (ps_ret pe_bl))
pss_nil)
(pss_cons (ps_if (PW.pt (pw_or (pt_not (pt_val (C8.pe_c c__law_is hr (by decide) (by rfl) (pa_cons (pe_fldK K rfl (pv 0) rfl) (pa_cons (pe_ix (ix_listK K rfl) (pv 1) pe_int (fun _ _ => rfl)) pa_nil))))) (pw_or (pt_not (pt_val (C8.pe_c c__law_is hr (by decide) (by rfl) (pa_cons (pe_fldK K rfl (pv 0) rfl) (pa_cons (pe_ix (ix_listK K rfl) (pv 1) pe_int (fun _ _ => rfl)) pa_nil))))) (pw_or1 (pt_cmpR (op_neD hr.units) (pe_fldK K rfl (pv 0) rfl) (pe_callTy (call_tupK K rfl) (by rfl) T.tuple (by decide +kernel) (pa_cons (pe_ix (ix_listK K rfl) (pv 1) pe_int (fun _ _ => rfl)) pa_nil)) (nomark _))))))
(pss_one (ps_ret pe_bl))
pss_nil)
(pss_one (ps_ret (pe_cmpR op_eq (C8.pe_c c_show_log hr (by decide) (by rfl) (pa_cons (pv 0) pa_nil)) (pe_join pe_str (C8.pe_c c__law_log_text hr (by decide) (by rfl) (pa_cons (pe_slice sl_list (pv 1) po_none (po_some pe_int)) pa_nil))) (nomark _)))))), ?_⟩
    refine ⟨_, rfl, p, dx, _, rfl, hp, true, rfl, ?_⟩
    refine iteF ?_
    refine ⟨_, rfl, p, C, dx, _, _, rfl, hp, cl.cl, cl.nSize, lf_size _ _ _ _ _, _, rfl, wa, _, 0, nV W.size, rfl, rfl, hA, rfl, some (W.size : Int), rfl, true, rfl, ?_⟩
    refine iteF ?_
    refine ⟨_, rfl, p, C, dx, _, _, rfl, hp, cl.cl, cl.nFast, lf_fast _ _ _ _ _, _, rfl, wa, _, 2, nV W.fast, rfl, rfl, hA, rfl, some (W.fast : Int), rfl, true, rfl, ?_⟩
    refine iteF ?_
    refine ⟨_, rfl, p, C, dx, _, _, rfl, hp, cl.cl, cl.nSlow, lf_slow _ _ _ _ _, _, rfl, wa, _, 3, nV W.slow, rfl, rfl, hA, rfl, some (W.slow : Int), rfl, true, rfl, ?_⟩
    refine iteF ?_
    refine ⟨_, rfl, p, C, dx, _, _, rfl, hp, cl.cl, cl.nLate, lf_late _ _ _ _ _, _, rfl, wa, _, 4, nV W.late, rfl, rfl, hA, rfl, some (W.late : Int), rfl, true, rfl, ?_⟩
    refine iteF ?_
    refine ⟨_, rfl, p, C, dx, _, _, rfl, hp, cl.cl, cl.nEntries, lf_entries _ _ _ _ _, _, rfl, wa, _, 1, .ref ea, rfl, rfl, hA, rfl, ea, es, rfl, .inl ⟨hwE, fun t ht => ?_⟩⟩
    have sm1 := same_new (o := .tup es) (Same.refl H) ht
    refine ⟨.tuple (dEnts W.ents), .tuple (dEnts W.ents), .tup (Same.tup sm1 hE) (dp_ents (L2.Paired.mapP hP fun _ _ => EntV.mono sm1)), .tup (SqT.of upd_same) (dp_ents (L2.Paired.mapP hwP fun _ _ => EntV.mono sm1)), shaped_ents _, shaped_ents _, _, rfl, ?_⟩
    rw [SeqAt.eqv_refl _ (by simp only [PyData.canLay0]; exact lay_ents W.ents)]
    refine iteF ?_
    refine ⟨_, rfl, p, W, rfl, hL.mono sm1, hok, fun H2 sm2 => ?_⟩
    have sm02 := sm1.trans sm2
    refine ⟨⟨_, rfl⟩, ?_⟩
    refine ⟨_, rfl, 5, rfl, wa, _, rfl, sm02.seq hA, fun p3 hp3 => ?_⟩
    rw [cut5]
    have sm3 := same_new (o := .lst [nV W.size, .ref ea, nV W.fast, nV W.slow, nV W.late]) sm02 hp3
    refine ⟨p3, ea, es, W, rfl, SqL.of upd_same, sm3.seq hwE, L2.Paired.mapP hwP fun _ _ => EntV.mono sm3, hok, fun l H4 sm4 hl0 hl => ?_⟩
    refine ⟨Str.ofString "\n", l, lines W, rfl, rfl, .inl (SqL.of hl), text_sum hok, ?_⟩
    refine ⟨rfl, ?_⟩
    rw [show decide (V.str (logText W) = V.str (Txt.join (Str.ofString "\n") (lines W))) = true from decide_eq_true rfl]
    exact q H4 (sm3.trans sm4)
abbrev s_law_words : Stmt := top 70
abbrev N_law_words : List Str := ["log", "world", "lag", "x", "y", "other"]
theorem sc_law_words : FnScope N_law_words ["log", "world", "lag", "x", "y"] (C8.fnScope s_law_words) := C8.fnScope_by (by decide +kernel)
def sp_law_words (K : PySem.W.Frag) (C : Addr) : Sp := fun vs H Q _ => ∃ (p wa : Addr) (W : Wd) (mo : List Int) (lag x y : Nat), vs = [.ref p, .ref wa, nV lag, nV x, nV y] ∧ LogAt K C H p W ∧ WorldAt K H wa W mo ∧ W.Ok ∧ lag ≤ 60 ∧ x < W.size ∧ y < W.size ∧ NP (rowsOf (W.at lag)) W.size ∧
  ∀ (word : Str) H', Same H H' → ((word = "surely" ∧ sureP (rowsOf (W.at lag)) x y) ∨ ((word = "never" ∨ word = "open") ∧ ¬ sureP (rowsOf (W.at lag)) x y)) → Q (.str word) H'
theorem ok_law_words {C f fq : Addr} {fd fdq : FuncData} (F : C8.Def K mg "_law_words" s_law_words f fd) (b : Binds K fd ["log", "world", "lag", "x", "y"] []) (c__law_log_text : C8.Cal P w K mg base 1 "_law_log_text" (sp_law_log_text K) []) (k_read_log : CalK P w K mg base 4 "read_log" 1 ["first"] (sp_read_log K C))
    (m_with_late : C8.Met P w K mg base 4 C "with_late" (sp_with_late K C) []) (c_ahead : C8.Cal P w K mg base 6 "ahead" (sp_ahead K C) [])
    (Fq : FnOk P w K mg base C8.CX0 1 fq fdq ["self", "other"] (spEq (LogR K C))) (hs : PySem.W.findIn K (.ref C) "__eq__" = some (some (.ref fq))) (hf : PySem.W.isFn K (.ref fq) = true) (hb : Binds K fdq ["self", "other"] []) : C8.Cal P w K mg base 7 "_law_words" (sp_law_words K C) [] := by
  obtain ⟨fr, fdr, psr, Fr, mgr, kpr, kbr⟩ := k_read_log.ex
  refine C8.cal0 F b .nil sc_law_words (fun vs H Q E h => ?_) (fun cdv A outer s H vs Q E hr h => ?_)
  · obtain ⟨p, wa, W, mo, lag, x, y, rfl, _⟩ := h
    rfl
  · obtain ⟨p, wa, W, mo, lag, x, y, rfl, hL, hW, hok, hlag, hx, hy, np, q⟩ := h
    obtain ⟨dx, a, vs, hp, hE, hP⟩ := id hL.ex
    obtain ⟨ea, ma, es, hA, hwE, hwP, _⟩ := id hW
    have hok' : (W.at lag).Ok := hok.at hlag
    refine ⟨_, (pss_cons (ps_set (i := 5) sc_law_words.nd rfl (Or.inl rfl) (by exact (pe_callN (E := C8.E0) Fr (hr.mono (by decide)) (by rfl) mgr kpr kbr C8.pass0 (pa_cons (pe_join pe_str (C8.pe_c c__law_log_text hr (by decide) (by rfl) (pa_cons (pe_op op_cat (pe_slice sl_list (pv 1) po_none (po_some pe_int)) (pe_lst (pa_cons (pv 2) pa_nil))) pa_nil))) pa_nil) (pk_cons (pv 2) pk_nil))))
(pss_cons (ps_if (pt_not (pt_cmpR (op_eqG (rcG_ins (E := C8.E0) Fq hs hf hb C8.pass0) (hr.mono (by decide))) (pv 5) (C8.pe_mt m_with_late hr (by decide) (pv 0) (pa_cons (pv 2) pa_nil)) (nomark _)))
(pss_one (ps_ret pe_non))
pss_nil)
(pss_one (ps_ret (pe_ix (ix_tupK K rfl) (C8.pe_c c_ahead hr (by decide) (by rfl) (pa_cons (pv 5) (pa_cons (pv 3) (pa_cons (pv 4) pa_nil)))) pe_int (fun _ _ => rfl)))))), ?_⟩
    refine ⟨⟨_, rfl⟩, ?_⟩
    refine ⟨_, rfl, 4, rfl, wa, _, rfl, hA, fun p1 hp1 => ?_⟩
    rw [cut4]
    have sm1 := same_new (o := .lst [nV W.size, .ref ea, nV W.fast, nV W.slow]) (Same.refl H) hp1
    refine ⟨_, rfl, by show 1 ≤ sizeLine; decide, fun p2 hp2 => ?_⟩
    have sm2 := same_new (o := .lst [nV lag]) sm1 hp2
    have n12 : p1 ≠ p2 := ne_of_none upd_same hp2
    refine ⟨p1, p2, _, _, rfl, rfl, (upd_ne n12).trans upd_same, upd_same, by show 5 ≤ sizeLine; decide, fun p3 hp3 => ?_⟩
    have sm3 := same_new (o := .lst ([nV W.size, .ref ea, nV W.fast, nV W.slow] ++ [nV lag])) sm2 hp3
    refine ⟨p3, ea, es, W.at lag, rfl, SqL.of upd_same, sm3.seq hwE, L2.Paired.mapP hwP fun _ _ => EntV.mono sm3, hok', fun l H4 sm4 hl0 hl => ?_⟩
    have sm04 := sm3.trans sm4
    refine ⟨Str.ofString "\n", l, lines (W.at lag), rfl, rfl, .inl (SqL.of hl), text_sum hok', ?_⟩
    refine ⟨_, rfl, rfl, rfl, W.at lag, nV lag, rfl, hok', fun po H5 sm5 _ hL5 => ?_⟩
    have sm05 := sm04.trans sm5
    refine ⟨_, rfl, _, rfl, p, dx, _, rfl, sm05 _ _ hp, rfl, _, rfl, p, W, lag, rfl, hL.mono sm05, hok, hlag, fun p6 H6 sm6 hL6 => ?_⟩
    have hL56 := hL5.mono sm6
    obtain ⟨dx5, a5, vs5, hp5, _⟩ := id hL56.ex
    obtain ⟨dx6, a6, vs6, hp6, _⟩ := id hL6.ex
    refine ⟨⟨po, p6, dx5, dx6, _, _, rfl, rfl, hp5, hp6, W.at lag, hL56, hL6⟩, fun H7 ext => ⟨_, rfl, ?_⟩⟩
    refine iteF ?_
    have sm7 : Same H6 H7 := ext
    refine ⟨_, rfl, _, rfl, _, rfl, po, W.at lag, x, y, rfl, hL56.mono sm7, hok', np, hx, hy, fun t H8 sm8 ha => ?_⟩
    obtain ⟨word, vs, ht, hw⟩ := ha.word (rowsOf_lt hok') np hx hy
    exact ⟨t, _, 0, .str word, rfl, rfl, SqT.of ht, atI_nat (j := 0) rfl, q word H8 (((sm05.trans sm6).trans sm7).trans sm8) hw⟩
end
end My
namespace My
open PySem L2
/-! ### _law_turns -/
theorem inV_word {word : Str} (h : word = Str.ofString "never" ∨ word = Str.ofString "open") : inV (.str word) [.str "open", .str "never"] = true := by rcases h with rfl | rfl <;> decide +kernel
section
variable {P : Program} {w : World} {K : PySem.W.Frag} {mg : Str → Option Value} {base : Heap}
def sp_law_ringed (K : PySem.W.Frag) (C : Addr) : Sp := fun vs H Q _ => ∃ (p wa : Addr) (W : Wd) (mo : List Int) (lag : Nat), vs = [.ref p, .ref wa, nV lag] ∧ LogAt K C H p W ∧ WorldAt K H wa W mo ∧ W.Ok ∧ lag ≤ 60 ∧ ¬ NP (rowsOf (W.at lag)) W.size ∧ ∀ H', Same H H' → Q (.bl true) H'
abbrev s_law_turns : Stmt := top 71
abbrev N_law_turns : List Str := ["log", "world", "x", "y", "least", "last", "sure"]
theorem sc_law_turns : FnScope N_law_turns ["log", "world", "x", "y"] (C8.fnScope s_law_turns) := C8.fnScope_by (by decide +kernel)
def sp_law_turns (K : PySem.W.Frag) (C : Addr) : Sp := fun vs H Q _ => ∃ (p wa : Addr) (W : Wd) (mo : List Int) (x y : Nat), vs = [.ref p, .ref wa, nV x, nV y] ∧ LogAt K C H p W ∧ WorldAt K H wa W mo ∧ W.Ok ∧ NP (rowsOf W) W.size ∧ x < W.size ∧ y < W.size ∧ ∀ H', Same H H' → Q (.bl true) H'
theorem ok_law_turns {C f : Addr} {fd : FuncData} (F : C8.Def K mg "_law_turns" s_law_turns f fd) (b : Binds K fd ["log", "world", "x", "y"] []) (T : Gb mg) (c_least_late : C8.Cal P w K mg base 6 "least_late" (sp_least_late K C) []) (c_trust : C8.Cal P w K mg base 8 "trust" (sp_trust K C) []) (c__law_sure : C8.Cal P w K mg base 2 "_law_sure" (sp_law_sure K) [])
    (c__law_ringed : C8.Cal P w K mg base 8 "_law_ringed" (sp_law_ringed K C) []) (c__law_words : C8.Cal P w K mg base 7 "_law_words" (sp_law_words K C) []) : C8.Cal P w K mg base 9 "_law_turns" (sp_law_turns K C) [] := by
  refine C8.cal0 F b .nil sc_law_turns (fun vs H Q E h => ?_) (fun cdv A outer s H vs Q E hr h => ?_)
  · obtain ⟨p, wa, W, mo, x, y, rfl, _⟩ := h
    rfl
  · obtain ⟨p, wa, W, mo, x, y, rfl, hL, hW, hok, np, hx, hy, q⟩ := h
    have o8 := hok.l
    have npL : NP (rowsOf (W.at W.late)) W.size := np
    have np60 : NP (rowsOf (W.at 60)) W.size := np_late o8 npL
    refine ⟨_, (pss_cons (ps_set (i := 4) sc_law_turns.nd rfl (Or.inl rfl) (C8.pe_c c_least_late hr (by decide) (by rfl) (pa_cons (pv 0) pa_nil)))
(C8.pss_cut (ps_set (i := 5) sc_law_turns.nd rfl (Or.inl rfl) (C8.pe_c c_trust hr (by decide) (by rfl) (pa_cons (pv 0) (pa_cons (pv 2) (pa_cons (pv 3) pa_nil)))))
(pss_cons (ps_if (PW.pt (pw_or (pt_not (pt_val (pe_callB call_isi (by rfl) T.isinstance (by decide +kernel) (pa_cons (pv 4) (pa_cons (pe_bltn (v := .ty "int") (by rfl) T.int (by decide +kernel) rfl) pa_nil))))) (pw_or (pt_val (pe_callB call_isi (by rfl) T.isinstance (by decide +kernel) (pa_cons (pv 4) (pa_cons (pe_bltn (v := .ty "bool") (by rfl) T.bool (by decide +kernel) rfl) pa_nil)))) (pw_or (pt_cmpR op_lt (pv 4) pe_int (nomark _)) (pw_or1 (pt_cmpR op_gt (pv 4) (pe_ix (ix_listK K rfl) (pv 1) pe_int (fun _ _ => rfl)) (nomark _)))))))
(pss_one (ps_ret pe_bl))
pss_nil)
(pss_cons (ps_set (i := 6) sc_law_turns.nd rfl (Or.inl rfl) (C8.pe_c c__law_sure hr (by decide) (by rfl) (pa_cons (pv 1) (pa_cons (pv 4) (pa_cons (pv 2) (pa_cons (pv 3) pa_nil))))))
(C8.pss_cut (ps_if (PW.pt (pw_or (pt_cmpR op_isN (pv 6) pe_non (nomark _)) (pw_or1 (PW.pt (pw_and (pt_cmpR op_gt (pv 4) pe_int (nomark _)) (pw_and1 (pt_cmpR op_notN (C8.pe_c c__law_sure hr (by decide) (by rfl) (pa_cons (pv 1) (pa_cons (pe_op op_sub (pv 4) pe_int) (pa_cons (pv 2) (pa_cons (pv 3) pa_nil))))) pe_non (nomark _))))))))
(pss_one (ps_ret pe_bl))
pss_nil)
(C8.pss_cut (ps_if (PW.pt (pw_and (pt_cmpR op_gt (pv 4) pe_int (nomark _)) (pw_and1 (pt_not (pt_val (C8.pe_c c__law_ringed hr (by decide) (by rfl) (pa_cons (pv 0) (pa_cons (pv 1) (pa_cons (pe_op op_sub (pv 4) pe_int) pa_nil)))))))))
(pss_one (ps_ret pe_bl))
pss_nil)
(pss_cons (ps_if (pt_not (pt_val (pv 6)))
(pss_one (ps_ret (pe_and (pe_cmpR op_isN (pv 5) pe_non (nomark _)) (pe_one (pe_cmpR (op_inK K rfl) (C8.pe_c c__law_words hr (by decide) (by rfl) (pa_cons (pv 0) (pa_cons (pv 1) (pa_cons (pv 4) (pa_cons (pv 2) (pa_cons (pv 3) pa_nil)))))) (pe_lst (pa_cons pe_str (pa_cons pe_str pa_nil))) rfl)))))
pss_nil)
(pss_cons (ps_if (PW.pt (pw_or (pt_not (pt_val (pe_callB call_isi (by rfl) T.isinstance (by decide +kernel) (pa_cons (pv 5) (pa_cons (pe_bltn (v := .ty "int") (by rfl) T.int (by decide +kernel) rfl) pa_nil))))) (pw_or (pt_val (pe_callB call_isi (by rfl) T.isinstance (by decide +kernel) (pa_cons (pv 5) (pa_cons (pe_bltn (v := .ty "bool") (by rfl) T.bool (by decide +kernel) rfl) pa_nil)))) (pw_or (pt_cmpR op_lt (pv 5) (pv 4) (nomark _)) (pw_or1 (pt_cmpR op_gt (pv 5) pe_int (nomark _)))))))
(pss_one (ps_ret pe_bl))
pss_nil)
(pss_cons (ps_if (PW.pt (pw_or (pt_cmpR op_notBl (C8.pe_c c__law_sure hr (by decide) (by rfl) (pa_cons (pv 1) (pa_cons (pv 5) (pa_cons (pv 2) (pa_cons (pv 3) pa_nil))))) pe_bl (nomark _)) (pw_or1 (pt_cmpR op_ne (C8.pe_c c__law_words hr (by decide) (by rfl) (pa_cons (pv 0) (pa_cons (pv 1) (pa_cons (pv 5) (pa_cons (pv 2) (pa_cons (pv 3) pa_nil)))))) pe_str (nomark _)))))
(pss_one (ps_ret pe_bl))
pss_nil)
(pss_cons (ps_if (pt_cmpR op_eq (pv 5) pe_int (nomark _))
(pss_one (ps_ret pe_bl))
pss_nil)
(pss_one (ps_ret (pe_and (pe_cmpR op_isBl (C8.pe_c c__law_sure hr (by decide) (by rfl) (pa_cons (pv 1) (pa_cons (pe_op op_add (pv 5) pe_int) (pa_cons (pv 2) (pa_cons (pv 3) pa_nil))))) pe_bl (nomark _)) (pe_one (pe_cmpR (op_inK K rfl) (C8.pe_c c__law_words hr (by decide) (by rfl) (pa_cons (pv 0) (pa_cons (pv 1) (pa_cons (pe_op op_add (pv 5) pe_int) (pa_cons (pv 2) (pa_cons (pv 3) pa_nil)))))) (pe_lst (pa_cons pe_str (pa_cons pe_str pa_nil))) rfl))))))))))))))), ?_⟩
    refine ⟨_, rfl, p, W, rfl, hL, hok, np60, fun l H1 sm1 hl60 npl hmin => ?_⟩
    have hmin' : ∀ j : Nat, NP (rowsOf (W.at j)) W.size → l ≤ j := fun j hj => by
      rcases hmin with h | h
      · omega
      · rcases Nat.lt_or_ge j l with q | q
        · exact absurd (np_late (show j ≤ l - 1 by omega) hj) h
        · exact q
    have hll : l ≤ W.late := hmin' W.late npL
    have wd : ∀ H', Same H H' → ∃ ea ma, SqL K H' wa [nV W.size, .ref ea, nV W.fast, nV W.slow, nV W.late, .ref ma] := fun H' s => by
      obtain ⟨ea, ma, es, hA, _⟩ := hW.mono s
      exact ⟨ea, ma, hA⟩
    refine ⟨fun σ' H' => Same H H' ∧ ∃ v, σ' = [some (.ref p), some (.ref wa), some (nV x), some (nV y), some (nV l), some v, none] ∧
      ((v = .non ∧ ¬ sureP (rowsOf (W.at l)) x y) ∨ (∃ m : Nat, v = nV m ∧ sureP (rowsOf (W.at l)) x y ∧ l ≤ m ∧ m ≤ 60 ∧ NP (rowsOf (W.at m)) W.size ∧ sureP (rowsOf (W.at m)) x y ∧ (m = 60 ∨ (NP (rowsOf (W.at (m + 1))) W.size ∧ ¬ sureP (rowsOf (W.at (m + 1))) x y)))), ?_, ?_⟩
    · refine ⟨_, rfl, _, rfl, _, rfl, p, W, x, y, rfl, hL.mono sm1, hok, hx, hy, fun k H2 sm2 hk61 hk hk0 => ?_⟩
      have sm02 := sm1.trans sm2
      constructor
      · intro h
        refine ⟨sm02, .non, rfl, .inl ⟨rfl, fun hs => ?_⟩⟩
        have hlk : k ≤ l := by
          rcases h with h | h
          · omega
          · rcases Nat.lt_or_ge l k with z | z
            · exact absurd (np_late (show l ≤ k - 1 by omega) npl) h
            · exact z
        rcases hk with h2 | h2
        · omega
        · have e : k = l := Nat.le_antisymm hlk (hmin' k h2.1)
          rw [e] at h2
          exact h2.2 hs
      · intro h1 h2
        have hs : sureP (rowsOf (W.at (k - 1))) x y := by
          rcases hk0 with z | z
          · omega
          · exact Classical.byContradiction fun n => z ⟨h2, n⟩
        have hlk := hmin' _ h2
        refine ⟨sm02, nV (k - 1), rfl, .inr ⟨k - 1, rfl, sure_late hlk hs, hlk, by omega, h2, hs, ?_⟩⟩
        rcases hk with z | z
        · exact .inl (by omega)
        · right
          have hk1 : k - 1 + 1 = k := by omega
          rw [hk1]
          exact z
    rintro σ2 H2 ⟨sm02, v, rfl, hv⟩
    obtain ⟨ea, ma, hA2⟩ := wd H2 sm02
    refine ⟨_, rfl, .int (l : Int), .ty "int", .type "int", .type "int", true, rfl, .ty _, .base (.int _), kit_ty (by decide +kernel), true, rfl, ?_⟩
    refine iteF ?_
    refine ⟨_, rfl, .int (l : Int), .ty "bool", .type "int", .type "bool", false, rfl, .ty _, .base (.int _), kit_ty (by decide +kernel), false, rfl, ?_⟩
    refine iteF ?_
    refine ⟨_, rfl, _, _, rfl, rfl, _, rfl, ?_⟩
    refine ifF (by omega) ?_
    refine ⟨_, rfl, _, rfl, wa, _, 4, nV W.late, rfl, rfl, hA2, rfl, _, _, rfl, rfl, _, rfl, ?_⟩
    refine ifF (by omega) ?_
    refine ⟨_, rfl, _, rfl, _, rfl, _, rfl, wa, W, mo, l, x, y, rfl, hW.mono sm02, hok, hl60, hx, hy, fun H3 sm3 => ⟨fun n => absurd npl n, fun _ bb hbb => ?_⟩⟩
    have sm03 := sm02.trans sm3
    refine ⟨fun σ' H' => Same H H' ∧ σ' = [some (.ref p), some (.ref wa), some (nV x), some (nV y), some (nV l), some v, some (.bl bb)], ?_, ?_⟩
    · refine ⟨_, rfl, rfl, _, rfl, ?_⟩
      refine ifF (by intro z; cases z) ?_
      refine ⟨_, rfl, _, _, rfl, rfl, _, rfl, ?_⟩
      refine ite2 (fun hg => ?_) (fun hg => ?_)
      · have hg' : 0 < l := by have := of_decide_eq_true hg; omega
        have hnn : ¬ NP (rowsOf (W.at (l - 1))) W.size := by
          rcases hmin with z | z
          · omega
          · exact z
        refine ⟨_, rfl, _, rfl, _, _, rfl, rfl, _, rfl, _, rfl, wa, W, mo, l - 1, x, y, ?_, hW.mono sm03, hok, by omega, hx, hy, fun H4 sm4 => ⟨fun _ => ?_, fun n => absurd n hnn⟩⟩
        · show [V.ref wa, V.int ((l : Int) - 1), nV x, nV y] = _
          rw [show ((l : Int) - 1) = ((l - 1 : Nat) : Int) by omega]
        refine ⟨rfl, _, rfl, ?_⟩
        refine ifNF rfl ?_
        exact ⟨sm03.trans sm4, rfl⟩
      · refine iteF ?_
        exact ⟨sm03, rfl⟩
    rintro σ4 H4 ⟨sm04, rfl⟩
    refine ⟨fun σ' H' => Same H H' ∧ σ' = [some (.ref p), some (.ref wa), some (nV x), some (nV y), some (nV l), some v, some (.bl bb)], ?_, ?_⟩
    · refine ⟨_, rfl, _, _, rfl, rfl, _, rfl, ?_⟩
      refine ite2 (fun hg => ?_) (fun hg => ?_)
      · have hg' : 0 < l := by have := of_decide_eq_true hg; omega
        have hnn : ¬ NP (rowsOf (W.at (l - 1))) W.size := by
          rcases hmin with z | z
          · omega
          · exact z
        refine ⟨_, rfl, _, rfl, _, rfl, _, _, rfl, rfl, p, wa, W, mo, l - 1, ?_, hL.mono sm04, hW.mono sm04, hok, by omega, hnn, fun H5 sm5 => ⟨true, rfl, ?_⟩⟩
        · show [V.ref p, V.ref wa, V.int ((l : Int) - 1)] = _
          rw [show ((l : Int) - 1) = ((l - 1 : Nat) : Int) by omega]
        refine iteF ?_
        exact ⟨sm04.trans sm5, rfl⟩
      · exact ⟨sm04, rfl⟩
    rintro σ5 H5 ⟨sm05, rfl⟩
    obtain ⟨ea5, ma5, hA5⟩ := wd H5 sm05
    refine ⟨_, rfl, bb, rfl, ?_⟩
    rcases hv with ⟨rfl, hns⟩ | ⟨m, rfl, hsl, hlm, hm60, npm, hsm, hm1⟩
    · have eb : bb = false := by
        cases bb with
        | false => rfl
        | true => exact absurd (hbb.mp rfl) hns
      subst eb
      refine iteT ?_
      refine ⟨_, rfl, rfl, _, rfl, ?_⟩
      refine iteT ?_
      refine ⟨_, rfl, _, rfl, _, rfl, _, rfl, _, rfl, p, wa, W, mo, l, x, y, rfl, hL.mono sm05, hW.mono sm05, hok, hl60, hx, hy, npl, fun word H6 sm6 hw => ?_⟩
      refine ⟨by show 2 ≤ sizeLine; decide, fun p7 hp7 => ?_⟩
      have hw' : word = Str.ofString "never" ∨ word = Str.ofString "open" := by
        rcases hw with ⟨_, z⟩ | ⟨z, _⟩
        · exact absurd z hns
        · exact z
      refine ⟨p7, _, rfl, .inl (SqL.of upd_same), rfl, rfl, ?_⟩
      rw [inV_word hw']
      exact q _ (same_new (sm05.trans sm6) hp7)
    · have eb : bb = true := hbb.mpr hsl
      subst eb
      refine iteF ?_
      refine ⟨_, rfl, .int (m : Int), .ty "int", .type "int", .type "int", true, rfl, .ty _, .base (.int _), kit_ty (by decide +kernel), true, rfl, ?_⟩
      refine iteF ?_
      refine ⟨_, rfl, .int (m : Int), .ty "bool", .type "int", .type "bool", false, rfl, .ty _, .base (.int _), kit_ty (by decide +kernel), false, rfl, ?_⟩
      refine iteF ?_
      refine ⟨_, rfl, _, rfl, _, _, rfl, rfl, _, rfl, ?_⟩
      refine ifF (by omega) ?_
      refine ⟨_, rfl, _, _, rfl, rfl, _, rfl, ?_⟩
      refine ifF (by omega) ?_
      refine ⟨_, rfl, _, rfl, _, rfl, _, rfl, wa, W, mo, m, x, y, rfl, hW.mono sm05, hok, hm60, hx, hy, fun H6 sm6 => ⟨fun n => absurd npm n, fun _ b6 hb6 => ?_⟩⟩
      have e6 : b6 = true := hb6.mpr hsm
      subst e6
      have sm06 := sm05.trans sm6
      refine ⟨true, true, rfl, rfl, _, rfl, ?_⟩
      refine ifNF rfl ?_
      refine ⟨_, rfl, _, rfl, _, rfl, _, rfl, _, rfl, p, wa, W, mo, m, x, y, rfl, hL.mono sm06, hW.mono sm06, hok, hm60, hx, hy, npm, fun word H7 sm7 hw => ?_⟩
      have sm07 := sm06.trans sm7
      have hw' : word = Str.ofString "surely" := by
        rcases hw with ⟨z, _⟩ | ⟨_, z⟩
        · exact z
        · exact absurd hsm z
      subst hw'
      refine ⟨rfl, _, rfl, ?_⟩
      refine ifNF rfl ?_
      refine ⟨_, rfl, rfl, _, rfl, ?_⟩
      refine ite2 (fun _ => q H7 sm07) (fun hg => ?_)
      have hm' : m ≠ 60 := fun z => by subst z; exact hg (decide_eq_true rfl)
      rcases hm1 with z | ⟨npm1, hns1⟩
      · exact absurd z hm'
      refine ⟨_, rfl, _, rfl, _, _, rfl, rfl, _, rfl, _, rfl, wa, W, mo, m + 1, x, y, rfl, hW.mono sm07, hok, by omega, hx, hy, fun H8 sm8 => ⟨fun n => absurd npm1 n, fun _ b8 hb8 => ?_⟩⟩
      have e8 : b8 = false := by
        cases b8 with
        | false => rfl
        | true => exact absurd (hb8.mp rfl) hns1
      subst e8
      have sm08 := sm07.trans sm8
      refine ⟨false, false, rfl, rfl, _, rfl, ?_⟩
      refine ifT rfl ?_
      refine ⟨_, rfl, _, rfl, _, rfl, _, _, rfl, rfl, _, rfl, _, rfl, p, wa, W, mo, m + 1, x, y, rfl, hL.mono sm08, hW.mono sm08, hok, by omega, hx, hy, npm1, fun word H9 sm9 hw => ?_⟩
      refine ⟨by show 2 ≤ sizeLine; decide, fun p7 hp7 => ?_⟩
      have hw' : word = Str.ofString "never" ∨ word = Str.ofString "open" := by
        rcases hw with ⟨_, z⟩ | ⟨z, _⟩
        · exact absurd z hns1
        · exact z
      refine ⟨p7, _, rfl, .inl (SqL.of upd_same), rfl, rfl, ?_⟩
      rw [inV_word hw']
      exact q _ (same_new (sm08.trans sm9) hp7)
end
end My
namespace My
open PySem L2
/-! ### _law_asked -/
def dRow (r : Row) : PyData := .tuple [.int (r.1 : Int), .int (r.2.1 : Int), .int r.2.2]
theorem lay_rows : ∀ R : List Row, PyData.canLayAll0 (R.map dRow) = true
  | [] => by simp [PyData.canLayAll0]
  | r :: R => by simp [PyData.canLayAll0, PyData.canLay0, dRow, lay_rows R]
theorem depth_rows : ∀ R : List Row, PyData.depthAll (R.map dRow) ≤ 1
  | [] => by simp [PyData.depthAll]
  | r :: R => by
    have := depth_rows R
    rw [List.map_cons, PyData.depthAll]
    simp only [dRow, PyData.depth, PyData.depthAll]
    omega
theorem shaped_rows (R : List Row) : SeqAt.shaped (.list (R.map dRow)) = true := by
  unfold SeqAt.shaped
  rw [Bool.and_eq_true]
  refine ⟨by simp only [PyData.canLay0]; exact lay_rows R, decide_eq_true ?_⟩
  simp only [PyData.depth]
  have := depth_rows R
  omega
theorem dp_rows {K : PySem.W.Frag} {H : Hp} : ∀ {vs : List V} {R : List Row}, Paired (RowV K H) vs R → DpAll K H vs (R.map dRow)
  | _, _, .nil => .nil
  | _, _, .cons ⟨a, e, h⟩ t => by
    subst e
    exact .cons (.tup h (.cons (.int _) (.cons (.int _) (.cons (.int _) .nil)))) (dp_rows t)
theorem cell_row {N : Nat} {M : Mat} {s : List Val} (hl : s.length = N) (h : ∀ v, v < N → gv s v = M 0 v) : s = rowM N M 0 := by
  symm
  refine gv_ext (by rw [rowM_len, hl]) fun v hv => ?_
  rw [h v (by omega)]
  unfold gv rowM
  rw [List.getElem?_map, List.getElem?_range (by omega)]
  rfl
def wtR (R : List Row) (k : Nat) : Int := (R[k]?.map fun (r : Row) => r.2.2).getD 0
theorem goC_sum {R : List Row} : ∀ {c : List Nat} {x y : Nat} {w u : Int}, goC R x w c = some (y, u) → u = w + (c.map (wtR R)).sum
  | [], x, y, w, u, h => by
    cases h
    simp
  | k :: c, x, y, w, u, h => by
    have h' : (match R[k]? with | some (p, t, l) => if p = x then goC R t (w + l) c else none | none => none) = some (y, u) := h
    cases e : R[k]? with
    | none => rw [e] at h'; cases h'
    | some r =>
      obtain ⟨p, t, l⟩ := r
      rw [e] at h'
      by_cases q : p = x
      · simp only [q, if_true] at h'
        have h1 := goC_sum h'
        have h2 : wtR R k = l := by unfold wtR; rw [e]; rfl
        rw [List.map_cons, List.sum_cons, h2]
        omega
      · simp only [q, if_false] at h'
        cases h'
theorem goC_mem {R : List Row} : ∀ {c : List Nat} {x y : Nat} {w u : Int}, goC R x w c = some (y, u) → ∀ k ∈ c, k < R.length
  | [], _, _, _, _, _, k, hk => by cases hk
  | k0 :: c, x, y, w, u, h, k, hk => by
    have h' : (match R[k0]? with | some (p, t, l) => if p = x then goC R t (w + l) c else none | none => none) = some (y, u) := h
    cases e : R[k0]? with
    | none => rw [e] at h'; cases h'
    | some r =>
      obtain ⟨p, t, l⟩ := r
      rw [e] at h'
      by_cases q : p = x
      · simp only [q, if_true] at h'
        rcases List.mem_cons.mp hk with rfl | hk
        · exact lt_of_at e
        · exact goC_mem h' k hk
      · simp only [q, if_false] at h'
        cases h'
/-- what ahead shows, in one form -/
theorem AhR.uni {R : List Row} {N x y : Nat} {t : Addr} {H : Hp} (h : AhR R N x y t H) :
    (∃ (word : Str) (u v : Nat) (d a : Int) (l : Addr) (c : List Nat), ((word = Str.ofString "surely" ∧ u = x ∧ v = y ∧ d = 1) ∨ (word = Str.ofString "never" ∧ u = y ∧ v = x ∧ d = 0)) ∧ H t = some (.tup [.str word, .ref l]) ∧ H l = some (.lst (c.map nV)) ∧ goC R u 0 c = some (v, a) ∧ d ≤ a ∧ c.length ≤ N) ∨
    (∃ l1 l2 : Addr, H t = some (.tup [.str "open", .ref l1, .ref l2])) := by
  cases h with
  | sure s L a l c hres hg hge ht hl hgo hcl => exact .inl ⟨_, x, y, 1, a, l, c, .inl ⟨rfl, rfl, rfl, rfl⟩, ht, hl, hgo, hge, by rcases hres.fin with q | q <;> omega⟩
  | never s1 s2 L1 L2 a l c hres1 no1 hres2 hg hge ht hl hgo hcl => exact .inl ⟨_, y, x, 0, a, l, c, .inr ⟨rfl, rfl, rfl, rfl⟩, ht, hl, hgo, hge, by rcases hres2.fin with q | q <;> omega⟩
  | opn s1 s2 s3 s4 L1 L2 L3 L4 l1 l2 hres1 no1 hres2 no2 hres3 hres4 ht hl1 hl2 => exact .inr ⟨l1, l2, ht⟩
def PairV (K : PySem.W.Frag) (H : Hp) (N : Nat) (v : V) (xy : Nat × Nat) : Prop := ∃ a, v = .ref a ∧ SqL K H a [nV xy.1, nV xy.2] ∧ xy.1 < N ∧ xy.2 < N
theorem PairV.mono {K : PySem.W.Frag} {H H' : Hp} {N : Nat} {v : V} {xy : Nat × Nat} (s : Same H H') (h : PairV K H N v xy) : PairV K H' N v xy := let ⟨a, e, h1, h2⟩ := h; ⟨a, e, s.seq h1, h2⟩
section
variable {X : Cx} {K : PySem.W.Frag}
theorem cr_sumK (hK : X.K = K) (hc : X.calm = true) : CallR X (.builtin "sum") (rSum K) := hK ▸ cr_sum hc
end
section
variable {P : Program} {w : World} {K : PySem.W.Frag} {mg : Str → Option Value} {base : Heap}
abbrev s_law_asked : Stmt := top 68
abbrev N_law_asked : List Str := ["log", "world", "far", "pairs", "rows", "moments", "x", "y", "told", "ends", "total", "k"]
theorem sc_law_asked : FnScope N_law_asked ["log", "world", "far", "pairs"] (C8.fnScope s_law_asked) := C8.fnScope_by (by decide +kernel)
def sp_law_asked (K : PySem.W.Frag) (C : Addr) : Sp := fun vs H Q _ => ∃ (p wa fa pa : Addr) (W : Wd) (mo : List Int) (M : Mat) (ps : List V) (xys : List (Nat × Nat)), vs = [.ref p, .ref wa, .ref fa, .ref pa] ∧ LogAt K C H p W ∧ WorldAt K H wa W mo ∧ FarAt K H fa W.size M ∧ Far (rowsOf W) W.size M ∧ W.Ok ∧ SqL K H pa ps ∧ Paired (PairV K H W.size) ps xys ∧
  mo.length = W.size ∧ L2.cellOf mo 0 = 0 ∧ Pot (rowsOf W) (L2.cellOf mo) ∧ ∀ H', Same H H' → Q (.bl true) H'
theorem ok_law_asked {C f : Addr} {fd : FuncData} (F : C8.Def K mg "_law_asked" s_law_asked f fd) (b : Binds K fd ["log", "world", "far", "pairs"] []) (T : Gb mg) (c__law_bounds : C8.Cal P w K mg base 1 "_law_bounds" (sp_law_bounds K) []) (c_bounds : C8.Cal P w K mg base 3 "bounds" (sp_bounds K C) []) (c__law_list : C8.Cal P w K mg base 2 "_law_list" (sp_law_list K) [])
    (c_earliest : C8.Cal P w K mg base 4 "earliest" (sp_earliestN K C) []) (c_fits : C8.Cal P w K mg base 4 "fits" (sp_fits K C) []) (c__law_pair : C8.Cal P w K mg base 8 "_law_pair" (sp_law_verdict K C) []) (c_gap : C8.Cal P w K mg base 6 "gap" (sp_gap K C) []) (c_ahead : C8.Cal P w K mg base 6 "ahead" (sp_ahead K C) [])
    (c_judge_chain : C8.Cal P w K mg base 4 "judge_chain" (sp_judge_chain K C) []) : C8.Cal P w K mg base 9 "_law_asked" (sp_law_asked K C) [] := by
  refine C8.cal0 F b .nil sc_law_asked (fun vs H Q E h => ?_) (fun cdv A outer s H vs Q E hr h => ?_)
  · obtain ⟨p, wa, fa, pa, W, mo, M, ps, xys, rfl, _⟩ := h
    rfl
  · obtain ⟨p, wa, fa, pa, W, mo, M, ps, xys, rfl, hL, hW, hFA, hF, hok, hps, hpp, hml, hm0, hpot, q⟩ := h
    have hlt := rowsOf_lt hok
    have np : NP (rowsOf W) W.size := hpot.np
    have o1 := hok.s1
    have o2 := hok.s2
    have hrl := rowsOf_len hok
    refine ⟨_, (pss_cons (ps_set (i := 4) sc_law_asked.nd rfl (Or.inr rfl) (C8.pe_c c__law_bounds hr (by decide) (by rfl) (pa_cons (pv 1) (pa_cons (pe_ix (ix_listK K rfl) (pv 1) pe_int (fun _ _ => rfl)) pa_nil))))
(pss_cons (ps_set (i := 5) sc_law_asked.nd rfl (Or.inl rfl) (pe_ix (ix_listK K rfl) (pv 1) pe_int (fun _ _ => rfl)))
(C8.pss_cut (ps_if (PW.pt (pw_or (pt_cmpR (op_neD hr.units) (C8.pe_c c_bounds hr (by decide) (by rfl) (pa_cons (pv 0) pa_nil)) (pv 4) (nomark _)) (pw_or (pt_not (pt_val (C8.pe_c c__law_list hr (by decide) (by rfl) (pa_cons (C8.pe_c c_earliest hr (by decide) (by rfl) (pa_cons (pv 0) pa_nil)) (pa_cons (pe_ix (ix_listK K rfl) (pv 2) pe_int (fun _ _ => rfl)) pa_nil))))) (pw_or1 (pt_cmpR op_notBl (C8.pe_c c_fits hr (by decide) (by rfl) (pa_cons (pv 0) (pa_cons (pe_callTy call_list_of (by rfl) T.list (by decide +kernel) (pa_cons (pv 5) pa_nil)) pa_nil))) pe_bl (nomark _))))))
(pss_one (ps_ret pe_bl))
pss_nil)
(pss_cons (ps_for PassesOwn.never rfl (pi_listK K rfl (pv 3)) (pg_unlK rfl (by rfl) (pgs_cons (pg_name (i := 6) sc_law_asked.nd rfl (Or.inl rfl)) (pgs_cons (pg_name (i := 7) sc_law_asked.nd rfl (Or.inl rfl)) pgs_nil)))
(pss_cons (ps_if (pt_not (pt_val (C8.pe_c c__law_pair hr (by decide) (by rfl) (pa_cons (pv 0) (pa_cons (pv 1) (pa_cons (pv 4) (pa_cons (pv 2) (pa_cons (pv 6) (pa_cons (pv 7) pa_nil)))))))))
(pss_one (ps_ret pe_bl))
pss_nil)
(pss_cons (ps_set (i := 8) sc_law_asked.nd rfl (Or.inl rfl) (C8.pe_c c_gap hr (by decide) (by rfl) (pa_cons (pv 0) (pa_cons (pv 6) (pa_cons (pv 7) pa_nil)))))
(C8.pss_cut (ps_if (PW.pt (pw_and (pt_cmpR op_notN (pe_ix (ix_tupK K rfl) (pv 8) pe_int (fun _ _ => rfl)) pe_non (nomark _)) (pw_and1 (pt_cmpR op_gt (pe_ix (ix_tupK K rfl) (pv 8) pe_int (fun _ _ => rfl)) (pe_op op_sub (pe_ix (ix_listK K rfl) (pv 5) (pv 7) (fun _ _ => rfl)) (pe_ix (ix_listK K rfl) (pv 5) (pv 6) (fun _ _ => rfl))) (nomark _)))))
(pss_one (ps_ret pe_bl))
pss_nil)
(C8.pss_cut (ps_if (PW.pt (pw_and (pt_cmpR op_notN (pe_ix (ix_tupK K rfl) (pv 8) pe_int (fun _ _ => rfl)) pe_non (nomark _)) (pw_and1 (pt_cmpR op_lt (pe_ix (ix_tupK K rfl) (pv 8) pe_int (fun _ _ => rfl)) (pe_op op_sub (pe_ix (ix_listK K rfl) (pv 5) (pv 7) (fun _ _ => rfl)) (pe_ix (ix_listK K rfl) (pv 5) (pv 6) (fun _ _ => rfl))) (nomark _)))))
(pss_one (ps_ret pe_bl))
pss_nil)
(pss_cons (ps_set (i := 8) sc_law_asked.nd rfl (Or.inl rfl) (C8.pe_c c_ahead hr (by decide) (by rfl) (pa_cons (pv 0) (pa_cons (pv 6) (pa_cons (pv 7) pa_nil)))))
(C8.pss_cut (ps_if (PW.pt (pw_or (PW.pt (pw_and (pt_cmpR op_eq (pe_ix (ix_tupK K rfl) (pv 8) pe_int (fun _ _ => rfl)) pe_str (nomark _)) (pw_and1 (pt_cmpR op_ge (pe_ix (ix_listK K rfl) (pv 5) (pv 6) (fun _ _ => rfl)) (pe_ix (ix_listK K rfl) (pv 5) (pv 7) (fun _ _ => rfl)) (nomark _))))) (pw_or1 (PW.pt (pw_and (pt_cmpR op_eq (pe_ix (ix_tupK K rfl) (pv 8) pe_int (fun _ _ => rfl)) pe_str (nomark _)) (pw_and1 (pt_cmpR op_lt (pe_ix (ix_listK K rfl) (pv 5) (pv 6) (fun _ _ => rfl)) (pe_ix (ix_listK K rfl) (pv 5) (pv 7) (fun _ _ => rfl)) (nomark _))))))))
(pss_one (ps_ret pe_bl))
pss_nil)
(pss_one (ps_if (pt_cmpR op_ne (pe_ix (ix_tupK K rfl) (pv 8) pe_int (fun _ _ => rfl)) pe_str (nomark _))
(C8.pss_cut (ps_set (i := 9) sc_law_asked.nd rfl (Or.inl rfl) (pe_ifExp (pt_cmpR op_eq (pe_ix (ix_tupK K rfl) (pv 8) pe_int (fun _ _ => rfl)) pe_str (nomark _)) (pe_lst (pa_cons (pv 6) (pa_cons (pv 7) (pa_cons pe_int pa_nil)))) (pe_lst (pa_cons (pv 7) (pa_cons (pv 6) (pa_cons pe_int pa_nil))))))
(pss_cons (ps_if (pt_cmpR op_notBl (C8.pe_c c_judge_chain hr (by decide) (by rfl) (pa_cons (pv 0) (pa_cons (pe_ix (ix_listK K rfl) (pv 9) pe_int (fun _ _ => rfl)) (pa_cons (pe_ix (ix_listK K rfl) (pv 9) pe_int (fun _ _ => rfl)) (pa_cons (pe_ix (ix_listK K rfl) (pv 9) pe_int (fun _ _ => rfl)) (pa_cons (pe_callTy call_list_of (by rfl) T.list (by decide +kernel) (pa_cons (pe_ix (ix_tupK K rfl) (pv 8) pe_int (fun _ _ => rfl)) pa_nil)) pa_nil)))))) pe_bl (nomark _))
(pss_one (ps_ret pe_bl))
pss_nil)
(pss_cons (ps_set (i := 10) sc_law_asked.nd rfl (Or.inl rfl) (pe_callB (cr_sumK (K := K) rfl rfl) (by rfl) T.sum (by decide +kernel) (pa_cons (pe_lc (own := [("k", 11)]) rfl sc_law_asked.nd (pi_listK K rfl (pe_ix (ix_tupK K rfl) (pv 8) pe_int (fun _ _ => rfl))) (blkOk_by (N := N_law_asked) (sc := C8.fnScope s_law_asked) (by decide +kernel)) (fun _ _ _ _ _ => (pg_name (i := 11) sc_law_asked.nd rfl (Or.inl rfl))) (fun _ _ _ _ _ => pts_nil) (fun _ _ _ _ _ => (pe_ix (ix_tupK K rfl) (pe_ix (ix_listK K rfl) (pv 4) (pv 11) (fun _ _ => rfl)) pe_int (fun _ _ => rfl)))) pa_nil)))
(pss_one (ps_if (pt_cmpR op_notBl (C8.pe_c c_judge_chain hr (by decide) (by rfl) (pa_cons (pv 0) (pa_cons (pe_ix (ix_listK K rfl) (pv 9) pe_int (fun _ _ => rfl)) (pa_cons (pe_ix (ix_listK K rfl) (pv 9) pe_int (fun _ _ => rfl)) (pa_cons (pe_op op_add (pv 10) pe_int) (pa_cons (pe_ix (ix_tupK K rfl) (pv 8) pe_int (fun _ _ => rfl)) pa_nil)))))) pe_bl (nomark _))
(pss_one (ps_ret pe_bl))
pss_nil)))))
pss_nil)))))))))
(pss_one (ps_ret pe_bl)))))), ?_⟩
    obtain ⟨ea, ma, es, hA, hE, hP, hM⟩ := id hW
    have holds : (rowsOf W).all (holdsR mo) = true := by
      rw [List.all_eq_true]
      intro r hr
      have := hpot r.1 r.2.1 r.2.2 hr
      exact decide_eq_true (by omega)
    refine ⟨_, rfl, _, rfl, wa, _, 4, nV W.late, rfl, rfl, hA, rfl, wa, W, mo, W.late, rfl, hW, hok, fun l rs H1 sm1 hl0 hl hrs => ?_⟩
    have hrs' : Paired (RowV K H1) rs (rowsOf W) := hrs
    refine ⟨_, rfl, wa, _, 5, .ref ma, rfl, rfl, sm1.seq hA, rfl, ?_⟩
    refine ⟨fun σ' H' => Same H1 H' ∧ σ' = [some (.ref p), some (.ref wa), some (.ref fa), some (.ref pa), some (.ref l), some (.ref ma), none, none, none, none, none, none], ?_, ?_⟩
    · refine ⟨_, rfl, p, W, rfl, hL.mono sm1, hok, fun l2 rs2 H2 sm2 _ hl2 hrs2 => ?_⟩
      refine ⟨_, rfl, .list ((rowsOf W).map dRow), .list ((rowsOf W).map dRow), .lst (SqL.of hl2) (dp_rows hrs2), .lst (SqL.of (sm2 _ _ hl)) (dp_rows (L2.Paired.mapP hrs' fun _ _ => RowV.mono sm2)), shaped_rows _, shaped_rows _, _, rfl, ?_⟩
      rw [SeqAt.eqv_refl _ (by simp only [PyData.canLay0]; exact lay_rows _)]
      refine iteF ?_
      have sm12 := sm1.trans sm2
      refine ⟨_, rfl, p, W, rfl, hL.mono sm12, hok, np, fun l3 s L H3 sm3 _ hl3 hres => ?_⟩
      have sm13 := sm12.trans sm3
      have es0 : s = rowM W.size M 0 := cell_row hres.run.len fun v hv => hres.far (by omega) hlt hF np hv
      subst es0
      obtain ⟨vs0, b0, g1, g2, g3, g4⟩ := (hFA.mono sm13).at (i := 0) (by omega)
      refine ⟨_, rfl, fa, _, 0, .ref b0, rfl, rfl, g1, atI_nat (j := 0) g3, l3, b0, _, rfl, hl3, g4, by rw [rowM_len]; omega, true, rfl, ?_⟩
      refine iteF ?_
      refine ⟨_, rfl, _, rfl, ma, _, rfl, .inl (sm13.seq hM), fun l4 hl4 => ?_⟩
      have sm4 := same_new (o := .lst (mo.map V.int)) sm13 hl4
      refine ⟨p, l4, W, mo, rfl, hL.mono sm4, hok, SqL.of upd_same, hml, hm0, fun H5 sm5 => ?_⟩
      refine ⟨_, true, rfl, rfl, _, rfl, ?_⟩
      rw [holds]
      refine ifNF rfl ?_
      exact ⟨(sm2.trans sm3).trans ((same_new (Same.refl H3) hl4).trans sm5), rfl⟩
    rintro σ1 HB ⟨smB, rfl⟩
    have smHB := sm1.trans smB
    have hAsk : AskAt K C HB p wa l fa W mo M := ⟨hL.mono smHB, hW.mono smHB, ⟨rs, SqL.of (smB _ _ hl), L2.Paired.mapP hrs' fun _ _ => RowV.mono smB⟩, hFA.mono smHB⟩
    have hlB := smB _ _ hl
    have hrsB : Paired (RowV K HB) rs (rowsOf W) := L2.Paired.mapP hrs' fun _ _ => RowV.mono smB
    have hMB := smHB.seq hM
    refine ⟨_, rfl, pa, rfl, ⟨ps, smHB.seq hps⟩, for_it (walk_list (xs := ps)) (fun i σ H' => Same HB H' ∧ ∃ v6 v7 v8 v9 v10, σ = [some (.ref p), some (.ref wa), some (.ref fa), some (.ref pa), some (.ref l), some (.ref ma), v6, v7, v8, v9, v10, none])
      ⟨Same.refl HB, _, _, _, _, _, rfl⟩ (fun i σ H' _ h => (smHB.trans h.1).seq hps) ?_ ?_⟩
    · rintro i v σ H2 H2' hi ⟨sm2, v6, v7, v8, v9, v10, rfl⟩ ⟨rfl, hx0⟩
      obtain ⟨⟨x, y⟩, _, hpv⟩ := paired_at hpp hx0
      obtain ⟨xa, rfl, hxa, hx, hy⟩ := hpv.mono (smHB.trans sm2)
      have hx : x < W.size := hx
      have hy : y < W.size := hy
      refine ⟨xa, _, rfl, hxa, rfl, _, _, rfl, _, _, rfl, rfl, ?_⟩
      have hAsk2 := hAsk.mono sm2
      refine ⟨_, rfl, _, rfl, _, rfl, _, rfl, _, rfl, _, rfl, p, wa, l, fa, W, mo, M, x, y, rfl, hAsk2, hok, hF, np, hx, hy, fun H3 sm3 => ⟨true, rfl, ?_⟩⟩
      refine iteF ?_
      have sm23 := sm2.trans sm3
      refine ⟨_, rfl, _, rfl, _, rfl, p, W, x, y, rfl, (hAsk.mono sm23).log, hok, np, hx, hy, fun t s1 s2 La Lb H4 sm4 hres1 hres2 ht => ?_⟩
      have hxy : gv s1 y = M x y := hres1.far hx hlt hF np hy
      have hyx : gv s2 x = M y x := hres2.far hy hlt hF np hx
      rw [hxy, hyx] at ht
      have sm24 := sm23.trans sm4
      have hM4 := sm24.seq hMB
      have cm : ∀ {H' : Hp} {k : Nat}, k < W.size → atI (mo.map V.int) ((k : Nat) : Int) = some (V.int (L2.cellOf mo k)) := fun {H' k} hk => atI_cell (by rw [hml]; exact hk)
      have walkLe : ∀ {u v : Nat} {a : Int}, u < W.size → v < W.size → M u v = some a → L2.cellOf mo u + a ≤ L2.cellOf mo v := fun {u v a} hu hv ha => by
        obtain ⟨n, hw⟩ := hF.snd u v a hu hv ha
        exact hpot.walk hw
      refine ⟨fun σ' H' => H' = H4 ∧ σ' = [some (.ref p), some (.ref wa), some (.ref fa), some (.ref pa), some (.ref l), some (.ref ma), some (nV x), some (nV y), some (.ref t), v9, v10, none], ?_, ?_⟩
      · refine ⟨_, rfl, t, _, 0, oV (M x y), rfl, rfl, SqT.of ht, rfl, rfl, _, rfl, ?_⟩
        cases hm : M x y with
        | none =>
          refine iteF ?_
          refine iteF ?_
          exact ⟨rfl, rfl⟩
        | some a =>
          have := walkLe hx hy hm
          rw [hm] at ht
          refine iteT ?_
          refine ⟨_, rfl, t, _, 0, .int a, rfl, rfl, SqT.of ht, rfl, _, rfl, _, rfl, ma, _, _, .int (L2.cellOf mo y), rfl, rfl, hM4, cm (H' := H4) hy, _, rfl, _, rfl, ma, _, _, .int (L2.cellOf mo x), rfl, rfl, hM4, cm (H' := H4) hx, _, _, rfl, rfl, _, _, rfl, rfl, _, rfl, ?_⟩
          refine ifF (by omega) ?_
          exact ⟨rfl, rfl⟩
      rintro σ5 H5 ⟨rfl, rfl⟩
      refine ⟨fun σ' H' => H' = H5 ∧ σ' = [some (.ref p), some (.ref wa), some (.ref fa), some (.ref pa), some (.ref l), some (.ref ma), some (nV x), some (nV y), some (.ref t), v9, v10, none], ?_, ?_⟩
      · refine ⟨_, rfl, t, _, 1, oV ((M y x).map fun a => -a), rfl, rfl, SqT.of ht, rfl, rfl, _, rfl, ?_⟩
        cases hm : M y x with
        | none =>
          refine iteF ?_
          refine iteF ?_
          exact ⟨rfl, rfl⟩
        | some a =>
          have := walkLe hy hx hm
          rw [hm] at ht
          refine iteT ?_
          refine ⟨_, rfl, t, _, 1, .int (-a), rfl, rfl, SqT.of ht, rfl, _, rfl, _, rfl, ma, _, _, .int (L2.cellOf mo y), rfl, rfl, hM4, cm (H' := H5) hy, _, rfl, _, rfl, ma, _, _, .int (L2.cellOf mo x), rfl, rfl, hM4, cm (H' := H5) hx, _, _, rfl, rfl, _, _, rfl, rfl, _, rfl, ?_⟩
          refine ifF (by omega) ?_
          exact ⟨rfl, rfl⟩
      rintro σ6 H6 ⟨rfl, rfl⟩
      refine ⟨_, rfl, _, rfl, _, rfl, p, W, x, y, rfl, (hAsk.mono sm24).log, hok, np, hx, hy, fun t2 H7 sm7 ha => ?_⟩
      have sm27 := sm24.trans sm7
      have hM7 := sm27.seq hMB
      have hu := ha.uni
      refine ⟨fun σ' H' => H' = H7 ∧ σ' = [some (.ref p), some (.ref wa), some (.ref fa), some (.ref pa), some (.ref l), some (.ref ma), some (nV x), some (nV y), some (.ref t2), v9, v10, none], ?_, ?_⟩
      · rcases hu with ⟨word, u, v, d, a, lc, c, hw, ht2, hlc, hgo, hda, hcl⟩ | ⟨l1, l2, ht2⟩
        · have hpw := hpot.walk (goC_walk hgo)
          rcases hw with ⟨rfl, rfl, rfl, rfl⟩ | ⟨rfl, rfl, rfl, rfl⟩
          · refine ⟨_, rfl, t2, _, 0, .str "surely", rfl, rfl, SqT.of ht2, rfl, rfl, _, rfl, ?_⟩
            refine ifT rfl ?_
            refine ⟨_, rfl, _, rfl, ma, _, _, .int (L2.cellOf mo u), rfl, rfl, hM7, cm (H' := H7) hx, _, rfl, _, rfl, ma, _, _, .int (L2.cellOf mo v), rfl, rfl, hM7, cm (H' := H7) hy, _, _, rfl, rfl, _, rfl, ?_⟩
            refine ifF (by omega) ?_
            refine ⟨_, rfl, t2, _, 0, .str "surely", rfl, rfl, SqT.of ht2, rfl, rfl, _, rfl, ?_⟩
            refine ifF (by intro z; exact absurd (V.str.inj z) (show ¬ (Str.ofString "surely" = Str.ofString "never") by decide +kernel)) ?_
            refine iteF ?_
            exact ⟨rfl, rfl⟩
          · refine ⟨_, rfl, t2, _, 0, .str "never", rfl, rfl, SqT.of ht2, rfl, rfl, _, rfl, ?_⟩
            refine ifF (by intro z; exact absurd (V.str.inj z) (show ¬ (Str.ofString "never" = Str.ofString "surely") by decide +kernel)) ?_
            refine iteF ?_
            refine ⟨_, rfl, t2, _, 0, .str "never", rfl, rfl, SqT.of ht2, rfl, rfl, _, rfl, ?_⟩
            refine ifT rfl ?_
            refine ⟨_, rfl, _, rfl, ma, _, _, .int (L2.cellOf mo v), rfl, rfl, hM7, cm (H' := H7) hx, _, rfl, _, rfl, ma, _, _, .int (L2.cellOf mo u), rfl, rfl, hM7, cm (H' := H7) hy, _, _, rfl, rfl, _, rfl, ?_⟩
            refine ifF (by omega) ?_
            exact ⟨rfl, rfl⟩
        · refine ⟨_, rfl, t2, _, 0, .str "open", rfl, rfl, SqT.of ht2, rfl, rfl, _, rfl, ?_⟩
          refine ifF (by intro z; exact absurd (V.str.inj z) (show ¬ (Str.ofString "open" = Str.ofString "surely") by decide +kernel)) ?_
          refine iteF ?_
          refine ⟨_, rfl, t2, _, 0, .str "open", rfl, rfl, SqT.of ht2, rfl, rfl, _, rfl, ?_⟩
          refine ifF (by intro z; exact absurd (V.str.inj z) (show ¬ (Str.ofString "open" = Str.ofString "never") by decide +kernel)) ?_
          refine iteF ?_
          exact ⟨rfl, rfl⟩
      rintro σ8 H8 ⟨rfl, rfl⟩
      rcases hu with ⟨word, u, v, d, a, lc, c, hw, ht2, hlc, hgo, hda, hcl⟩ | ⟨l1, l2, ht2⟩
      · refine ⟨_, rfl, t2, _, 0, .str word, rfl, rfl, SqT.of ht2, rfl, rfl, _, rfl, ?_⟩
        have hno : ¬ V.str word = V.str (Str.ofString "open") := fun z => by
          have z2 := V.str.inj z
          rcases hw with ⟨rfl, _⟩ | ⟨rfl, _⟩
          · exact absurd z2 (by decide +kernel)
          · exact absurd z2 (by decide +kernel)
        refine ifNT hno ?_
        have huv : u < W.size ∧ v < W.size := by rcases hw with ⟨_, rfl, rfl, _⟩ | ⟨_, rfl, rfl, _⟩ <;> exact ⟨by assumption, by assumption⟩
        obtain ⟨hu1, hv1⟩ := huv
        refine ⟨fun σ' H' => ∃ e9, Same H8 H' ∧ H' e9 = some (.lst [nV u, nV v, .int d]) ∧ σ' = [some (.ref p), some (.ref wa), some (.ref fa), some (.ref pa), some (.ref l), some (.ref ma), some (nV x), some (nV y), some (.ref t2), some (.ref e9), v10, none], ?_, ?_⟩
        · rcases hw with ⟨rfl, rfl, rfl, rfl⟩ | ⟨rfl, rfl, rfl, rfl⟩
          · refine ⟨_, rfl, t2, _, 0, .str "surely", rfl, rfl, SqT.of ht2, rfl, rfl, _, rfl, ?_⟩
            refine ifT rfl ?_
            refine ⟨_, rfl, _, rfl, by show 3 ≤ sizeLine; decide, fun e9 he9 => ?_⟩
            exact ⟨e9, same_new (Same.refl _) he9, upd_same, rfl⟩
          · refine ⟨_, rfl, t2, _, 0, .str "never", rfl, rfl, SqT.of ht2, rfl, rfl, _, rfl, ?_⟩
            refine ifF (by intro z; exact absurd (V.str.inj z) (show ¬ (Str.ofString "never" = Str.ofString "surely") by decide +kernel)) ?_
            refine ⟨_, rfl, _, rfl, by show 3 ≤ sizeLine; decide, fun e9 he9 => ?_⟩
            exact ⟨e9, same_new (Same.refl _) he9, upd_same, rfl⟩
        rintro σ9 H9 ⟨e9, sm9, he9, rfl⟩
        have sm29 := sm27.trans sm9
        have ht9 := sm9 _ _ ht2
        have hlc9 := sm9 _ _ hlc
        refine ⟨_, rfl, _, rfl, e9, _, 0, nV u, rfl, rfl, SqL.of he9, rfl, _, rfl, e9, _, 1, nV v, rfl, rfl, SqL.of he9, rfl, _, rfl, e9, _, 2, .int d, rfl, rfl, SqL.of he9, rfl, _, rfl, t2, _, 1, .ref lc, rfl, rfl, SqT.of ht9, rfl, lc, _, rfl, .inl (SqL.of hlc9), fun l10 hl10 => ?_⟩
        have smA := same_new (o := .lst (c.map nV)) (Same.refl H9) hl10
        refine ⟨p, l10, W, u, v, v, d, a, c, rfl, (hAsk.mono (sm29.trans smA)).log, hok, hu1, hv1, SqL.of upd_same, hgo, fun H11 sm11 => ?_⟩
        refine ⟨_, true, rfl, rfl, _, rfl, ?_⟩
        rw [decide_eq_true (rfl : v = v), decide_eq_true hda, Bool.and_self]
        refine ifNF rfl ?_
        have smC := smA.trans sm11
        have ht11 := smC _ _ ht9
        have hlc11 := smC _ _ hlc9
        have he11 := smC _ _ he9
        have smT := sm29.trans smC
        have hl11 := smT _ _ hlB
        have hrs11 : Paired (RowV K H11) rs (rowsOf W) := L2.Paired.mapP hrsB fun _ _ => RowV.mono smT
        have hmem := goC_mem hgo
        refine ⟨_, rfl, t2, _, 1, .ref lc, rfl, rfl, SqT.of ht11, rfl, lc, rfl, ⟨_, SqL.of hlc11⟩, fun D hD => lc_it (walk_list (xs := c.map nV)) (fun j H' => Same H11 H' ∧ H' D = some (.lst (((c.take j).map (wtR (rowsOf W))).map V.int)))
          ⟨same_new (Same.refl _) hD, upd_same⟩ (fun j H' _ h => SqL.of (h.1 _ _ hlc11)) ?_ ?_⟩
        · rintro j z H12 H12' hj ⟨sm12, hD12⟩ ⟨rfl, hz⟩
          obtain ⟨k, hk, rfl⟩ := at_map hz
          obtain ⟨r, hr1⟩ := at_ex (hmem k (List.mem_of_getElem? hk))
          obtain ⟨rv, hrv, ra, rfl, hra⟩ := paired_at2 hrs11 hr1
          refine ⟨rfl, yes_go ?_⟩
          refine ⟨_, rfl, _, rfl, l, _, _, .ref ra, rfl, rfl, SqL.of (sm12 _ _ hl11), atI_nat hrv, ra, _, 2, .int r.2.2, rfl, rfl, Same.tup sm12 hra, rfl, ?_⟩
          have hjl := List.length_take_le j c
          refine ⟨_, hD12, size_lt (by rw [List.length_map, List.length_map]; have := List.length_take (i := j) (l := c); omega), same_mut sm12 hD, ?_⟩
          rw [upd_same, take_snoc hk, List.map_append, List.map_append]
          have : wtR (rowsOf W) k = r.2.2 := by unfold wtR; rw [hr1]; rfl
          rw [List.map_cons, List.map_nil, this]
          rfl
        · rintro H12 ⟨sm12, hD12⟩
          rw [List.length_map, List.take_length] at hD12
          refine ⟨D, c.map (wtR (rowsOf W)), rfl, SqL.of hD12, ?_⟩
          have hsum := goC_sum hgo
          rw [Int.zero_add] at hsum
          rw [← hsum]
          have he12 := sm12 _ _ he11
          have ht12 := sm12 _ _ ht11
          have hlc12 := sm12 _ _ hlc11
          have smU := smT.trans sm12
          refine ⟨_, rfl, _, rfl, e9, _, 0, nV u, rfl, rfl, SqL.of he12, rfl, _, rfl, e9, _, 1, nV v, rfl, rfl, SqL.of he12, rfl, _, rfl, _, _, rfl, rfl, _, rfl, t2, _, 1, .ref lc, rfl, rfl, SqT.of ht12, rfl, ?_⟩
          refine ⟨p, lc, W, u, v, v, a + 1, a, c, rfl, (hAsk.mono smU).log, hok, hu1, hv1, SqL.of hlc12, hgo, fun H13 sm13 => ?_⟩
          refine ⟨_, false, rfl, rfl, _, rfl, ?_⟩
          rw [decide_eq_true (rfl : v = v), decide_eq_false (show ¬ a + 1 ≤ a by omega), Bool.true_and]
          refine ifNF rfl ?_
          exact ⟨smU.trans sm13, _, _, _, _, _, rfl⟩
      · refine ⟨_, rfl, t2, _, 0, .str "open", rfl, rfl, SqT.of ht2, rfl, rfl, _, rfl, ?_⟩
        refine ifNF rfl ?_
        exact ⟨sm27, _, _, _, _, _, rfl⟩
    · rintro σ H2 ⟨sm2, v6, v7, v8, v9, v10, rfl⟩
      exact q H2 (smHB.trans sm2)
end
end My
namespace My
open PySem L2
/-! ### _law_entry -/
theorem shown_ok {fast slow : Nat} {x r : Int} (h1 : 1 ≤ slow) (h2 : slow ≤ fast) (hx : 0 ≤ x) {low high : Int} (hl : low = (slow * x + fast - 1) / fast) (hh : high = fast * x / slow) (hr0 : 0 ≤ r) (hr : r < high - low + 1) :
    0 ≤ low + r ∧ low + r ≤ fast * x ∧ ceilD ((low + r) * slow) fast ≤ x ∧ x ≤ ((low + r) * fast) / slow := by
  have hf : (0 : Int) < fast := by omega
  have hs : (0 : Int) < slow := by omega
  rw [ceilD_eq hf] at hl
  have e1 : low + r ≤ high := by omega
  have k1 : (low + r) * slow ≤ fast * x := (Int.le_ediv_iff_mul_le hs).mp (by rw [← hh]; exact e1)
  have k2 : (slow : Int) * x ≤ (low + r) * fast := (ceilD_le hf).mp (by rw [← hl]; omega)
  have k3 : 0 ≤ (slow : Int) * x := Int.mul_nonneg (by omega) hx
  have hlow : 0 ≤ low := by
    have h3 : ¬ low ≤ -1 := fun z => by
      rw [hl] at z
      have := (ceilD_le hf).mp z
      have : (-1 : Int) * fast < 0 := by omega
      omega
    omega
  refine ⟨by omega, ?_, ?_, ?_⟩
  · have h3 : (low + r) * 1 ≤ (low + r) * slow := Int.mul_le_mul_of_nonneg_left (by omega) (by omega)
    omega
  · refine (ceilD_le hf).mpr ?_
    rw [Int.mul_comm x]
    exact k1
  · refine (Int.le_ediv_iff_mul_le hs).mpr ?_
    rw [Int.mul_comm x]
    exact k2
theorem shown_room {fast slow : Nat} {x : Int} (h1 : 1 ≤ slow) (h2 : slow ≤ fast) (hx : 0 ≤ x) : 0 < (fast : Int) * x / slow - (slow * x + fast - 1) / fast + 1 := by
  have hf : (0 : Int) < fast := by omega
  have hs : (0 : Int) < slow := by omega
  rw [ceilD_eq hf]
  have e : (slow : Int) * x ≤ fast * x := Int.mul_le_mul_of_nonneg_right (by omega) hx
  have a : ceilD (slow * x) fast ≤ x := (ceilD_le hf).mpr (by rw [Int.mul_comm x]; exact e)
  have b : x ≤ (fast : Int) * x / slow := (Int.le_ediv_iff_mul_le hs).mpr (by rw [Int.mul_comm x]; exact e)
  omega
/-- the run's moments -/
structure MoOk (mo : List Int) (fast : Nat) : Prop where
  n1 : 1 ≤ mo.length
  n2 : mo.length ≤ 12
  z : L2.cellOf mo 0 = 0
  up : ∀ i j, i ≤ j → j < mo.length → L2.cellOf mo i ≤ L2.cellOf mo j
  b : ∃ B : Int, (∀ k, k < mo.length → L2.cellOf mo k ≤ B) ∧ B + 60 ≤ 10 ^ 30 ∧ (fast : Int) * B ≤ 10 ^ 30
section
variable {P : Program} {w : World} {K : PySem.W.Frag} {mg : Str → Option Value} {base : Heap}
abbrev s_law_entry : Stmt := top 66
abbrev N_law_entry : List Str := ["p", "moments", "rates", "slack", "i", "j", "x", "low", "high"]
theorem sc_law_entry : FnScope N_law_entry ["p", "moments", "rates", "slack"] (C8.fnScope s_law_entry) := C8.fnScope_by (by decide +kernel)
def sp_law_entry (K : PySem.W.Frag) : Sp := fun vs H Q _ => ∃ (pa ma ra : Addr) (p0 p1 p2 p3 fast slow slack : Nat) (mo : List Int), vs = [.ref pa, .ref ma, .ref ra, nV slack] ∧ SqL K H pa [nV p0, nV p1, nV p2, nV p3] ∧ SqL K H ma (mo.map V.int) ∧ SqL K H ra [nV fast, nV slow] ∧ MoOk mo fast ∧ 1 ≤ slow ∧ slow ≤ fast ∧ fast ≤ 1000 ∧ slack ≤ 60 ∧
  ∀ (t : Addr) (e : Ent) H', Same H H' → H t = none → H' t = some (.tup e.vs) → e.Ok mo.length → (∀ r ∈ entRows fast slow slack e, L2.cellOf mo r.1 + r.2.2 ≤ L2.cellOf mo r.2.1) → Q (.ref t) H'
theorem ok_law_entry {f : Addr} {fd : FuncData} (F : C8.Def K mg "_law_entry" s_law_entry f fd) (b : Binds K fd ["p", "moments", "rates", "slack"] []) (T : Gb mg) : C8.Cal P w K mg base 1 "_law_entry" (sp_law_entry K) [] := by
  refine C8.cal0 F b .nil sc_law_entry (fun vs H Q E h => ?_) (fun cdv A outer s H vs Q E hr h => ?_)
  · obtain ⟨pa, ma, ra, p0, p1, p2, p3, fast, slow, slack, mo, rfl, _⟩ := h
    rfl
  · obtain ⟨pa, ma, ra, p0, p1, p2, p3, fast, slow, slack, mo, rfl, hP, hM, hR, hmo, h1, h2, h3, h4, q⟩ := h
    obtain ⟨n1, n2, hz, hup, B, hB, hB1, hB2⟩ := id hmo
    refine ⟨_, (pss_cons (ps_set (i := 4) sc_law_entry.nd rfl (Or.inl rfl) (pe_op op_mod (pe_callTy call_int1 (by rfl) T.int (by decide +kernel) (pa_cons (pe_ix (ix_listK K rfl) (pv 0) pe_int (fun _ _ => rfl)) pa_nil)) (pe_callB (call_lenK K rfl) (by rfl) T.len PySem.boot_len (pa_cons (pv 1) pa_nil))))
(pss_cons (ps_set (i := 5) sc_law_entry.nd rfl (Or.inl rfl) (pe_op op_mod (pe_callTy call_int1 (by rfl) T.int (by decide +kernel) (pa_cons (pe_ix (ix_listK K rfl) (pv 0) pe_int (fun _ _ => rfl)) pa_nil)) (pe_callB (call_lenK K rfl) (by rfl) T.len PySem.boot_len (pa_cons (pv 1) pa_nil))))
(C8.pss_cut (ps_if (pt_cmpR op_eq (pe_op op_mod (pe_op op_fdiv (pe_callTy call_int1 (by rfl) T.int (by decide +kernel) (pa_cons (pe_ix (ix_listK K rfl) (pv 0) pe_int (fun _ _ => rfl)) pa_nil)) pe_int) pe_int) pe_int (nomark _))
(pss_one (ps_set (i := 5) sc_law_entry.nd rfl (Or.inl rfl) (pe_callB (call_min2 rfl) (by rfl) T.min (by decide +kernel) (pa_cons (pe_op op_add (pv 4) pe_int) (pa_cons (pe_op op_sub (pe_callB (call_lenK K rfl) (by rfl) T.len PySem.boot_len (pa_cons (pv 1) pa_nil)) pe_int) pa_nil)))))
pss_nil)
(C8.pss_cut (ps_if (pt_cmpR op_lt (pv 5) (pv 4) (nomark _))
(pss_cons (ps_set (i := 4) sc_law_entry.nd rfl (Or.inl rfl) (pe_op op_mod (pe_callTy call_int1 (by rfl) T.int (by decide +kernel) (pa_cons (pe_ix (ix_listK K rfl) (pv 0) pe_int (fun _ _ => rfl)) pa_nil)) (pe_callB (call_lenK K rfl) (by rfl) T.len PySem.boot_len (pa_cons (pv 1) pa_nil))))
(pss_one (ps_set (i := 5) sc_law_entry.nd rfl (Or.inl rfl) (pe_op op_mod (pe_callTy call_int1 (by rfl) T.int (by decide +kernel) (pa_cons (pe_ix (ix_listK K rfl) (pv 0) pe_int (fun _ _ => rfl)) pa_nil)) (pe_callB (call_lenK K rfl) (by rfl) T.len PySem.boot_len (pa_cons (pv 1) pa_nil))))))
pss_nil)
(pss_cons (ps_set (i := 6) sc_law_entry.nd rfl (Or.inl rfl) (pe_op op_sub (pe_ix (ix_listK K rfl) (pv 1) (pv 5) (fun _ _ => rfl)) (pe_ix (ix_listK K rfl) (pv 1) (pv 4) (fun _ _ => rfl))))
(pss_cons (ps_if (pt_cmpR op_eq (pe_op op_mod (pe_callTy call_int1 (by rfl) T.int (by decide +kernel) (pa_cons (pe_ix (ix_listK K rfl) (pv 0) pe_int (fun _ _ => rfl)) pa_nil)) pe_int) pe_int (nomark _))
(pss_one (ps_ret (pe_tup (pa_cons pe_str (pa_cons (pv 4) (pa_cons (pe_op op_add (pe_ix (ix_listK K rfl) (pv 1) (pv 4) (fun _ _ => rfl)) (pe_op op_mod (pe_callTy call_int1 (by rfl) T.int (by decide +kernel) (pa_cons (pe_ix (ix_listK K rfl) (pv 0) pe_int (fun _ _ => rfl)) pa_nil)) (pe_op op_add (pv 3) pe_int))) pa_nil))))))
pss_nil)
(pss_cons (ps_if (pt_cmpR op_eq (pe_op op_mod (pe_callTy call_int1 (by rfl) T.int (by decide +kernel) (pa_cons (pe_ix (ix_listK K rfl) (pv 0) pe_int (fun _ _ => rfl)) pa_nil)) pe_int) pe_int (nomark _))
(pss_one (ps_ret (pe_tup (pa_cons pe_str (pa_cons (pv 4) (pa_cons (pv 5) (pa_cons (pe_callB (call_max2 rfl) (by rfl) T.max (by decide +kernel) (pa_cons pe_int (pa_cons (pe_op op_sub (pv 6) (pe_op op_mod (pe_callTy call_int1 (by rfl) T.int (by decide +kernel) (pa_cons (pe_ix (ix_listK K rfl) (pv 0) pe_int (fun _ _ => rfl)) pa_nil)) pe_int)) pa_nil))) pa_nil)))))))
pss_nil)
(pss_cons (ps_set (i := 7) sc_law_entry.nd rfl (Or.inl rfl) (pe_op op_fdiv (pe_op op_sub (pe_op op_add (pe_op op_mul (pe_ix (ix_listK K rfl) (pv 2) pe_int (fun _ _ => rfl)) (pv 6)) (pe_ix (ix_listK K rfl) (pv 2) pe_int (fun _ _ => rfl))) pe_int) (pe_ix (ix_listK K rfl) (pv 2) pe_int (fun _ _ => rfl))))
(pss_cons (ps_set (i := 8) sc_law_entry.nd rfl (Or.inl rfl) (pe_op op_fdiv (pe_op op_mul (pe_ix (ix_listK K rfl) (pv 2) pe_int (fun _ _ => rfl)) (pv 6)) (pe_ix (ix_listK K rfl) (pv 2) pe_int (fun _ _ => rfl))))
(pss_one (ps_ret (pe_tup (pa_cons pe_str (pa_cons (pv 4) (pa_cons (pv 5) (pa_cons (pe_op op_add (pv 7) (pe_op op_mod (pe_callTy call_int1 (by rfl) T.int (by decide +kernel) (pa_cons (pe_ix (ix_listK K rfl) (pv 0) pe_int (fun _ _ => rfl)) pa_nil)) (pe_op op_add (pe_op op_sub (pv 8) (pv 7)) pe_int))) pa_nil)))))))))))))))), ?_⟩
    have hlen : (mo.map V.int).length = mo.length := List.length_map _
    have md : ∀ n : Nat, n % mo.length < mo.length := fun n => Nat.mod_lt _ (by omega)
    have cell : ∀ {k : Nat}, k < mo.length → atI (mo.map V.int) ((k : Nat) : Int) = some (V.int (L2.cellOf mo k)) := fun {k} hk => atI_cell hk
    refine ⟨_, rfl, pa, _, 0, nV p0, rfl, rfl, hP, rfl, .inl ⟨_, rfl, _, rfl, ma, _, rfl, .inl hM, _, _, rfl, rfl, by rw [hlen]; show (0 : Int) < (mo.length : Int); omega, ?_⟩⟩
    refine ⟨_, rfl, pa, _, 1, nV p1, rfl, rfl, hP, rfl, .inl ⟨_, rfl, _, rfl, ma, _, rfl, .inl hM, _, _, rfl, rfl, by rw [hlen]; show (0 : Int) < (mo.length : Int); omega, ?_⟩⟩
    refine ⟨fun σ' H' => H' = H ∧ ∃ j : Nat, j < mo.length ∧ (p0 % mo.length ≤ j ∨ j = p1 % mo.length) ∧ σ' = [some (.ref pa), some (.ref ma), some (.ref ra), some (nV slack), some (nV (p0 % mo.length)), some (nV j), none, none, none], ?_, ?_⟩
    · refine ⟨_, rfl, pa, _, 0, nV p0, rfl, rfl, hP, rfl, .inl ⟨_, rfl, _, _, rfl, rfl, ⟨by decide, by decide⟩, _, _, rfl, rfl, by show (0 : Int) < 2; decide, rfl, _, rfl, ?_⟩⟩
      refine ite2 (fun _ => ?_) (fun _ => ?_)
      · refine ⟨_, rfl, _, _, rfl, rfl, _, rfl, ma, _, rfl, .inl hM, _, _, rfl, rfl, _, _, rfl, ?_⟩
        have h0 := md p0
        refine ⟨rfl, min (p0 % mo.length + 1) (mo.length - 1), by omega, .inl (by omega), ?_⟩
        have e : (if ((mo.map V.int).length : Int) - 1 < ((p0 : Int) % ((mo.map V.int).length : Int)) + 1 then ((mo.map V.int).length : Int) - 1 else ((p0 : Int) % ((mo.map V.int).length : Int)) + 1) = ((min (p0 % mo.length + 1) (mo.length - 1) : Nat) : Int) := by
          rw [hlen, show ((p0 : Int) % (mo.length : Int)) = ((p0 % mo.length : Nat) : Int) from rfl]
          split <;> omega
        show [some (V.ref pa), some (V.ref ma), some (V.ref ra), some (nV slack), some (V.int ((p0 : Int) % ((mo.map V.int).length : Int))), some (V.int (if ((mo.map V.int).length : Int) - 1 < ((p0 : Int) % ((mo.map V.int).length : Int)) + 1 then ((mo.map V.int).length : Int) - 1 else ((p0 : Int) % ((mo.map V.int).length : Int)) + 1)), none, none, none] = _
        rw [e, hlen]
        rfl
      · refine ⟨rfl, p1 % mo.length, md p1, .inr rfl, ?_⟩
        show [some (V.ref pa), some (V.ref ma), some (V.ref ra), some (nV slack), some (V.int ((p0 : Int) % ((mo.map V.int).length : Int))), some (V.int ((p1 : Int) % ((mo.map V.int).length : Int))), none, none, none] = _
        rw [hlen]
        rfl
    rintro σ1 H1 ⟨rfl, j0, hj0, hjc, rfl⟩
    refine ⟨fun σ' H' => H' = H1 ∧ ∃ i j : Nat, i ≤ j ∧ j < mo.length ∧ σ' = [some (.ref pa), some (.ref ma), some (.ref ra), some (nV slack), some (nV i), some (nV j), none, none, none], ?_, ?_⟩
    · refine ⟨_, rfl, _, rfl, _, _, rfl, rfl, _, rfl, ?_⟩
      refine ite2 (fun hg => ?_) (fun hg => ?_)
      · have hg' := of_decide_eq_true hg
        refine ⟨_, rfl, pa, _, 1, nV p1, rfl, rfl, hP, rfl, .inl ⟨_, rfl, _, rfl, ma, _, rfl, .inl hM, _, _, rfl, rfl, by rw [hlen]; show (0 : Int) < (mo.length : Int); omega, ?_⟩⟩
        refine ⟨_, rfl, pa, _, 0, nV p0, rfl, rfl, hP, rfl, .inl ⟨_, rfl, _, rfl, ma, _, rfl, .inl hM, _, _, rfl, rfl, by rw [hlen]; show (0 : Int) < (mo.length : Int); omega, ?_⟩⟩
        refine ⟨rfl, p1 % mo.length, p0 % mo.length, ?_, md p0, ?_⟩
        · rcases hjc with z | z
          · omega
          · rw [← z]; omega
        · show [some (V.ref pa), some (V.ref ma), some (V.ref ra), some (nV slack), some (V.int ((p1 : Int) % ((mo.map V.int).length : Int))), some (V.int ((p0 : Int) % ((mo.map V.int).length : Int))), none, none, none] = _
          rw [hlen]
          rfl
      · have hg' := mt decide_eq_true hg
        exact ⟨rfl, p0 % mo.length, j0, by omega, hj0, rfl⟩
    rintro σ2 H2 ⟨rfl, i, j, hij, hj, rfl⟩
    have hi : i < mo.length := by omega
    have hci := hB i hi
    have hcj := hB j hj
    have h0i := hup 0 i (by omega) hi
    have hdx := hup i j hij hj
    rw [hz] at h0i
    refine ⟨_, rfl, _, rfl, ma, _, _, .int (L2.cellOf mo j), rfl, rfl, hM, cell hj, _, rfl, _, rfl, ma, _, _, .int (L2.cellOf mo i), rfl, rfl, hM, cell hi, _, _, rfl, rfl, ?_⟩
    refine ⟨_, rfl, pa, _, 2, nV p2, rfl, rfl, hP, rfl, .inl ⟨_, rfl, _, _, rfl, rfl, by show (0 : Int) < 4; decide, rfl, _, rfl, ?_⟩⟩
    refine ite2 (fun _ => ?_) (fun _ => ?_)
    · refine ⟨_, rfl, _, rfl, _, rfl, ma, _, _, .int (L2.cellOf mo i), rfl, rfl, hM, cell hi, _, rfl, pa, _, 3, nV p3, rfl, rfl, hP, rfl, .inl ⟨_, rfl, _, rfl, _, _, rfl, rfl, _, _, rfl, rfl, by show (0 : Int) < (slack : Int) + 1; omega, _, _, rfl, rfl, by show 3 ≤ sizeLine; decide, fun t ht => ?_⟩⟩
      have hr : p3 % (slack + 1) < slack + 1 := Nat.mod_lt _ (by omega)
      obtain ⟨c, hc⟩ : ∃ c : Nat, L2.cellOf mo i = (c : Int) := ⟨(L2.cellOf mo i).toNat, by omega⟩
      refine q t (.noted i (c + p3 % (slack + 1))) _ (same_new (Same.refl H2) ht) ht ?_ ⟨fun k hk => ?_, ?_⟩ (fun r hr' => ?_)
      · rw [upd_same, hc]
        rfl
      · have : k = i := by simpa [Ent.evs] using hk
        omega
      · show c + p3 % (slack + 1) ≤ 10 ^ 30
        omega
      · simp only [entRows, List.mem_cons, List.mem_nil_iff, or_false] at hr'
        rcases hr' with rfl | rfl
        · show L2.cellOf mo 0 + (((c + p3 % (slack + 1) : Nat) : Int) - (slack : Int)) ≤ L2.cellOf mo i
          rw [hz]
          omega
        · show L2.cellOf mo i + -((c + p3 % (slack + 1) : Nat) : Int) ≤ L2.cellOf mo 0
          rw [hz]
          omega
    refine ⟨_, rfl, pa, _, 2, nV p2, rfl, rfl, hP, rfl, .inl ⟨_, rfl, _, _, rfl, rfl, by show (0 : Int) < 4; decide, rfl, _, rfl, ?_⟩⟩
    refine ite2 (fun _ => ?_) (fun _ => ?_)
    · refine ⟨_, rfl, _, rfl, _, rfl, _, rfl, pa, _, 3, nV p3, rfl, rfl, hP, rfl, .inl ⟨_, rfl, _, _, rfl, rfl, by show (0 : Int) < 4; decide, _, _, rfl, rfl, _, _, rfl, by show 4 ≤ sizeLine; decide, fun t ht => ?_⟩⟩
      obtain ⟨d, hd⟩ : ∃ d : Int, d = (p3 : Int) % 4 := ⟨_, rfl⟩
      have hd0 : 0 ≤ d := by rw [hd]; exact Int.emod_nonneg _ (by decide)
      obtain ⟨m, hm⟩ : ∃ m : Nat, (if L2.cellOf mo j - L2.cellOf mo i - d > 0 then L2.cellOf mo j - L2.cellOf mo i - d else 0) = (m : Int) := ⟨(if L2.cellOf mo j - L2.cellOf mo i - d > 0 then L2.cellOf mo j - L2.cellOf mo i - d else 0).toNat, by split <;> omega⟩
      have hmx : (m : Int) ≤ L2.cellOf mo j - L2.cellOf mo i := by rw [← hm]; split <;> omega
      refine q t (.after i j m) _ (same_new (Same.refl H2) ht) ht ?_ ⟨fun k hk => ?_, ?_⟩ (fun r hr' => ?_)
      · rw [upd_same]
        show some (HO.tup [V.str "after", nV i, nV j, V.int (if L2.cellOf mo j - L2.cellOf mo i - (p3 : Int) % 4 > 0 then L2.cellOf mo j - L2.cellOf mo i - (p3 : Int) % 4 else 0)]) = _
        rw [← hd, hm]
        rfl
      · have : k = i ∨ k = j := by simpa [Ent.evs] using hk
        omega
      · show m ≤ 10 ^ 30
        omega
      · simp only [entRows, List.mem_cons, List.mem_nil_iff, or_false] at hr'
        subst hr'
        show L2.cellOf mo i + (m : Int) ≤ L2.cellOf mo j
        omega
    have hx0 : 0 ≤ L2.cellOf mo j - L2.cellOf mo i := by omega
    obtain ⟨x, hx⟩ : ∃ x, x = L2.cellOf mo j - L2.cellOf mo i := ⟨_, rfl⟩
    have hx1 : 0 ≤ x := by omega
    refine ⟨_, rfl, ra, _, 1, nV slow, rfl, rfl, hR, rfl, _, rfl, _, _, rfl, rfl, .inl ⟨by omega, by omega⟩, _, rfl, ra, _, 0, nV fast, rfl, rfl, hR, rfl, _, _, rfl, rfl, _, _, rfl, rfl, _, rfl, ra, _, 0, nV fast, rfl, rfl, hR, rfl, _, _, rfl, rfl, ⟨by omega, by omega⟩, ?_⟩
    refine ⟨_, rfl, ra, _, 0, nV fast, rfl, rfl, hR, rfl, _, rfl, _, _, rfl, rfl, .inl ⟨by omega, by omega⟩, _, rfl, ra, _, 1, nV slow, rfl, rfl, hR, rfl, _, _, rfl, rfl, ⟨by omega, by omega⟩, ?_⟩
    have hroom := shown_room h1 h2 hx1
    obtain ⟨low, hlow⟩ : ∃ low, low = ((slow : Int) * x + fast - 1) / fast := ⟨_, rfl⟩
    obtain ⟨high, hhigh⟩ : ∃ high, high = (fast : Int) * x / slow := ⟨_, rfl⟩
    rw [← hlow, ← hhigh] at hroom
    refine ⟨_, rfl, _, rfl, _, rfl, _, rfl, pa, _, 3, nV p3, rfl, rfl, hP, rfl, .inl ⟨_, rfl, _, rfl, _, rfl, _, _, rfl, rfl, _, _, rfl, rfl, _, _, rfl, rfl, ?_, _, _, rfl, rfl, by show 4 ≤ sizeLine; decide, fun t ht => ?_⟩⟩
    · show (0 : Int) < (fast : Int) * (L2.cellOf mo j - L2.cellOf mo i) / slow - ((slow : Int) * (L2.cellOf mo j - L2.cellOf mo i) + fast - 1) / fast + 1
      rw [← hx, ← hlow, ← hhigh]
      exact hroom
    obtain ⟨r, hr⟩ : ∃ r, r = (p3 : Int) % (high - low + 1) := ⟨_, rfl⟩
    have hr0 : 0 ≤ r := by rw [hr]; exact Int.emod_nonneg _ (by omega)
    have hr1 : r < high - low + 1 := by rw [hr]; exact Int.emod_lt_of_pos _ hroom
    obtain ⟨t0, t1, t2, t3⟩ := shown_ok h1 h2 hx1 hlow hhigh hr0 hr1
    obtain ⟨m, hm⟩ : ∃ m : Nat, low + r = (m : Int) := ⟨(low + r).toNat, by omega⟩
    have hfx : (fast : Int) * x ≤ fast * B := Int.mul_le_mul_of_nonneg_left (by omega) (by omega)
    rw [hm] at t1 t2 t3
    refine q t (.shown i j m) _ (same_new (Same.refl H2) ht) ht ?_ ⟨fun k hk => ?_, ?_⟩ (fun r' hr' => ?_)
    · rw [upd_same]
      show some (HO.tup [V.str "shown", nV i, nV j, V.int (((slow : Int) * (L2.cellOf mo j - L2.cellOf mo i) + fast - 1) / fast + (p3 : Int) % ((fast : Int) * (L2.cellOf mo j - L2.cellOf mo i) / slow - ((slow : Int) * (L2.cellOf mo j - L2.cellOf mo i) + fast - 1) / fast + 1))]) = _
      rw [← hx, ← hlow, ← hhigh, ← hr, hm]
      rfl
    · have : k = i ∨ k = j := by simpa [Ent.evs] using hk
      omega
    · show m ≤ 10 ^ 30
      omega
    · simp only [entRows, List.mem_cons, List.mem_nil_iff, or_false] at hr'
      rcases hr' with rfl | rfl
      · show L2.cellOf mo i + ceilD ((m : Int) * (slow : Int)) (fast : Int) ≤ L2.cellOf mo j
        omega
      · show L2.cellOf mo j + -(((m : Int) * (fast : Int)) / (slow : Int)) ≤ L2.cellOf mo i
        omega
end
end My
namespace My
open PySem L2
/-! ### _law_exchanged -/
theorem paired_set {α β : Type} {F : α → β → Prop} : ∀ {l : List α} {m : List β} {i : Nat} {a : α} {b : β}, Paired F l m → F a b → Paired F (l.set i a) (m.set i b)
  | _, _, _, _, _, .nil, _ => .nil
  | _, _, 0, _, _, .cons _ t, h => .cons h t
  | _, _, i + 1, _, _, .cons r t, h => .cons r (paired_set (i := i) t h)
theorem paired_take {α β : Type} {F : α → β → Prop} : ∀ {l : List α} {m : List β} (i : Nat), Paired F l m → Paired F (l.take i) (m.take i)
  | _, _, 0, _ => by rw [List.take_zero, List.take_zero]; exact .nil
  | _, _, _ + 1, .nil => by rw [List.take_nil, List.take_nil]; exact .nil
  | _, _, i + 1, .cons r t => by rw [List.take_succ_cons, List.take_succ_cons]; exact .cons r (paired_take i t)
theorem paired_drop {α β : Type} {F : α → β → Prop} : ∀ {l : List α} {m : List β} (i : Nat), Paired F l m → Paired F (l.drop i) (m.drop i)
  | _, _, 0, h => h
  | _, _, _ + 1, .nil => by rw [List.drop_nil, List.drop_nil]; exact .nil
  | _, _, i + 1, .cons r t => paired_drop i t
theorem swap_mem {α : Type} {l : List α} {i j : Nat} {a b : α} (ha : l[i]? = some a) (hb : l[j]? = some b) (e : α) : e ∈ (l.set i b).set j a ↔ e ∈ l := by
  have hi := lt_of_at ha
  have hj := lt_of_at hb
  have at_ : ∀ k, ((l.set i b).set j a)[k]? = if j = k then some a else if i = k then some b else l[k]? := fun k => by
    rw [List.getElem?_set, List.getElem?_set, List.length_set]
    by_cases h1 : j = k
    · rw [if_pos h1, if_pos h1, if_pos hj]
    · rw [if_neg h1, if_neg h1]
      by_cases h2 : i = k
      · rw [if_pos h2, if_pos h2, if_pos hi]
      · rw [if_neg h2, if_neg h2]
  rw [List.mem_iff_getElem?, List.mem_iff_getElem?]
  constructor
  · rintro ⟨k, hk⟩
    rw [at_ k] at hk
    split at hk
    · cases hk; exact ⟨i, ha⟩
    · split at hk
      · cases hk; exact ⟨j, hb⟩
      · exact ⟨k, hk⟩
  · rintro ⟨k, hk⟩
    by_cases h1 : k = i
    · subst h1
      rw [ha] at hk
      cases hk
      exact ⟨j, by rw [at_, if_pos rfl]⟩
    · by_cases h2 : k = j
      · subst h2
        rw [hb] at hk
        cases hk
        exact ⟨i, by rw [at_, if_neg (fun z => h1 z), if_pos rfl]⟩
      · exact ⟨k, by rw [at_, if_neg (fun z => h2 z.symm), if_neg (fun z => h1 z.symm)]; exact hk⟩
/-- as W, its entries in another order, some twice -/
structure Like (W W' : Wd) : Prop where
  size : W'.size = W.size
  fast : W'.fast = W.fast
  slow : W'.slow = W.slow
  late : W'.late = W.late
  n : W'.ents.length ≤ 60
  mem : ∀ e, e ∈ W'.ents ↔ e ∈ W.ents
theorem Like.ok {W W' : Wd} (h : Like W W') (hok : W.Ok) : W'.Ok := by
  obtain ⟨o1, o2, o3, o4, o5, o6, o7, o8⟩ := hok
  exact ⟨by rw [h.size]; exact o1, by rw [h.size]; exact o2, h.n, fun e he => by rw [h.size]; exact o4 e ((h.mem e).mp he), by rw [h.slow]; exact o5, by rw [h.slow, h.fast]; exact o6, by rw [h.fast]; exact o7, by rw [h.late]; exact o8⟩
theorem Like.rows {W W' : Wd} (h : Like W W') (r : Row) : r ∈ rowsOf W' ↔ r ∈ rowsOf W := by
  unfold rowsOf
  rw [List.mem_append, List.mem_append, h.size, h.fast, h.slow, h.late, List.mem_flatMap, List.mem_flatMap]
  constructor
  · rintro (z | ⟨e, he, hr⟩)
    · exact .inl z
    · exact .inr ⟨e, (h.mem e).mp he, hr⟩
  · rintro (z | ⟨e, he, hr⟩)
    · exact .inl z
    · exact .inr ⟨e, (h.mem e).mpr he, hr⟩
theorem Cv.sub {R R' : List Row} (h : ∀ r ∈ R, r ∈ R') : ∀ {k i j : Nat} {w : Int}, Cv R k i j w → Cv R' k i j w
  | 0, _, _, _, .inl q => .inl (h _ q)
  | 0, _, _, _, .inr q => .inr q
  | k + 1, _, _, _, .inl q => .inl (q.sub h)
  | k + 1, _, _, _, .inr ⟨a, b, h1, h2, e⟩ => .inr ⟨a, b, h1.sub h, h2.sub h, e⟩
theorem Far.like {R R' : List Row} {N : Nat} {M : Mat} (h : Far R N M) (hr : ∀ r, r ∈ R' ↔ r ∈ R) : Far R' N M :=
  ⟨fun i j w hi hj hm => let ⟨n, g⟩ := h.snd i j w hi hj hm; ⟨n, g.sub fun r q => (hr r).mpr q⟩, fun i j w hi hj c => h.cov i j w hi hj (c.sub fun r q => (hr r).mp q)⟩
theorem Pot.like {R R' : List Row} {m : Nat → Int} (h : Pot R m) (hr : ∀ r, r ∈ R' ↔ r ∈ R) : Pot R' m := fun s t l hm => h s t l ((hr _).mp hm)
section
variable {P : Program} {w : World} {K : PySem.W.Frag} {mg : Str → Option Value} {base : Heap}
abbrev s_law_exchanged : Stmt := top 72
abbrev N_law_exchanged : List Str := ["script", "world", "entries", "n", "k", "one", "two", "entry"]
theorem sc_law_exchanged : FnScope N_law_exchanged ["script", "world"] (C8.fnScope s_law_exchanged) := C8.fnScope_by (by decide +kernel)
def sp_law_exchanged (K : PySem.W.Frag) : Sp := fun vs H Q _ => ∃ (sa wa : Addr) (ns : List Int) (W : Wd) (mo : List Int), vs = [.ref sa, .ref wa] ∧ SqL K H sa (ns.map V.int) ∧ WorldAt K H wa W mo ∧ W.Ok ∧
  ∀ (oa : Addr) (W' : Wd) H', Same H H' → WorldAt K H' oa W' mo → Like W W' → Q (.ref oa) H'
theorem ok_law_exchanged {f : Addr} {fd : FuncData} (F : C8.Def K mg "_law_exchanged" s_law_exchanged f fd) (b : Binds K fd ["script", "world"] []) (T : Gb mg) (c__law_cell : C8.Cal P w K mg base 1 "_law_cell" (sp_law_cell K) []) (c__law_numbers : C8.Cal P w K mg base 1 "_law_numbers" sp_law_numbers []) : C8.Cal P w K mg base 2 "_law_exchanged" (sp_law_exchanged K) [] := by
  refine C8.cal0 F b .nil sc_law_exchanged (fun vs H Q E h => ?_) (fun cdv A outer s H vs Q E hr h => ?_)
  · obtain ⟨sa, wa, ns, W, mo, rfl, _⟩ := h
    rfl
  · obtain ⟨sa, wa, ns, W, mo, rfl, hS, hW, hok, q⟩ := h
    obtain ⟨ea, ma, es0, hA, hE, hP, hM⟩ := id hW
    have o3 := hok.n
    have hel := hP.length
    refine ⟨_, (pss_cons (ps_set (i := 2) sc_law_exchanged.nd rfl (Or.inl rfl) (pe_callTy call_list_of (by rfl) T.list (by decide +kernel) (pa_cons (pe_ix (ix_listK K rfl) (pv 1) pe_int (fun _ _ => rfl)) pa_nil)))
(pss_cons (ps_set (i := 3) sc_law_exchanged.nd rfl (Or.inl rfl) (C8.pe_c c__law_numbers hr (by decide) (by rfl) (pa_cons (C8.pe_c c__law_cell hr (by decide) (by rfl) (pa_cons (pv 0) (pa_cons pe_int pa_nil))) (pa_cons pe_int (pa_cons pe_int (pa_cons pe_int pa_nil))))))
(pss_cons (ps_for PassesOwn.never rfl (pi_range1 (by rfl) T.range (pa_cons pe_int pa_nil)) (pg_name (i := 4) sc_law_exchanged.nd rfl (Or.inl rfl))
(pss_one (ps_if (pt_cmpR op_gt (pe_callB (call_lenK K rfl) (by rfl) T.len PySem.boot_len (pa_cons (pv 2) pa_nil)) pe_int (nomark _))
(pss_cons (ps_set (i := 5) sc_law_exchanged.nd rfl (Or.inl rfl) (pe_op op_mod (pe_callTy call_int1 (by rfl) T.int (by decide +kernel) (pa_cons (pe_ix (ix_listK K rfl) (pv 3) (pe_op op_mul pe_int (pv 4)) (fun _ _ => rfl)) pa_nil)) (pe_callB (call_lenK K rfl) (by rfl) T.len PySem.boot_len (pa_cons (pv 2) pa_nil))))
(pss_cons (ps_set (i := 6) sc_law_exchanged.nd rfl (Or.inl rfl) (pe_op op_mod (pe_callTy call_int1 (by rfl) T.int (by decide +kernel) (pa_cons (pe_ix (ix_listK K rfl) (pv 3) (pe_op op_add (pe_op op_mul pe_int (pv 4)) pe_int) (fun _ _ => rfl)) pa_nil)) (pe_callB (call_lenK K rfl) (by rfl) T.len PySem.boot_len (pa_cons (pv 2) pa_nil))))
(pss_cons (ps_set (i := 7) sc_law_exchanged.nd rfl (Or.inl rfl) (pe_ix (ix_listK K rfl) (pv 2) (pv 5) (fun _ _ => rfl)))
(pss_cons (ps_asg (pe_ix (ix_listK K rfl) (pv 2) (pv 6) (fun _ _ => rfl)) (pg_sub (pv 2) (pv 5) set_list))
(pss_one (ps_asg (pv 7) (pg_sub (pv 2) (pv 6) set_list)))))))
pss_nil)))
(C8.pss_cut (ps_if (PW.pt (pw_and (pt_cmpR op_gt (pe_callB (call_lenK K rfl) (by rfl) T.len PySem.boot_len (pa_cons (pv 2) pa_nil)) pe_int (nomark _)) (pw_and1 (pt_cmpR op_lt (pe_callB (call_lenK K rfl) (by rfl) T.len PySem.boot_len (pa_cons (pv 2) pa_nil)) pe_int (nomark _)))))
(pss_one (ps_expr (pe_bm PySem.F.plainAttrs_list PySem.F.slot_list_insert PySem.F.type_list_insert mt_insert (pv 2) (pa_cons (pe_op op_mod (pe_callTy call_int1 (by rfl) T.int (by decide +kernel) (pa_cons (pe_ix (ix_listK K rfl) (pv 3) pe_int (fun _ _ => rfl)) pa_nil)) (pe_callB (call_lenK K rfl) (by rfl) T.len PySem.boot_len (pa_cons (pv 2) pa_nil))) (pa_cons (pe_ix (ix_listK K rfl) (pv 2) (pe_op op_mod (pe_callTy call_int1 (by rfl) T.int (by decide +kernel) (pa_cons (pe_ix (ix_listK K rfl) (pv 3) pe_int (fun _ _ => rfl)) pa_nil)) (pe_callB (call_lenK K rfl) (by rfl) T.len PySem.boot_len (pa_cons (pv 2) pa_nil))) (fun _ _ => rfl)) pa_nil)))))
pss_nil)
(pss_one (ps_ret (pe_op op_cat (pe_lst (pa_cons (pe_ix (ix_listK K rfl) (pv 1) pe_int (fun _ _ => rfl)) (pa_cons (pv 2) pa_nil))) (pe_slice sl_list (pv 1) (po_some pe_int) po_none)))))))), ?_⟩
    refine ⟨_, rfl, wa, _, 1, .ref ea, rfl, rfl, hA, rfl, ea, es0, rfl, .inl hE, fun D hD => ?_⟩
    have sm0 := same_new (o := .lst es0) (Same.refl H) hD
    refine ⟨_, rfl, sa, ns, 44, rfl, sm0.seq hS, fun c => ⟨c, 44, 10, 5040, rfl, by decide, by decide, by decide, by decide, fun na nn H1 sm1 hna0 hna hnl hnb => ?_⟩⟩
    have sm01 := sm0.trans sm1
    have hD1 := sm1 _ _ upd_same
    have nDn : D ≠ na := ne_of_none upd_same hna0
    have natn : ∀ {H' : Hp} {k : Nat}, k < 10 → ∃ v, nn[k]? = some v ∧ atI (nn.map nV) ((k : Nat) : Int) = some (nV v) := fun {H' k} hk => by
      obtain ⟨v, hv⟩ := at_ex (l := nn) (i := k) (by omega)
      exact ⟨v, hv, atI_nat (nV_at hv)⟩
    refine ⟨4, rfl, by decide, by decide, for_range (lo := 0) (n := 4) (fun i σ H' => ∃ (vs : List V) (es : List Ent) (v4 v5 v6 v7 : Option V), Same H H' ∧ H' D = some (.lst vs) ∧ H' na = some (.lst (nn.map nV)) ∧ Paired (EntV K H') vs es ∧ es.length = W.ents.length ∧ (∀ e, e ∈ es ↔ e ∈ W.ents) ∧ σ = [some (.ref sa), some (.ref wa), some (.ref D), some (.ref na), v4, v5, v6, v7])
      ⟨es0, W.ents, _, _, _, _, sm01, hD1, hna, L2.Paired.mapP hP fun _ _ => EntV.mono sm01, rfl, fun _ => Iff.rfl, rfl⟩ ?_ ?_⟩
    · rintro i σ H2 hi ⟨vs, es, v4, v5, v6, v7, sm2, hvs, hna2, hvp, hesl, hmem, rfl⟩
      rw [show (0 : Int) + (i : Int) = (i : Int) by omega]
      have hvl := hvp.length
      refine ⟨_, rfl, D, vs, rfl, .inl (SqL.of hvs), _, _, rfl, rfl, _, rfl, ?_⟩
      refine ite2 (fun hg => ?_) (fun hg => ?_)
      · have hg' : 0 < vs.length := by have := of_decide_eq_true hg; omega
        obtain ⟨a1, ha1, hat1⟩ := natn (H' := H2) (k := 2 * i) (by omega)
        obtain ⟨a2, ha2, hat2⟩ := natn (H' := H2) (k := 2 * i + 1) (by omega)
        have m1 : a1 % vs.length < vs.length := Nat.mod_lt _ hg'
        have m2 : a2 % vs.length < vs.length := Nat.mod_lt _ hg'
        obtain ⟨x1, hx1⟩ := at_ex m1
        obtain ⟨x2, hx2⟩ := at_ex m2
        obtain ⟨e1, he1, hp1⟩ := paired_at hvp hx1
        obtain ⟨e2, he2, hp2⟩ := paired_at hvp hx2
        have hat1' : atI (nn.map nV) (2 * (i : Int)) = some (nV a1) := hat1
        have hat2' : atI (nn.map nV) (2 * (i : Int) + 1) = some (nV a2) := hat2
        refine ⟨_, rfl, _, rfl, _, _, rfl, rfl, .inl ⟨by decide, by decide⟩, na, _, _, nV a1, rfl, rfl, SqL.of hna2, hat1', .inl ⟨_, rfl, _, rfl, D, vs, rfl, .inl (SqL.of hvs), _, _, rfl, rfl, by show (0 : Int) < (vs.length : Int); omega, ?_⟩⟩
        refine ⟨_, rfl, _, rfl, _, _, rfl, rfl, .inl ⟨by decide, by decide⟩, _, _, rfl, rfl, na, _, _, nV a2, rfl, rfl, SqL.of hna2, hat2', .inl ⟨_, rfl, _, rfl, D, vs, rfl, .inl (SqL.of hvs), _, _, rfl, rfl, by show (0 : Int) < (vs.length : Int); omega, ?_⟩⟩
        refine ⟨_, rfl, _, rfl, D, _, _, x1, rfl, rfl, SqL.of hvs, atI_nat (j := a1 % vs.length) hx1, ?_⟩
        refine ⟨_, rfl, _, rfl, D, _, _, x2, rfl, rfl, SqL.of hvs, atI_nat (j := a2 % vs.length) hx2, _, rfl, _, rfl, D, _, _, a1 % vs.length, rfl, rfl, hvs, ixN_nat m1, ?_⟩
        refine ⟨_, rfl, _, rfl, _, rfl, D, _, _, a2 % vs.length, rfl, rfl, upd_same, ixN_nat (by rw [List.length_set]; exact m2), ?_⟩
        refine ⟨(vs.set (a1 % vs.length) x2).set (a2 % vs.length) x1, (es.set (a1 % vs.length) e2).set (a2 % vs.length) e1, _, _, _, _, same_mut (same_mut sm2 hD) hD, upd_same, ?_, ?_, ?_, ?_, rfl⟩
        · rw [upd_ne nDn.symm, upd_ne nDn.symm]
          exact hna2
        · have hb := paired_set (i := a2 % vs.length) (paired_set (i := a1 % vs.length) hvp hp2) hp1
          exact L2.Paired.mapP hb fun _ _ h => EntV.updL upd_same (h.updL hvs)
        · rw [List.length_set, List.length_set, hesl]
        · intro e
          rw [swap_mem he1 he2]
          exact hmem e
      · exact ⟨vs, es, _, _, _, _, sm2, hvs, hna2, hvp, hesl, hmem, rfl⟩
    rintro σ H2 ⟨vs, es, v4, v5, v6, v7, sm2, hvs, hna2, hvp, hesl, hmem, rfl⟩
    have hvl := hvp.length
    refine ⟨fun σ' H' => ∃ (vs : List V) (es : List Ent), Same H H' ∧ H' D = some (.lst vs) ∧ Paired (EntV K H') vs es ∧ es.length ≤ 60 ∧ (∀ e, e ∈ es ↔ e ∈ W.ents) ∧ σ' = [some (.ref sa), some (.ref wa), some (.ref D), some (.ref na), v4, v5, v6, v7], ?_, ?_⟩
    · refine ⟨_, rfl, D, vs, rfl, .inl (SqL.of hvs), _, _, rfl, rfl, _, rfl, ?_⟩
      refine ite2 (fun hg => ?_) (fun hg => ?_)
      · have hg' : 0 < vs.length := by have := of_decide_eq_true hg; omega
        refine ⟨_, rfl, D, vs, rfl, .inl (SqL.of hvs), _, _, rfl, rfl, _, rfl, ?_⟩
        refine ite2 (fun hg2 => ?_) (fun hg2 => ?_)
        · have hg2' : vs.length < 60 := by have := of_decide_eq_true hg2; omega
          obtain ⟨a1, ha1, hat1⟩ := natn (H' := H2) (k := 8) (by omega)
          obtain ⟨a2, ha2, hat2⟩ := natn (H' := H2) (k := 9) (by omega)
          have m1 : a1 % vs.length < vs.length := Nat.mod_lt _ hg'
          have m2 : a2 % vs.length < vs.length := Nat.mod_lt _ hg'
          obtain ⟨x2, hx2⟩ := at_ex m2
          obtain ⟨e2, he2, hp2⟩ := paired_at hvp hx2
          refine ⟨_, rfl, .inl ⟨rfl, _, SqL.of hvs⟩, _, rfl, na, _, 8, nV a1, rfl, rfl, SqL.of hna2, hat1, .inl ⟨_, rfl, _, rfl, D, vs, rfl, .inl (SqL.of hvs), _, _, rfl, rfl, by show (0 : Int) < (vs.length : Int); omega, _, rfl, _, rfl, na, _, 9, nV a2, rfl, rfl, SqL.of hna2, hat2, .inl ⟨_, rfl, _, rfl, D, vs, rfl, .inl (SqL.of hvs), _, _, rfl, rfl, by show (0 : Int) < (vs.length : Int); omega, D, _, _, x2, rfl, rfl, SqL.of hvs, atI_nat (j := a2 % vs.length) hx2, ?_⟩⟩⟩
          have e0 : ((a1 : Int) % (vs.length : Int)) = ((a1 % vs.length : Nat) : Int) := rfl
          refine ⟨D, vs, ((a1 % vs.length : Nat) : Int), x2, rfl, rfl, hvs, size_lt (by omega), by omega, (by have h60 : a1 % vs.length < 60 := by omega
                                                                                                              exact Int.lt_of_lt_of_le (show ((a1 % vs.length : Nat) : Int) < 60 by omega) (by decide)), ?_⟩
          rw [Int.toNat_natCast]
          refine ⟨_, es.take (a1 % vs.length) ++ [e2] ++ es.drop (a1 % vs.length), same_mut sm2 hD, upd_same, ?_, ?_, ?_, rfl⟩
          · refine L2.Paired.mapP ?_ fun _ _ h => EntV.updL hvs h
            exact paired_app (paired_app (paired_take _ hvp) (.cons hp2 .nil)) (paired_drop _ hvp)
          · rw [List.length_append, List.length_append, List.length_singleton, List.length_take, List.length_drop]
            omega
          · intro e
            rw [← hmem e, List.mem_append, List.mem_append, List.mem_singleton]
            constructor
            · rintro ((z | z) | z)
              · exact List.mem_of_mem_take z
              · rw [z]; exact List.mem_of_getElem? he2
              · exact List.mem_of_mem_drop z
            · intro z
              rw [← List.take_append_drop (a1 % vs.length) es, List.mem_append] at z
              rcases z with z | z
              · exact .inl (.inl z)
              · exact .inr z
        · exact ⟨vs, es, sm2, hvs, hvp, by omega, hmem, rfl⟩
      · refine iteF ?_
        exact ⟨vs, es, sm2, hvs, hvp, by omega, hmem, rfl⟩
    rintro σ3 H3 ⟨vs, es, sm3, hvs, hvp, hes, hmem, rfl⟩
    have hA3 := sm3.seq hA
    refine ⟨_, rfl, wa, _, 0, nV W.size, rfl, rfl, hA3, rfl, _, rfl, by show 2 ≤ sizeLine; decide, fun p4 hp4 => ?_⟩
    have sm4 := same_new (o := .lst [nV W.size, .ref D]) (Same.refl H3) hp4
    refine ⟨_, rfl, 2, rfl, wa, _, rfl, sm4.seq hA3, fun p5 hp5 => ?_⟩
    have ec : cutV [nV W.size, .ref ea, nV W.fast, nV W.slow, nV W.late, .ref ma] (some (2 : Int)) none = [nV W.fast, nV W.slow, nV W.late, .ref ma] := rfl
    rw [ec]
    have sm5 := same_new (o := .lst [nV W.fast, nV W.slow, nV W.late, .ref ma]) sm4 hp5
    have n45 : p4 ≠ p5 := ne_of_none upd_same hp5
    refine ⟨p4, p5, _, _, rfl, rfl, (upd_ne n45).trans upd_same, upd_same, by show 6 ≤ sizeLine; decide, fun p6 hp6 => ?_⟩
    have sm6 := same_new (o := .lst ([nV W.size, .ref D] ++ [nV W.fast, nV W.slow, nV W.late, .ref ma])) sm5 hp6
    refine q p6 { W with ents := es } _ (sm3.trans sm6) ?_ ⟨rfl, rfl, rfl, rfl, hes, hmem⟩
    exact ⟨D, ma, vs, SqL.of upd_same, SqL.of (sm6 _ _ hvs), L2.Paired.mapP hvp fun _ _ => EntV.mono sm6, (sm3.trans sm6).seq hM⟩
end
end My
namespace My
open PySem L2
/-! ### _law_run -/
structure MoB (mo : List Int) (S : Int) : Prop where
  n1 : 1 ≤ mo.length
  z : L2.cellOf mo 0 = 0
  up : ∀ i j, i ≤ j → j < mo.length → L2.cellOf mo i ≤ L2.cellOf mo j
  b : ∀ k : Nat, k < mo.length → L2.cellOf mo k ≤ S * (k : Int)
theorem cell_app {mo : List Int} {v : Int} {k : Nat} : L2.cellOf (mo ++ [v]) k = if k < mo.length then L2.cellOf mo k else if k = mo.length then v else 0 := by
  unfold L2.cellOf
  rw [List.getD_eq_getElem?_getD, List.getD_eq_getElem?_getD, List.getElem?_append]
  by_cases h : k < mo.length
  · rw [if_pos h, if_pos h]
  · rw [if_neg h, if_neg h]
    by_cases h2 : k = mo.length
    · rw [if_pos h2, h2, Nat.sub_self]; rfl
    · rw [if_neg h2]
      rw [List.getElem?_eq_none (by rw [List.length_singleton]; omega)]
      rfl
theorem MoB.start (S : Int) : MoB [0] S := by
  refine ⟨Nat.le_refl _, rfl, fun i j hij hj => ?_, fun k hk => ?_⟩
  · have : j = 0 := by simpa using hj
    have : i = 0 := by omega
    subst_vars
    exact Int.le_refl _
  · have : k = 0 := by simpa using hk
    subst this
    show (0 : Int) ≤ S * ((0 : Nat) : Int)
    simp
theorem MoB.push {mo : List Int} {S d : Int} (h : MoB mo S) (h0 : 0 ≤ d) (h1 : d ≤ S) : MoB (mo ++ [L2.cellOf mo (mo.length - 1) + d]) S := by
  have hn := h.n1
  have hl : (mo ++ [L2.cellOf mo (mo.length - 1) + d]).length = mo.length + 1 := by rw [List.length_append]; rfl
  refine ⟨by omega, ?_, fun i j hij hj => ?_, fun k hk => ?_⟩
  · rw [cell_app, if_pos (by omega)]
    exact h.z
  · rw [hl] at hj
    rw [cell_app, cell_app]
    by_cases e : j < mo.length
    · rw [if_pos e, if_pos (by omega)]
      exact h.up i j hij e
    · have ej : j = mo.length := by omega
      rw [if_neg e, if_pos ej]
      by_cases e2 : i < mo.length
      · rw [if_pos e2]
        have := h.up i (mo.length - 1) (by omega) (by omega)
        omega
      · rw [if_neg e2, if_pos (by omega)]
        exact Int.le_refl _
  · rw [hl] at hk
    rw [cell_app]
    by_cases e : k < mo.length
    · rw [if_pos e]
      exact h.b k e
    · have ek : k = mo.length := by omega
      rw [if_neg e, if_pos ek]
      have h2 := h.b (mo.length - 1) (by omega)
      have h3 : S * (k : Int) = S * ((mo.length - 1 : Nat) : Int) + S := by
        rw [show (k : Int) = ((mo.length - 1 : Nat) : Int) + 1 by omega, Int.mul_add, Int.mul_one]
      omega
theorem MoB.ok {mo : List Int} {S : Int} {fast : Nat} (h : MoB mo S) (hS : 0 ≤ S) (hn : mo.length ≤ 12) (hb : S * 11 + 60 ≤ 10 ^ 30) (hf : (fast : Int) * (S * 11) ≤ 10 ^ 30) : MoOk mo fast :=
  ⟨h.n1, hn, h.z, h.up, S * 11, fun k hk => Int.le_trans (h.b k hk) (Int.mul_le_mul_of_nonneg_left (by omega) hS), hb, hf⟩
section
variable {P : Program} {w : World} {K : PySem.W.Frag} {mg : Str → Option Value} {base : Heap}
abbrev s_law_run : Stmt := top 65
abbrev N_law_run : List Str := ["script", "n", "size", "rates", "scale", "slack", "moments", "part", "entries", "k", "p"]
theorem sc_law_run : FnScope N_law_run ["script"] (C8.fnScope s_law_run) := C8.fnScope_by (by decide +kernel)
/-- what the run comes to -/
structure RunOk (W : Wd) (mo : List Int) : Prop where
  ok : W.Ok
  n3 : 3 ≤ W.size
  len : mo.length = W.size
  z : L2.cellOf mo 0 = 0
  pot : Pot (rowsOf W) (L2.cellOf mo)
def sp_law_run (K : PySem.W.Frag) : Sp := fun vs H Q _ => ∃ (sa : Addr) (ns : List Int), vs = [.ref sa] ∧ SqL K H sa (ns.map V.int) ∧ ∀ (a : Addr) (W : Wd) (mo : List Int) H', Same H H' → WorldAt K H' a W mo → RunOk W mo → Q (.ref a) H'
theorem ok_law_run {f : Addr} {fd : FuncData} (F : C8.Def K mg "_law_run" s_law_run f fd) (b : Binds K fd ["script"] []) (T : Gb mg) (c__law_cell : C8.Cal P w K mg base 1 "_law_cell" (sp_law_cell K) []) (c__law_numbers : C8.Cal P w K mg base 1 "_law_numbers" sp_law_numbers []) (c__law_entry : C8.Cal P w K mg base 1 "_law_entry" (sp_law_entry K) []) : C8.Cal P w K mg base 2 "_law_run" (sp_law_run K) [] := by
  refine C8.cal0 F b .nil sc_law_run (fun vs H Q E h => ?_) (fun cdv A outer s H vs Q E hr h => ?_)
  · obtain ⟨sa, ns, rfl, _⟩ := h
    rfl
  · obtain ⟨sa, ns, rfl, hS, q⟩ := h
    refine ⟨_, (pss_cons (ps_set (i := 1) sc_law_run.nd rfl (Or.inl rfl) (C8.pe_c c__law_numbers hr (by decide) (by rfl) (pa_cons (C8.pe_c c__law_cell hr (by decide) (by rfl) (pa_cons (pv 0) (pa_cons pe_int pa_nil))) (pa_cons pe_int (pa_cons pe_int (pa_cons pe_int pa_nil))))))
(C8.pss_cut (ps_set (i := 2) sc_law_run.nd rfl (Or.inl rfl) (pe_ifExp (pt_cmpR op_eq (pe_op op_mod (pe_callTy call_int1 (by rfl) T.int (by decide +kernel) (pa_cons (pe_ix (ix_listK K rfl) (pv 1) pe_int (fun _ _ => rfl)) pa_nil)) pe_int) pe_int (nomark _)) pe_int (pe_op op_add pe_int (pe_op op_mod (pe_op op_fdiv (pe_callTy call_int1 (by rfl) T.int (by decide +kernel) (pa_cons (pe_ix (ix_listK K rfl) (pv 1) pe_int (fun _ _ => rfl)) pa_nil)) pe_int) pe_int))))
(pss_cons (ps_set (i := 3) sc_law_run.nd rfl (Or.inl rfl) (pe_lst (pa_cons (pe_op op_add (pe_op op_add pe_int (pe_op op_mod (pe_callTy call_int1 (by rfl) T.int (by decide +kernel) (pa_cons (pe_ix (ix_listK K rfl) (pv 1) pe_int (fun _ _ => rfl)) pa_nil)) pe_int)) (pe_op op_mod (pe_op op_fdiv (pe_callTy call_int1 (by rfl) T.int (by decide +kernel) (pa_cons (pe_ix (ix_listK K rfl) (pv 1) pe_int (fun _ _ => rfl)) pa_nil)) pe_int) pe_int)) (pa_cons (pe_op op_add pe_int (pe_op op_mod (pe_callTy call_int1 (by rfl) T.int (by decide +kernel) (pa_cons (pe_ix (ix_listK K rfl) (pv 1) pe_int (fun _ _ => rfl)) pa_nil)) pe_int)) pa_nil))))
(pss_cons (ps_set (i := 4) sc_law_run.nd rfl (Or.inl rfl) pe_int)
(C8.pss_cut (ps_if (pt_cmpR op_eq (pe_op op_mod (pe_callTy call_int1 (by rfl) T.int (by decide +kernel) (pa_cons (pe_ix (ix_listK K rfl) (pv 1) pe_int (fun _ _ => rfl)) pa_nil)) pe_int) pe_int (nomark _))
(pss_one (ps_set (i := 4) sc_law_run.nd rfl (Or.inl rfl) (pe_op op_add pe_int (pe_op op_mod (pe_callTy call_int1 (by rfl) T.int (by decide +kernel) (pa_cons (pe_callB call_abs (by rfl) T.abs (by decide +kernel) (pa_cons (C8.pe_c c__law_cell hr (by decide) (by rfl) (pa_cons (pv 0) (pa_cons pe_int pa_nil))) pa_nil)) pa_nil)) (pe_op op_pow pe_int pe_int)))))
(pss_one (ps_if (pt_cmpR op_eq (pe_op op_mod (pe_callTy call_int1 (by rfl) T.int (by decide +kernel) (pa_cons (pe_ix (ix_listK K rfl) (pv 1) pe_int (fun _ _ => rfl)) pa_nil)) pe_int) pe_int (nomark _))
(pss_one (ps_set (i := 3) sc_law_run.nd rfl (Or.inl rfl) (pe_lst (pa_cons (pe_op op_add pe_int (pe_op op_mod (pe_callTy call_int1 (by rfl) T.int (by decide +kernel) (pa_cons (pe_ix (ix_listK K rfl) (pv 1) pe_int (fun _ _ => rfl)) pa_nil)) pe_int)) (pa_cons (pe_op op_add pe_int (pe_op op_fdiv (pe_op op_mod (pe_callTy call_int1 (by rfl) T.int (by decide +kernel) (pa_cons (pe_ix (ix_listK K rfl) (pv 1) pe_int (fun _ _ => rfl)) pa_nil)) pe_int) pe_int)) pa_nil)))))
pss_nil)))
(C8.pss_cut (ps_set (i := 5) sc_law_run.nd rfl (Or.inl rfl) (pe_ifExp (pt_cmpR op_eq (pe_op op_mod (pe_callTy call_int1 (by rfl) T.int (by decide +kernel) (pa_cons (pe_ix (ix_listK K rfl) (pv 1) pe_int (fun _ _ => rfl)) pa_nil)) pe_int) pe_int (nomark _)) (pe_op op_mod (pe_op op_fdiv (pe_callTy call_int1 (by rfl) T.int (by decide +kernel) (pa_cons (pe_ix (ix_listK K rfl) (pv 1) pe_int (fun _ _ => rfl)) pa_nil)) pe_int) pe_int) (pe_op op_mod (pe_op op_fdiv (pe_callTy call_int1 (by rfl) T.int (by decide +kernel) (pa_cons (pe_ix (ix_listK K rfl) (pv 1) pe_int (fun _ _ => rfl)) pa_nil)) pe_int) pe_int)))
(pss_cons (ps_set (i := 6) sc_law_run.nd rfl (Or.inl rfl) (pe_lst (pa_cons pe_int pa_nil)))
(C8.pss_cut (ps_for PassesOwn.never rfl (pi_listK K rfl (C8.pe_c c__law_numbers hr (by decide) (by rfl) (pa_cons (C8.pe_c c__law_cell hr (by decide) (by rfl) (pa_cons (pv 0) (pa_cons pe_int pa_nil))) (pa_cons pe_int (pa_cons (pe_op op_sub (pv 2) pe_int) (pa_cons pe_int pa_nil)))))) (pg_name (i := 7) sc_law_run.nd rfl (Or.inl rfl))
(pss_one (ps_expr (pe_bm PySem.F.plainAttrs_list PySem.F.slot_list_append PySem.F.type_list_append mt_append (pv 6) (pa_cons (pe_op op_add (pe_ix (ix_listK K rfl) (pv 6) (pe_op op_sub (pe_callB (call_lenK K rfl) (by rfl) T.len PySem.boot_len (pa_cons (pv 6) pa_nil)) pe_int) (fun _ _ => rfl)) (pe_op op_mul (pv 7) (pv 4))) pa_nil)))))
(pss_cons (ps_set (i := 8) sc_law_run.nd rfl (Or.inl rfl) (pe_lst pa_nil))
(C8.pss_cut (ps_for PassesOwn.never rfl (pi_range1 (by rfl) T.range (pa_cons (pe_ifExp (pt_cmpR op_eq (pe_op op_mod (pe_callTy call_int1 (by rfl) T.int (by decide +kernel) (pa_cons (pe_ix (ix_listK K rfl) (pv 1) pe_int (fun _ _ => rfl)) pa_nil)) pe_int) pe_int (nomark _)) pe_int (pe_op op_mod (pe_callTy call_int1 (by rfl) T.int (by decide +kernel) (pa_cons (pe_ix (ix_listK K rfl) (pv 1) pe_int (fun _ _ => rfl)) pa_nil)) pe_int)) pa_nil)) (pg_name (i := 9) sc_law_run.nd rfl (Or.inl rfl))
(pss_cons (ps_set (i := 10) sc_law_run.nd rfl (Or.inl rfl) (C8.pe_c c__law_numbers hr (by decide) (by rfl) (pa_cons (C8.pe_c c__law_cell hr (by decide) (by rfl) (pa_cons (pv 0) (pa_cons (pe_op op_add pe_int (pe_op op_mod (pe_callTy call_int1 (by rfl) T.int (by decide +kernel) (pa_cons (pv 9) pa_nil)) pe_int)) pa_nil))) (pa_cons (pe_op op_add pe_int (pv 9)) (pa_cons pe_int (pa_cons pe_int pa_nil))))))
(pss_one (ps_expr (pe_bm PySem.F.plainAttrs_list PySem.F.slot_list_append PySem.F.type_list_append mt_append (pv 8) (pa_cons (C8.pe_c c__law_entry hr (by decide) (by rfl) (pa_cons (pv 10) (pa_cons (pv 6) (pa_cons (pv 3) (pa_cons (pv 5) pa_nil))))) pa_nil))))))
(pss_one (ps_ret (pe_lst (pa_cons (pv 2) (pa_cons (pv 8) (pa_cons (pe_ix (ix_listK K rfl) (pv 3) pe_int (fun _ _ => rfl)) (pa_cons (pe_ix (ix_listK K rfl) (pv 3) pe_int (fun _ _ => rfl)) (pa_cons (pv 5) (pa_cons (pv 6) pa_nil))))))))))))))))))), ?_⟩
    refine ⟨_, rfl, sa, ns, 0, rfl, hS, fun c => ⟨c, 0, 7, 5040, rfl, by decide, by decide, by decide, by decide, fun na nn H1 sm1 hna0 hna hnl hnb => ?_⟩⟩
    have natn : ∀ {k : Nat}, k < 7 → ∃ v, nn[k]? = some v ∧ atI (nn.map nV) ((k : Nat) : Int) = some (nV v) ∧ v < 5040 := fun {k} hk => by
      obtain ⟨v, hv⟩ := at_ex (l := nn) (i := k) (by omega)
      exact ⟨v, hv, atI_nat (nV_at hv), hnb v (List.mem_of_getElem? hv)⟩
    obtain ⟨n0, _, a0, b0⟩ := natn (k := 0) (by omega)
    obtain ⟨n1, _, a1, b1⟩ := natn (k := 1) (by omega)
    obtain ⟨n2, _, a2, b2⟩ := natn (k := 2) (by omega)
    obtain ⟨n3, _, a3, b3⟩ := natn (k := 3) (by omega)
    obtain ⟨n4, _, a4, b4⟩ := natn (k := 4) (by omega)
    obtain ⟨n5, _, a5, b5⟩ := natn (k := 5) (by omega)
    obtain ⟨n6, _, a6, b6⟩ := natn (k := 6) (by omega)
    refine ⟨fun σ' H' => H' = H1 ∧ ∃ N : Nat, 3 ≤ N ∧ N ≤ 12 ∧ σ' = [some (.ref sa), some (.ref na), some (nV N), none, none, none, none, none, none, none, none], ?_, ?_⟩
    · refine ⟨_, rfl, na, _, 0, nV n0, rfl, rfl, SqL.of hna, a0, .inl ⟨_, rfl, _, _, rfl, rfl, by show (0 : Int) < 8; decide, rfl, _, rfl, ?_⟩⟩
      refine ite2 (fun _ => ?_) (fun _ => ?_)
      · exact ⟨rfl, 12, by omega, by omega, rfl⟩
      · refine ⟨_, rfl, na, _, 0, nV n0, rfl, rfl, SqL.of hna, a0, .inl ⟨_, rfl, _, _, rfl, rfl, ⟨by decide, by decide⟩, _, _, rfl, rfl, by show (0 : Int) < 5; decide, _, _, rfl, rfl, ?_⟩⟩
        refine ⟨rfl, 3 + n0 / 8 % 5, by omega, by omega, ?_⟩
        show [some (V.ref sa), some (V.ref na), some (V.int (3 + (n0 : Int) / 8 % 5)), none, none, none, none, none, none, none, none] = _
        rw [show (3 + (n0 : Int) / 8 % 5) = ((3 + n0 / 8 % 5 : Nat) : Int) by omega]
    rintro σ1 H1' ⟨rfl, N, hN3, hN12, rfl⟩
    refine ⟨_, rfl, na, _, 1, nV n1, rfl, rfl, SqL.of hna, a1, .inl ⟨_, rfl, _, _, rfl, rfl, by show (0 : Int) < 3; decide, _, _, rfl, rfl, _, rfl, na, _, 1, nV n1, rfl, rfl, SqL.of hna, a1, .inl ⟨_, rfl, _, _, rfl, rfl, ⟨by decide, by decide⟩, _, _, rfl, rfl, by show (0 : Int) < 3; decide, _, _, rfl, rfl, _, rfl, na, _, 1, nV n1, rfl, rfl, SqL.of hna, a1, .inl ⟨_, rfl, _, _, rfl, rfl, by show (0 : Int) < 3; decide, _, _, rfl, rfl, by show 2 ≤ sizeLine; decide, fun r0 hr0 => ?_⟩⟩⟩⟩
    have smr := same_new (o := .lst [.int (1 + (n1 : Int) % 3 + (n1 : Int) / 3 % 3), .int (1 + (n1 : Int) % 3)]) (Same.refl H1') hr0
    refine ⟨fun σ' H' => ∃ (r : Addr) (fast slow : Nat) (scale : Int), Same H1' H' ∧ H' r = some (.lst [nV fast, nV slow]) ∧ 1 ≤ slow ∧ slow ≤ fast ∧ fast ≤ 1000 ∧ 1 ≤ scale ∧ ((fast ≤ 5 ∧ scale ≤ 10 ^ 25) ∨ scale = 1) ∧ σ' = [some (.ref sa), some (.ref na), some (nV N), some (.ref r), some (.int scale), none, none, none, none, none, none], ?_, ?_⟩
    · have hna2 := smr _ _ hna
      have er : [V.int (1 + (n1 : Int) % 3 + (n1 : Int) / 3 % 3), V.int (1 + (n1 : Int) % 3)] = [nV (1 + n1 % 3 + n1 / 3 % 3), nV (1 + n1 % 3)] := by
        show [V.int (1 + (n1 : Int) % 3 + (n1 : Int) / 3 % 3), V.int (1 + (n1 : Int) % 3)] = [V.int ((1 + n1 % 3 + n1 / 3 % 3 : Nat) : Int), V.int ((1 + n1 % 3 : Nat) : Int)]
        rw [show (1 + (n1 : Int) % 3 + (n1 : Int) / 3 % 3) = ((1 + n1 % 3 + n1 / 3 % 3 : Nat) : Int) by omega, show (1 + (n1 : Int) % 3) = ((1 + n1 % 3 : Nat) : Int) by omega]
      have hr00 : (upd H1' r0 (.lst [.int (1 + (n1 : Int) % 3 + (n1 : Int) / 3 % 3), .int (1 + (n1 : Int) % 3)])) r0 = some (.lst [nV (1 + n1 % 3 + n1 / 3 % 3), nV (1 + n1 % 3)]) := by rw [upd_same, er]
      refine ⟨_, rfl, na, _, 2, nV n2, rfl, rfl, SqL.of hna2, a2, .inl ⟨_, rfl, _, _, rfl, rfl, by show (0 : Int) < 8; decide, rfl, _, rfl, ?_⟩⟩
      refine ite2 (fun _ => ?_) (fun _ => ?_)
      · refine ⟨_, rfl, sa, ns, 1, rfl, (sm1.trans smr).seq hS, fun c => ⟨c, rfl, .inl ⟨_, rfl, _, _, rfl, rfl, ⟨by omega, by omega, by decide⟩, _, _, rfl, rfl, by show (0 : Int) < 10 ^ (25 : Nat); decide, _, _, rfl, rfl, ?_⟩⟩⟩
        have hc : 0 ≤ (if c < 0 then -c else c) := by split <;> omega
        have h1 := Int.emod_nonneg (if c < 0 then -c else c) (show (10 ^ (25 : Nat) : Int) ≠ 0 by decide)
        have h2 := Int.emod_lt_of_pos (if c < 0 then -c else c) (show (0 : Int) < 10 ^ (25 : Nat) by decide)
        have e25 : (10 ^ (25 : Nat) : Int) = 10 ^ 25 := rfl
        exact ⟨r0, 1 + n1 % 3 + n1 / 3 % 3, 1 + n1 % 3, 1 + (if c < 0 then -c else c) % 10 ^ (25 : Nat), smr, hr00, by omega, by omega, by omega, by omega, .inl ⟨by omega, by omega⟩, rfl⟩
      · refine ⟨_, rfl, na, _, 2, nV n2, rfl, rfl, SqL.of hna2, a2, .inl ⟨_, rfl, _, _, rfl, rfl, by show (0 : Int) < 8; decide, rfl, _, rfl, ?_⟩⟩
        refine ite2 (fun _ => ?_) (fun _ => ?_)
        · refine ⟨_, rfl, na, _, 3, nV n3, rfl, rfl, SqL.of hna2, a3, .inl ⟨_, rfl, _, _, rfl, rfl, by show (0 : Int) < 1000; decide, _, _, rfl, rfl, _, rfl, na, _, 3, nV n3, rfl, rfl, SqL.of hna2, a3, .inl ⟨_, rfl, _, _, rfl, rfl, by show (0 : Int) < 1000; decide, _, _, rfl, rfl, ⟨by decide, by decide⟩, _, _, rfl, rfl, by show 2 ≤ sizeLine; decide, fun r1 hr1 => ?_⟩⟩⟩
          refine ⟨r1, 1 + n3 % 1000, 1 + n3 % 1000 / 2, 1, same_new smr hr1, ?_, by omega, by omega, by omega, by omega, .inr rfl, rfl⟩
          rw [upd_same]
          show some (HO.lst [V.int (1 + (n3 : Int) % 1000), V.int (1 + (n3 : Int) % 1000 / 2)]) = some (HO.lst [V.int ((1 + n3 % 1000 : Nat) : Int), V.int ((1 + n3 % 1000 / 2 : Nat) : Int)])
          rw [show (1 + (n3 : Int) % 1000) = ((1 + n3 % 1000 : Nat) : Int) by omega, show (1 + (n3 : Int) % 1000 / 2) = ((1 + n3 % 1000 / 2 : Nat) : Int) by omega]
        · exact ⟨r0, 1 + n1 % 3 + n1 / 3 % 3, 1 + n1 % 3, 1, smr, hr00, by omega, by omega, by omega, by omega, .inr rfl, rfl⟩
    rintro σ2 H2 ⟨r, fast, slow, scale, sm2, hr2, h1, h2, h3, h4, h5, rfl⟩
    have sm02 := sm1.trans sm2
    have hna2 := sm2 _ _ hna
    refine ⟨fun σ' H' => H' = H2 ∧ ∃ sl : Nat, sl ≤ 60 ∧ σ' = [some (.ref sa), some (.ref na), some (nV N), some (.ref r), some (.int scale), some (nV sl), none, none, none, none, none], ?_, ?_⟩
    · refine ⟨_, rfl, na, _, 4, nV n4, rfl, rfl, SqL.of hna2, a4, .inl ⟨_, rfl, _, _, rfl, rfl, by show (0 : Int) < 4; decide, rfl, _, rfl, ?_⟩⟩
      refine ite2 (fun _ => ?_) (fun _ => ?_)
      · refine ⟨_, rfl, na, _, 4, nV n4, rfl, rfl, SqL.of hna2, a4, .inl ⟨_, rfl, _, _, rfl, rfl, ⟨by decide, by decide⟩, _, _, rfl, rfl, by show (0 : Int) < 61; decide, ?_⟩⟩
        exact ⟨rfl, n4 / 4 % 61, by omega, rfl⟩
      · refine ⟨_, rfl, na, _, 4, nV n4, rfl, rfl, SqL.of hna2, a4, .inl ⟨_, rfl, _, _, rfl, rfl, ⟨by decide, by decide⟩, _, _, rfl, rfl, by show (0 : Int) < 9; decide, ?_⟩⟩
        exact ⟨rfl, n4 / 4 % 9, by omega, rfl⟩
    rintro σ3 H3 ⟨rfl, sl, hsl, rfl⟩
    refine ⟨by show 1 ≤ sizeLine; decide, fun mA hmA => ?_⟩
    have smm := same_new (o := .lst [.int 0]) (Same.refl H3) hmA
    have hmH : H mA = none := sm02.free hmA
    refine ⟨fun σ' H' => ∃ (mo : List Int) (v7 : Option V), Same H3 H' ∧ H' mA = some (.lst (mo.map V.int)) ∧ mo.length = N ∧ MoB mo (20 * scale) ∧ σ' = [some (.ref sa), some (.ref na), some (nV N), some (.ref r), some (.int scale), some (nV sl), some (.ref mA), v7, none, none, none], ?_, ?_⟩
    · refine ⟨_, rfl, sa, ns, 2, rfl, (sm02.trans smm).seq hS, fun c => ⟨_, rfl, _, _, rfl, rfl, c, 2, N - 1, 21, ?_, by decide, by omega, by decide, by decide, fun pA pn H4 sm4 hp0 hp hpl hpb => ?_⟩⟩
      · show [V.int c, V.int 2, V.int ((N : Int) - 1), V.int 21] = [V.int c, V.int ((2 : Nat) : Int), V.int ((N - 1 : Nat) : Int), V.int ((21 : Nat) : Int)]
        rw [show ((N : Int) - 1) = ((N - 1 : Nat) : Int) by omega] <;> rfl
      have hmA4 := sm4 _ _ upd_same
      have nmp : pA ≠ mA := fun z => by rw [z, upd_same] at hp0; cases hp0
      refine ⟨pA, rfl, ⟨_, SqL.of hp⟩, for_it (walk_list (xs := pn.map nV)) (fun i σ H' => ∃ (mo : List Int) (v7 : Option V), Same H3 H' ∧ H' mA = some (.lst (mo.map V.int)) ∧ H' pA = some (.lst (pn.map nV)) ∧ mo.length = i + 1 ∧ MoB mo (20 * scale) ∧ σ = [some (.ref sa), some (.ref na), some (nV N), some (.ref r), some (.int scale), some (nV sl), some (.ref mA), v7, none, none, none])
        ⟨[0], _, smm.trans sm4, hmA4, hp, rfl, MoB.start _, rfl⟩ (fun i σ H' _ h => by obtain ⟨mo, v7, _, _, g, _⟩ := h; exact SqL.of g) ?_ ?_⟩
      · rintro i x σ H5 H5' hi ⟨mo, v7, sm5, hmo, hp5, hml, hB, rfl⟩ ⟨rfl, hx⟩
        obtain ⟨pk, hpk, rfl⟩ := at_map hx
        have hpk21 := hpb pk (List.mem_of_getElem? hpk)
        have hpl12 : pn.length ≤ 11 := by omega
        rw [List.length_map] at hi
        have hat : atI (mo.map V.int) (((mo.map V.int).length : Int) - 1) = some (V.int (L2.cellOf mo (mo.length - 1))) := by
          rw [List.length_map, show ((mo.length : Int) - 1) = ((mo.length - 1 : Nat) : Int) by omega]
          exact atI_cell (by omega)
        refine ⟨_, rfl, .inl ⟨rfl, _, SqL.of hmo⟩, _, rfl, _, rfl, mA, _, rfl, .inl (SqL.of hmo), _, _, rfl, rfl, mA, _, _, .int (L2.cellOf mo (mo.length - 1)), rfl, rfl, SqL.of hmo, hat, _, rfl, _, rfl, _, _, rfl, rfl, .inl ⟨by omega, by omega⟩, _, _, rfl, rfl, mA, _, _, rfl, rfl, hmo, size_lt (by rw [List.length_map]; omega), ?_⟩
        have hd0 : 0 ≤ (pk : Int) * scale := Int.mul_nonneg (by omega) (by omega)
        have hd1 : (pk : Int) * scale ≤ 20 * scale := Int.mul_le_mul_of_nonneg_right (by omega) (by omega)
        refine ⟨mo ++ [L2.cellOf mo (mo.length - 1) + (pk : Int) * scale], _, same_mut sm5 hmA, by rw [upd_same, List.map_append] <;> rfl, (upd_ne nmp).trans hp5, by rw [List.length_append, hml] <;> rfl, hB.push hd0 hd1, rfl⟩
      · rintro σ H5 ⟨mo, v7, sm5, hmo, hp5, hml, hB, rfl⟩
        rw [List.length_map, hpl] at hml
        exact ⟨mo, v7, sm5, hmo, by omega, hB, rfl⟩
    rintro σ4 H4 ⟨mo, v7, sm4, hmo, hml, hB, rfl⟩
    have hmok : MoOk mo fast := by
      refine hB.ok (by omega) (by omega) ?_ ?_
      · have e30 : (10 : Int) ^ 30 = 10 ^ 25 * 100000 := by decide
        have hs25 : scale ≤ 10 ^ 25 := by
          rcases h5 with z | z
          · exact z.2
          · rw [z]; decide
        omega
      · have e30 : (10 : Int) ^ 30 = 10 ^ 25 * 100000 := by decide
        rcases h5 with z | z
        · have := Int.mul_le_mul_of_nonneg_right (show (fast : Int) ≤ 5 by omega) (show 0 ≤ 20 * scale * 11 by omega)
          omega
        · subst z
          have e : (20 * (1 : Int) * 11) = 220 := by decide
          rw [e, e30]
          omega
    refine ⟨by show 0 ≤ sizeLine; decide, fun D hD => ?_⟩
    have hDH : H D = none := (sm02.trans sm4).free hD
    have smD := same_new (o := .lst []) (Same.refl H4) hD
    refine ⟨fun σ' H' => ∃ (vs : List V) (es : List Ent) (v9 v10 : Option V), Same H4 H' ∧ H' D = some (.lst vs) ∧ Paired (EntV K H') vs es ∧ es.length ≤ 60 ∧ (∀ e ∈ es, e.Ok mo.length ∧ ∀ r ∈ entRows fast slow sl e, L2.cellOf mo r.1 + r.2.2 ≤ L2.cellOf mo r.2.1) ∧ σ' = [some (.ref sa), some (.ref na), some (nV N), some (.ref r), some (.int scale), some (nV sl), some (.ref mA), v7, some (.ref D), v9, v10], ?_, ?_⟩
    · have hnaD := smD _ _ (sm4 _ _ hna2)
      refine ⟨_, rfl, na, _, 5, nV n5, rfl, rfl, SqL.of hnaD, a5, .inl ⟨_, rfl, _, _, rfl, rfl, by show (0 : Int) < 8; decide, rfl, _, rfl, ?_⟩⟩
      refine ite2 (fun _ => ?_) (fun _ => ?_)
      case' refine_2 =>
        refine ⟨_, rfl, na, _, 6, nV n6, rfl, rfl, SqL.of hnaD, a6, .inl ⟨_, rfl, _, _, rfl, rfl, by show (0 : Int) < 13; decide, ?_⟩⟩
      all_goals
        refine ⟨_, rfl, by omega, by omega, for_range (lo := 0) (fun i σ H' => ∃ (vs : List V) (es : List Ent) (v9 v10 : Option V), Same H4 H' ∧ H' D = some (.lst vs) ∧ Paired (EntV K H') vs es ∧ es.length = i ∧ (∀ e ∈ es, e.Ok mo.length ∧ ∀ r ∈ entRows fast slow sl e, L2.cellOf mo r.1 + r.2.2 ≤ L2.cellOf mo r.2.1) ∧ σ = [some (.ref sa), some (.ref na), some (nV N), some (.ref r), some (.int scale), some (nV sl), some (.ref mA), v7, some (.ref D), v9, v10])
          ⟨[], [], _, _, smD, upd_same, .nil, rfl, (by intro e he; cases he), rfl⟩ ?_ ?_⟩
        · rintro i σ H5 hi ⟨vs, es, v9, v10, sm5, hvs, hvp, hes, hall, rfl⟩
          rw [show (0 : Int) + (i : Int) = (i : Int) by omega]
          have hi60 : i < 60 := by omega
          have hvl := hvp.length
          have sm05 := sm02.trans (sm4.trans sm5)
          refine ⟨_, rfl, _, rfl, .inl ⟨_, rfl, _, _, rfl, rfl, by show (0 : Int) < 40; decide, _, _, rfl, rfl, sa, ns, 3 + i % 40, ?_, sm05.seq hS, fun c => ⟨_, rfl, _, _, rfl, rfl, c, 100 + i, 4, 5040, ?_, by omega, by decide, by decide, by decide, fun pA pn H6 sm6 hp0 hp hpl hpb => ?_⟩⟩⟩
          · show [V.ref sa, V.int (3 + (i : Int) % 40)] = [V.ref sa, V.int ((3 + i % 40 : Nat) : Int)]
            rw [show (3 + (i : Int) % 40) = ((3 + i % 40 : Nat) : Int) by omega]
          · show [V.int c, V.int (100 + (i : Int)), V.int 4, V.int 5040] = [V.int c, V.int ((100 + i : Nat) : Int), V.int ((4 : Nat) : Int), V.int ((5040 : Nat) : Int)]
            rw [show (100 + (i : Int)) = ((100 + i : Nat) : Int) by omega] <;> rfl
          obtain ⟨q0, q1, q2, q3, rfl⟩ : ∃ q0 q1 q2 q3, pn = [q0, q1, q2, q3] := by
            match pn, hpl with
            | [q0, q1, q2, q3], _ => exact ⟨q0, q1, q2, q3, rfl⟩
          have hvs6 := sm6 _ _ hvs
          have sm46 := sm5.trans sm6
          refine ⟨_, rfl, .inl ⟨rfl, _, SqL.of hvs6⟩, _, rfl, _, rfl, _, rfl, _, rfl, pA, mA, r, q0, q1, q2, q3, fast, slow, sl, mo, rfl, SqL.of hp, SqL.of (sm46 _ _ hmo), SqL.of (sm46 _ _ (sm4 _ _ hr2)), hmok, h1, h2, h3, hsl, fun t e H7 sm7 ht0 ht hok hrows => ?_⟩
          have hvs7 := sm7 _ _ hvs6
          refine ⟨D, vs, _, rfl, rfl, hvs7, size_lt (by omega), ?_⟩
          refine ⟨vs ++ [.ref t], es ++ [e], _, _, same_mut (sm46.trans sm7) hD, upd_same, ?_, by rw [List.length_append, hes] <;> rfl, ?_, rfl⟩
          · exact Paired.snoc (L2.Paired.mapP hvp fun _ _ h => ((h.mono sm6).mono sm7).updL hvs7) (EntV.updL hvs7 ⟨t, rfl, SqT.of ht⟩)
          · intro e' he'
            rcases List.mem_append.mp he' with z | z
            · exact hall e' z
            · rw [List.mem_singleton.mp z]
              exact ⟨hok, hrows⟩
        · rintro σ H5 ⟨vs, es, v9, v10, sm5, hvs, hvp, hes, hall, rfl⟩
          exact ⟨vs, es, v9, v10, sm5, hvs, hvp, by omega, hall, rfl⟩
    rintro σ5 H5 ⟨vs, es, v9, v10, sm5, hvs, hvp, hes, hall, rfl⟩
    have sm35 := (sm4.trans sm5)
    have hr5 := sm35 _ _ hr2
    have hmo5 := sm5 _ _ hmo
    refine ⟨_, rfl, _, rfl, _, rfl, r, _, 0, nV fast, rfl, rfl, SqL.of hr5, rfl, _, rfl, r, _, 1, nV slow, rfl, rfl, SqL.of hr5, rfl, _, rfl, _, rfl, by show 6 ≤ sizeLine; decide, fun wA hwA => ?_⟩
    have smW := same_new (o := .lst [nV N, .ref D, nV fast, nV slow, nV sl, .ref mA]) (Same.refl H5) hwA
    have smF := (sm02.trans sm35).trans smW
    refine q wA ⟨N, es, fast, slow, sl⟩ mo _ smF ⟨D, mA, vs, SqL.of upd_same, SqL.of (smW _ _ hvs), L2.Paired.mapP hvp fun _ _ => EntV.mono smW, SqL.of (smW _ _ hmo5)⟩ ?_
    refine ⟨⟨by show 1 ≤ N; omega, hN12, hes, fun e he => by have := (hall e he).1; rw [hml] at this; exact this, h1, h2, h3, hsl⟩, hN3, hml, hB.z, ?_⟩
    intro s t l hm
    rcases List.mem_append.mp hm with hm | hm
    · obtain ⟨k, hk, e⟩ := List.mem_map.mp hm
      cases e
      have hk' := List.mem_range.mp hk
      have hk2 : k < N - 1 := hk'
      have := hB.up 0 (k + 1) (by omega) (by omega)
      omega
    · obtain ⟨e, he, hr'⟩ := List.mem_flatMap.mp hm
      exact (hall e he).2 _ hr'
end
end My
namespace My
open PySem L2
/-! ### law -/
theorem paired_len_at {α β : Type} {F : α → β → Prop} {l : List α} {m : List β} (h : Paired F l m) {i : Nat} (hi : i < l.length) : ∃ a b, l[i]? = some a ∧ m[i]? = some b ∧ F a b := by
  obtain ⟨a, ha⟩ := at_ex hi
  obtain ⟨b, hb, hf⟩ := paired_at h ha
  exact ⟨a, b, ha, hb, hf⟩
section
variable {P : Program} {w : World} {K : PySem.W.Frag} {mg : Str → Option Value} {base : Heap}
abbrev s_law : Stmt := top 73
abbrev N_law : List Str := ["script", "world", "size", "n", "other", "log", "mixed", "far", "pairs", "x", "y", "k"]
theorem sc_law : FnScope N_law ["script"] (C8.fnScope s_law) := C8.fnScope_by (by decide +kernel)
def sp_law (K : PySem.W.Frag) : Sp := fun vs H Q _ => ∃ (a : Addr) (ns : List Int), vs = [.ref a] ∧ SqL K H a (ns.map V.int) ∧ ∀ H', Q (.bl true) H'
theorem fn_law {C f : Addr} {fd : FuncData} (F : C8.Def K mg "law" s_law f fd) (T : Gb mg) (c__law_run : C8.Cal P w K mg base 2 "_law_run" (sp_law_run K) []) (c__law_cell : C8.Cal P w K mg base 1 "_law_cell" (sp_law_cell K) []) (c__law_numbers : C8.Cal P w K mg base 1 "_law_numbers" sp_law_numbers [])
    (c__law_exchanged : C8.Cal P w K mg base 2 "_law_exchanged" (sp_law_exchanged K) []) (c__law_log_text : C8.Cal P w K mg base 1 "_law_log_text" (sp_law_log_text K) []) (c_read_log : C8.Cal P w K mg base 4 "read_log" (sp_read_log K C) [.int 1]) (k_read_log : CalK P w K mg base 4 "read_log" 1 ["first"] (sp_read_log K C))
    (c__law_same : C8.Cal P w K mg base 7 "_law_same" (sp_law_same K C) []) (c__law_bounds : C8.Cal P w K mg base 1 "_law_bounds" (sp_law_bounds K) []) (c__law_far : C8.Cal P w K mg base 1 "_law_far" (sp_law_far K) []) (c__law_asked : C8.Cal P w K mg base 9 "_law_asked" (sp_law_asked K C) []) (c__law_turns : C8.Cal P w K mg base 9 "_law_turns" (sp_law_turns K C) []) :
    FnOk P w K mg base C8.CX0 10 f fd ["script"] (sp_law K) := by
  obtain ⟨fr, fdr, psr, Fr, mgr, kpr, kbr⟩ := k_read_log.ex
  refine C8.fn0 F.fn sc_law (fun vs H Q E h => ?_) (fun cdv A outer s H vs Q E hr h => ?_)
  · obtain ⟨sa, ns, rfl, _⟩ := h
    rfl
  · obtain ⟨sa, ns, rfl, hS, q⟩ := h
    refine ⟨_, (pss_cons (ps_set (i := 1) sc_law.nd rfl (Or.inl rfl) (C8.pe_c c__law_run hr (by decide) (by rfl) (pa_cons (pv 0) pa_nil)))
(pss_cons (ps_set (i := 2) sc_law.nd rfl (Or.inr rfl) (pe_ix (ix_listK K rfl) (pv 1) pe_int (fun _ _ => rfl)))
(pss_cons (ps_set (i := 3) sc_law.nd rfl (Or.inr rfl) (C8.pe_c c__law_numbers hr (by decide) (by rfl) (pa_cons (C8.pe_c c__law_cell hr (by decide) (by rfl) (pa_cons (pv 0) (pa_cons pe_int pa_nil))) (pa_cons pe_int (pa_cons pe_int (pa_cons pe_int pa_nil))))))
(pss_cons (ps_set (i := 4) sc_law.nd rfl (Or.inl rfl) (C8.pe_c c__law_exchanged hr (by decide) (by rfl) (pa_cons (pv 0) (pa_cons (pv 1) pa_nil))))
(pss_cons (ps_set (i := 5) sc_law.nd rfl (Or.inl rfl) (C8.pe_c c_read_log hr (by decide) (by rfl) (pa_cons (pe_join pe_str (C8.pe_c c__law_log_text hr (by decide) (by rfl) (pa_cons (pe_slice sl_list (pv 1) po_none (po_some pe_int)) pa_nil))) pa_nil)))
(pss_cons (ps_set (i := 6) sc_law.nd rfl (Or.inl rfl) (by exact (pe_callN (E := C8.E0) Fr (hr.mono (by decide)) (by rfl) mgr kpr kbr C8.pass0 (pa_cons (pe_join pe_str (C8.pe_c c__law_log_text hr (by decide) (by rfl) (pa_cons (pe_slice sl_list (pv 4) po_none (po_some pe_int)) pa_nil))) pa_nil) (pk_cons (pe_callTy call_int1 (by rfl) T.int (by decide +kernel) (pa_cons (pe_ix (ix_listK K rfl) (pv 3) pe_int (fun _ _ => rfl)) pa_nil)) pk_nil))))
(pss_cons (ps_if (PW.pt (pw_or (pt_not (pt_val (C8.pe_c c__law_same hr (by decide) (by rfl) (pa_cons (pv 5) (pa_cons (pv 1) pa_nil))))) (pw_or1 (pt_not (pt_val (C8.pe_c c__law_same hr (by decide) (by rfl) (pa_cons (pv 6) (pa_cons (pv 4) pa_nil))))))))
(pss_one (ps_ret pe_bl))
pss_nil)
(pss_cons (ps_set (i := 7) sc_law.nd rfl (Or.inl rfl) (C8.pe_c c__law_far hr (by decide) (by rfl) (pa_cons (pv 2) (pa_cons (C8.pe_c c__law_bounds hr (by decide) (by rfl) (pa_cons (pv 1) (pa_cons (pe_ix (ix_listK K rfl) (pv 1) pe_int (fun _ _ => rfl)) pa_nil))) pa_nil))))
(pss_cons (ps_setLc (i := 8) (own := [("k", 11)]) rfl sc_law.nd rfl rfl (sw_true rfl rfl rfl (by decide +kernel)) (pi_range1 (by rfl) T.range (pa_cons pe_int pa_nil)) (blkOk_by (N := N_law) (sc := C8.fnScope s_law) (by decide +kernel)) (fun _ _ _ _ _ => (pg_name (i := 11) sc_law.nd rfl (Or.inl rfl))) (fun _ _ _ _ _ => pts_nil) (fun _ _ _ _ _ => (pe_lst (pa_cons (pe_op op_mod (pe_callTy call_int1 (by rfl) T.int (by decide +kernel) (pa_cons (pe_ix (ix_listK K rfl) (pv 3) (pe_op op_mul pe_int (pv 11)) (fun _ _ => rfl)) pa_nil)) (pv 2)) (pa_cons (pe_op op_mod (pe_callTy call_int1 (by rfl) T.int (by decide +kernel) (pa_cons (pe_ix (ix_listK K rfl) (pv 3) (pe_op op_add (pe_op op_mul pe_int (pv 11)) pe_int) (fun _ _ => rfl)) pa_nil)) (pv 2)) pa_nil)))))
(pss_cons (ps_expr (pe_bm PySem.F.plainAttrs_list PySem.F.slot_list_append PySem.F.type_list_append mt_append (pv 8) (pa_cons (pe_lst (pa_cons (pe_op op_mod (pe_callTy call_int1 (by rfl) T.int (by decide +kernel) (pa_cons (pe_ix (ix_listK K rfl) (pv 3) pe_int (fun _ _ => rfl)) pa_nil)) (pe_op op_sub (pv 2) pe_int)) (pa_cons (pe_op op_add (pe_op op_mod (pe_callTy call_int1 (by rfl) T.int (by decide +kernel) (pa_cons (pe_ix (ix_listK K rfl) (pv 3) pe_int (fun _ _ => rfl)) pa_nil)) (pe_op op_sub (pv 2) pe_int)) pe_int) pa_nil))) pa_nil)))
(C8.pss_cut (ps_if (pt_cmpR op_eq (pv 2) pe_int (nomark _))
(pss_one (ps_set (i := 8) sc_law.nd rfl (Or.inl rfl) (pe_slice sl_list (pv 8) (po_some pe_int) po_none)))
pss_nil)
(pss_cons (ps_if (PW.pt (pw_or (pt_not (pt_val (C8.pe_c c__law_asked hr (by decide) (by rfl) (pa_cons (pv 5) (pa_cons (pv 1) (pa_cons (pv 7) (pa_cons (pv 8) pa_nil))))))) (pw_or1 (pt_not (pt_val (C8.pe_c c__law_asked hr (by decide) (by rfl) (pa_cons (pv 6) (pa_cons (pv 4) (pa_cons (pv 7) (pa_cons (pv 8) pa_nil))))))))))
(pss_one (ps_ret pe_bl))
pss_nil)
(pss_cons (ps_for PassesOwn.never rfl (pi_listK K rfl (pe_lst (pa_cons (pe_ix (ix_listK K rfl) (pv 8) pe_int (fun _ _ => rfl)) (pa_cons (pe_ix (ix_listK K rfl) (pv 8) (pe_op op_sub (pe_callB (call_lenK K rfl) (by rfl) T.len PySem.boot_len (pa_cons (pv 8) pa_nil)) pe_int) (fun _ _ => rfl)) pa_nil)))) (pg_unlK rfl (by rfl) (pgs_cons (pg_name (i := 9) sc_law.nd rfl (Or.inl rfl)) (pgs_cons (pg_name (i := 10) sc_law.nd rfl (Or.inl rfl)) pgs_nil)))
(pss_one (ps_if (pt_not (pt_val (C8.pe_c c__law_turns hr (by decide) (by rfl) (pa_cons (pe_ix (ix_listK K rfl) (pe_lst (pa_cons (pv 5) (pa_cons (pv 6) pa_nil))) (pe_op op_mod (pe_callTy call_int1 (by rfl) T.int (by decide +kernel) (pa_cons (pe_ix (ix_listK K rfl) (pv 3) pe_int (fun _ _ => rfl)) pa_nil)) pe_int) (fun _ _ => rfl)) (pa_cons (pe_ix (ix_listK K rfl) (pe_lst (pa_cons (pv 1) (pa_cons (pv 4) pa_nil))) (pe_op op_mod (pe_callTy call_int1 (by rfl) T.int (by decide +kernel) (pa_cons (pe_ix (ix_listK K rfl) (pv 3) pe_int (fun _ _ => rfl)) pa_nil)) pe_int) (fun _ _ => rfl)) (pa_cons (pv 9) (pa_cons (pv 10) pa_nil)))))))
(pss_one (ps_ret pe_bl))
pss_nil)))
(pss_one (ps_ret (pe_and (C8.pe_c c__law_same hr (by decide) (by rfl) (pa_cons (pv 5) (pa_cons (pv 1) pa_nil))) (pe_one (C8.pe_c c__law_same hr (by decide) (by rfl) (pa_cons (pv 6) (pa_cons (pv 4) pa_nil)))))))))))))))))))), ?_⟩
    refine ⟨_, rfl, sa, ns, rfl, hS, fun wa W mo H1 sm1 hW hR => ?_⟩
    obtain ⟨hok, hN3, hml, hm0, hpot⟩ := hR
    have hN12 := hok.s2
    have hlt := rowsOf_lt hok
    have hrl := rowsOf_len hok
    have np : NP (rowsOf W) W.size := hpot.np
    obtain ⟨ea, ma, es, hA, hE, hP, hM⟩ := id hW
    refine ⟨_, rfl, wa, _, 0, nV W.size, rfl, rfl, hA, rfl, ?_⟩
    refine ⟨_, rfl, sa, ns, 45, rfl, sm1.seq hS, fun c => ⟨c, 45, 10, 5040, rfl, by decide, by decide, by decide, by decide, fun na nn H2 sm2 hna0 hna hnl hnb => ?_⟩⟩
    have sm02 := sm1.trans sm2
    have natn : ∀ {k : Nat}, k < 10 → ∃ v, atI (nn.map nV) ((k : Nat) : Int) = some (nV v) := fun {k} hk => by
      obtain ⟨v, hv⟩ := at_ex (l := nn) (i := k) (by omega)
      exact ⟨v, atI_nat (nV_at hv)⟩
    have hW2 := hW.mono sm2
    refine ⟨_, rfl, _, rfl, sa, wa, ns, W, mo, rfl, sm02.seq hS, hW2, hok, fun oa W' H3 sm3 hW' hLk => ?_⟩
    have hok' := hLk.ok hok
    have sm13 := sm2.trans sm3
    obtain ⟨ea', ma', es', hA', hE', hP', _⟩ := id hW'
    -- the log
    refine ⟨⟨_, rfl⟩, ?_⟩
    refine ⟨_, rfl, 5, rfl, wa, _, rfl, sm13.seq hA, fun p4 hp4 => ?_⟩
    rw [cut5]
    have sm4 := same_new (o := .lst [nV W.size, .ref ea, nV W.fast, nV W.slow, nV W.late]) (Same.refl H3) hp4
    have sm14 := sm13.trans sm4
    refine ⟨p4, ea, es, W, rfl, SqL.of upd_same, sm14.seq hE, L2.Paired.mapP hP fun _ _ => EntV.mono sm14, hok, fun l5 H5 sm5 hl50 hl5 => ?_⟩
    refine ⟨Str.ofString "\n", l5, lines W, rfl, rfl, .inl (SqL.of hl5), text_sum hok, W, .int 1, rfl, hok, fun pl H6 sm6 _ hL6 => ?_⟩
    have sm36 := (sm4.trans sm5).trans sm6
    -- the mixed log
    refine ⟨⟨_, rfl⟩, ?_⟩
    refine ⟨_, rfl, 5, rfl, oa, _, rfl, sm36.seq hA', fun p7 hp7 => ?_⟩
    rw [cut5]
    have sm7 := same_new (o := .lst [nV W'.size, .ref ea', nV W'.fast, nV W'.slow, nV W'.late]) (Same.refl H6) hp7
    have sm37 := sm36.trans sm7
    refine ⟨p7, ea', es', W', rfl, SqL.of upd_same, sm37.seq hE', L2.Paired.mapP hP' fun _ _ => EntV.mono sm37, hok', fun l8 H8 sm8 hl80 hl8 => ?_⟩
    have sm38 := sm37.trans sm8
    have sm28 := sm3.trans sm38
    have hna8 := sm28 _ _ hna
    obtain ⟨n8, a8⟩ := natn (k := 8) (by omega)
    refine ⟨Str.ofString "\n", l8, lines W', rfl, rfl, .inl (SqL.of hl8), text_sum hok', _, rfl, na, _, 8, nV n8, rfl, rfl, SqL.of hna8, a8, .inl ⟨_, rfl, rfl, rfl, W', nV n8, rfl, hok', fun pm H9 sm9 _ hM9 => ?_⟩⟩
    have sm29 := sm28.trans sm9
    have sm39 := sm38.trans sm9
    have sm69 := (sm7.trans sm8).trans sm9
    have hL9 := hL6.mono sm69
    have hW9 := hW2.mono (sm3.trans sm39)
    have hW'9 := hW'.mono sm39
    refine ⟨_, rfl, _, rfl, pl, wa, W, mo, rfl, hL9, hW9, hok, fun HA smA => ⟨true, rfl, ?_⟩⟩
    refine iteF ?_
    refine ⟨_, rfl, _, rfl, pm, oa, W', mo, rfl, hM9.mono smA, hW'9.mono smA, hok', fun HB smB => ⟨true, rfl, ?_⟩⟩
    refine iteF ?_
    have sm9B := smA.trans smB
    have sm2B := sm29.trans sm9B
    have hWB := hW9.mono sm9B
    have hAB := (sm2.trans sm2B).seq hA
    refine ⟨_, rfl, _, rfl, _, rfl, wa, _, 4, nV W.late, rfl, rfl, hAB, rfl, wa, W, mo, W.late, rfl, hWB, hok, fun rA rs HC smC _ hrA hrs => ?_⟩
    have hrs' : Paired (RowV K HC) rs (rowsOf W) := hrs
    refine ⟨rA, W.size, rowsOf W, rfl, ⟨rs, SqL.of hrA, hrs'⟩, hlt, by omega, by omega, fun fa M HD smD hFA hF => ?_⟩
    have sm9D := (sm9B.trans smC).trans smD
    have sm2D := sm29.trans sm9D
    have hnaD := sm2D _ _ hna
    refine ⟨3, rfl, by decide, by decide, fun D hD => lc_range (lo := 0) (n := 3) (fun i H' => ∃ (vs : List V) (xys : List (Nat × Nat)), Same HD H' ∧ H' D = some (.lst vs) ∧ vs.length = i ∧ Paired (fun v xy => PairV K H' W.size v xy ∧ v ≠ .ref D) vs xys)
      ⟨[], [], same_new (Same.refl _) hD, upd_same, rfl, .nil⟩ ?_ ?_⟩
    · rintro i HE hi ⟨vs, xys, smE, hvs, hvl, hvp⟩
      rw [show (0 : Int) + (i : Int) = (i : Int) by omega]
      obtain ⟨u1, hu1⟩ := natn (k := 2 * i) (by omega)
      obtain ⟨u2, hu2⟩ := natn (k := 2 * i + 1) (by omega)
      have hu1' : atI (nn.map nV) (2 * (i : Int)) = some (nV u1) := hu1
      have hu2' : atI (nn.map nV) (2 * (i : Int) + 1) = some (nV u2) := hu2
      have hnaE := smE _ _ hnaD
      refine ⟨rfl, yes_go ?_⟩
      refine ⟨_, rfl, _, rfl, _, _, rfl, rfl, .inl ⟨by decide, by decide⟩, na, _, _, nV u1, rfl, rfl, SqL.of hnaE, hu1', .inl ⟨_, rfl, _, rfl, _, _, rfl, rfl, by show (0 : Int) < (W.size : Int); omega, ?_⟩⟩
      refine ⟨_, rfl, _, rfl, _, _, rfl, rfl, .inl ⟨by decide, by decide⟩, _, _, rfl, rfl, na, _, _, nV u2, rfl, rfl, SqL.of hnaE, hu2', .inl ⟨_, rfl, _, rfl, _, _, rfl, rfl, by show (0 : Int) < (W.size : Int); omega, by show 2 ≤ sizeLine; decide, fun pr hpr => ?_⟩⟩
      have smP := same_new (o := .lst [nV (u1 % W.size), nV (u2 % W.size)]) (Same.refl HE) hpr
      have hvsP := smP _ _ hvs
      have nDp : pr ≠ D := fun z => by rw [z, hvs] at hpr; cases hpr
      refine ⟨vs, hvsP, size_lt (by omega), ?_⟩
      refine ⟨vs ++ [.ref pr], xys ++ [(u1 % W.size, u2 % W.size)], same_mut (smE.trans smP) hD, upd_same, by rw [List.length_append, hvl] <;> rfl, ?_⟩
      refine Paired.snoc (L2.Paired.mapP hvp fun v xy h => ?_) ⟨⟨pr, rfl, SqL.of ((upd_ne nDp).trans upd_same), Nat.mod_lt _ (by omega), Nat.mod_lt _ (by omega)⟩, fun z => nDp (by cases z; rfl)⟩
      obtain ⟨h, hne⟩ := h
      obtain ⟨a, rfl, ha, h1, h2⟩ := PairV.mono smP h
      have hna : a ≠ D := fun z => hne (by rw [z])
      refine ⟨⟨a, rfl, ?_, h1, h2⟩, hne⟩
      rcases ha with (ha | ⟨ob, ha⟩) | ha
      · exact .inl (.inl ((upd_ne hna).trans ha))
      · exact .inl (.inr ⟨ob, (upd_ne hna).trans ha⟩)
      · exact .inr ha
    rintro HE ⟨vs, xys, smE, hvs, hvl, hvp⟩
    -- the fourth pair
    have hvp' : Paired (PairV K HE W.size) vs xys := L2.Paired.mapP hvp fun _ _ h => h.1
    have hnaE := smE _ _ hnaD
    obtain ⟨n6, a6⟩ := natn (k := 6) (by omega)
    have hm6 : n6 % (W.size - 1) < W.size - 1 := Nat.mod_lt _ (by omega)
    have sz1 : ((W.size : Int) - 1) = ((W.size - 1 : Nat) : Int) := by omega
    refine ⟨_, rfl, .inl ⟨rfl, vs, SqL.of hvs⟩, ?_⟩
    refine ⟨_, rfl, na, _, _, nV n6, rfl, rfl, SqL.of hnaE, a6, .inl ⟨_, rfl, _, rfl, _, _, rfl, rfl, _, _, rfl, rfl, by show (0 : Int) < (W.size : Int) - 1; omega, ?_⟩⟩
    refine ⟨_, rfl, na, _, _, nV n6, rfl, rfl, SqL.of hnaE, a6, .inl ⟨_, rfl, _, rfl, _, _, rfl, rfl, _, _, rfl, rfl, by show (0 : Int) < (W.size : Int) - 1; omega, _, _, rfl, rfl, ?_⟩⟩
    rw [sz1]
    refine ⟨by show 2 ≤ sizeLine; decide, fun pq hpq => ?_⟩
    have smQ := same_new (o := .lst [nV (n6 % (W.size - 1)), nV (n6 % (W.size - 1) + 1)]) (Same.refl HE) hpq
    have hvsQ := smQ _ _ hvs
    have nDq : pq ≠ D := fun z => by rw [z, hvs] at hpq; cases hpq
    refine ⟨D, vs, _, rfl, rfl, hvsQ, size_lt (by omega), ?_⟩
    -- the four pairs
    have hD4 : Paired (PairV K (upd (upd HE pq (.lst [nV (n6 % (W.size - 1)), nV (n6 % (W.size - 1) + 1)])) D (.lst (vs ++ [V.ref pq]))) W.size) (vs ++ [.ref pq]) (xys ++ [(n6 % (W.size - 1), n6 % (W.size - 1) + 1)]) := by
      refine Paired.snoc (L2.Paired.mapP hvp fun v xy h => ?_) ⟨pq, rfl, SqL.of ((upd_ne nDq).trans upd_same), by show n6 % (W.size - 1) < W.size; omega, by show n6 % (W.size - 1) + 1 < W.size; omega⟩
      obtain ⟨h, hne⟩ := h
      obtain ⟨a, rfl, ha, h1, h2⟩ := PairV.mono smQ h
      have hna : a ≠ D := fun z => hne (by rw [z])
      refine ⟨a, rfl, ?_, h1, h2⟩
      rcases ha with (ha | ⟨ob, ha⟩) | ha
      · exact .inl (.inl ((upd_ne hna).trans ha))
      · exact .inl (.inr ⟨ob, (upd_ne hna).trans ha⟩)
      · exact .inr ha
    have smF : Same HD (upd (upd HE pq (.lst [nV (n6 % (W.size - 1)), nV (n6 % (W.size - 1) + 1)])) D (.lst (vs ++ [V.ref pq]))) := same_mut (smE.trans smQ) hD
    have hFD : (upd (upd HE pq (.lst [nV (n6 % (W.size - 1)), nV (n6 % (W.size - 1) + 1)])) D (.lst (vs ++ [V.ref pq]))) D = some (.lst (vs ++ [.ref pq])) := upd_same
    have hps4 : (vs ++ [V.ref pq]).length = 4 := by rw [List.length_append, hvl]; rfl
    refine ⟨fun σ' H' => ∃ (D' : Addr) (ps : List V) (xs : List (Nat × Nat)), Same HD H' ∧ SqL K H' D' ps ∧ Paired (PairV K H' W.size) ps xs ∧ 2 ≤ ps.length ∧ ps.length ≤ 4 ∧
      σ' = [some (.ref sa), some (.ref wa), some (nV W.size), some (.ref na), some (.ref oa), some (.ref pl), some (.ref pm), some (.ref fa), some (.ref D'), none, none, none], ?_, ?_⟩
    · refine ⟨_, rfl, rfl, _, rfl, ?_⟩
      refine ite2 (fun _ => ?_) (fun _ => ?_)
      · refine ⟨_, rfl, 2, rfl, D, _, rfl, SqL.of hFD, fun pc hpc => ?_⟩
        have smC2 := same_new (o := .lst (cutV (vs ++ [V.ref pq]) (some 2) none)) (Same.refl (upd (upd HE pq (.lst [nV (n6 % (W.size - 1)), nV (n6 % (W.size - 1) + 1)])) D (.lst (vs ++ [V.ref pq])))) hpc
        have hcut : cutV (vs ++ [V.ref pq]) (some (2 : Int)) none = (vs ++ [V.ref pq]).drop 2 := by
          rw [show (2 : Int) = ((2 : Nat) : Int) from rfl, cutV_from (by omega)]
        refine ⟨pc, _, (xys ++ [(n6 % (W.size - 1), n6 % (W.size - 1) + 1)]).drop 2, smF.trans smC2, SqL.of upd_same, ?_, ?_, ?_, rfl⟩
        · rw [hcut] at smC2 ⊢
          have smC3 := smC2
          exact paired_drop 2 (L2.Paired.mapP hD4 fun _ _ => PairV.mono smC3)
        · rw [hcut, List.length_drop]; omega
        · rw [hcut, List.length_drop]; omega
      · exact ⟨D, _, _, smF, SqL.of hFD, hD4, by omega, by omega, rfl⟩
    rintro σG HG ⟨D', ps, xs, smG, hDG, hpG, hp2, hp4, rfl⟩
    have sm9G := sm9D.trans smG
    have hFG := hFA.mono smG
    have hLG := hL9.mono sm9G
    have hMG := hM9.mono sm9G
    have hWG := hW9.mono sm9G
    have hOG := hW'9.mono sm9G
    have es1 : W'.size = W.size := hLk.size
    refine ⟨_, rfl, _, rfl, _, rfl, _, rfl, pl, wa, fa, D', W, mo, M, ps, xs, rfl, hLG, hWG, hFG, hF, hok, hDG, hpG, hml, hm0, hpot, fun HI smI => ⟨true, rfl, ?_⟩⟩
    refine iteF ?_
    refine ⟨_, rfl, _, rfl, _, rfl, _, rfl, pm, oa, fa, D', W', mo, M, ps, xs, rfl, hMG.mono smI, hOG.mono smI, by rw [es1]; exact hFG.mono smI, by rw [es1]; exact hF.like hLk.rows, hok', smI.seq hDG, by rw [es1]; exact L2.Paired.mapP hpG fun _ _ => PairV.mono smI, by rw [es1]; exact hml, hm0, hpot.like hLk.rows, fun HJ smJ => ⟨true, rfl, ?_⟩⟩
    refine iteF ?_
    have smGJ := smI.trans smJ
    have sm9J := sm9G.trans smGJ
    have hnaJ := (sm29.trans sm9J) _ _ hna
    have hDJ := smGJ.seq hDG
    have hpJ : Paired (PairV K HJ W.size) ps xs := L2.Paired.mapP hpG fun _ _ => PairV.mono smGJ
    obtain ⟨n7, a7⟩ := natn (k := 7) (by omega)
    obtain ⟨v0, hv0⟩ := at_ex (l := ps) (i := 0) (by omega)
    obtain ⟨v1, hv1⟩ := at_ex (l := ps) (i := ps.length - 1) (by omega)
    have hsel : ∃ (p u : Addr) (W2 : Wd), atI [V.ref pl, V.ref pm] ((n7 : Int) % 2) = some (.ref p) ∧ atI [V.ref wa, V.ref oa] ((n7 : Int) % 2) = some (.ref u) ∧ LogAt K C HJ p W2 ∧ WorldAt K HJ u W2 mo ∧ W2.Ok ∧ NP (rowsOf W2) W2.size ∧ W2.size = W.size := by
      have h2 : (n7 : Int) % 2 = 0 ∨ (n7 : Int) % 2 = 1 := by omega
      rcases h2 with h2 | h2
      · rw [h2]
        exact ⟨pl, wa, W, rfl, rfl, hLG.mono smGJ, hWG.mono smGJ, hok, np, rfl⟩
      · rw [h2]
        exact ⟨pm, oa, W', rfl, rfl, hMG.mono smGJ, hOG.mono smGJ, hok', (hpot.like hLk.rows).np, es1⟩
    obtain ⟨sp_, su, W2, hs1, hs2, hsL, hsW, hsok, hsnp, hssz⟩ := hsel
    have inJ : ∀ {v : V} {i : Nat} {H' : Hp}, Same HJ H' → ps[i]? = some v → ∃ x y : Nat, ∃ xa, v = .ref xa ∧ SqL K H' xa [nV x, nV y] ∧ x < W.size ∧ y < W.size := fun {v i H'} s hv => by
      obtain ⟨⟨x, y⟩, _, a, e, h1, h2, h3⟩ := paired_at hpJ hv
      exact ⟨x, y, a, e, s.seq h1, h2, h3⟩
    have hlast : ((ps.length : Int) - 1) = ((ps.length - 1 : Nat) : Int) := by omega
    refine ⟨_, rfl, D', _, 0, v0, rfl, rfl, hDJ, atI_nat (j := 0) hv0, ?_⟩
    refine ⟨_, rfl, _, rfl, D', _, rfl, .inl hDJ, _, _, rfl, rfl, D', _, _, v1, rfl, rfl, hDJ, by rw [hlast]; exact atI_nat hv1, by show 2 ≤ sizeLine; decide, fun pf hpf => ?_⟩
    have smJf := same_new (o := .lst [v0, v1]) (Same.refl HJ) hpf
    have hLogs : ∀ {H' : Hp}, Same HJ H' → LogAt K C H' pl W ∧ LogAt K C H' pm W' ∧ WorldAt K H' wa W mo ∧ WorldAt K H' oa W' mo := fun {H'} s => ⟨hLG.mono (smGJ.trans s), hMG.mono (smGJ.trans s), hWG.mono (smGJ.trans s), hOG.mono (smGJ.trans s)⟩
    refine ⟨pf, rfl, ⟨[v0, v1], SqL.of upd_same⟩, for_it (walk_list (xs := [v0, v1])) (fun i σ H' => Same (upd HJ pf (.lst [v0, v1])) H' ∧ ∃ w1 w2, σ = [some (.ref sa), some (.ref wa), some (nV W.size), some (.ref na), some (.ref oa), some (.ref pl), some (.ref pm), some (.ref fa), some (.ref D'), w1, w2, none])
      ⟨Same.refl _, _, _, rfl⟩ (fun i σ H' _ h => SqL.of (h.1 _ _ upd_same)) ?_ ?_⟩
    · rintro i v σ H2 H2' hi ⟨sm2', w1, w2, rfl⟩ ⟨rfl, hx0⟩
      have s2 := smJf.trans sm2'
      obtain ⟨x, y, xa, rfl, hxa, hx, hy⟩ : ∃ x y : Nat, ∃ xa, v = .ref xa ∧ SqL K H2' xa [nV x, nV y] ∧ x < W.size ∧ y < W.size := by
        rcases i with _ | _ | i
        · cases hx0; exact inJ s2 hv0
        · cases hx0; exact inJ s2 hv1
        · exact absurd hi (by show ¬ i + 1 + 1 < 2; omega)
      refine ⟨xa, _, rfl, hxa, rfl, _, _, rfl, _, _, rfl, rfl, ?_⟩
      refine ⟨_, rfl, _, rfl, by show 2 ≤ sizeLine; decide, fun q1 hq1 => ?_⟩
      have t1 := same_new (o := .lst [V.ref pl, V.ref pm]) (Same.refl H2') hq1
      have hna1 := (((sm29.trans sm9J).trans s2).trans t1) _ _ hna
      refine ⟨_, rfl, na, _, _, nV n7, rfl, rfl, SqL.of hna1, a7, .inl ⟨_, rfl, _, _, rfl, rfl, by show (0 : Int) < 2; decide, q1, _, _, .ref sp_, rfl, rfl, SqL.of upd_same, hs1, ?_⟩⟩
      refine ⟨_, rfl, _, rfl, by show 2 ≤ sizeLine; decide, fun q2 hq2 => ?_⟩
      have t2 := same_new (o := .lst [V.ref wa, V.ref oa]) (Same.refl _) hq2
      have hna2 := t2 _ _ hna1
      refine ⟨_, rfl, na, _, _, nV n7, rfl, rfl, SqL.of hna2, a7, .inl ⟨_, rfl, _, _, rfl, rfl, by show (0 : Int) < 2; decide, q2, _, _, .ref su, rfl, rfl, SqL.of upd_same, hs2, ?_⟩⟩
      have s3 := (s2.trans t1).trans t2
      refine ⟨_, rfl, _, rfl, sp_, su, W2, mo, x, y, rfl, hsL.mono s3, hsW.mono s3, hsok, hsnp, by rw [hssz]; exact hx, by rw [hssz]; exact hy, fun H3 sm3' => ⟨true, rfl, ?_⟩⟩
      refine iteF ?_
      exact ⟨sm2'.trans ((t1.trans t2).trans sm3'), _, _, rfl⟩
    rintro σ H' ⟨sm', w1, w2, rfl⟩
    obtain ⟨hl1, hl2, hl3, hl4⟩ := hLogs (smJf.trans sm')
    refine ⟨_, rfl, _, rfl, pl, wa, W, mo, rfl, hl1, hl3, hok, fun H3 sm3' => ?_⟩
    refine ⟨true, rfl, ?_⟩
    refine ⟨_, rfl, _, rfl, pm, oa, W', mo, rfl, hl2.mono sm3', hl4.mono sm3', hok', fun H4 sm4' => q H4⟩
end
end My
/-! loops, unpackings and own iterators where an exception is handled -/
namespace My
open PySem PySem.Spec PyProof.Rows L2 L2H HotX
section
variable {prog : Program} {w : World} {A : Around} {E : Value → Shared → Prop} {s : Shared}
/-- what the end of a walk does where an exception is handled: the StopIteration bears it as its context -/
theorem stop_hot {α : Type} {B : Around} {x1 : Addr} {Q : α → Shared → Prop} {E : Value → Shared → Prop} (hot : HotAt B x1 s.heap)
    (h : ∀ h' e, (∀ b o, s.heap.get? b = some o → h'.get? b = some o) → (∃ o, h'.get? e = some o ∧ o.cls = .type "StopIteration") → E (.ref e) { s with heap := h' }) :
    wpAny (model prog w) B (newExc (.type "StopIteration") [] >>= raiseNew) Q E s := by
  obtain ⟨hh, o1, vs1, h1, d1, c1⟩ := hot
  refine wpAny_bind ?_
  simp only [newExc, newTuple]
  refine wpAny_bind (wpAny_newObj_type ?_ (by size_fits))
  refine wpAny_bind (m := firstArgMember _ _) (wpAny_of_eq (a := Value.none) (by first | rfl | (simp only [firstArgMember]; rfl)) ?_)
  refine wpAny_newObj_type ?_ (by size_fits)
  refine raiseNew_hot ⟨hh, o1, vs1, Heap.get?_push_of_some _ (Heap.get?_push_of_some _ h1), d1, c1⟩ (Nat.ne_of_lt (Heap.lt_size (Heap.get?_push_of_some _ h1))) (Heap.get?_push_size _ rfl) rfl (by first | (simp; done) | (simp; omega)) ?_
  refine h _ _ (fun b o e => ?_) ⟨_, Heap.get?_update_self _ (Heap.get?_push_size _ rfl) rfl, rfl⟩
  rw [Heap.get?_update_other _ _ (Nat.ne_of_gt (Heap.lt_size (Heap.get?_push_of_some _ e)))]
  exact Heap.get?_push_of_some _ (Heap.get?_push_of_some _ e)
theorem list_end_hot {it l x1 : Addr} {i : Nat} {items : Array Value} {Q : Option Value → Shared → Prop} (hot : HotAt A x1 s.heap) (hne : it ≠ x1) (hit : s.heap.IsListIter it l i) (hl : s.heap.IsList l items) (hx : items[i]? = none)
    (hQ : ∀ h', (∀ b o, b ≠ it → s.heap.get? b = some o → h'.get? b = some o) → Q none { s with heap := h' }) : wpAny (model prog w) A (pyNext (.ref it)) Q E s := by
  obtain ⟨o, ho, hc, hd⟩ := id hit
  obtain ⟨ol, hol, _, _, hdl⟩ := hl
  obtain ⟨hh, o1, vs1, h1, d1, c1⟩ := hot
  unfold pyNext
  refine wpAny_bind (wpAny_attempt (wpAny_callSpecial?_slot (name := Str.ofString "__next__") hit.typeIs slot_listiter_next
    (wpAny_call_entry slot_listiter_next hit.typeIs entry_listiter_next ?_ (args_listiter_next _))))
  show wpAny _ _ (field (.ref it) 0 >>= _) _ _ s
  refine wpAny_bind (wpAny_field ho hd (x := .ref l) rfl ?_)
  show wpAny _ _ (if (Value.ref l == Value.none) = true then _ else _) _ _ s
  rw [if_neg (show ¬ ((Value.ref l == Value.none) = true) from Bool.false_ne_true)]
  show wpAny _ _ (field (.ref it) 1 >>= _) _ _ s
  refine wpAny_bind (wpAny_field ho hd (x := .int i 0) rfl ?_)
  show wpAny _ _ (seqItems? (.ref l) >>= _) _ _ s
  refine wpAny_bind (wpAny_seqItems hol hdl ?_)
  simp only [Int.toNat_natCast, hx]
  refine wpAny_bind (wpAny_rule (wpAny_bind (wpAny_setField ho hd (by simp) ?_)))
  show wpAny _ _ (newExc (.type "StopIteration") [] >>= raiseNew) _ _ _
  refine stop_hot (x1 := x1) ?_ fun h' e k ⟨oe, he, hce⟩ => ?_
  · exact ⟨hh, o1, vs1, (Heap.get?_update_other _ _ hne).trans h1, d1, c1⟩
  refine wpAny_bind (wpAny_isInstance (T := "StopIteration") (b := true) ⟨oe, he, hce⟩ isSubtype_stop ?_)
  exact wpAny_pure (hQ _ fun b o hb e => k b o ((Heap.get?_update_other _ _ (Ne.symm hb)).trans e))
theorem tuple_end_hot {it l x1 : Addr} {i : Nat} {items : Array Value} {Q : Option Value → Shared → Prop} (hot : HotAt A x1 s.heap) (hne : it ≠ x1) (hit : s.heap.IsTupleIter it l i) (hl : s.heap.IsTuple l items) (hx : items[i]? = none)
    (hQ : ∀ h', (∀ b o, b ≠ it → s.heap.get? b = some o → h'.get? b = some o) → Q none { s with heap := h' }) : wpAny (model prog w) A (pyNext (.ref it)) Q E s := by
  obtain ⟨o, ho, hc, hd⟩ := id hit
  obtain ⟨ol, hol, _, _, hdl⟩ := hl
  obtain ⟨hh, o1, vs1, h1, d1, c1⟩ := hot
  unfold pyNext
  refine wpAny_bind (wpAny_attempt (wpAny_callSpecial?_slot (name := Str.ofString "__next__") hit.typeIs F.slot_tuple_iterator_next
    (wpAny_call_entry F.slot_tuple_iterator_next hit.typeIs F.entry_tuple_iterator_next ?_ (F.args_tuple_iterator_next_1 _))))
  show wpAny _ _ (field (.ref it) 0 >>= _) _ _ s
  refine wpAny_bind (wpAny_field ho hd (x := .ref l) rfl ?_)
  show wpAny _ _ (if (Value.ref l == Value.none) = true then _ else _) _ _ s
  rw [if_neg (show ¬ ((Value.ref l == Value.none) = true) from Bool.false_ne_true)]
  show wpAny _ _ (field (.ref it) 1 >>= _) _ _ s
  refine wpAny_bind (wpAny_field ho hd (x := .int i 0) rfl ?_)
  show wpAny _ _ (seqItems? (.ref l) >>= _) _ _ s
  refine wpAny_bind (wpAny_seqItems hol hdl ?_)
  simp only [Int.toNat_natCast, hx]
  refine wpAny_bind (wpAny_rule (wpAny_bind (wpAny_setField ho hd (by simp) ?_)))
  show wpAny _ _ (newExc (.type "StopIteration") [] >>= raiseNew) _ _ _
  refine stop_hot (x1 := x1) ?_ fun h' e k ⟨oe, he, hce⟩ => ?_
  · exact ⟨hh, o1, vs1, (Heap.get?_update_other _ _ hne).trans h1, d1, c1⟩
  refine wpAny_bind (wpAny_isInstance (T := "StopIteration") (b := true) ⟨oe, he, hce⟩ isSubtype_stop ?_)
  exact wpAny_pure (hQ _ fun b o hb e => k b o ((Heap.get?_update_other _ _ (Ne.symm hb)).trans e))
/-- a tuple unpacked to plain targets there -/
theorem unpack_hot {t x1 : Addr} {items : Array Value} {targets : List (Bool × (Value → Sem Unit))} {Q : Unit → Shared → Prop} (hot : HotAt A x1 s.heap) (ht : IsTup s.heap t items) (hn : targets.length = items.size) (hstar : targets.findIdx? (·.1) = none)
    (h : ∀ h', (∀ b o, s.heap.get? b = some o → h'.get? b = some o) → wpAny (model prog w) A (assignInOrder (targets.map (·.2)) items.toList) Q E { s with heap := h' }) :
    wpAny (model prog w) A (unpack (.ref t) targets) Q E s := by
  obtain ⟨hh, o1, vs1, h1, d1, c1⟩ := hot
  have nt : t ≠ s.heap.objs.size := let ⟨o, ho, _⟩ := ht; Nat.ne_of_lt (Heap.lt_size ho)
  have n1 : x1 ≠ s.heap.objs.size := Nat.ne_of_lt (Heap.lt_size h1)
  unfold unpack
  rw [hn, hstar]
  refine wpAny_bind (wpAny_holding ?_)
  unfold unpackItems
  refine wpAny_bind ?_
  unfold notIterableAtAll
  refine wpAny_bind (wpAny_specialOf ht.typeIs slot_tuple_iter.lookup (wpAny_pure ?_))
  simp only [Bool.false_eq_true, if_false]
  refine wpAny_bind (wpAny_holding (iter_tuple ht ?_))
  refine wpAny_bind (wpAny_holding (draw_tuple nt items.size 0 _ _ ⟨_, Heap.get?_push_size _ rfl, rfl, rfl⟩ (ht.push _) (by omega) fun h2 it2 sb2 => ?_))
  rw [List.drop_zero, List.take_of_length_le (by simp), if_neg (by simp)]
  have t2 : IsTup h2 t items := (ht.push _).extBut sb2.extBut nt
  have k2 : ∀ b o, s.heap.get? b = some o → h2.get? b = some o := fun b o e => sb2.extBut b o (Nat.ne_of_lt (Heap.lt_size e)) (Heap.get?_push_of_some _ e)
  refine wpAny_bind (wpAny_holding (tuple_end_hot (s := { s with heap := h2 }) ⟨hh, o1, vs1, k2 _ _ h1, d1, c1⟩ (Ne.symm n1) it2 t2 (by simp) fun h3 k3 => ?_))
  simp only [Option.isSome_none, Bool.false_eq_true, if_false]
  exact wpAny_pure (h h3 fun b o e => k3 b o (Nat.ne_of_lt (Heap.lt_size e)) (k2 b o e))
end
theorem HotC.out {X : Cx} {pins : List (Addr × Obj)} {σ : L2.St} {H : Hp} {s : Shared} {it : Addr} (c : HotC X) (I : Inv X pins σ H s) (f : FpOk X pins H it) : ∃ x1, HotAt X.A x1 s.heap ∧ it ≠ x1 := by
  obtain ⟨p, ⟨hh, v1, e1, c1⟩, hp⟩ := c
  exact ⟨p.1, ⟨hh, p.2, v1, (I.pin p (List.mem_append_left _ hp)).1, e1, c1⟩, fun z => f.2.2.2.2.2 p (List.mem_append_left _ hp) z.symm⟩
theorem turn_listH {P : Program} {w : World} {K : PySem.W.Frag} {tg : Expr} (a it : Addr) : TurnH P w K tg (Itl K a) [it] it (fun i h => h.IsListIter it a i) := by
  refine ⟨List.mem_singleton.mpr rfl, fun i h st b hb => ?_, fun i h h' st k => st.at fun o e => k it (List.mem_singleton.mpr rfl) o e, fun X hP hw hK hc i pins s σ H E I hf st hg => ?_, fun X hP hw hK hc i pins s σ H E I hf st hg => ?_, fun _ _ _ _ _ st h => wpAny_pyIter_listiter st h⟩
  · obtain rfl := List.mem_singleton.mp hb
    obtain ⟨o, e, _, d⟩ := st
    exact ⟨o, e, fun v z => by rw [d] at z; cases z⟩
  · subst hP hw hK
    obtain ⟨xs, x, hq, hx⟩ := hg
    obtain ⟨its, rv, p, _⟩ := I.list hq
    obtain ⟨u, hu, ru⟩ := rv.get hx
    have fo := hf it (List.mem_singleton.mpr rfl)
    refine wpAny_pyNext_list_item st p.isList (x := u) (by simpa using hu) fun h' st' sb => ?_
    have I1 := I.turned (t' := s.toks) (h' := h') (fun b o hb e => (sb.2 b hb).trans e) fo.1 fo.2.1 fo.2.2.2.1 fo.2.2.2.2.1 fo.2.2.2.2.2
    obtain ⟨o, e, c, d⟩ := id st'
    exact ⟨u, rfl, go_of (s := { s with heap := h' }) e c d (by decide) ⟨x, H, I1, ru, ⟨rfl, fun ys hy => by rw [I.list_inj hy hq]; exact hx⟩, st', fun b hb => (hf b hb).1⟩⟩
  · subst hP hw hK
    obtain ⟨xs, hq, hx⟩ := hg
    obtain ⟨its, rv, p, _⟩ := I.list hq
    have fo := hf it (List.mem_singleton.mpr rfl)
    obtain ⟨x1, hot, hne⟩ := HotC.out hc I fo
    have hl := rv.length
    exact list_end_hot hot hne st p.isList (by simp; omega) fun h' eb => ⟨rfl, I.turned (t' := s.toks) eb fo.1 fo.2.1 fo.2.2.2.1 fo.2.2.2.2.1 fo.2.2.2.2.2⟩
theorem turn_tupleH {P : Program} {w : World} {K : PySem.W.Frag} {tg : Expr} (a it : Addr) : TurnH P w K tg (Itt K a) [it] it (fun i h => h.IsTupleIter it a i) := by
  refine ⟨List.mem_singleton.mpr rfl, fun i h st b hb => ?_, fun i h h' st k => st.at fun o e => k it (List.mem_singleton.mpr rfl) o e, fun X hP hw hK hc i pins s σ H E I hf st hg => ?_, fun X hP hw hK hc i pins s σ H E I hf st hg => ?_, fun _ _ _ _ _ st h => wpAny_pyIter_tupleiter st h⟩
  · obtain rfl := List.mem_singleton.mp hb
    obtain ⟨o, e, _, d⟩ := st
    exact ⟨o, e, fun v z => by rw [d] at z; cases z⟩
  · subst hP hw hK
    obtain ⟨xs, x, hq, hx⟩ := hg
    obtain ⟨its, rv, p, _⟩ := I.tuple hq
    obtain ⟨u, hu, ru⟩ := rv.get hx
    have fo := hf it (List.mem_singleton.mpr rfl)
    refine wpAny_pyNext_tuple_item st (show s.heap.IsTuple a its.toArray from p) (x := u) (by simpa using hu) fun h' st' sb => ?_
    have I1 := I.turned (t' := s.toks) (h' := h') (fun b o hb e => (sb.2 b hb).trans e) fo.1 fo.2.1 fo.2.2.2.1 fo.2.2.2.2.1 fo.2.2.2.2.2
    obtain ⟨o, e, c, d⟩ := id st'
    exact ⟨u, rfl, go_of (s := { s with heap := h' }) e c d (by decide) ⟨x, H, I1, ru, ⟨rfl, fun ys hy => by rw [I.tuple_inj hy hq]; exact hx⟩, st', fun b hb => (hf b hb).1⟩⟩
  · subst hP hw hK
    obtain ⟨xs, hq, hx⟩ := hg
    obtain ⟨its, rv, p, _⟩ := I.tuple hq
    have fo := hf it (List.mem_singleton.mpr rfl)
    obtain ⟨x1, hot, hne⟩ := HotC.out hc I fo
    have hl := rv.length
    exact tuple_end_hot hot hne st (show s.heap.IsTuple a its.toArray from p) (by simp; omega) fun h' eb => ⟨rfl, I.turned (t' := s.toks) eb fo.1 fo.2.1 fo.2.2.2.1 fo.2.2.2.2.1 fo.2.2.2.2.2⟩
section
variable {X : Cx} {tg : Expr}
theorem pi_listH {l : Expr} {tl : TE} (hl : PE X l tl) : PIH X tg l (iList X.K tl) := by
  refine ⟨fun pins s σ H R I h => thn (hl.run pins s σ H _ I h) fun v s1 ⟨x, H1, I1, r1, a, ex, ⟨xs, hq⟩, q⟩ => ?_⟩
  subst ex
  obtain rfl : v = Value.ref a := r1
  obtain ⟨its, rv, p, _⟩ := I1.list hq
  refine wpAny_pyIter_list p.isList ?_
  refine ⟨s1.heap.objs.size, [s1.heap.objs.size], _, _, H1, rfl, I1.kept (t' := s1.toks) fun b o e => Heap.get?_push_of_some _ e, turn_listH a _, ⟨_, Heap.get?_push_size _ rfl, rfl, rfl⟩, fun b hb => ?_, q⟩
  obtain rfl := List.mem_singleton.mp hb
  exact I1.fpOk (Nat.le_refl _) (I1.hok.fresh (Nat.le_refl _))
theorem pi_listKH {K : PySem.W.Frag} (hK : X.K = K) {l : Expr} {tl : TE} (hl : PE X l tl) : PIH X tg l (iList K tl) := hK ▸ pi_listH hl
/-- (a, b, ..) = a tuple of that length -/
theorem pg_tupH {es : List Expr} {k : Nat} {t : TGs} {n : Nat} {pos : Pos} (hc : HotC X) (h : PGs X es t) (hn : (assignEach es X.env).length = n := by rfl) (hst : (assignEach es X.env).findIdx? (·.1) = none := by rfl) : PG X (.Tuple es k pos) (gTup X.K n t) := by
  refine ⟨fun pins s σ H v u Q I r ⟨a, xs, ev, hq, hl, hw⟩ => ?_⟩
  subst ev
  obtain rfl : u = Value.ref a := r
  obtain ⟨its, rv, ht, _⟩ := I.tuple hq
  obtain ⟨x1, hot⟩ := hc.at I
  rw [assign_Tuple]
  refine wpAny_bind (wpAny_standAt (unpack_hot hot ht (by simp [hn, ← hl, rv.length]) hst fun h' kp => ?_))
  exact h.run pins _ σ H xs _ Q (I.kept (t' := s.toks) kp) (by simpa using rv) hw
end
/-- a def run from one state where an exception is handled, by its body -/
theorem run_atH {CX : CXT} {P : Program} {w : World} {K : PySem.W.Frag} {mg : Str → Option Value} {base : Heap} {k : Nat} {f : Addr} {x qual : Str} {st : Stmt} {fd : FuncData} {N ps : List Str} (F : C8.Fun K x qual st f fd) (S : FnScope N ps (C8.fnScope st))
    {A : Around} {outer : List Env} {s : Shared} {H : Hp} {args : Args} {us : List Value} {vs : List V} {Q : VK} {E : XK} {p : Addr × Obj} (hr : RoomH (k + 1) A) (hpin : PinOk outer H s p) (e0 : Env0 P w K mg base A outer s H) (hb : BindsTo s fd args (ps.zip us)) (r : Vals vs us) (hl : vs.length = ps.length)
    (hbody : ∀ cdv : Value, RoomH k (A.deeper (envOfC qual (C8.fnScope st) s.heap.objs.size f cdv)) → ∃ t, PSs (cxH CX P w K mg base N qual (C8.fnScope st) f cdv A outer s H E p) (C8.fnBody st) t ∧ t { nx := fun _ H' => Q .non H', rt := Q } (start N vs) H) :
    codeAny (model P w) A (.call (.ref f) args) (CR CX outer P w H s Q E) s := by
  obtain ⟨oc, od, dV, kV, doc, pm, an, cdv, ct, osl, rfl, lk, hcd⟩ := F.ex
  have kin : K.In s.heap := e0.mod.kin.keeps fun b o e => (e0.bs b o e).1
  have nol : s.heap.NoLimit := e0.mod.nolimit.keeps fun b o e => (e0.bs b o e).1
  have kinds : ∀ y ∈ ps.zip us, (C8.fnScope st).names.lookup y.1 = some .local ∨ ((C8.fnScope st).names.lookup y.1 = some .cell ∧ ((cellsFrom (s.heap.objs.size + 1) (C8.fnScope st).names []).lookup y.1).isSome = true) := by
    rintro ⟨n, v⟩ hy
    exact (S.par n (List.of_mem_zip hy).1).elim .inl fun q => .inr ⟨q, PySem.W.cellsFrom_some _ _ _ (.inl q)⟩
  refine codeAny_call_function hr.depth (kin _ _ lk) rfl S.co S.gen rfl (PySem.W.codeRec_of kin hcd) (hb _ _ _ _ (wpAny_newFunctionEnv_cells S.kind kinds fun env he s1 hx => ?_))
  subst he
  obtain ⟨t, ht, hq⟩ := hbody cdv (hr.deeper _)
  have I0 : Inv (cxH CX P w K mg base N qual (C8.fnScope st) f cdv A outer s H E p) [] (start N vs) H s1 := inv_startH S hpin e0 hl r hx
  refine ⟨nol.keeps hx.toInCall.keep, codeAny_func (wpAny_mono (ht.run [] s1 (start N vs) H _ I0 hq) (fun fl s2 hs => ?_) fun e s2 hs => hs)⟩
  cases fl with
  | ret u => obtain ⟨v, σ2, H2, J, rv, q⟩ := hs; exact ⟨v, H2, J.os, J.bare, J.base, J.hok, rv, q⟩
  | next => obtain ⟨σ2, H2, J, q⟩ := hs; exact ⟨V.non, H2, J.os, J.bare, J.base, J.hok, rfl, q⟩
  | brk => obtain ⟨_, _, _, q⟩ := hs; exact False.elim q
  | cont => obtain ⟨_, _, _, q⟩ := hs; exact False.elim q
theorem HotC.pin {X : Cx} {pins : List (Addr × Obj)} {σ : L2.St} {H : Hp} {s : Shared} (c : HotC X) (I : Inv X pins σ H s) : ∃ p, Hot1 X.A p ∧ PinOk X.stack H s p := by
  obtain ⟨p, hot, hp⟩ := c
  have P1 := I.pin p (List.mem_append_left _ hp)
  exact ⟨p, hot, P1.1, P1.2.1, fun hm => (List.mem_cons.mp (I.stkSub p.1 hm)).elim P1.2.2.1 P1.2.2.2.1, P1.2.2.2.2⟩
theorem pi_ownTH {X : Cx} {tg o : Expr} {te : TE} {C fi : Addr} {f : Str} {st : Stmt} {fd : FuncData} (D : IterD X.K X.mg C fi f st fd) (hr : RoomH 1 X.A) (hc : HotC X) (he : PE X o te) : PIH X tg o (iOwnT X.K C f te) := by
  refine ⟨fun pins s σ H R I h => ?_⟩
  refine thn (he.run pins s σ H _ I h) fun v s1 ⟨x, H1, I1, r1, p, dx, fs, a, xs, ex, hp, hf, ha, q⟩ => ?_
  subst ex
  obtain rfl : v = Value.ref p := r1
  obtain ⟨mA, J, _⟩ := ins_get I1.hok hp
  obtain ⟨od, J, _⟩ := J.look
  obtain ⟨m0, hF⟩ := I1.fr
  obtain ⟨x0, q0, F⟩ := D.fn
  obtain ⟨p0, p1, p2, p3, p4, hbd⟩ := D.body
  obtain ⟨pp, hot, hpin⟩ := HotC.pin hc I1
  refine PySem.W.owit_iter hF I1.ok.mod.kin J D.at_.it D.at_.itF ?_
  have r2 : Vals [V.ref p] [Value.ref p] := .cons rfl .nil
  refine wpAny_call (codeAny_mono (run_atH (k := 0) (CX := C8.CX0) (Q := fun v H2 => ∃ it, v = .ref it ∧ H1 it = none ∧ s1.heap.objs.size ≤ it ∧ H2 = upd H1 it (TiO a it)) (E := C8.E0) (args := ⟨[.ref p], []⟩) (us := [.ref p]) (vs := [.ref p]) F D.sc hr hpin I1.env0 (by
    have := D.bind s1 [.ref p] I1.kIn rfl
    simpa using this) r2 rfl fun cdv hr0 => ?_) fun r s' hq' => ?_)
  · rw [hbd]
    refine ⟨_, pss_one (ps_ret (pe_callB (hc := call_iterT) (by exact D.lk) D.mgi (by decide +kernel) (pa_cons (pe_fld (pe_var (i := 0) rfl (.inl D.ls)) rfl) pa_nil))), ?_⟩
    refine ⟨_, rfl, p, C, dx, fs, _, rfl, hp, D.cl, D.no, hf, a, xs, rfl, ha, fun it hn hs => ⟨it, rfl, hn, hs, rfl⟩⟩
  cases r with
  | error e => exact False.elim hq'
  | ok fl =>
    cases fl with
    | next => exact False.elim hq'
    | brk => exact False.elim hq'
    | cont => exact False.elim hq'
    | ret u =>
      obtain ⟨v, H', I', rv, it, ev, hn, hsz, eH⟩ := I1.after hq'
      subst ev
      subst eH
      cases rv
      have hi : (upd H1 it (TiO a it)) it = some (TiO a it) := upd_same
      have st := tiO_get I' hi
      unfold PySem.W.OwitIt
      refine wpAny_specialOf (T := "tuple_iterator") ?_ slot_tupleiter_next.lookup ?_
      · obtain ⟨o, ho, hc, hd⟩ := st
        exact ⟨o, ho, hc⟩
      have ed : ItX.dropH (upd H1 it (TiO a it)) it = H1 := ItX.dropH_upd hn
      have J2 := ItX.inv_drop I' hi
      have J3 := ItX.inv_fp I' hi (Nat.le_trans I1.sz hsz)
      rw [ed] at J2 J3
      refine ⟨it, [it], _, _, H1, rfl, J2, turn_tupleH a it, st, fun b hb => ?_, q⟩
      obtain rfl := List.mem_singleton.mp hb
      exact J3
end My
/-! a list comprehension over a range where an exception is handled -/
namespace My
open PySem PySem.Spec PyProof.Rows L2 L2H HotX
/-- the iterator of lo, lo + 1, .. at its turn i -/
def RgAt (h : Heap) (it : Addr) (lo : Int) (n i : Nat) : Prop := IsRangeIter h it (lo + (i : Int)) ((n : Int) - (i : Int)) 1
theorem RgAt.keep {h h' : Heap} {it : Addr} {lo : Int} {n i : Nat} (r : RgAt h it lo n i) (k : ∀ o, h.get? it = some o → h'.get? it = some o) : RgAt h' it lo n i := k _ r
theorem RgAt.plain {h : Heap} {it : Addr} {lo : Int} {n i : Nat} (r : RgAt h it lo n i) : ∃ o, h.get? it = some o ∧ ∀ v, o.data ≠ .cell v := ⟨_, r, fun v z => by
  have z' : Data.fields _ = Data.cell v := z
  cases z'⟩
section
variable {X : Cx}
/-- range(a, b) and its iterator -/
def RgE (X : Cx) (pins : List (Addr × Obj)) (σ : L2.St) (R : It → Hp → Prop) (itv : Value) (s2 : Shared) : Prop :=
  ∃ (it : Addr) (lo : Int) (n : Nat) (H' : Hp), itv = .ref it ∧ Inv X pins σ H' s2 ∧ RgAt s2.heap it lo n 0 ∧ FpOk X pins H' it ∧ R (Itr lo n) H'
theorem range2_ev {a b : Expr} {ta : TA} {p pos : Pos} {pins : List (Addr × Obj)} {s : Shared} {σ : L2.St} {H : Hp} {R : It → Hp → Prop} (hg : Gl X "range") (hm : X.mg "range" = none) (ha : PA X [a, b] ta) (I : Inv X pins σ H s) (h : iRng2 ta σ H R)
    (hs : starEach [a, b] X.env = [(false, eval a X.env), (false, eval b X.env)] := by rfl) (hs2 : starEach [b] X.env = [(false, eval b X.env)] := by rfl) :
    wpAny (model X.prog X.w) X.A (eval (.Call (.Name "range" p) [a, b] [] pos) X.env) (fun v s1 => wpAny (model X.prog X.w) X.A (pyIter v) (RgE X pins σ R) X.xe s1) X.xe s := by
  refine Call_ (ld_blt I hg hm boot_range (PyProof.Rows.callWith_type1 (thn (ha.run pos pins s σ H _ I h) fun us s1 ⟨vs, H1, I1, r1, q1⟩ => ?_) (by rw [hs, hs2]) (by rw [hs2]; rfl)))
  obtain ⟨lo, hi, ev, ⟨b1, b2, b3, b4⟩, q⟩ := q1
  subst ev
  obtain ⟨u1, u2, rfl, ra, rb⟩ : ∃ u1 u2, us = [u1, u2] ∧ RelV (.int lo) u1 ∧ RelV (.int hi) u2 := by
    cases r1 with
    | cons h1 t1 =>
      cases t1 with
      | cons h2 t2 => cases t2; exact ⟨_, _, rfl, h1, h2⟩
  obtain ⟨t1, rfl⟩ := ra
  obtain ⟨t2, rfl⟩ := rb
  refine call_range_2 (wpAny_pyIter_range (IsRange.new ..) (small_one b1 b2 b3 b4) ?_)
  refine ⟨_, lo, (hi - lo).toNat, H1, rfl, I1.kept fun b o e => Heap.get?_push_of_some _ (Heap.get?_push_of_some _ e), ?_, ?_, q⟩
  · have e1 : lo + ((0 : Nat) : Int) = lo := by simp
    have e2 : (((hi - lo).toNat : Nat) : Int) - ((0 : Nat) : Int) = Builtin.Range.rangeSize lo hi 1 := by rw [rangeSize_one]; split <;> omega
    unfold RgAt
    rw [e1, e2]
    exact Heap.get?_push_size _ rfl
  · refine Inv.fpOk (H' := H1) I1 ?_ (I1.hok.fresh ?_)
    · rw [Heap.size_push]; omega
    · rw [Heap.size_push]; omega
end
section
variable {X : Cx}
theorem ps_setLcR {i : Nat} {y : Str} {py : Pos} {elt tg a b : Expr} {ifs : List Expr} {scope : Scope} {own : List (Str × Nat)} {rp rpos pos spos : Pos} {ta : TA} {g : TG} {tt : TT} {te : TE} (hc : HotC X) (hN : X.N.Nodup) (hy : X.N[i]? = some y) (hyl : X.env.scope.names.lookup y = some .local)
    (hsw : swapsWith (.ListComp elt [⟨tg, .Call (.Name "range" rp) [a, b] [] rpos, ifs, 0⟩] scope pos) (some (.Name y py)) spos.line X.env = pure true) (hgr : Gl X "range") (hmr : X.mg "range" = none) (ha : PA X [a, b] ta) (ok : BlkOk X.N X.env.scope scope own)
    (hg : ∀ (s : Shared) (H : Hp) (C : Addr) (cl : List (Str × Addr)) (fp : List Addr), PG (X.blk s H scope (compEnvC scope cl C X.env) fp) tg g) (ht : ∀ (s : Shared) (H : Hp) (C : Addr) (cl : List (Str × Addr)) (fp : List Addr), PTs (X.blk s H scope (compEnvC scope cl C X.env) fp) ifs tt)
    (he : ∀ (s : Shared) (H : Hp) (C : Addr) (cl : List (Str × Addr)) (fp : List Addr), PE (X.blk s H scope (compEnvC scope cl C X.env) fp) elt te) (hs : ∀ x, foldedSetIterable (.Call (.Name "range" rp) [a, b] [] rpos) X.env x = pure x := by intro _; rfl)
    (hs1 : starEach [a, b] X.env = [(false, eval a X.env), (false, eval b X.env)] := by rfl) (hs2 : starEach [b] X.env = [(false, eval b X.env)] := by rfl) :
    PS X (.Assign [.Name y py] (.ListComp elt [⟨tg, .Call (.Name "range" rp) [a, b] [] rpos, ifs, 0⟩] scope pos) spos) (tAsg (tLc (iRng2 ta) g tt te (own.map (·.2))) (gName i)) := by
  refine ⟨fun pins s σ H D I h => ?_⟩
  rw [exec_Assign_Name_used _ _ _ _ hsw]
  refine wpAny_bind (wpAny_standAt (wpAny_bind ?_))
  have h : tLc (iRng2 ta) g tt te (own.map (·.2)) σ H (fun x H1 => gName i x σ H1 D.nx) := h
  have hfree : ∀ z ∈ scope.names, z.2 = .free → ∃ c, X.env.cells.lookup z.1 = some c := fun z hz e => (ok.free z hz e).elim (fun k => I.ok.has _ (.inl k)) fun k => I.ok.has _ (.inr k)
  show wpAny _ X.A (do let _ ← comprehension (.ListComp elt [⟨tg, .Call (.Name "range" rp) [a, b] [] rpos, ifs, 0⟩] scope pos) scope X.env (firstIterPos [⟨tg, .Call (.Name "range" rp) [a, b] [] rpos, ifs, 0⟩] pos) (newList []) false (eval (.Call (.Name "range" rp) [a, b] [] rpos) X.env) (some (assign (.Name y py) X.env))) _ _ s
  refine wpAny_bind (thn (Q := fun _ s' => SP X pins D .next s') ?_ fun _ s' hq => wpAny_pure (wpAny_pure hq))
  refine wpAny_comprehension_free rfl hs (closure_ok hfree) ok.kind (fun z hz e => by rw [ok.uniq z hz, e]) (thn (range2_ev hgr hmr ha I h hs1 hs2) fun xv s1 hx => thn hx fun itv s2 h2 => ?_)
  obtain ⟨it, lo, n, H2, ei, I2, r2, f2, q⟩ := h2
  subst ei
  refine wpAny_newObj_type (newEnv_comp ?_) (by show 0 ≤ sizeLine; decide)
  obtain ⟨W, ⟨m0, w0⟩, turn⟩ := q s2.heap.objs.size (I2.hok.fresh (Nat.le_refl _))
  -- the new list
  have hlt : it < s2.heap.objs.size := let ⟨_, e, _⟩ := r2.plain; Heap.lt_size e
  obtain ⟨D0, hD0⟩ : ∃ D0, D0 = s2.heap.objs.size := ⟨_, rfl⟩
  obtain ⟨s3, hs3⟩ : ∃ s3 : Shared, s3 = { s2 with heap := s2.heap.push { cls := .type "list", data := .seq ([] : List Value).toArray } } := ⟨_, rfl⟩
  obtain ⟨H3, hH3⟩ : ∃ H3, H3 = upd H2 D0 (.lst []) := ⟨_, rfl⟩
  have k3 : ∀ b o, s2.heap.get? b = some o → s3.heap.get? b = some o := fun b o e => by rw [hs3]; exact Heap.get?_push_of_some _ e
  have z3 : s3.heap.objs.size = D0 + 1 := by rw [hs3, hD0]; exact Heap.size_push _ _
  have I3 : Inv X pins σ H3 s3 := by
    rw [hs3, hH3]
    refine I2.laid (t' := s2.toks) (fun b o e => Heap.get?_push_of_some _ e) (Nat.le_of_eq hD0.symm) ⟨Nat.zero_le _, [], 0, .nil, ?_⟩
    rw [hD0]
    exact Heap.get?_push_size _ rfl
  have f3 : FpOk X pins H3 it := ⟨by rw [hH3, upd_ne (by rw [hD0]; exact Nat.ne_of_lt hlt)]; exact f2.1, f2.2⟩
  have r3 : RgAt s3.heap it lo n 0 := r2.keep fun o e => k3 _ _ e
  rw [← hD0, ← hH3] at w0
  rw [← hD0] at turn
  have I4 := block_start (own := own) (fp := [it]) I3 ok hN fun b hb => by
    obtain rfl := List.mem_singleton.mp hb
    exact ⟨f3, by rw [z3]; show b < D0 + 1; rw [hD0]; exact Nat.lt_succ_of_lt hlt⟩
  have pg := hg s3 H3 s3.heap.objs.size (cellsFrom (s3.heap.objs.size + 1) scope.names (cloFrom X.env.cells scope.names [])) [it]
  have pt := ht s3 H3 s3.heap.objs.size (cellsFrom (s3.heap.objs.size + 1) scope.names (cloFrom X.env.cells scope.names [])) [it]
  have pe := he s3 H3 s3.heap.objs.size (cellsFrom (s3.heap.objs.size + 1) scope.names (cloFrom X.env.cells scope.names [])) [it]
  show codeAny _ _ (.compStart (.ListComp elt [⟨tg, .Call (.Name "range" rp) [a, b] [] rpos, ifs, 0⟩] scope pos) 0 (.ref it) (.ref s2.heap.objs.size) (compEnvC scope (cellsFrom ((s2.heap.push { cls := .type "list", data := .seq ([] : List Value).toArray }).objs.size + 1) scope.names (cloFrom X.env.cells scope.names [])) (s2.heap.push { cls := .type "list", data := .seq ([] : List Value).toArray }).objs.size X.env)) _ { s2 with heap := pushCells ((s2.heap.push { cls := .type "list", data := .seq ([] : List Value).toArray }).push { cls := .type "dict", data := .dict #[] }) scope.names }
  have eh : s2.heap.push { cls := .type "list", data := .seq ([] : List Value).toArray } = s3.heap := by rw [hs3]
  rw [eh, ← hD0]
  have e4 : ({ s2 with heap := pushCells (s3.heap.push { cls := .type "dict", data := .dict #[] }) scope.names } : Shared) = { s3 with heap := pushCells (s3.heap.push { cls := .type "dict", data := .dict #[] }) scope.names } := by rw [hs3]
  rw [e4]
  have kC : ∀ b o, s3.heap.get? b = some o → (pushCells (s3.heap.push { cls := .type "dict", data := .dict #[] }) scope.names).get? b = some o := fun b o e => pushCells_keeps _ _ _ _ (Heap.get?_push_of_some _ e)
  obtain ⟨ce, hce⟩ : ∃ ce, ce = compEnvC scope (cellsFrom (s3.heap.objs.size + 1) scope.names (cloFrom X.env.cells scope.names [])) s3.heap.objs.size X.env := ⟨_, rfl⟩
  obtain ⟨s4, hs4⟩ : ∃ s4 : Shared, s4 = { s3 with heap := pushCells (s3.heap.push { cls := .type "dict", data := .dict #[] }) scope.names } := ⟨_, rfl⟩
  rw [← hce, ← hs4] at I4
  rw [← hce] at pg pt pe
  rw [← hce, ← hs4]
  have cL : ce.locals = s3.heap.objs.size := by rw [hce]; rfl
  have r4 : RgAt s4.heap it lo n 0 := r3.keep fun o e => by rw [hs4]; exact kC _ _ e
  -- the block's states: what it leaves of the range's iterator
  have out : ∀ {σ' : L2.St} {H' : Hp} {s' : Shared}, Inv (X.blk s3 H3 scope ce [it]) [] σ' H' s' → Inv X pins σ H' s' := fun {σ' H' s'} I' => I3.call' (ch := [it]) I'.os I'.base I'.hok I'.bare fun b hb => by
    obtain rfl := List.mem_singleton.mp hb
    exact ⟨f3.2.2.2.1, f3.2.1, f3.2.2.2.2.1, f3.2.2.2.2.2⟩
  have fpB : ∀ {σ' : L2.St} {H' : Hp} {s' : Shared}, Inv (X.blk s3 H3 scope ce [it]) [] σ' H' s' → H' it = none → FpOk (X.blk s3 H3 scope ce [it]) [] H' it := fun {σ' H' s'} I' hn =>
    have hm : it ∈ (X.blk s3 H3 scope ce [it]).ex := List.mem_singleton.mpr rfl
    ⟨hn, (I'.ok.exf it hm).1, I'.ok.exfs it hm, .inl hm, fun x c e => (I'.ok.exf it hm).2 x c e, fun p hp => absurd (show p ∈ ([] : List (Addr × Obj)) ++ [] from hp) (by simp)⟩
  have loop : codeAny (model X.prog X.w) X.A (.compLoop (.ListComp elt [⟨tg, .Call (.Name "range" rp) [a, b] [] rpos, ifs, 0⟩] scope pos) 0 (.ref it) (.ref D0) ce) (compPost (model X.prog X.w) X.A X.xe (some (assign (.Name y py) X.env)) (fun _ s' => SP X pins D .next s') (.ref D0) s3.heap.objs.size) s4 := by
    refine compLoop_any (fun m s' => ∃ j H', Inv (X.blk s3 H3 scope ce [it]) [] (wipe σ (own.map (·.2))) H' s' ∧ RgAt s'.heap it lo n j ∧ H' it = none ∧ W j m H') ?_ m0 ⟨0, H3, I4, r4, f3.1, w0⟩
    rintro m s5 ⟨j, H5, I5, r5, n5, w5⟩
    have fo := fpB I5 n5
    rcases turn j m H5 w5 with ⟨stop, qq⟩ | ⟨go, Nx, hNx, step⟩
    · obtain ⟨x1, hot⟩ := hc.at (out I5)
      refine pyNext_range_end_hot hot r5 (by have : n ≤ j := stop; omega) fun h6 k6 => ?_
      have I6 := I5.turned (t' := s5.toks) (h' := h6) (fun b o _ e => k6 b o e) fo.1 fo.2.1 fo.2.2.2.1 fo.2.2.2.2.1 fo.2.2.2.2.2
      have I7 := out I6
      have nC : H5 s3.heap.objs.size = none := by
        have z : H5 ce.locals = none := I6.free
        rwa [cL] at z
      obtain ⟨mm, hn, _⟩ := I6.loc
      have hn : (h6 : Heap).Ns ce.locals mm := hn
      rw [cL] at hn
      obtain ⟨g0, g1, g2, g3, g4, g5⟩ := I3.fpOk (Nat.le_refl _) nC
      show wpAny _ _ (assign (.Name y py) X.env (.ref D0)) _ _ _
      refine wpAny_assign_Name (store_ok2 (v := V.ref D0) I7 hN hy (.inl hyl) rfl (fun s8 I8 ⟨aa, sb, haa⟩ => ?_) (.inr hyl))
      have haC : s3.heap.objs.size ≠ aa := haa.elim (fun z => by rw [z]; exact g1) fun z e => g4 y aa z e.symm
      exact ⟨mm, hn.sameBut sb haC, fun h9 sb9 => ⟨_, H5, I8.turned (t' := s8.toks) (fun b o hb e => (sb9.2 b hb).trans e) g0 g1 g3 g4 g5, qq⟩⟩
    · have hjn : j < n := go
      refine wpAny_pyNext_range_item r5 (by omega) fun h6 st6 sb6 => ?_
      have r6 : RgAt h6 it lo n (j + 1) := by
        have e1 : lo + ((j : Nat) : Int) + 1 = lo + ((j + 1 : Nat) : Int) := by omega
        have e2 : (n : Int) - ((j : Nat) : Int) - 1 = (n : Int) - ((j + 1 : Nat) : Int) := by omega
        unfold RgAt
        rw [← e1, ← e2]
        exact st6
      have I6 := I5.turned (t' := s5.toks + 1) (h' := h6) (fun b o hb e => (sb6.2 b hb).trans e) fo.1 fo.2.1 fo.2.2.2.1 fo.2.2.2.2.1 fo.2.2.2.2.2
      have I6' := I6.pinned (fp := [it]) (fun b hb => by
        obtain rfl := List.mem_singleton.mp hb
        exact fpB I6 n5) (fun b hb => by
        obtain rfl := List.mem_singleton.mp hb
        exact r6.plain)
      refine go_of (s := { s5 with heap := h6, toks := s5.toks + 1 }) (n := "range_iterator") r6 rfl rfl (by decide) ?_
      refine thnF (pg.run _ _ _ H5 (.int (lo + (j : Int))) _ _ I6' ⟨s5.toks, rfl⟩ (step _ H5 ⟨rfl, rfl⟩)) fun _ s8 ⟨σ8, H8, I8, hw8, q8⟩ => ?_
      refine thnF (pt.run _ s8 σ8 H8 _ I8 q8) fun bb s9 ⟨H9, I9, q9⟩ => ?_
      have fin : ∀ {s' : Shared} {H' : Hp}, Inv (X.blk s3 H3 scope ce [it]) ([] ++ pinsAt [it] h6) σ8 H' s' → Nx H' → ∃ m', m' < m ∧ ∃ j H', Inv (X.blk s3 H3 scope ce [it]) [] (wipe σ (own.map (·.2))) H' s' ∧ RgAt s'.heap it lo n j ∧ H' it = none ∧ W j m' H' := fun {s' H'} I' nx => by
        obtain ⟨m', hm, w'⟩ := hNx H' nx
        have pz : ∀ o, h6.get? it = some o → s'.heap.get? it = some o ∧ H' it = none := fun o e =>
          let z := I'.pin (it, o) (List.mem_append_right _ (List.mem_append_right _ (mem_pinsAt (List.mem_singleton.mpr rfl) e)))
          ⟨z.1, z.2.1⟩
        obtain ⟨o6, e6, _⟩ := r6.plain
        refine ⟨m', hm, j + 1, H', (I'.unpinned (pins := [])).weak (by rw [← hw8, wipe_length]) (fun k v e => ?_), r6.keep fun o e => (pz o e).1, (pz o6 e6).2, w'⟩
        rw [← hw8] at e
        exact (wipe_some e).1
      cases bb with
      | false =>
        simp only [Bool.false_eq_true, if_false] at q9 ⊢
        exact fin I9 q9
      | true =>
        simp only [if_true] at q9 ⊢
        refine thnF (pe.run _ s9 σ8 H9 _ I9 q9) fun z s10 ⟨yv, H10, I10, r10, acc, hD10, hz10, nx⟩ => ?_
        exact app_ok (X := X.blk s3 H3 scope ce [it]) I10 hD10 hz10 r10 fun s11 I11 => fin I11 nx
  exact codeAny_compStart_list loop (wpAny_pyIter_rangeiter r4 loop)
end
end My
/-! defs called where an exception is handled -/
namespace My
open PySem PySem.Spec PyProof.Rows L2 L2H
section
variable {P : Program} {w : World} {K : PySem.W.Frag} {mg : Str → Option Value} {base : Heap}
structure CalH (P : Program) (w : World) (K : PySem.W.Frag) (mg : Str → Option Value) (base : Heap) (k : Nat) (x : Str) (sp : Sp) : Prop where
  ex : ∃ (f : Addr) (fd : FuncData) (ps : List Str), FnH P w K mg base C8.CX0 k f fd ps sp ∧ mg x = some (.ref f) ∧ PySem.W.keepIn K (.ref f) = true ∧ Binds K fd ps []
structure MetH (P : Program) (w : World) (K : PySem.W.Frag) (mg : Str → Option Value) (base : Heap) (k : Nat) (C : Addr) (m : Str) (sp : Sp) : Prop where
  ex : ∃ (f : Addr) (fd : FuncData) (ps : List Str), Cls K C ∧ Meth K C m f ∧ FnH P w K mg base C8.CX0 k f fd ps sp ∧ Binds K fd ps []
theorem fnH0 {x qual : Str} {st : Stmt} {f : Addr} {fd : FuncData} {N ps : List Str} {k : Nat} {sp : Sp} (F : C8.Fun K x qual st f fd) (S : FnScope N ps (C8.fnScope st)) (len : ∀ vs H Q E, sp vs H Q E → vs.length = ps.length)
    (hbody : ∀ (cdv : Value) (A : Around) (outer : List Env) (s : Shared) (H : Hp) (vs : List V) (Q : VK) (E : XK) (p : Addr × Obj), HotC (cxH C8.CX0 P w K mg base N qual (C8.fnScope st) f cdv A outer s H E p).nox → RoomH k (A.deeper (envOfC qual (C8.fnScope st) s.heap.objs.size f cdv)) → sp vs H Q E →
      ∃ t, PSs (cxH C8.CX0 P w K mg base N qual (C8.fnScope st) f cdv A outer s H E p).nox (C8.fnBody st) t ∧ t { nx := fun _ H' => Q .non H', rt := Q } (start N vs) H) : FnH P w K mg base C8.CX0 (k + 1) f fd ps sp := by
  obtain ⟨oc, od, dV, kV, doc, pm, an, cdv, ct, osl, rfl, lk, hcd⟩ := F.ex
  refine fn_ofH lk hcd S len fun A outer s H vs Q E p hot hr hsp => ?_
  obtain ⟨t, h, q⟩ := hbody cdv A outer s H vs Q E p ⟨p, ⟨hot.1, hot.2⟩, List.mem_singleton.mpr rfl⟩ hr hsp
  exact ⟨t, h.nox, q⟩
theorem calH {x : Str} {st : Stmt} {f : Addr} {fd : FuncData} {N ps : List Str} {k : Nat} {sp : Sp} (F : C8.Def K mg x st f fd) (b : Binds K fd ps []) (S : FnScope N ps (C8.fnScope st)) (len : ∀ vs H Q E, sp vs H Q E → vs.length = ps.length)
    (hbody : ∀ (cdv : Value) (A : Around) (outer : List Env) (s : Shared) (H : Hp) (vs : List V) (Q : VK) (E : XK) (p : Addr × Obj), HotC (cxH C8.CX0 P w K mg base N x (C8.fnScope st) f cdv A outer s H E p).nox → RoomH k (A.deeper (envOfC x (C8.fnScope st) s.heap.objs.size f cdv)) → sp vs H Q E →
      ∃ t, PSs (cxH C8.CX0 P w K mg base N x (C8.fnScope st) f cdv A outer s H E p).nox (C8.fnBody st) t ∧ t { nx := fun _ H' => Q .non H', rt := Q } (start N vs) H) : CalH P w K mg base (k + 1) x sp :=
  ⟨f, fd, ps, fnH0 F.fn S len hbody, F.mgf, F.kp, b⟩
theorem metH {m qual : Str} {C : Addr} {st : Stmt} {f : Addr} {fd : FuncData} {N ps : List Str} {k : Nat} {sp : Sp} (c : Cls K C) (me : Meth K C m f) (F : C8.Fun K m qual st f fd) (b : Binds K fd ps []) (S : FnScope N ps (C8.fnScope st)) (len : ∀ vs H Q E, sp vs H Q E → vs.length = ps.length)
    (hbody : ∀ (cdv : Value) (A : Around) (outer : List Env) (s : Shared) (H : Hp) (vs : List V) (Q : VK) (E : XK) (p : Addr × Obj), HotC (cxH C8.CX0 P w K mg base N qual (C8.fnScope st) f cdv A outer s H E p).nox → RoomH k (A.deeper (envOfC qual (C8.fnScope st) s.heap.objs.size f cdv)) → sp vs H Q E →
      ∃ t, PSs (cxH C8.CX0 P w K mg base N qual (C8.fnScope st) f cdv A outer s H E p).nox (C8.fnBody st) t ∧ t { nx := fun _ H' => Q .non H', rt := Q } (start N vs) H) : MetH P w K mg base (k + 1) C m sp :=
  ⟨f, fd, ps, c, me, fnH0 F S len hbody, b⟩
end
section
variable {X : Cx} {k j : Nat} {C : Addr} {x m : Str} {sp : Sp} {p pos apos : Pos} {e o : Expr} {es : List Expr} {ta : TE} {t : TA}
theorem pe_cH (c : CalH X.prog X.w X.K X.mg X.base k x sp) (hr : RoomH j X.A) (hc : HotC X) (hk : k ≤ j) (hg : Gl X x) (ha : PA X (e :: es) t)
    (hdb : (x == ("__debug__" : Str)) = false := by decide) (he : starEach (e :: es) X.env = (false, eval e X.env) :: starEach es X.env := by rfl) (hpl : (backTo pos (starEach es X.env)).any (·.1) = false := by rfl) :
    PE X (.Call (.Name x p) (e :: es) [] pos) (tCallS sp (fun _ => C8.E0) t) := by
  obtain ⟨f, fd, ps, F, hm, kp, b⟩ := c.ex
  exact pe_callH F (hr.mono hk) hc hg hm kp b (fun _ _ _ _ _ _ _ h => h.elim) ha hdb he hpl
theorem pe_mtH {pl : Sem Bool} (c : MetH X.prog X.w X.K X.mg X.base k C m sp) (hr : RoomH j X.A) (hc : HotC X) (hk : k ≤ j) (he : PE X o ta) (ha : PA X (e :: es) t)
    (hst : starEach (e :: es) X.env = (false, eval e X.env) :: starEach es X.env := by rfl) (hpl : (backTo pos (starEach es X.env)).any (·.1) = false := by rfl)
    (ht : eval (.Call (.Attribute o m apos) (e :: es) [] pos) X.env = (do
      let ov ← eval o X.env
      standAt apos.atName
      let (f, first) ← holding [ov] (getMethod ov m pl)
      callWith pos f first (backTo pos (starEach (e :: es) X.env)) (backToKw pos (keywordEach [] X.env))) := by rfl) :
    PE X (.Call (.Attribute o m apos) (e :: es) [] pos) (tMethH C m sp (fun _ => C8.E0) ta t) := by
  obtain ⟨f, fd, ps, c1, me, F, b⟩ := c.ex
  exact pe_methH (pl := pl) he c1 me F (hr.mono hk) hc b (fun _ _ _ _ _ _ _ h => h.elim) ha hst hpl ht
end
end My
/-! bounds where an exception is handled -/
namespace My
open PySem L2 L2H
section
variable {P : Program} {w : World} {K : PySem.W.Frag} {mg : Str → Option Value} {base : Heap}
theorem hk_round_up {f : Addr} {fd : FuncData} (F : C8.Def K mg "round_up" s_round_up f fd) (b : Binds K fd ["p", "q"] []) : CalH P w K mg base 1 "round_up" sp_round_up := by
  refine calH F b sc_round_up (fun vs H Q E h => ?_) (fun cdv A outer s H vs Q E pp hc hr h => ?_)
  · obtain ⟨p, q, rfl, _⟩ := h
    rfl
  · obtain ⟨p, q, rfl, h1, h2, k⟩ := h
    refine ⟨_, (pss_one (ps_ret (pe_un un_neg (pe_op op_fdiv (pe_un un_neg (pv 0)) (pv 1))))), ?_⟩
    exact ⟨_, rfl, p, rfl, _, rfl, _, _, rfl, rfl, ⟨by omega, by omega⟩, _, rfl, k⟩
theorem hk_round_down {f : Addr} {fd : FuncData} (F : C8.Def K mg "round_down" s_round_down f fd) (b : Binds K fd ["p", "q"] []) : CalH P w K mg base 1 "round_down" sp_round_down := by
  refine calH F b sc_round_down (fun vs H Q E h => ?_) (fun cdv A outer s H vs Q E pp hc hr h => ?_)
  · obtain ⟨p, q, rfl, _⟩ := h
    rfl
  · obtain ⟨p, q, rfl, h1, h2, k⟩ := h
    refine ⟨_, (pss_one (ps_ret (pe_op op_fdiv (pv 0) (pv 1)))), ?_⟩
    exact ⟨_, rfl, _, rfl, _, _, rfl, rfl, ⟨by omega, by omega⟩, k⟩
theorem hk_entry_bounds {C f : Addr} {fd : FuncData} (F : C8.Def K mg "entry_bounds" s_entry_bounds f fd) (b : Binds K fd ["log", "entry"] []) (cl : ClsL K C) (c_round_up : CalH P w K mg base 1 "round_up" sp_round_up) (c_round_down : CalH P w K mg base 1 "round_down" sp_round_down) :
    CalH P w K mg base 2 "entry_bounds" (sp_entry_bounds K C) := by
  refine calH F b sc_entry_bounds (fun vs H Q E h => ?_) (fun cdv A outer s H vs Q E pp hc hr h => ?_)
  · obtain ⟨p, W, v, e, rfl, _⟩ := h
    rfl
  · obtain ⟨p, W, v, e, rfl, hL, hok, ⟨a, rfl, ha⟩, he, q⟩ := h
    obtain ⟨dx, ea, es, hp, _, _⟩ := hL.ex
    obtain ⟨o1, o2, o3, o4, o5, o6, o7, o8⟩ := hok
    refine ⟨_, (pss_cons (ps_if (pt_cmpR op_eq (pe_ix (ix_tupK K rfl) (pv 1) pe_int (fun _ _ => rfl)) pe_str (nomark _))
(pss_cons (ps_asg (pe_slice sl_tup (pv 1) (po_some pe_int) po_none) (pg_tupH hc (pgs_cons (pg_name (i := 2) sc_entry_bounds.nd rfl (Or.inl rfl)) (pgs_cons (pg_name (i := 3) sc_entry_bounds.nd rfl (Or.inl rfl)) pgs_nil))))
(pss_one (ps_ret (pe_lst (pa_cons (pe_tup (pa_cons pe_int (pa_cons (pv 2) (pa_cons (pe_op op_sub (pv 3) (pe_fldK K rfl (pv 0) rfl)) pa_nil)))) (pa_cons (pe_tup (pa_cons (pv 2) (pa_cons pe_int (pa_cons (pe_un un_neg (pv 3)) pa_nil)))) pa_nil))))))
pss_nil)
(pss_cons (ps_asg (pe_slice sl_tup (pv 1) (po_some pe_int) po_none) (pg_tupH hc (pgs_cons (pg_name (i := 4) sc_entry_bounds.nd rfl (Or.inl rfl)) (pgs_cons (pg_name (i := 5) sc_entry_bounds.nd rfl (Or.inl rfl)) (pgs_cons (pg_name (i := 6) sc_entry_bounds.nd rfl (Or.inl rfl)) pgs_nil)))))
(pss_cons (ps_if (pt_cmpR op_eq (pe_ix (ix_tupK K rfl) (pv 1) pe_int (fun _ _ => rfl)) pe_str (nomark _))
(pss_one (ps_ret (pe_lst (pa_cons (pe_tup (pa_cons (pv 4) (pa_cons (pv 5) (pa_cons (pv 6) pa_nil)))) pa_nil))))
pss_nil)
(pss_cons (ps_set (i := 7) sc_entry_bounds.nd rfl (Or.inl rfl) (pe_cH c_round_up hr hc (by decide) (by rfl) (pa_cons (pe_op op_mul (pv 6) (pe_fldK K rfl (pv 0) rfl)) (pa_cons (pe_fldK K rfl (pv 0) rfl) pa_nil))))
(pss_cons (ps_set (i := 8) sc_entry_bounds.nd rfl (Or.inl rfl) (pe_cH c_round_down hr hc (by decide) (by rfl) (pa_cons (pe_op op_mul (pv 6) (pe_fldK K rfl (pv 0) rfl)) (pa_cons (pe_fldK K rfl (pv 0) rfl) pa_nil))))
(pss_one (ps_ret (pe_lst (pa_cons (pe_tup (pa_cons (pv 4) (pa_cons (pv 5) (pa_cons (pv 7) pa_nil)))) (pa_cons (pe_tup (pa_cons (pv 5) (pa_cons (pv 4) (pa_cons (pe_un un_neg (pv 8)) pa_nil)))) pa_nil)))))))))), ?_⟩
    cases e with
    | noted i t =>
      refine ⟨_, rfl, a, _, 0, .str "noted", rfl, rfl, ha, rfl, rfl, _, rfl, ?_⟩
      refine ifT rfl ?_
      refine ⟨_, rfl, 1, rfl, a, _, rfl, ha, ?_, fun t1 ht1 => ?_⟩
      · intro z
        have z1 : (1 : Nat) = 0 := z.1
        cases z1
      have sm1 := same_new (o := .tup [nV i, nV t]) (Same.refl H) ht1
      have e1 : (upd H t1 (.tup [nV i, nV t])) t1 = some (.tup [nV i, nV t]) := upd_same
      refine ⟨t1, [nV i, nV t], rfl, SqT.of e1, rfl, _, _, rfl, _, _, rfl, rfl, ?_⟩
      refine ⟨_, rfl, _, rfl, _, rfl, p, C, dx, _, _, rfl, sm1 _ _ hp, cl.cl, cl.nLate, lf_late _ _ _ _ _, _, _, rfl, rfl, by show 3 ≤ sizeLine; decide, fun t2 ht2 => ?_⟩
      have sm2 := same_new (o := .tup [.int 0, nV i, .int ((t : Int) - (W.late : Int))]) sm1 ht2
      refine ⟨_, rfl, _, rfl, (t : Int), rfl, by show 3 ≤ sizeLine; decide, fun t3 ht3 => ?_⟩
      have sm3 := same_new (o := .tup [nV i, .int 0, .int (-(t : Int))]) sm2 ht3
      have n23 : t2 ≠ t3 := ne_of_none upd_same ht3
      refine ⟨by show 2 ≤ sizeLine; decide, fun l hl => ?_⟩
      have n2 : t2 ≠ l := ne_of_none ((upd_ne n23).trans upd_same) hl
      have n3 : t3 ≠ l := ne_of_none upd_same hl
      refine q l _ _ (same_new sm3 hl) (sm3.free hl) upd_same (.cons ⟨t2, rfl, SqT.of ?_⟩ (.cons ⟨t3, rfl, SqT.of ?_⟩ .nil))
      · rw [upd_ne n2, upd_ne n23, upd_same] <;> rfl
      · rw [upd_ne n3, upd_same] <;> rfl
    | after i j t =>
      refine ⟨_, rfl, a, _, 0, .str "after", rfl, rfl, ha, rfl, rfl, _, rfl, ?_⟩
      refine ifF (by intro z; exact absurd (V.str.inj z) (by decide +kernel)) ?_
      refine ⟨_, rfl, 1, rfl, a, _, rfl, ha, ?_, fun t1 ht1 => ?_⟩
      · intro z
        have z1 : (1 : Nat) = 0 := z.1
        cases z1
      have sm1 := same_new (o := .tup [nV i, nV j, nV t]) (Same.refl H) ht1
      have e1 : (upd H t1 (.tup [nV i, nV j, nV t])) t1 = some (.tup [nV i, nV j, nV t]) := upd_same
      refine ⟨t1, [nV i, nV j, nV t], rfl, SqT.of e1, rfl, _, _, rfl, _, _, rfl, _, _, rfl, rfl, ?_⟩
      refine ⟨_, rfl, a, _, 0, .str "after", rfl, rfl, Same.tup sm1 ha, rfl, rfl, _, rfl, ?_⟩
      refine ifT rfl ?_
      refine ⟨_, rfl, _, rfl, _, rfl, by show 3 ≤ sizeLine; decide, fun t2 ht2 => ?_⟩
      have sm2 := same_new (o := .tup [nV i, nV j, nV t]) sm1 ht2
      refine ⟨by show 1 ≤ sizeLine; decide, fun l hl => ?_⟩
      have n2 : t2 ≠ l := ne_of_none upd_same hl
      refine q l _ _ (same_new sm2 hl) (sm2.free hl) upd_same (.cons ⟨t2, rfl, SqT.of ?_⟩ .nil)
      rw [upd_ne n2, upd_same] <;> rfl
    | shown i j t =>
      refine ⟨_, rfl, a, _, 0, .str "shown", rfl, rfl, ha, rfl, rfl, _, rfl, ?_⟩
      refine ifF (by intro z; exact absurd (V.str.inj z) (by decide +kernel)) ?_
      refine ⟨_, rfl, 1, rfl, a, _, rfl, ha, ?_, fun t1 ht1 => ?_⟩
      · intro z
        have z1 : (1 : Nat) = 0 := z.1
        cases z1
      have sm1 := same_new (o := .tup [nV i, nV j, nV t]) (Same.refl H) ht1
      have e1 : (upd H t1 (.tup [nV i, nV j, nV t])) t1 = some (.tup [nV i, nV j, nV t]) := upd_same
      have hp1 := sm1 _ _ hp
      refine ⟨t1, [nV i, nV j, nV t], rfl, SqT.of e1, rfl, _, _, rfl, _, _, rfl, _, _, rfl, rfl, ?_⟩
      refine ⟨_, rfl, a, _, 0, .str "shown", rfl, rfl, Same.tup sm1 ha, rfl, rfl, _, rfl, ?_⟩
      refine ifF (by intro z; exact absurd (V.str.inj z) (by decide +kernel)) ?_
      refine ⟨_, rfl, _, rfl, p, C, dx, _, _, rfl, hp1, cl.cl, cl.nSlow, lf_slow _ _ _ _ _, _, _, rfl, rfl, .inr ⟨by omega, by omega⟩, _, rfl, p, C, dx, _, _, rfl, hp1, cl.cl, cl.nFast, lf_fast _ _ _ _ _, _, _, rfl, by omega, by omega, ?_⟩
      refine ⟨_, rfl, _, rfl, p, C, dx, _, _, rfl, hp1, cl.cl, cl.nFast, lf_fast _ _ _ _ _, _, _, rfl, rfl, .inr ⟨by omega, by omega⟩, _, rfl, p, C, dx, _, _, rfl, hp1, cl.cl, cl.nSlow, lf_slow _ _ _ _ _, _, _, rfl, by omega, by omega, ?_⟩
      refine ⟨_, rfl, _, rfl, _, rfl, by show 3 ≤ sizeLine; decide, fun t2 ht2 => ?_⟩
      have sm2 := same_new (o := .tup [nV i, nV j, .int (ceilD ((t : Int) * (W.slow : Int)) (W.fast : Int))]) sm1 ht2
      refine ⟨_, rfl, _, rfl, _, rfl, _, rfl, by show 3 ≤ sizeLine; decide, fun t3 ht3 => ?_⟩
      have sm3 := same_new (o := .tup [nV j, nV i, .int (-(((t : Int) * (W.fast : Int)) / (W.slow : Int)))]) sm2 ht3
      have n23 : t2 ≠ t3 := ne_of_none upd_same ht3
      refine ⟨by show 2 ≤ sizeLine; decide, fun l hl => ?_⟩
      have n2 : t2 ≠ l := ne_of_none ((upd_ne n23).trans upd_same) hl
      have n3 : t3 ≠ l := ne_of_none upd_same hl
      refine q l _ _ (same_new sm3 hl) (sm3.free hl) upd_same (.cons ⟨t2, rfl, SqT.of ?_⟩ (.cons ⟨t3, rfl, SqT.of ?_⟩ .nil))
      · rw [upd_ne n2, upd_ne n23, upd_same] <;> rfl
      · rw [upd_ne n3, upd_same] <;> rfl
theorem hk_bounds {C f fi : Addr} {st : Stmt} {fd fdi : FuncData} (F : C8.Def K mg "bounds" s_bounds f fd) (b : Binds K fd ["log"] []) (cl : ClsL K C) (T : Gb mg) (D : IterD K mg C fi "entries" st fdi) (c_entry_bounds : CalH P w K mg base 2 "entry_bounds" (sp_entry_bounds K C)) :
    CalH P w K mg base 3 "bounds" (sp_bounds K C) := by
  refine calH F b sc_bounds (fun vs H Q E h => ?_) (fun cdv A outer s H vs Q E pp hc hr h => ?_)
  · obtain ⟨p, W, rfl, _⟩ := h
    rfl
  · obtain ⟨p, W, rfl, hL, hok, q⟩ := h
    obtain ⟨dx, ea, es, hp, hE, hP⟩ := hL.ex
    have o1 := hok.s1
    have o2 := hok.s2
    have o3 := hok.n
    have hel := hP.length
    refine ⟨_, (pss_cons (ps_setLcR (i := 1) (own := [("event", 3)]) hc sc_bounds.nd rfl rfl (sw_true rfl rfl rfl (by decide +kernel)) (by rfl) T.range (pa_cons pe_int (pa_cons (pe_fldK K rfl (pv 0) rfl) pa_nil)) (blkOk_by (N := N_bounds) (sc := C8.fnScope s_bounds) (by decide +kernel)) (fun _ _ _ _ _ => (pg_name (i := 3) sc_bounds.nd rfl (Or.inl rfl))) (fun _ _ _ _ _ => pts_nil) (fun _ _ _ _ _ => (pe_tup (pa_cons pe_int (pa_cons (pv 3) (pa_cons pe_int pa_nil))))))
(pss_cons (ps_forH PassesOwn.never hc (pi_ownTH D (hr.mono (by decide)) hc (pv 0)) (pg_name (i := 2) sc_bounds.nd rfl (Or.inl rfl))
(pss_one (ps_expr (pe_bm PySem.F.plainAttrs_list PySem.F.slot_list_extend PySem.F.type_list_extend mt_extend (pv 1) (pa_cons (pe_cH c_entry_bounds hr hc (by decide) (by rfl) (pa_cons (pv 0) (pa_cons (pv 2) pa_nil))) pa_nil)))))
(pss_one (ps_ret (pv 1))))), ?_⟩
    refine ⟨_, rfl, p, C, dx, _, _, rfl, hp, cl.cl, cl.nSize, lf_size _ _ _ _ _, 1, (W.size : Int), rfl, ⟨by decide, by decide, by omega, by omega⟩, fun D hD => lc_range (lo := 1) (n := ((W.size : Int) - 1).toNat)
      (fun j H' => Same H H' ∧ ∃ vs, H' D = some (.lst vs) ∧ Paired (RowV K H') vs ((List.range j).map fun k => (0, k + 1, 0)))
      ⟨same_new (Same.refl _) hD, [], upd_same, .nil⟩ ?_ ?_⟩
    · rintro j H1 hj ⟨sm1, vs, hvs, hvp⟩
      have hvl := hvp.length
      rw [List.length_map, List.length_range] at hvl
      refine ⟨rfl, yes_go ?_⟩
      refine ⟨_, rfl, by show 3 ≤ sizeLine; decide, fun t ht => ?_⟩
      have smt := same_new (o := .tup [.int 0, .int (1 + (j : Int)), .int 0]) (Same.refl H1) ht
      have hvs2 := smt _ _ hvs
      refine ⟨vs, hvs2, size_lt (by omega), same_mut (sm1.trans smt) hD, vs ++ [.ref t], upd_same, ?_⟩
      rw [List.range_succ, List.map_append]
      refine Paired.snoc (L2.Paired.mapP hvp fun _ _ h => (h.mono smt).updL hvs2) ?_
      refine RowV.updL hvs2 ⟨t, rfl, SqT.of ?_⟩
      rw [upd_same]
      show some (HO.tup [.int 0, .int (1 + (j : Int)), .int 0]) = some (HO.tup [.int ((0 : Nat) : Int), .int ((j + 1 : Nat) : Int), .int 0])
      rw [show (1 + (j : Int)) = ((j + 1 : Nat) : Int) by omega]
      rfl
    rintro H1 ⟨sm1, vs0, hvs0, hvp0⟩
    rw [show ((W.size : Int) - 1).toNat = W.size - 1 by omega] at hvp0
    refine ⟨_, rfl, p, dx, _, ea, es, rfl, sm1 _ _ hp, lf_entries _ _ _ _ _, Same.tup sm1 hE, for_it (walk_tup (xs := es))
      (fun i σ H' => Same H H' ∧ ∃ vs v2 v3, H' D = some (.lst vs) ∧ Paired (RowV K H') vs (rows0 W.size ++ (W.ents.take i).flatMap (entRows W.fast W.slow W.late)) ∧ σ = [some (.ref p), some (.ref D), v2, v3])
      ⟨sm1, vs0, _, _, hvs0, by rw [List.take_zero, List.flatMap_nil, List.append_nil]; exact hvp0, rfl⟩ (fun i σ H' _ h => Same.tup h.1 hE) ?_ ?_⟩
    · rintro i x σ H2 H2' hi ⟨sm2, vs, v2, v3, hvs, hvp, rfl⟩ ⟨rfl, hx⟩
      obtain ⟨e, he, hev⟩ := paired_at hP hx
      have hvl := hvp.length
      have hfl := flat_len W.fast W.slow W.late (W.ents.take i)
      have htl : (W.ents.take i).length ≤ 60 := by rw [List.length_take]; omega
      have h0l : (rows0 W.size).length ≤ 11 := by unfold rows0; rw [List.length_map, List.length_range]; omega
      rw [List.length_append] at hvl
      refine ⟨_, rfl, .inl ⟨rfl, _, SqL.of hvs⟩, _, rfl, _, rfl, p, W, x, e, rfl, hL.mono sm2, hok, hev.mono sm2, hok.e e (List.mem_of_getElem? he), fun l rs H3 sm3 hln hl hrs => ?_⟩
      have hrl := hrs.length
      have hel2 := entRows_len W.fast W.slow W.late e
      have hvs3 := sm3 _ _ hvs
      refine ⟨D, l, vs, rs, rfl, rfl, hvs3, hl, size_le (by omega), same_mut (sm2.trans sm3) hD, vs ++ rs, _, _, upd_same, ?_, rfl⟩
      rw [take_snoc he, List.flatMap_append, ← List.append_assoc, List.flatMap_cons, List.flatMap_nil, List.append_nil]
      exact L2.Paired.mapP (paired_app (L2.Paired.mapP hvp fun _ _ h => h.mono sm3) hrs) fun _ _ h => h.updL hvs3
    · rintro σ H2 ⟨sm2, vs, v2, v3, hvs, hvp, rfl⟩
      rw [hel, List.take_length] at hvp
      exact ⟨_, rfl, q D vs H2 sm2 hD hvs hvp⟩
end
end My
/-! judge_chain, _law_short, _law_chain where an exception is handled -/
namespace My
open PySem L2 L2H
section
variable {P : Program} {w : World} {K : PySem.W.Frag} {mg : Str → Option Value} {base : Heap}
theorem hk_checked {C f : Addr} {fd : FuncData} (F : C8.Fun K "checked" "Log.checked" s_Log_checked f fd) (b : Binds K fd ["self", "event"] []) (cl : ClsL K C) (me : Meth K C "checked" f) : MetH P w K mg base 1 C "checked" (sp_checked K C) := by
  refine metH cl.cl me F b sc_Log_checked (fun vs H Q E h => ?_) (fun cdv A outer s H vs Q E pp hc hr h => ?_)
  · obtain ⟨p, W, i, rfl, _⟩ := h
    rfl
  · obtain ⟨p, W, i, rfl, hL, hi, q⟩ := h
    obtain ⟨dx, a, es, e, _, _⟩ := hL.ex
    refine ⟨_, (pss_cons (ps_if (PW.pt (pw_or (pt_cmpR op_lt (pv 1) pe_int (nomark _)) (pw_or1 (pt_cmpR op_ge (pv 1) (pe_fldK K rfl (pv 0) rfl) (nomark _)))))
(pss_one ps_never)
pss_nil)
(pss_one (ps_ret (pv 1)))), ?_⟩
    refine ⟨_, rfl, _, _, rfl, rfl, _, rfl, ?_⟩
    refine ifF (by omega) ?_
    refine ⟨_, rfl, _, rfl, p, C, dx, _, _, rfl, e, cl.cl, cl.nSize, lf_size _ _ _ _ _, _, _, rfl, rfl, _, rfl, ?_⟩
    refine ifF (by omega) ?_
    exact ⟨_, rfl, q⟩
theorem hk_judge_chain {C f : Addr} {fd : FuncData} (F : C8.Def K mg "judge_chain" s_judge_chain f fd) (b : Binds K fd ["log", "x", "y", "least", "chain"] []) (cl : ClsL K C) (T : Gb mg) (m_checked : MetH P w K mg base 1 C "checked" (sp_checked K C)) (c_bounds : CalH P w K mg base 3 "bounds" (sp_bounds K C)) :
    CalH P w K mg base 4 "judge_chain" (sp_judge_chain K C) := by
  refine calH F b sc_judge_chain (fun vs H Q E h => ?_) (fun cdv A outer s H vs Q E pp hc hr h => ?_)
  · obtain ⟨p, ca, W, x, y, y', least, a, c, rfl, _⟩ := h
    rfl
  · obtain ⟨p, ca, W, x, y, y', least, a, c, rfl, hL, hok, hx, hy, hca, hgo, q⟩ := h
    obtain ⟨dx, ea, es, hp, hE, hP⟩ := hL.ex
    have hrl := rowsOf_len hok
    refine ⟨_, (pss_cons (ps_expr (pe_mtH m_checked hr hc (by decide) (pv 0) (pa_cons (pv 1) pa_nil)))
(pss_cons (ps_expr (pe_mtH m_checked hr hc (by decide) (pv 0) (pa_cons (pv 2) pa_nil)))
(pss_cons (ps_set (i := 5) sc_judge_chain.nd rfl (Or.inl rfl) (pe_cH c_bounds hr hc (by decide) (by rfl) (pa_cons (pv 0) pa_nil)))
(pss_cons (ps_set (i := 6) sc_judge_chain.nd rfl (Or.inl rfl) (pv 1))
(pss_cons (ps_set (i := 7) sc_judge_chain.nd rfl (Or.inl rfl) pe_int)
(pss_cons (ps_forH PassesOwn.never hc (pi_listKH rfl (pv 4)) (pg_name (i := 8) sc_judge_chain.nd rfl (Or.inl rfl))
(pss_cons (ps_if (PW.pt (pw_or (pt_cmpR op_lt (pv 8) pe_int (nomark _)) (pw_or (pt_cmpR op_ge (pv 8) (pe_callB (call_lenK K rfl) (by rfl) T.len PySem.boot_len (pa_cons (pv 5) pa_nil)) (nomark _)) (pw_or1 (pt_cmpR op_ne (pe_ix (ix_tupK K rfl) (pe_ix (ix_listK K rfl) (pv 5) (pv 8) (fun _ _ => rfl)) pe_int (fun _ _ => rfl)) (pv 6) (nomark _))))))
(pss_one (ps_ret pe_bl))
pss_nil)
(pss_cons (ps_set (i := 6) sc_judge_chain.nd rfl (Or.inl rfl) (pe_ix (ix_tupK K rfl) (pe_ix (ix_listK K rfl) (pv 5) (pv 8) (fun _ _ => rfl)) pe_int (fun _ _ => rfl)))
(pss_one (ps_aug (i := 7) sc_judge_chain.nd rfl (.inl rfl) (pe_ix (ix_tupK K rfl) (pe_ix (ix_listK K rfl) (pv 5) (pv 8) (fun _ _ => rfl)) pe_int (fun _ _ => rfl)) ip_add)))))
(pss_one (ps_ret (pe_and (pe_cmpR op_eq (pv 6) (pv 2) (nomark _)) (pe_one (pe_cmpR op_ge (pv 7) (pv 3) (nomark _)))))))))))), ?_⟩
    refine ⟨_, rfl, p, dx, _, rfl, hp, lf_checked _ _ _ _ _, _, rfl, p, W, x, rfl, hL, hx, ?_⟩
    refine ⟨_, rfl, p, dx, _, rfl, hp, lf_checked _ _ _ _ _, _, rfl, p, W, y, rfl, hL, hy, ?_⟩
    refine ⟨_, rfl, p, W, rfl, hL, hok, fun l rs H1 sm1 hl0 hl hrs => ?_⟩
    have hrsl := hrs.length
    refine ⟨_, rfl, _, rfl, ca, rfl, ⟨_, sm1.seq hca⟩, for_it (walk_list (xs := c.map nV))
      (fun i σ H' => Same H1 H' ∧ ∃ v8, σ = [some (.ref p), some (nV x), some (nV y), some (.int least), some (.ref ca), some (.ref l), some (nV (plc (rowsOf W) x c i)), some (.int (((goC (rowsOf W) x 0 (c.take i)).map fun q => q.2).getD 0)), v8])
      ⟨Same.refl H1, _, rfl⟩ (fun i σ H' _ h => h.1.seq (sm1.seq hca)) ?_ ?_⟩
    · rintro i v σ H2 H2' hi ⟨sm2, v8, rfl⟩ ⟨rfl, hv⟩
      rw [List.getElem?_map] at hv
      obtain ⟨k, hk, rfl⟩ : ∃ k, c[i]? = some k ∧ v = nV k := by
        cases e : c[i]? with
        | none => rw [e] at hv; cases hv
        | some k => rw [e] at hv; exact ⟨k, rfl, (Option.some.inj hv).symm⟩
      obtain ⟨w1, hRk⟩ := plc_row hgo hk
      obtain ⟨xr, hxr, xa, rfl, hxt⟩ := paired_at2 hrs hRk
      have hkl : k < (rowsOf W).length := (List.getElem?_eq_some_iff.mp hRk).1
      have hl2 := sm2 _ _ hl
      have hxt2 := Same.tup sm2 hxt
      refine ⟨_, rfl, _, _, rfl, rfl, _, rfl, ?_⟩
      refine ifF (by omega) ?_
      refine ⟨_, rfl, _, rfl, l, rs, rfl, .inl (SqL.of hl2), _, _, rfl, rfl, _, rfl, ?_⟩
      refine ifF (by omega) ?_
      refine ⟨_, rfl, _, rfl, l, _, _, .ref xa, rfl, rfl, SqL.of hl2, atI_nat hxr, xa, _, 0, nV (plc (rowsOf W) x c i), rfl, rfl, hxt2, rfl, _, rfl, ?_⟩
      refine ⟨rfl, _, rfl, ?_⟩
      refine ifNF rfl ?_
      obtain ⟨a1, g1⟩ := plc_at hgo i
      obtain ⟨a2, g2⟩ := plc_at hgo (i + 1)
      have ga : a2 = a1 + w1 := by
        have h2 := g2
        rw [take_snoc hk, goC_app, g1] at h2
        have h3 : goC (rowsOf W) (plc (rowsOf W) x c i) a1 [k] = some (plc (rowsOf W) x c (i + 1), a2) := h2
        rw [goC_one hRk] at h3
        exact (congrArg Prod.snd (Option.some.inj h3)).symm
      rw [g1, g2]
      refine ⟨_, rfl, _, rfl, l, _, _, .ref xa, rfl, rfl, SqL.of hl2, atI_nat hxr, xa, _, 1, nV (plc (rowsOf W) x c (i + 1)), rfl, rfl, hxt2, rfl, ?_⟩
      refine ⟨_, rfl, _, rfl, _, rfl, l, _, _, .ref xa, rfl, rfl, SqL.of hl2, atI_nat hxr, xa, _, 2, .int w1, rfl, rfl, hxt2, rfl, _, _, rfl, rfl, ?_⟩
      refine ⟨sm2, some (nV k), ?_⟩
      rw [ga]
      rfl
    · rintro σ H2 ⟨sm2, v8, rfl⟩
      have hpl : plc (rowsOf W) x c (c.map nV).length = y' := by
        unfold plc
        rw [List.length_map, List.take_length, hgo]
        rfl
      rw [hpl, List.length_map, List.take_length, hgo]
      have h2 := q H2 (sm1.trans sm2)
      refine ⟨_, rfl, _, rfl, rfl, _, rfl, ?_⟩
      by_cases e : y' = y
      · refine ifT (by rw [e]) ?_
        rw [decide_eq_true e, Bool.true_and] at h2
        exact ⟨_, rfl, _, rfl, _, _, rfl, rfl, h2⟩
      · refine ifF (by intro z; exact e (Int.ofNat.inj (V.int.inj z))) ?_
        rw [decide_eq_false e, Bool.false_and] at h2
        exact h2
theorem hk_law_short {f : Addr} {fd : FuncData} (F : C8.Def K mg "_law_short" s_law_short f fd) (b : Binds K fd ["told", "most"] []) (T : Gb mg) : CalH P w K mg base 1 "_law_short" sp_law_short := by
  refine calH F b sc_law_short (fun vs H Q E h => ?_) (fun cdv A outer s H vs Q E pp hc hr h => ?_)
  · obtain ⟨a, c, n, rfl, _⟩ := h
    rfl
  · obtain ⟨a, c, n, rfl, ha, hn, q⟩ := h
    refine ⟨_, (pss_cons (ps_if (PW.pt (pw_or (pt_not (pt_val (pe_callB call_isi (by rfl) T.isinstance (by decide +kernel) (pa_cons (pv 0) (pa_cons (pe_bltn (v := .ty "list") (by rfl) T.list (by decide +kernel) rfl) pa_nil))))) (pw_or1 (pt_cmpR op_gt (pe_callB (call_lenK K rfl) (by rfl) T.len PySem.boot_len (pa_cons (pv 0) pa_nil)) (pv 1) (nomark _)))))
(pss_one (ps_ret pe_bl))
pss_nil)
(pss_cons (ps_forH PassesOwn.never hc (pi_listKH rfl (pv 0)) (pg_name (i := 2) sc_law_short.nd rfl (Or.inl rfl))
(pss_one (ps_if (PW.pt (pw_or (pt_not (pt_val (pe_callB call_isi (by rfl) T.isinstance (by decide +kernel) (pa_cons (pv 2) (pa_cons (pe_bltn (v := .ty "int") (by rfl) T.int (by decide +kernel) rfl) pa_nil))))) (pw_or1 (pt_val (pe_callB call_isi (by rfl) T.isinstance (by decide +kernel) (pa_cons (pv 2) (pa_cons (pe_bltn (v := .ty "bool") (by rfl) T.bool (by decide +kernel) rfl) pa_nil)))))))
(pss_one (ps_ret pe_bl))
pss_nil)))
(pss_one (ps_ret pe_bl)))), ?_⟩
    refine ⟨_, rfl, .ref a, .ty "list", .type "list", .type "list", true, rfl, .ty _, .base (.lst ha), kit_ty (by decide +kernel), true, rfl, ?_⟩
    refine iteF ?_
    refine ⟨_, rfl, a, _, rfl, .inl (SqL.of ha), _, rfl, _, _, rfl, rfl, _, rfl, ?_⟩
    rw [List.length_map]
    refine ifF (by omega) ?_
    refine ⟨_, rfl, a, rfl, ⟨_, SqL.of ha⟩, for_it (walk_list (xs := c.map nV)) (fun i σ H' => H' = H ∧ ∃ v2, σ = [some (.ref a), some (.int n), v2])
      ⟨rfl, _, rfl⟩ (fun i σ H' _ h => by rw [h.1]; exact SqL.of ha) ?_ ?_⟩
    · rintro i x σ H1 H1' hi ⟨rfl, v2, rfl⟩ ⟨rfl, hx⟩
      obtain ⟨k, hk, rfl⟩ := at_map hx
      refine ⟨_, rfl, .int (k : Int), .ty "int", .type "int", .type "int", true, rfl, .ty _, .base (.int _), kit_ty (by decide +kernel), true, rfl, ?_⟩
      refine iteF ?_
      refine ⟨_, rfl, .int (k : Int), .ty "bool", .type "int", .type "bool", false, rfl, .ty _, .base (.int _), kit_ty (by decide +kernel), false, rfl, ?_⟩
      refine iteF ?_
      exact ⟨rfl, _, rfl⟩
    · rintro σ H1 ⟨rfl, v2, rfl⟩
      exact q
theorem hk_law_chain {f : Addr} {fd : FuncData} (F : C8.Def K mg "_law_chain" s_law_chain f fd) (b : Binds K fd ["rows", "x", "y", "least", "chain"] []) (T : Gb mg) : CalH P w K mg base 1 "_law_chain" (sp_law_chain K) := by
  refine calH F b sc_law_chain (fun vs H Q E h => ?_) (fun cdv A outer s H vs Q E pp hc hr h => ?_)
  · obtain ⟨ra, ca, R, x, y, least, a, c, rfl, _⟩ := h
    rfl
  · obtain ⟨ra, ca, R, x, y, least, a, c, rfl, ⟨rs, hl, hrs⟩, hca, hgo, hle, q⟩ := h
    have hrsl := hrs.length
    refine ⟨_, (pss_cons (ps_set (i := 5) sc_law_chain.nd rfl (Or.inl rfl) (pv 1))
(pss_cons (ps_set (i := 6) sc_law_chain.nd rfl (Or.inl rfl) pe_int)
(pss_cons (ps_forH PassesOwn.never hc (pi_listKH rfl (pv 4)) (pg_name (i := 7) sc_law_chain.nd rfl (Or.inl rfl))
(pss_cons (ps_if (PW.pt (pw_or (pt_cmpR op_lt (pv 7) pe_int (nomark _)) (pw_or (pt_cmpR op_ge (pv 7) (pe_callB (call_lenK K rfl) (by rfl) T.len PySem.boot_len (pa_cons (pv 0) pa_nil)) (nomark _)) (pw_or1 (pt_cmpR op_ne (pe_ix (ix_tupK K rfl) (pe_ix (ix_listK K rfl) (pv 0) (pv 7) (fun _ _ => rfl)) pe_int (fun _ _ => rfl)) (pv 5) (nomark _))))))
(pss_one (ps_ret pe_bl))
pss_nil)
(pss_cons (ps_set (i := 6) sc_law_chain.nd rfl (Or.inl rfl) (pe_op op_add (pv 6) (pe_ix (ix_tupK K rfl) (pe_ix (ix_listK K rfl) (pv 0) (pv 7) (fun _ _ => rfl)) pe_int (fun _ _ => rfl))))
(pss_one (ps_set (i := 5) sc_law_chain.nd rfl (Or.inl rfl) (pe_ix (ix_tupK K rfl) (pe_ix (ix_listK K rfl) (pv 0) (pv 7) (fun _ _ => rfl)) pe_int (fun _ _ => rfl)))))))
(pss_one (ps_ret (pe_and (pe_cmpR op_eq (pv 5) (pv 2) (nomark _)) (pe_one (pe_cmpR op_ge (pv 6) (pv 3) (nomark _))))))))), ?_⟩
    refine ⟨_, rfl, _, rfl, ca, rfl, ⟨_, hca⟩, for_it (walk_list (xs := c.map nV))
      (fun i σ H' => H' = H ∧ ∃ v8, σ = [some (.ref ra), some (nV x), some (nV y), some (.int least), some (.ref ca), some (nV (plc R x c i)), some (.int (((goC R x 0 (c.take i)).map fun q => q.2).getD 0)), v8])
      ⟨rfl, _, rfl⟩ (fun i σ H' _ h => by rw [h.1]; exact hca) ?_ ?_⟩
    · rintro i v σ H2 H2' hi ⟨rfl, v8, rfl⟩ ⟨rfl, hv⟩
      obtain ⟨k, hk, rfl⟩ := at_map hv
      obtain ⟨w1, hRk⟩ := plc_row hgo hk
      obtain ⟨xr, hxr, xa, rfl, hxt⟩ := paired_at2 hrs hRk
      have hkl : k < R.length := lt_of_at hRk
      refine ⟨_, rfl, _, _, rfl, rfl, _, rfl, ?_⟩
      refine ifF (by omega) ?_
      refine ⟨_, rfl, _, rfl, ra, rs, rfl, .inl hl, _, _, rfl, rfl, _, rfl, ?_⟩
      refine ifF (by omega) ?_
      refine ⟨_, rfl, _, rfl, ra, _, _, .ref xa, rfl, rfl, hl, atI_nat hxr, xa, _, 0, nV (plc R x c i), rfl, rfl, hxt, rfl, _, rfl, ?_⟩
      refine ⟨rfl, _, rfl, ?_⟩
      refine ifNF rfl ?_
      obtain ⟨a1, g1⟩ := plc_at hgo i
      obtain ⟨a2, g2⟩ := plc_at hgo (i + 1)
      have ga : a2 = a1 + w1 := by
        have h2 := g2
        rw [take_snoc hk, goC_app, g1] at h2
        have h3 : goC R (plc R x c i) a1 [k] = some (plc R x c (i + 1), a2) := h2
        rw [goC_one hRk] at h3
        exact (congrArg Prod.snd (Option.some.inj h3)).symm
      rw [g1, g2]
      refine ⟨_, rfl, _, rfl, _, rfl, ra, _, _, .ref xa, rfl, rfl, hl, atI_nat hxr, xa, _, 2, .int w1, rfl, rfl, hxt, rfl, _, _, rfl, rfl, ?_⟩
      refine ⟨_, rfl, _, rfl, ra, _, _, .ref xa, rfl, rfl, hl, atI_nat hxr, xa, _, 1, nV (plc R x c (i + 1)), rfl, rfl, hxt, rfl, ?_⟩
      refine ⟨rfl, some (nV k), ?_⟩
      rw [ga]
      rfl
    · rintro σ H2 ⟨rfl, v8, rfl⟩
      have hpl : plc R x c (c.map nV).length = y := by
        unfold plc
        rw [List.length_map, List.take_length, hgo]
        rfl
      rw [hpl, List.length_map, List.take_length, hgo]
      refine ⟨_, rfl, _, rfl, rfl, _, rfl, ?_⟩
      refine ifT rfl ?_
      refine ⟨_, rfl, _, rfl, _, _, rfl, rfl, ?_⟩
      show Q (V.bl (decide (least ≤ a))) H2
      rw [decide_eq_true hle]
      exact q
end
end My
/-! earliest, and the ring it raises: an exception whose context is known to be None -/
namespace My
open PySem PySem.Spec PyProof.Rows L2
section
variable {X : Cx} {e : Expr} {es : List Expr} {ta : TA} {p pos : Pos}
theorem pmkN_oex {CX : CXT} {x : Str} {C fI : Addr} {k : Nat} {fd : FuncData} {ps : List Str} {sp : Sp} (T : OexC X.K C) (iC : PySem.W.findIn X.K (.ref C) "__init__" = some (some (.ref fI))) (tI : PySem.W.typeIn X.K (.ref fI) = some (.type "function"))
    (F1 : FnOk X.prog X.w X.K X.mg X.base CX k fI fd ps sp) (hr : Room (k + 1) X.A) (hb : Binds X.K fd ps []) (hx : Passes CX X (fun _ _ _ => False)) (hg : Gl X x) (hm : X.mg x = some (.ref C)) (ha : PA X (e :: es) ta)
    (hdb : (x == ("__debug__" : Str)) = false := by decide) (he : starEach (e :: es) X.env = (false, eval e X.env) :: starEach es X.env := by rfl) (hpl : (backTo pos (starEach es X.env)).any (·.1) = false := by rfl) :
    L2N.PMk X (.Call (.Name x p) (e :: es) [] pos) (tMkO C sp [] ta) := by
  intro pins s σ H Q I h
  obtain ⟨nm, qn, N, bs, bm, sn, sub, ab, col, dd, k0, k1, k2, k3, k5, hC, hbm⟩ := T.cls
  refine wpAny_Call_Name_kw (ld_glob I hg hm ?_ hdb)
  refine PySem.W.callWith_K (h₀ := X.base) I.ok.mod.kin T.kC (thn (ha.run pos pins s σ H _ I h) fun us s1 ⟨vs, H1, I1, r1, hz, q1⟩ => ⟨I1.kIn, ?_⟩) he hpl
  show wpAny _ _ (call (.ref C) us) _ _ _
  obtain ⟨hp, g, dr, tk, os⟩ := s1
  obtain ⟨a, ea0⟩ : ∃ a, a = hp.objs.size + 1 := ⟨_, rfl⟩
  have hsz : hp.objs.size ≤ a := by omega
  have hn : H1 a = none := I1.hok.fresh hsz
  have hq := q1 a hn
  rw [List.append_nil] at hq
  have kk : ∀ b o, hp.get? b = some o → ((hp.push (PySem.W.kdv_tup us)).push (PySem.HandSPX.excO C hp.objs.size)).get? b = some o := fun b o e => Heap.get?_push_of_some _ (Heap.get?_push_of_some _ e)
  have hget : ((hp.push (PySem.W.kdv_tup us)).push (PySem.HandSPX.excO C hp.objs.size)).get? a = some (PySem.HandSPX.excO C hp.objs.size) := by
    rw [ea0]
    heap_get
  have I2 := I1.laid (t' := tk) (a := a) (o := exo a C none) (h' := (hp.push (PySem.W.kdv_tup us)).push (PySem.HandSPX.excO C hp.objs.size)) kk hsz (exo_ok hget)
  have r2 : Vals (V.ref a :: vs) (Value.ref a :: us) := .cons rfl r1
  have hl : (Value.ref a :: us).length = ps.length := by rw [← F1.len _ _ _ _ hq]; exact r2.length.symm
  have hus : us.length ≤ sizeLine := by
    rw [← Paired.length r1, sizeLine_eq]
    omega
  have b2 := hb _ (Value.ref a :: us) I2.kIn (by rw [List.append_nil]; exact hl)
  rw [List.append_nil] at b2
  subst ea0
  refine wpAny_call (PySem.HandSPX.call_own F.excBase_ValueError (fun Y => PySem.HandSPX.refsVE_contains Y bm hbm) (I1.kIn _ _ hC) (PySem.W.looks_findIn I1.kIn iC) (fun self => PySem.W.bind_fn I1.kIn self tI) hus
    (codeAny_mono (F1.run _ X.stack _ _ ⟨Value.ref (hp.objs.size + 1) :: us, []⟩ (Value.ref (hp.objs.size + 1) :: us) _ _ (fun _ _ _ => False) (hr.make C us []) (I2.env0.make C us []) b2 r2 hq) fun r s' hq' => ?_))
  cases r with
  | error er => exact hx pins σ _ _ er s' I2 hq'
  | ok fl =>
    cases fl with
    | next => exact False.elim hq'
    | brk => exact False.elim hq'
    | cont => exact False.elim hq'
    | ret u =>
      obtain ⟨v, H2, os2, bare2, un2, hok2, rv, ev, d, fs, ea, ed, hd1, q2⟩ := hq'
      subst ev
      obtain ⟨h2, g2, d2, t2, os'⟩ := s'
      obtain ⟨t0, G, J, kG, ge, hoe, na⟩ := mk_end0 (d2 := d2) (t2 := t2) I1 hsz kk un2 hok2 os2 bare2 ea ed hd1
      refine ⟨rv, hp.objs.size + 1, _, _, ⟨G, g2, d2, t2, os'⟩, _, .ref C, some d, rfl, J, kG, ge, hoe, ⟨rfl, rfl, fun vs hv => ?_⟩, rfl, rfl, na, rfl, bare2, raises_own T.exC T.tyC, q2⟩
      cases hv
      rfl
end
section
variable {P : Program} {w : World} {K : PySem.W.Frag} {mg : Str → Option Value} {base : Heap}
theorem fnXN {x qual : Str} {st : Stmt} {f : Addr} {fd : FuncData} {N ps : List Str} {k : Nat} {sp : Sp} (F : C8.Fun K x qual st f fd) (S : FnScope N ps (C8.fnScope st)) (len : ∀ vs H Q E, sp vs H Q E → vs.length = ps.length)
    (hbody : ∀ (cdv : Value) (A : Around) (outer : List Env) (s : Shared) (H : Hp) (vs : List V) (Q : VK) (E : XK), Room k (A.deeper (PyProof.Rows.envOfC qual (C8.fnScope st) s.heap.objs.size f cdv)) → sp vs H Q E →
      ∃ t, PSs (cxOf (L2N.CX P w) P w K mg base N qual (C8.fnScope st) f cdv A outer s H E) (C8.fnBody st) t ∧ t { nx := fun _ H' => Q .non H', rt := Q } (start N vs) H) : FnOk P w K mg base (L2N.CX P w) (k + 1) f fd ps sp := by
  obtain ⟨oc, od, dV, kV, doc, pm, an, cdv, ct, osl, rfl, lk, hcd⟩ := F.ex
  exact fn_of lk hcd S len fun A outer s H vs Q E hr hsp => hbody cdv A outer s H vs Q E hr hsp
/-- a def that may raise such an exception, by its name -/
structure CalN (P : Program) (w : World) (K : PySem.W.Frag) (mg : Str → Option Value) (base : Heap) (k : Nat) (x : Str) (sp : Sp) : Prop where
  ex : ∃ (f : Addr) (fd : FuncData) (ps : List Str), FnOk P w K mg base (L2N.CX P w) k f fd ps sp ∧ mg x = some (.ref f) ∧ PySem.W.keepIn K (.ref f) = true ∧ Binds K fd ps []
theorem fnN_earliest {C CN f : Addr} {fd : FuncData} (F : C8.Def K mg "earliest" s_earliest f fd) (b : Binds K fd ["log"] []) (cl : ClsL K C) (T : Gb mg) (NC : NoC P w K mg base CN)
    (c_bounds : C8.Cal P w K mg base 3 "bounds" (sp_bounds K C) []) (c_longest : C8.Cal P w K mg base 2 "longest" (sp_longest K) []) (c_ring_above : C8.Cal P w K mg base 2 "ring_above" (sp_ring_above K) []) : FnOk P w K mg base (L2N.CX P w) 4 f fd ["log"] (sp_earliest K C CN) := by
  obtain ⟨fI, fdI, iC, tI, F1, bI⟩ := NC.ex
  refine fnXN F.fn sc_earliest (fun vs H Q E h => ?_) (fun cdv A outer s H vs Q E hr h => ?_)
  · obtain ⟨p, W, rfl, _⟩ := h
    rfl
  · obtain ⟨p, W, rfl, hL, hok, q1, q2⟩ := h
    obtain ⟨dx, ea, es, hp, hE, hP⟩ := hL.ex
    have o1 := hok.s1
    have o2 := hok.s2
    refine ⟨_, (pss_cons (ps_set (i := 1) sc_earliest.nd rfl (Or.inl rfl) (C8.pe_c c_bounds hr (by decide) (by rfl) (pa_cons (pv 0) pa_nil)))
(pss_cons (ps_asg (C8.pe_c c_longest hr (by decide) (by rfl) (pa_cons (pe_fldK K rfl (pv 0) rfl) (pa_cons (pv 1) (pa_cons pe_int pa_nil)))) (pg_tup (by rfl) (pgs_cons (pg_name (i := 2) sc_earliest.nd rfl (Or.inl rfl)) (pgs_cons (pg_name (i := 3) sc_earliest.nd rfl (Or.inl rfl)) pgs_nil))))
(pss_cons (ps_if (pt_cmpR op_eq (pe_callB (call_lenK K rfl) (by rfl) T.len PySem.boot_len (pa_cons (pv 3) pa_nil)) (pe_fldK K rfl (pv 0) rfl) (nomark _))
(pss_one (L2N.ps_raise rfl (L2N.takes_of rfl rfl rfl rfl) (pmkN_oex NC.T iC tI F1 (hr.mono (by decide)) bI C8.pass0 (by rfl) NC.g (by exact (pa_cons (C8.pe_c c_ring_above hr (by decide) (by rfl) (pa_cons (pv 1) (pa_cons (pv 3) pa_nil))) pa_nil)))))
pss_nil)
(pss_one (ps_ret (pv 2)))))), ?_⟩
    refine ⟨_, rfl, p, W, rfl, hL, hok, fun l rs H1 sm1 hl0 hl hrs => ?_⟩
    have hlt := rowsOf_lt hok
    have hrl := rowsOf_len hok
    refine ⟨_, rfl, p, C, dx, _, _, rfl, sm1 _ _ hp, cl.cl, cl.nSize, lf_size _ _ _ _ _, _, rfl, l, W.size, 0, rowsOf W, rfl, ⟨rs, SqL.of hl, hrs⟩, hlt, by omega, by omega, by omega, fun t sa la s L H2 sm2 hsa0 hla0 ht hsa hla hres => ?_⟩
    refine ⟨t, _, rfl, SqT.of ht, rfl, _, _, rfl, _, _, rfl, rfl, ?_⟩
    obtain ⟨lvs, hlv, hlp⟩ := hla
    have hll := hlp.length
    have sm02 := sm1.trans sm2
    refine ⟨_, rfl, la, lvs, rfl, .inl (SqL.of hlv), _, rfl, p, C, dx, _, _, rfl, sm02 _ _ hp, cl.cl, cl.nSize, lf_size _ _ _ _ _, rfl, _, rfl, ?_⟩
    have hall : ∀ v, v < W.size → ∃ n w, Wk (rowsOf W) 0 v n w := fun v hv => rowsOf_start hok hv
    by_cases e : L.length = W.size
    · refine ifT (by rw [hll, e]) ?_
      refine ⟨_, rfl, _, rfl, l, la, rowsOf W, W.size, 0, s, L, rfl, ⟨rs, sm2.seq (SqL.of hl), L2.Paired.mapP hrs fun _ _ h => RowV.mono sm2 h⟩, hlt, ⟨lvs, hlv, hlp⟩, hres, e, by omega, by omega, fun rl r H3 sm3 hrl0 hrl3 hring => ?_⟩
      have sm03 := sm02.trans sm3
      refine ⟨by show 1 ≤ 1000; decide, fun a ha => ⟨a, .ref rl, rfl, upd_same, fun d hd hda => ?_⟩⟩
      have hd3 : H3 d = none := by rw [upd_ne hda] at hd; exact hd
      have nra : rl ≠ a := ne_of_none hrl3 ha
      have nrd : rl ≠ d := ne_of_none hrl3 hd3
      refine ⟨rfl, d, [("ring", .ref rl)], upd_same, (upd_ne hda).trans upd_same, hd3, ?_⟩
      refine q2 (hres.not_np (by omega) hlt e) d rl r _ ?_ (sm03.free hd3) (sm02.free hrl0) ?_ upd_same hring
      · intro b u hb
        have hb3 := sm03 _ _ hb
        have nbd : b ≠ d := ne_of_none hb3 hd3
        have nba : b ≠ a := ne_of_none hb3 ha
        rw [upd_ne nbd, del_ne nba, upd_ne nba, upd_ne nbd, upd_ne nba]
        exact hb3
      · rw [upd_ne nrd, del_ne nra, upd_ne nra, upd_ne nrd, upd_ne nra]
        exact hrl3
    · refine ifF (by rw [hll]; intro z; exact e (Int.ofNat.inj (V.int.inj z))) ?_
      have hlen : L.length < W.size := by
        rcases hres.fin with z | z
        · exact absurd z e
        · exact z.1
      exact ⟨_, rfl, q1 (hres.np_of (by omega) hlt hall hlen) sa s L H2 sm02 (sm1.free hsa0) hsa hres⟩
end
end My
namespace My
open PySem L2 L2H
/-! ### _law_ringed -/
theorem hot_suite {X : Cx} {a : Addr} {oe : Obj} {cls : Value} {d : Option Addr} {pn : List (Addr × Obj)} (hz : L2N.Zn cls d oe) (hf : ∃ vs, oe.data = .fields vs) : HotC (X.suite a ((a, oe) :: pn)) :=
  let ⟨vs, hd⟩ := hf
  ⟨(a, oe), ⟨rfl, vs, hd, hz.2.2 vs hd⟩, List.mem_cons_self⟩
theorem call_list_ofK {X : Cx} {K : PySem.W.Frag} (hK : X.K = K) : CallR X (.type "list") (fun xs H Q => ∃ p ys, xs = [.ref p] ∧ (SqL K H p ys ∨ SqT K H p ys) ∧ ∀ l, H l = none → Q (.ref l) (upd H l (.lst ys))) := hK ▸ call_list_of
theorem takesN0 {X : Cx} : L2N.Takes X (fun _ _ _ _ => False) := fun u s' h => by
  obtain ⟨a, B, sI, pins, σ, H, cls, d, e, I, nb, up, sky, na, os, ag, z⟩ := h
  exact z.elim
section
variable {P : Program} {w : World} {K : PySem.W.Frag} {mg : Str → Option Value} {base : Heap}
abbrev s_law_ringed : Stmt := top 69
abbrev N_law_ringed : List Str := ["log", "world", "lag", "rows", "bare", "e", "at"]
theorem sc_law_ringed : FnScope N_law_ringed ["log", "world", "lag"] (C8.fnScope s_law_ringed) := C8.fnScope_by (by decide +kernel)
theorem ok_law_ringed {C CN f : Addr} {fd : FuncData} (F : C8.Def K mg "_law_ringed" s_law_ringed f fd) (b : Binds K fd ["log", "world", "lag"] []) (T : Gb mg) (NC : NoC P w K mg base CN) (te : PySem.W.exmOne K (.ref CN) (.ref CN) = some true) (XF : XfC K CN) (hno : PySem.W.findIn K (.ref CN) "ring" = some none)
    (c__law_bounds : C8.Cal P w K mg base 1 "_law_bounds" (sp_law_bounds K) []) (m_with_late : C8.Met P w K mg base 4 C "with_late" (sp_with_late K C) []) (x_earliest : CalN P w K mg base 4 "earliest" (sp_earliest K C CN))
    (h__law_short : CalH P w K mg base 1 "_law_short" sp_law_short) (h__law_chain : CalH P w K mg base 1 "_law_chain" (sp_law_chain K)) (h_judge_chain : CalH P w K mg base 4 "judge_chain" (sp_judge_chain K C)) : C8.Cal P w K mg base 8 "_law_ringed" (sp_law_ringed K C) [] := by
  obtain ⟨fe, fde, pse, Fe, ge, ke, be⟩ := x_earliest.ex
  refine C8.cal0 F b .nil sc_law_ringed (fun vs H Q E h => ?_) (fun cdv A outer s H vs Q E hr h => ?_)
  · obtain ⟨p, wa, W, mo, lag, rfl, _⟩ := h
    rfl
  · obtain ⟨p, wa, W, mo, lag, rfl, hL, hW, hok, hlag, hnp, q⟩ := h
    refine ⟨_, (pss_cons (ps_set (i := 3) sc_law_ringed.nd rfl (Or.inl rfl) (C8.pe_c c__law_bounds hr (by decide) (by rfl) (pa_cons (pv 1) (pa_cons (pv 2) pa_nil))))
(pss_cons (ps_set (i := 4) sc_law_ringed.nd rfl (Or.inl rfl) (C8.pe_mt m_with_late hr (by decide) (pv 0) (pa_cons (pv 2) pa_nil)))
(pss_cons (L2N.ps_try_as (i := 5) (c := .ref CN) (tb := fun W => tDrop (tCallS (sp_earliest K C CN) (WE W) (tCons (tVar 4) tNil))) (Wout := fun _ _ _ _ => False) rfl rfl sc_law_ringed.nd rfl rfl ⟨by rfl, by decide, Or.inl NC.g⟩ takesN0
  (fun W pn xe tk _ => pss_one (ps_expr (by exact (pe_callS Fe (hr.mono (by decide)) (by rfl) ge ke be (fun σ => L2N.passAt tk σ) (by exact (pa_cons (pv 4) pa_nil))))))
  (fun a oe cls d pn hz hf => (pss_cons (ps_if (PW.pt (pw_or (pt_not (pt_val (pe_cH h__law_short (roomH_mark hr _) (hot_suite hz hf) (by decide) (by rfl) (pa_cons (pe_xf XF hno hz.zc hf (pv 5)) (pa_cons (pe_ix (ix_listK K rfl) (pv 1) pe_int (fun _ _ => rfl)) pa_nil))))) (pw_or (pt_cmpR op_eq (pe_callB (call_lenK K rfl) (by rfl) T.len PySem.boot_len (pa_cons (pe_xf XF hno hz.zc hf (pv 5)) pa_nil)) pe_int (nomark _)) (pw_or (pt_cmpR op_lt (pe_ix (ix_listK K rfl) (pe_xf XF hno hz.zc hf (pv 5)) pe_int (fun _ _ => rfl)) pe_int (nomark _)) (pw_or1 (pt_cmpR op_ge (pe_ix (ix_listK K rfl) (pe_xf XF hno hz.zc hf (pv 5)) pe_int (fun _ _ => rfl)) (pe_callB (call_lenK K rfl) (by rfl) T.len PySem.boot_len (pa_cons (pv 3) pa_nil)) (nomark _)))))))
(pss_one (ps_ret pe_bl))
pss_nil)
(pss_cons (ps_set (i := 6) sc_law_ringed.nd rfl (Or.inl rfl) (pe_ix (ix_tupK K rfl) (pe_ix (ix_listK K rfl) (pv 3) (pe_ix (ix_listK K rfl) (pe_xf XF hno hz.zc hf (pv 5)) pe_int (fun _ _ => rfl)) (fun _ _ => rfl)) pe_int (fun _ _ => rfl)))
(pss_one (ps_ret (pe_and (pe_cH h__law_chain (roomH_mark hr _) (hot_suite hz hf) (by decide) (by rfl) (pa_cons (pv 3) (pa_cons (pv 6) (pa_cons (pv 6) (pa_cons pe_int (pa_cons (pe_xf XF hno hz.zc hf (pv 5)) pa_nil)))))) (pe_one (pe_cmpR op_isBl (pe_cH h_judge_chain (roomH_mark hr _) (hot_suite hz hf) (by decide) (by rfl) (pa_cons (pv 4) (pa_cons (pv 6) (pa_cons (pv 6) (pa_cons pe_int (pa_cons (pe_callTy (T := "list") (call_list_ofK (K := K) rfl) (by rfl) T.list (by decide +kernel) (pa_cons (pe_xf XF hno hz.zc hf (pv 5)) pa_nil)) pa_nil)))))) pe_bl (nomark _))))))))))
(pss_one (ps_ret pe_bl))))), ?_⟩
    obtain ⟨ea, ma, es, hA, hE, hP, hM⟩ := id hW
    obtain ⟨dx, la, les, hp, hLe, hLp⟩ := hL.ex
    have okL : (W.at lag).Ok := hok.at hlag
    have hlt : RowsLt (rowsOf (W.at lag)) W.size := rowsOf_lt okL
    refine ⟨_, rfl, _, rfl, wa, W, mo, lag, rfl, hW, hok, fun l rs H1 sm1 hl0 hl hrs => ?_⟩
    have hrsl := hrs.length
    refine ⟨_, rfl, p, dx, _, rfl, sm1 _ _ hp, rfl, _, rfl, p, W, lag, rfl, hL.mono sm1, hok, hlag, fun p' H2 sm2 hL2 => ?_⟩
    refine ⟨_, rfl, p', W.at lag, rfl, hL2, okL, fun np => absurd np hnp, fun _ d lr r H3 sm3 hd0 hlr0 hlr hd hring => ⟨true, te, fun _ a ha => ?_, fun z => by cases z⟩⟩
    obtain ⟨hr1, hr2, x, w, hgo, hw⟩ := hring
    have hr2 : r.length ≤ W.size := hr2
    obtain ⟨k0, r', rfl⟩ : ∃ k0 r', r = k0 :: r' := by
      cases r with
      | nil => exact absurd rfl hr1
      | cons k0 r' => exact ⟨k0, r', rfl⟩
    obtain ⟨t0, l0, hk0⟩ : ∃ t0 l0, (rowsOf (W.at lag))[k0]? = some (x, t0, l0) := by
      unfold goC at hgo
      cases e : (rowsOf (W.at lag))[k0]? with
      | none => rw [e] at hgo; cases hgo
      | some q0 =>
        obtain ⟨s0, t0, l0⟩ := q0
        rw [e] at hgo
        by_cases z : s0 = x
        · exact ⟨t0, l0, by rw [z]⟩
        · simp only [z, if_false] at hgo
          cases hgo
    have hx : x < W.size := (hlt _ (List.mem_of_getElem? hk0)).1
    have hk0l : k0 < (rowsOf (W.at lag)).length := (List.getElem?_eq_some_iff.mp hk0).1
    obtain ⟨xr, hxr, xa, rfl, hxt⟩ := paired_at2 hrs hk0
    have sm23 := sm2.trans sm3
    have sm13 := sm1.trans sm23
    have hA3 := sm13.seq hA
    have hl3 := sm23 _ _ hl
    have hxt3 := Same.tup sm23 hxt
    have hsq : SqL K H3 lr (((k0 :: r').map nV)) := SqL.of hlr
    have h0 : atI ((k0 :: r').map nV) (0 : Int) = some (nV k0) := atI_nat (j := 0) rfl
    have hlen : ((k0 :: r').map nV).length = r'.length + 1 := by rw [List.length_map]; rfl
    refine ⟨_, rfl, rfl, rfl, d, _, _, rfl, hd, rfl, ?_⟩
    refine ⟨_, rfl, wa, _, 0, nV W.size, rfl, rfl, hA3, rfl, lr, k0 :: r', (W.size : Int), rfl, hlr, by omega, true, rfl, ?_⟩
    refine iteF ?_
    refine ⟨_, rfl, rfl, rfl, d, _, _, rfl, hd, rfl, ?_⟩
    refine ⟨lr, _, rfl, .inl hsq, rfl, _, rfl, ?_⟩
    refine ifF (by rw [hlen]; intro z; have := V.int.inj z; omega) ?_
    refine ⟨_, rfl, rfl, rfl, d, _, _, rfl, hd, rfl, ?_⟩
    refine ⟨lr, _, 0, nV k0, rfl, rfl, hsq, h0, _, _, rfl, rfl, _, rfl, ?_⟩
    refine ifF (by omega) ?_
    refine ⟨_, rfl, rfl, rfl, d, _, _, rfl, hd, rfl, ?_⟩
    refine ⟨lr, _, 0, nV k0, rfl, rfl, hsq, h0, _, rfl, l, rs, rfl, .inl (SqL.of hl3), _, _, rfl, rfl, _, rfl, ?_⟩
    refine ifF (by omega) ?_
    refine ⟨_, rfl, _, rfl, rfl, rfl, d, _, _, rfl, hd, rfl, lr, _, 0, nV k0, rfl, rfl, hsq, h0, l, _, _, .ref xa, rfl, rfl, SqL.of hl3, atI_nat hxr, xa, _, 0, nV x, rfl, rfl, hxt3, rfl, ?_⟩
    refine ⟨_, rfl, _, rfl, _, rfl, _, rfl, rfl, rfl, d, _, _, rfl, hd, rfl, l, lr, rowsOf (W.at lag), x, x, 1, w, k0 :: r', rfl, ⟨rs, SqL.of hl3, L2.Paired.mapP hrs fun _ _ h => h.mono sm23⟩, hsq, hgo, by omega, ?_⟩
    refine ⟨true, rfl, ?_⟩
    refine ⟨_, rfl, _, rfl, _, rfl, _, rfl, rfl, rfl, d, _, _, rfl, hd, rfl, lr, _, rfl, .inl hsq, fun lc hlc => ?_⟩
    have sm4 := same_new (o := .lst ((k0 :: r').map nV)) (Same.refl H3) hlc
    refine ⟨p', lc, W.at lag, x, x, x, 1, w, k0 :: r', rfl, hL2.mono (sm3.trans sm4), okL, hx, hx, SqL.of upd_same, hgo, fun H5 sm5 => ?_⟩
    rw [decide_eq_true (rfl : x = x), decide_eq_true (show (1 : Int) ≤ w by omega)]
    exact ⟨_, true, rfl, rfl, q H5 (sm13.trans (sm4.trans sm5))⟩
end
end My
namespace My
open PySem L2
theorem fun8 {K : PySem.W.Frag} {x qual : Str} {st : Stmt} {f : Addr} {oc : Value} {od an : Option Addr} {osl : Array (Option Value)} {dV kV doc pm cdv ct : Value} (l : K.lookup f = some ⟨oc, od, .func (PySem.W.fnOf x qual (C8.fnArgs st) (C8.fnBody st) (C8.fnScope st) dV kV doc pm an cdv ct), osl⟩)
    (c : PySem.W.codeIn K cdv qual = true) : C8.Fun K x qual st f (PySem.W.fnOf x qual (C8.fnArgs st) (C8.fnBody st) (C8.fnScope st) dV kV doc pm an cdv ct) := ⟨oc, od, dV, kV, doc, pm, an, cdv, ct, osl, rfl, l, c⟩
theorem init_binds {K : PySem.W.Frag} {f TD : Addr} {oc ocT : Value} {od an odT : Option Addr} {osl slT : Array (Option Value)} {kV doc pm cdv ct : Value} {nT : Nat} {d1 d2 d3 : Tok}
    (l : K.lookup f = some ⟨oc, od, .func (PySem.W.fnOf "__init__" "Log.__init__" (C8.fnArgs s_Log_init) (C8.fnBody s_Log_init) (C8.fnScope s_Log_init) (.ref TD) kV doc pm an cdv ct), osl⟩) (c : PySem.W.codeIn K cdv "Log.__init__" = true) (k : PySem.W.keepIn K (.ref f) = true)
    (lT : K.lookup TD = some ⟨ocT, odT, .seq #[.int 1 d1, .int 1 d2, .int 0 d3] nT, slT⟩) : Binds K (PySem.W.fnOf "__init__" "Log.__init__" (C8.fnArgs s_Log_init) (C8.fnBody s_Log_init) (C8.fnScope s_Log_init) (.ref TD) kV doc pm an cdv ct) ["self", "size", "entries", "fast", "slow", "late"] [] := by
  have F : FunD K "__init__" "Log.__init__" (C8.fnArgs s_Log_init) (C8.fnBody s_Log_init) (C8.fnScope s_Log_init) [V.int 1, V.int 1, V.int 0] [] f _ :=
    ⟨⟨oc, od, _, kV, doc, pm, an, cdv, ct, osl, rfl, l, c, .inr ⟨by simp, TD, _, [.int 1 d1, .int 1 d2, .int 0 d3], nT, rfl, lT, rfl, .cons ⟨_, rfl⟩ (.cons ⟨_, rfl⟩ (.cons ⟨_, rfl⟩ .nil))⟩, .inl rfl⟩, k⟩
  obtain ⟨ds, hv, hb⟩ := F.binds1 (ps := ["self", "size", "entries", "fast", "slow", "late"]) 6 3 (by simp) rfl fun T kV doc pm an cdv ct us its hl hl2 => match us, its, hl, hl2 with | [_, _, _, _, _, _], [_, _, _], _, _ => ⟨_, rfl, rfl⟩
  cases hv
  exact hb
theorem read_log_binds {K : PySem.W.Frag} {f D : Addr} {oc : Value} {od an : Option Addr} {osl : Array (Option Value)} {doc pm cdv ct : Value} {tf : Tok}
    (l : K.lookup f = some ⟨oc, od, .func (PySem.W.fnOf "read_log" "read_log" (C8.fnArgs s_read_log) (C8.fnBody s_read_log) (C8.fnScope s_read_log) .none (.ref D) doc pm an cdv ct), osl⟩) (c : PySem.W.codeIn K cdv "read_log" = true) (k : PySem.W.keepIn K (.ref f) = true)
    (hD : PySem.W.nsIn K D "first" = some (some (.int 1 tf))) : ∃ ds, Vals [V.int 1] ds ∧ Binds K (PySem.W.fnOf "read_log" "read_log" (C8.fnArgs s_read_log) (C8.fnBody s_read_log) (C8.fnScope s_read_log) .none (.ref D) doc pm an cdv ct) ["text", "first"] ds := by
  have F : FunD K "read_log" "read_log" (C8.fnArgs s_read_log) (C8.fnBody s_read_log) (C8.fnScope s_read_log) [] [("first", V.int 1)] f _ :=
    ⟨⟨oc, od, .none, .ref D, doc, pm, an, cdv, ct, osl, rfl, l, c, .inl ⟨rfl, rfl⟩, .inr ⟨D, rfl, fun q hq => by rw [List.mem_singleton.mp hq]; exact ⟨_, hD, _, rfl⟩⟩⟩, k⟩
  exact F.binds0 (ps := ["text", "first"]) 1 (by simp) rfl fun D doc pm an cdv ct us ks h1 h2 => match us, ks, h1, h2 with
    | [_], [_], _, _ => ⟨_, _, _, _, _, _, rfl, rfl, rfl⟩
theorem read_log_kbinds {K : PySem.W.Frag} {D : Addr} {an : Option Addr} {doc pm cdv ct : Value} : KBn K (PySem.W.fnOf "read_log" "read_log" (C8.fnArgs s_read_log) (C8.fnBody s_read_log) (C8.fnScope s_read_log) .none (.ref D) doc pm an cdv ct) ["text", "first"] 1 ["first"] (fun us ws => us ++ ws) (fun vs zs => vs ++ zs) :=
  ⟨fun s us ws _ h1 h2 => match us, ws, h1, h2 with | [_], [_], _, _ => .of_eq rfl, fun r1 r2 => r1.append r2⟩
abbrev s_Log_iter : Stmt := inClass (top 20) 3
theorem sc_Log_iter : FnScope ["self"] ["self"] (C8.fnScope s_Log_iter) := C8.fnScope_by (by decide +kernel)
abbrev s_NoCourse_init : Stmt := inClass (top 4) 0
theorem exm_own {K : PySem.W.Frag} {S : Addr} (h1 : PySem.W.subIn K (.ref S) (.type "BaseException") = some true) (h2 : PySem.W.isClsIn K S = true) (h3 : PySem.W.typeIn K (.ref S) = some (.type "type")) (h4 : PySem.W.subIn K (.ref S) (.ref S) = some true) : PySem.W.exmOne K (.ref S) (.ref S) = some true := by
  have g2 : (PySem.W.clsIn K S).isSome = true := h2
  show (if (PySem.W.subIn K (.ref S) (.type "BaseException") == some true) = true then (if ((PySem.W.clsIn K S).isSome && PySem.W.typeIn K (.ref S) == some (.type "type")) = true then PySem.W.subIn K (.ref S) (.ref S) else none) else none) = some true
  rw [h1, g2, h3, h4]
  rfl
theorem nc_binds {K : PySem.W.Frag} {an : Option Addr} {kV doc pm cdv ct : Value} {cc : Addr} : Binds K (PySem.W.ksFn "__init__" "NoCourse.__init__" (C8.fnArgs s_NoCourse_init) (C8.fnBody s_NoCourse_init) (C8.fnScope s_NoCourse_init) .none kV doc pm an cdv ct cc) ["self", "ring"] [] :=
  .all fun us hl => match us, hl with | [_, _], _ => rfl
theorem exi_of {P : Program} {K : PySem.W.Frag} {mg : Str → Option Value} {C f cda cc : Addr} {oc kV dc pm ct ccl cl : Value} {od an cdd cld : Option Addr} {sl ccs csl : Array (Option Value)} {vs : Array Value} {file : Str} {tf : Tok}
    (l : K.lookup f = some ⟨oc, od, .func (PySem.W.ksFn "__init__" "NoCourse.__init__" (C8.fnArgs s_NoCourse_init) (C8.fnBody s_NoCourse_init) (C8.fnScope s_NoCourse_init) .none kV dc pm an (.ref cda) ct cc), sl⟩) (c : PySem.W.codeIn K (.ref cda) "NoCourse.__init__" = true)
    (d : K.lookup cda = some ⟨ccl, cdd, .fields vs, ccs⟩) (hv : vs[2]? = some (.str file tf)) (hf : ((P.main.file : Str) == file) = true) (o : K.lookup cc = some ⟨cl, cld, .cell (some (.ref C)), csl⟩) (zs : mg ("super" : Str) = none) (ht : (P.main.scope.names.lookup ("super" : Str)).isSome = false)
    (hop : PySem.W.nsIn K cStatics "thirdparty.any" = some none) (hm : PySem.W.ks_superIn K C C "__init__" = some (some (.builtin "ValueError.__init__"))) (hB : PySem.W.subIn K (.ref C) (.type "ValueError") = some true) (hCC : PySem.W.mroIn K C (.ref C) = some true) :
    ExI P K mg C f (PySem.W.ksFn "__init__" "NoCourse.__init__" (C8.fnArgs s_NoCourse_init) (C8.fnBody s_NoCourse_init) (C8.fnScope s_NoCourse_init) .none kV dc pm an (.ref cda) ct cc) "ring" "ring" :=
  { ex := ⟨"NoCourse.__init__", C8.fnArgs s_NoCourse_init, C8.fnScope s_NoCourse_init, _, _, _, _, _, _, _, _, _, _, _, _, .none, kV, dc, pm, ct, oc, an, od, sl, cda, cc, _, vs, file, tf, ccl, cl, cdd, cld, ccs, csl, rfl, l, c, rfl, rfl, rfl, by decide +kernel, by decide +kernel, by decide +kernel, by decide +kernel, by decide +kernel, by decide +kernel, rfl, rfl, d, hv, hf, o, ⟨_, fun _ => rfl⟩, fun _ => rfl, fun _ => rfl, fun _ => rfl⟩,
    ne := by decide, nd := by decide, nc := by decide, hsuper := zs, htop := ht, hop := hop, hm := hm, hB := hB, hCC := hCC }
theorem all_mk {l : PySem.W.OpenLaw} {w : World} {K : PySem.W.Frag} {h : Heap} {mg : Str → Option Value} {fa C f0 f1 f2 f3 f4 f5 f6 f7 f8 f9 f10 f11 f12 f13 f14 f15 f16 f17 f18 f19 f20 f21 f22 f23 f24 f25 f26 f27 f28 kD f29 f30 f31 f32 f33 f34 f35 f36 f37 f38 f39 f40 f41 f42 f43 f44 f45 f46 f47 f48 f49 f50 f51 f52 f53 f54 fmchecked fmwith_late fmeq fmiter fmI TD CN CNs fN cda cc : Addr} (X : K.In h) (G : h.Ns mainGlobals mg) (hfa : mg "law" = some (.ref fa))
    {od0 an0 od1 an1 od2 an2 od3 an3 od4 an4 od5 an5 od6 an6 od7 an7 od8 an8 od9 an9 od10 an10 od11 an11 od12 an12 od13 an13 od14 an14 od15 an15 od16 an16 od17 an17 od18 an18 od19 an19 od20 an20 od21 an21 od22 an22 od23 an23 od24 an24 od25 an25 od26 an26 od27 an27 od28 an28 od29 an29 od30 an30 od31 an31 od32 an32 od33 an33 od34 an34 od35 an35 od36 an36 od37 an37 od38 an38 od39 an39 od40 an40 od41 an41 od42 an42 od43 an43 od44 an44 od45 an45 od46 an46 od47 an47 od48 an48 od49 an49 od50 an50 od51 an51 od52 an52 od53 an53 od54 an54 odmchecked anmchecked odmwith_late anmwith_late odmeq anmeq odmiter anmiter odmI anmI odT odN anN cdd cld dd : Option Addr} {sl0 sl1 sl2 sl3 sl4 sl5 sl6 sl7 sl8 sl9 sl10 sl11 sl12 sl13 sl14 sl15 sl16 sl17 sl18 sl19 sl20 sl21 sl22 sl23 sl24 sl25 sl26 sl27 sl28 sl29 sl30 sl31 sl32 sl33 sl34 sl35 sl36 sl37 sl38 sl39 sl40 sl41 sl42 sl43 sl44 sl45 sl46 sl47 sl48 sl49 sl50 sl51 sl52 sl53 sl54 slmchecked slmwith_late slmeq slmiter slmI slT slN ccs csl : Array (Option Value)} {nT : Nat} {cvs : Array Value} {nm qn file : Str} {bs bm : List Value} {sn : List Str} {sub : List Value} {ab : Bool} {col : Option Bool} {m0 m1 m2 m3 m5 : Option Value}
    {oc0 dc0 pm0 cd0 ct0 kV0 oc1 dc1 pm1 cd1 ct1 kV1 oc2 dc2 pm2 cd2 ct2 kV2 oc3 dc3 pm3 cd3 ct3 kV3 oc4 dc4 pm4 cd4 ct4 kV4 oc5 dc5 pm5 cd5 ct5 kV5 oc6 dc6 pm6 cd6 ct6 kV6 oc7 dc7 pm7 cd7 ct7 kV7 oc8 dc8 pm8 cd8 ct8 kV8 oc9 dc9 pm9 cd9 ct9 kV9 oc10 dc10 pm10 cd10 ct10 kV10 oc11 dc11 pm11 cd11 ct11 kV11 oc12 dc12 pm12 cd12 ct12 kV12 oc13 dc13 pm13 cd13 ct13 kV13 oc14 dc14 pm14 cd14 ct14 kV14 oc15 dc15 pm15 cd15 ct15 kV15 oc16 dc16 pm16 cd16 ct16 kV16 oc17 dc17 pm17 cd17 ct17 kV17 oc18 dc18 pm18 cd18 ct18 kV18 oc19 dc19 pm19 cd19 ct19 kV19 oc20 dc20 pm20 cd20 ct20 kV20 oc21 dc21 pm21 cd21 ct21 kV21 oc22 dc22 pm22 cd22 ct22 kV22 oc23 dc23 pm23 cd23 ct23 kV23 oc24 dc24 pm24 cd24 ct24 kV24 oc25 dc25 pm25 cd25 ct25 kV25 oc26 dc26 pm26 cd26 ct26 kV26 oc27 dc27 pm27 cd27 ct27 kV27 oc28 dc28 pm28 cd28 ct28 oc29 dc29 pm29 cd29 ct29 kV29 oc30 dc30 pm30 cd30 ct30 kV30 oc31 dc31 pm31 cd31 ct31 kV31 oc32 dc32 pm32 cd32 ct32 kV32 oc33 dc33 pm33 cd33 ct33 kV33 oc34 dc34 pm34 cd34 ct34 kV34 oc35 dc35 pm35 cd35 ct35 kV35 oc36 dc36 pm36 cd36 ct36 kV36 oc37 dc37 pm37 cd37 ct37 kV37 oc38 dc38 pm38 cd38 ct38 kV38 oc39 dc39 pm39 cd39 ct39 kV39 oc40 dc40 pm40 cd40 ct40 kV40 oc41 dc41 pm41 cd41 ct41 kV41 oc42 dc42 pm42 cd42 ct42 kV42 oc43 dc43 pm43 cd43 ct43 kV43 oc44 dc44 pm44 cd44 ct44 kV44 oc45 dc45 pm45 cd45 ct45 kV45 oc46 dc46 pm46 cd46 ct46 kV46 oc47 dc47 pm47 cd47 ct47 kV47 oc48 dc48 pm48 cd48 ct48 kV48 oc49 dc49 pm49 cd49 ct49 kV49 oc50 dc50 pm50 cd50 ct50 kV50 oc51 dc51 pm51 cd51 ct51 kV51 oc52 dc52 pm52 cd52 ct52 kV52 oc53 dc53 pm53 cd53 ct53 kV53 oc54 dc54 pm54 cd54 ct54 kV54 ocmchecked dcmchecked pmmchecked cdmchecked ctmchecked kVmchecked ocmwith_late dcmwith_late pmmwith_late cdmwith_late ctmwith_late kVmwith_late ocmeq dcmeq pmmeq cdmeq ctmeq kVmeq ocmiter dcmiter pmmiter cdmiter ctmiter kVmiter ocmI dcmI pmmI cdmI ctmI kVmI ocT ocN kVN dcN pmN ctN ccl cl0 : Value} {tf d1 d2 d3 t_MOST t_MOST_EVENTS t_MOST_ENTRIES t_MOST_RATE t_MOST_LATE tfi : Tok}
    (aC : PySem.W.nsIn K mainGlobals "Log" = some (some (.ref C)))
    (a0 : PySem.W.nsIn K mainGlobals "number_in" = some (some (.ref f0)))
    (l0 : K.lookup f0 = some ⟨oc0, od0, .func (PySem.W.fnOf "number_in" "number_in" (C8.fnArgs s_number_in) (C8.fnBody s_number_in) (C8.fnScope s_number_in) .none kV0 dc0 pm0 an0 cd0 ct0), sl0⟩)
    (c0 : PySem.W.codeIn K cd0 "number_in" = true)
    (k0 : PySem.W.keepIn K (.ref f0) = true)
    (a1 : PySem.W.nsIn K mainGlobals "line_at" = some (some (.ref f1)))
    (l1 : K.lookup f1 = some ⟨oc1, od1, .func (PySem.W.fnOf "line_at" "line_at" (C8.fnArgs s_line_at) (C8.fnBody s_line_at) (C8.fnScope s_line_at) .none kV1 dc1 pm1 an1 cd1 ct1), sl1⟩)
    (c1 : PySem.W.codeIn K cd1 "line_at" = true)
    (k1 : PySem.W.keepIn K (.ref f1) = true)
    (a2 : PySem.W.nsIn K mainGlobals "check_end" = some (some (.ref f2)))
    (l2 : K.lookup f2 = some ⟨oc2, od2, .func (PySem.W.fnOf "check_end" "check_end" (C8.fnArgs s_check_end) (C8.fnBody s_check_end) (C8.fnScope s_check_end) .none kV2 dc2 pm2 an2 cd2 ct2), sl2⟩)
    (c2 : PySem.W.codeIn K cd2 "check_end" = true)
    (k2 : PySem.W.keepIn K (.ref f2) = true)
    (a3 : PySem.W.nsIn K mainGlobals "entry_fits" = some (some (.ref f3)))
    (l3 : K.lookup f3 = some ⟨oc3, od3, .func (PySem.W.fnOf "entry_fits" "entry_fits" (C8.fnArgs s_entry_fits) (C8.fnBody s_entry_fits) (C8.fnScope s_entry_fits) .none kV3 dc3 pm3 an3 cd3 ct3), sl3⟩)
    (c3 : PySem.W.codeIn K cd3 "entry_fits" = true)
    (k3 : PySem.W.keepIn K (.ref f3) = true)
    (a4 : PySem.W.nsIn K mainGlobals "round_up" = some (some (.ref f4)))
    (l4 : K.lookup f4 = some ⟨oc4, od4, .func (PySem.W.fnOf "round_up" "round_up" (C8.fnArgs s_round_up) (C8.fnBody s_round_up) (C8.fnScope s_round_up) .none kV4 dc4 pm4 an4 cd4 ct4), sl4⟩)
    (c4 : PySem.W.codeIn K cd4 "round_up" = true)
    (k4 : PySem.W.keepIn K (.ref f4) = true)
    (a5 : PySem.W.nsIn K mainGlobals "round_down" = some (some (.ref f5)))
    (l5 : K.lookup f5 = some ⟨oc5, od5, .func (PySem.W.fnOf "round_down" "round_down" (C8.fnArgs s_round_down) (C8.fnBody s_round_down) (C8.fnScope s_round_down) .none kV5 dc5 pm5 an5 cd5 ct5), sl5⟩)
    (c5 : PySem.W.codeIn K cd5 "round_down" = true)
    (k5 : PySem.W.keepIn K (.ref f5) = true)
    (a6 : PySem.W.nsIn K mainGlobals "entry_bounds" = some (some (.ref f6)))
    (l6 : K.lookup f6 = some ⟨oc6, od6, .func (PySem.W.fnOf "entry_bounds" "entry_bounds" (C8.fnArgs s_entry_bounds) (C8.fnBody s_entry_bounds) (C8.fnScope s_entry_bounds) .none kV6 dc6 pm6 an6 cd6 ct6), sl6⟩)
    (c6 : PySem.W.codeIn K cd6 "entry_bounds" = true)
    (k6 : PySem.W.keepIn K (.ref f6) = true)
    (a7 : PySem.W.nsIn K mainGlobals "bounds" = some (some (.ref f7)))
    (l7 : K.lookup f7 = some ⟨oc7, od7, .func (PySem.W.fnOf "bounds" "bounds" (C8.fnArgs s_bounds) (C8.fnBody s_bounds) (C8.fnScope s_bounds) .none kV7 dc7 pm7 an7 cd7 ct7), sl7⟩)
    (c7 : PySem.W.codeIn K cd7 "bounds" = true)
    (k7 : PySem.W.keepIn K (.ref f7) = true)
    (a8 : PySem.W.nsIn K mainGlobals "longer_chains" = some (some (.ref f8)))
    (l8 : K.lookup f8 = some ⟨oc8, od8, .func (PySem.W.fnOf "longer_chains" "longer_chains" (C8.fnArgs s_longer_chains) (C8.fnBody s_longer_chains) (C8.fnScope s_longer_chains) .none kV8 dc8 pm8 an8 cd8 ct8), sl8⟩)
    (c8 : PySem.W.codeIn K cd8 "longer_chains" = true)
    (k8 : PySem.W.keepIn K (.ref f8) = true)
    (a9 : PySem.W.nsIn K mainGlobals "longest" = some (some (.ref f9)))
    (l9 : K.lookup f9 = some ⟨oc9, od9, .func (PySem.W.fnOf "longest" "longest" (C8.fnArgs s_longest) (C8.fnBody s_longest) (C8.fnScope s_longest) .none kV9 dc9 pm9 an9 cd9 ct9), sl9⟩)
    (c9 : PySem.W.codeIn K cd9 "longest" = true)
    (k9 : PySem.W.keepIn K (.ref f9) = true)
    (a10 : PySem.W.nsIn K mainGlobals "chain_to" = some (some (.ref f10)))
    (l10 : K.lookup f10 = some ⟨oc10, od10, .func (PySem.W.fnOf "chain_to" "chain_to" (C8.fnArgs s_chain_to) (C8.fnBody s_chain_to) (C8.fnScope s_chain_to) .none kV10 dc10 pm10 an10 cd10 ct10), sl10⟩)
    (c10 : PySem.W.codeIn K cd10 "chain_to" = true)
    (k10 : PySem.W.keepIn K (.ref f10) = true)
    (a11 : PySem.W.nsIn K mainGlobals "ring_within" = some (some (.ref f11)))
    (l11 : K.lookup f11 = some ⟨oc11, od11, .func (PySem.W.fnOf "ring_within" "ring_within" (C8.fnArgs s_ring_within) (C8.fnBody s_ring_within) (C8.fnScope s_ring_within) .none kV11 dc11 pm11 an11 cd11 ct11), sl11⟩)
    (c11 : PySem.W.codeIn K cd11 "ring_within" = true)
    (k11 : PySem.W.keepIn K (.ref f11) = true)
    (a12 : PySem.W.nsIn K mainGlobals "ring_above" = some (some (.ref f12)))
    (l12 : K.lookup f12 = some ⟨oc12, od12, .func (PySem.W.fnOf "ring_above" "ring_above" (C8.fnArgs s_ring_above) (C8.fnBody s_ring_above) (C8.fnScope s_ring_above) .none kV12 dc12 pm12 an12 cd12 ct12), sl12⟩)
    (c12 : PySem.W.codeIn K cd12 "ring_above" = true)
    (k12 : PySem.W.keepIn K (.ref f12) = true)
    (a13 : PySem.W.nsIn K mainGlobals "earliest" = some (some (.ref f13)))
    (l13 : K.lookup f13 = some ⟨oc13, od13, .func (PySem.W.fnOf "earliest" "earliest" (C8.fnArgs s_earliest) (C8.fnBody s_earliest) (C8.fnScope s_earliest) .none kV13 dc13 pm13 an13 cd13 ct13), sl13⟩)
    (c13 : PySem.W.codeIn K cd13 "earliest" = true)
    (k13 : PySem.W.keepIn K (.ref f13) = true)
    (a14 : PySem.W.nsIn K mainGlobals "check_question" = some (some (.ref f14)))
    (l14 : K.lookup f14 = some ⟨oc14, od14, .func (PySem.W.fnOf "check_question" "check_question" (C8.fnArgs s_check_question) (C8.fnBody s_check_question) (C8.fnScope s_check_question) .none kV14 dc14 pm14 an14 cd14 ct14), sl14⟩)
    (c14 : PySem.W.codeIn K cd14 "check_question" = true)
    (k14 : PySem.W.keepIn K (.ref f14) = true)
    (a15 : PySem.W.nsIn K mainGlobals "gap" = some (some (.ref f15)))
    (l15 : K.lookup f15 = some ⟨oc15, od15, .func (PySem.W.fnOf "gap" "gap" (C8.fnArgs s_gap) (C8.fnBody s_gap) (C8.fnScope s_gap) .none kV15 dc15 pm15 an15 cd15 ct15), sl15⟩)
    (c15 : PySem.W.codeIn K cd15 "gap" = true)
    (k15 : PySem.W.keepIn K (.ref f15) = true)
    (a16 : PySem.W.nsIn K mainGlobals "course_with" = some (some (.ref f16)))
    (l16 : K.lookup f16 = some ⟨oc16, od16, .func (PySem.W.fnOf "course_with" "course_with" (C8.fnArgs s_course_with) (C8.fnBody s_course_with) (C8.fnScope s_course_with) .none kV16 dc16 pm16 an16 cd16 ct16), sl16⟩)
    (c16 : PySem.W.codeIn K cd16 "course_with" = true)
    (k16 : PySem.W.keepIn K (.ref f16) = true)
    (a17 : PySem.W.nsIn K mainGlobals "ahead" = some (some (.ref f17)))
    (l17 : K.lookup f17 = some ⟨oc17, od17, .func (PySem.W.fnOf "ahead" "ahead" (C8.fnArgs s_ahead) (C8.fnBody s_ahead) (C8.fnScope s_ahead) .none kV17 dc17 pm17 an17 cd17 ct17), sl17⟩)
    (c17 : PySem.W.codeIn K cd17 "ahead" = true)
    (k17 : PySem.W.keepIn K (.ref f17) = true)
    (a18 : PySem.W.nsIn K mainGlobals "judge_chain" = some (some (.ref f18)))
    (l18 : K.lookup f18 = some ⟨oc18, od18, .func (PySem.W.fnOf "judge_chain" "judge_chain" (C8.fnArgs s_judge_chain) (C8.fnBody s_judge_chain) (C8.fnScope s_judge_chain) .none kV18 dc18 pm18 an18 cd18 ct18), sl18⟩)
    (c18 : PySem.W.codeIn K cd18 "judge_chain" = true)
    (k18 : PySem.W.keepIn K (.ref f18) = true)
    (a19 : PySem.W.nsIn K mainGlobals "fits" = some (some (.ref f19)))
    (l19 : K.lookup f19 = some ⟨oc19, od19, .func (PySem.W.fnOf "fits" "fits" (C8.fnArgs s_fits) (C8.fnBody s_fits) (C8.fnScope s_fits) .none kV19 dc19 pm19 an19 cd19 ct19), sl19⟩)
    (c19 : PySem.W.codeIn K cd19 "fits" = true)
    (k19 : PySem.W.keepIn K (.ref f19) = true)
    (a20 : PySem.W.nsIn K mainGlobals "has_course" = some (some (.ref f20)))
    (l20 : K.lookup f20 = some ⟨oc20, od20, .func (PySem.W.fnOf "has_course" "has_course" (C8.fnArgs s_has_course) (C8.fnBody s_has_course) (C8.fnScope s_has_course) .none kV20 dc20 pm20 an20 cd20 ct20), sl20⟩)
    (c20 : PySem.W.codeIn K cd20 "has_course" = true)
    (k20 : PySem.W.keepIn K (.ref f20) = true)
    (a21 : PySem.W.nsIn K mainGlobals "in_doubt" = some (some (.ref f21)))
    (l21 : K.lookup f21 = some ⟨oc21, od21, .func (PySem.W.fnOf "in_doubt" "in_doubt" (C8.fnArgs s_in_doubt) (C8.fnBody s_in_doubt) (C8.fnScope s_in_doubt) .none kV21 dc21 pm21 an21 cd21 ct21), sl21⟩)
    (c21 : PySem.W.codeIn K cd21 "in_doubt" = true)
    (k21 : PySem.W.keepIn K (.ref f21) = true)
    (a22 : PySem.W.nsIn K mainGlobals "least_late" = some (some (.ref f22)))
    (l22 : K.lookup f22 = some ⟨oc22, od22, .func (PySem.W.fnOf "least_late" "least_late" (C8.fnArgs s_least_late) (C8.fnBody s_least_late) (C8.fnScope s_least_late) .none kV22 dc22 pm22 an22 cd22 ct22), sl22⟩)
    (c22 : PySem.W.codeIn K cd22 "least_late" = true)
    (k22 : PySem.W.keepIn K (.ref f22) = true)
    (a23 : PySem.W.nsIn K mainGlobals "trust" = some (some (.ref f23)))
    (l23 : K.lookup f23 = some ⟨oc23, od23, .func (PySem.W.fnOf "trust" "trust" (C8.fnArgs s_trust) (C8.fnBody s_trust) (C8.fnScope s_trust) .none kV23 dc23 pm23 an23 cd23 ct23), sl23⟩)
    (c23 : PySem.W.codeIn K cd23 "trust" = true)
    (k23 : PySem.W.keepIn K (.ref f23) = true)
    (a24 : PySem.W.nsIn K mainGlobals "rates_in" = some (some (.ref f24)))
    (l24 : K.lookup f24 = some ⟨oc24, od24, .func (PySem.W.fnOf "rates_in" "rates_in" (C8.fnArgs s_rates_in) (C8.fnBody s_rates_in) (C8.fnScope s_rates_in) .none kV24 dc24 pm24 an24 cd24 ct24), sl24⟩)
    (c24 : PySem.W.codeIn K cd24 "rates_in" = true)
    (k24 : PySem.W.keepIn K (.ref f24) = true)
    (a25 : PySem.W.nsIn K mainGlobals "late_in" = some (some (.ref f25)))
    (l25 : K.lookup f25 = some ⟨oc25, od25, .func (PySem.W.fnOf "late_in" "late_in" (C8.fnArgs s_late_in) (C8.fnBody s_late_in) (C8.fnScope s_late_in) .none kV25 dc25 pm25 an25 cd25 ct25), sl25⟩)
    (c25 : PySem.W.codeIn K cd25 "late_in" = true)
    (k25 : PySem.W.keepIn K (.ref f25) = true)
    (a26 : PySem.W.nsIn K mainGlobals "head_in" = some (some (.ref f26)))
    (l26 : K.lookup f26 = some ⟨oc26, od26, .func (PySem.W.fnOf "head_in" "head_in" (C8.fnArgs s_head_in) (C8.fnBody s_head_in) (C8.fnScope s_head_in) .none kV26 dc26 pm26 an26 cd26 ct26), sl26⟩)
    (c26 : PySem.W.codeIn K cd26 "head_in" = true)
    (k26 : PySem.W.keepIn K (.ref f26) = true)
    (a27 : PySem.W.nsIn K mainGlobals "entry_in" = some (some (.ref f27)))
    (l27 : K.lookup f27 = some ⟨oc27, od27, .func (PySem.W.fnOf "entry_in" "entry_in" (C8.fnArgs s_entry_in) (C8.fnBody s_entry_in) (C8.fnScope s_entry_in) .none kV27 dc27 pm27 an27 cd27 ct27), sl27⟩)
    (c27 : PySem.W.codeIn K cd27 "entry_in" = true)
    (k27 : PySem.W.keepIn K (.ref f27) = true)
    (a28 : PySem.W.nsIn K mainGlobals "read_log" = some (some (.ref f28)))
    (l28 : K.lookup f28 = some ⟨oc28, od28, .func (PySem.W.fnOf "read_log" "read_log" (C8.fnArgs s_read_log) (C8.fnBody s_read_log) (C8.fnScope s_read_log) .none (.ref kD) dc28 pm28 an28 cd28 ct28), sl28⟩)
    (c28 : PySem.W.codeIn K cd28 "read_log" = true)
    (k28 : PySem.W.keepIn K (.ref f28) = true)
    (nD : PySem.W.nsIn K kD "first" = some (some (.int 1 tf)))
    (a29 : PySem.W.nsIn K mainGlobals "log_lines" = some (some (.ref f29)))
    (l29 : K.lookup f29 = some ⟨oc29, od29, .func (PySem.W.fnOf "log_lines" "log_lines" (C8.fnArgs s_log_lines) (C8.fnBody s_log_lines) (C8.fnScope s_log_lines) .none kV29 dc29 pm29 an29 cd29 ct29), sl29⟩)
    (c29 : PySem.W.codeIn K cd29 "log_lines" = true)
    (k29 : PySem.W.keepIn K (.ref f29) = true)
    (a30 : PySem.W.nsIn K mainGlobals "show_log" = some (some (.ref f30)))
    (l30 : K.lookup f30 = some ⟨oc30, od30, .func (PySem.W.fnOf "show_log" "show_log" (C8.fnArgs s_show_log) (C8.fnBody s_show_log) (C8.fnScope s_show_log) .none kV30 dc30 pm30 an30 cd30 ct30), sl30⟩)
    (c30 : PySem.W.codeIn K cd30 "show_log" = true)
    (k30 : PySem.W.keepIn K (.ref f30) = true)
    (a31 : PySem.W.nsIn K mainGlobals "_law_cell" = some (some (.ref f31)))
    (l31 : K.lookup f31 = some ⟨oc31, od31, .func (PySem.W.fnOf "_law_cell" "_law_cell" (C8.fnArgs s_law_cell) (C8.fnBody s_law_cell) (C8.fnScope s_law_cell) .none kV31 dc31 pm31 an31 cd31 ct31), sl31⟩)
    (c31 : PySem.W.codeIn K cd31 "_law_cell" = true)
    (k31 : PySem.W.keepIn K (.ref f31) = true)
    (a32 : PySem.W.nsIn K mainGlobals "_law_numbers" = some (some (.ref f32)))
    (l32 : K.lookup f32 = some ⟨oc32, od32, .func (PySem.W.fnOf "_law_numbers" "_law_numbers" (C8.fnArgs s_law_numbers) (C8.fnBody s_law_numbers) (C8.fnScope s_law_numbers) .none kV32 dc32 pm32 an32 cd32 ct32), sl32⟩)
    (c32 : PySem.W.codeIn K cd32 "_law_numbers" = true)
    (k32 : PySem.W.keepIn K (.ref f32) = true)
    (a33 : PySem.W.nsIn K mainGlobals "_law_is" = some (some (.ref f33)))
    (l33 : K.lookup f33 = some ⟨oc33, od33, .func (PySem.W.fnOf "_law_is" "_law_is" (C8.fnArgs s_law_is) (C8.fnBody s_law_is) (C8.fnScope s_law_is) .none kV33 dc33 pm33 an33 cd33 ct33), sl33⟩)
    (c33 : PySem.W.codeIn K cd33 "_law_is" = true)
    (k33 : PySem.W.keepIn K (.ref f33) = true)
    (a34 : PySem.W.nsIn K mainGlobals "_law_list" = some (some (.ref f34)))
    (l34 : K.lookup f34 = some ⟨oc34, od34, .func (PySem.W.fnOf "_law_list" "_law_list" (C8.fnArgs s_law_list) (C8.fnBody s_law_list) (C8.fnScope s_law_list) .none kV34 dc34 pm34 an34 cd34 ct34), sl34⟩)
    (c34 : PySem.W.codeIn K cd34 "_law_list" = true)
    (k34 : PySem.W.keepIn K (.ref f34) = true)
    (a35 : PySem.W.nsIn K mainGlobals "_law_short" = some (some (.ref f35)))
    (l35 : K.lookup f35 = some ⟨oc35, od35, .func (PySem.W.fnOf "_law_short" "_law_short" (C8.fnArgs s_law_short) (C8.fnBody s_law_short) (C8.fnScope s_law_short) .none kV35 dc35 pm35 an35 cd35 ct35), sl35⟩)
    (c35 : PySem.W.codeIn K cd35 "_law_short" = true)
    (k35 : PySem.W.keepIn K (.ref f35) = true)
    (a36 : PySem.W.nsIn K mainGlobals "_law_chain" = some (some (.ref f36)))
    (l36 : K.lookup f36 = some ⟨oc36, od36, .func (PySem.W.fnOf "_law_chain" "_law_chain" (C8.fnArgs s_law_chain) (C8.fnBody s_law_chain) (C8.fnScope s_law_chain) .none kV36 dc36 pm36 an36 cd36 ct36), sl36⟩)
    (c36 : PySem.W.codeIn K cd36 "_law_chain" = true)
    (k36 : PySem.W.keepIn K (.ref f36) = true)
    (a37 : PySem.W.nsIn K mainGlobals "_law_possible" = some (some (.ref f37)))
    (l37 : K.lookup f37 = some ⟨oc37, od37, .func (PySem.W.fnOf "_law_possible" "_law_possible" (C8.fnArgs s_law_possible) (C8.fnBody s_law_possible) (C8.fnScope s_law_possible) .none kV37 dc37 pm37 an37 cd37 ct37), sl37⟩)
    (c37 : PySem.W.codeIn K cd37 "_law_possible" = true)
    (k37 : PySem.W.keepIn K (.ref f37) = true)
    (a38 : PySem.W.nsIn K mainGlobals "_law_with" = some (some (.ref f38)))
    (l38 : K.lookup f38 = some ⟨oc38, od38, .func (PySem.W.fnOf "_law_with" "_law_with" (C8.fnArgs s_law_with) (C8.fnBody s_law_with) (C8.fnScope s_law_with) .none kV38 dc38 pm38 an38 cd38 ct38), sl38⟩)
    (c38 : PySem.W.codeIn K cd38 "_law_with" = true)
    (k38 : PySem.W.keepIn K (.ref f38) = true)
    (a39 : PySem.W.nsIn K mainGlobals "_law_bounds" = some (some (.ref f39)))
    (l39 : K.lookup f39 = some ⟨oc39, od39, .func (PySem.W.fnOf "_law_bounds" "_law_bounds" (C8.fnArgs s_law_bounds) (C8.fnBody s_law_bounds) (C8.fnScope s_law_bounds) .none kV39 dc39 pm39 an39 cd39 ct39), sl39⟩)
    (c39 : PySem.W.codeIn K cd39 "_law_bounds" = true)
    (k39 : PySem.W.keepIn K (.ref f39) = true)
    (a40 : PySem.W.nsIn K mainGlobals "_law_keeps" = some (some (.ref f40)))
    (l40 : K.lookup f40 = some ⟨oc40, od40, .func (PySem.W.fnOf "_law_keeps" "_law_keeps" (C8.fnArgs s_law_keeps) (C8.fnBody s_law_keeps) (C8.fnScope s_law_keeps) .none kV40 dc40 pm40 an40 cd40 ct40), sl40⟩)
    (c40 : PySem.W.codeIn K cd40 "_law_keeps" = true)
    (k40 : PySem.W.keepIn K (.ref f40) = true)
    (a41 : PySem.W.nsIn K mainGlobals "_law_far" = some (some (.ref f41)))
    (l41 : K.lookup f41 = some ⟨oc41, od41, .func (PySem.W.fnOf "_law_far" "_law_far" (C8.fnArgs s_law_far) (C8.fnBody s_law_far) (C8.fnScope s_law_far) .none kV41 dc41 pm41 an41 cd41 ct41), sl41⟩)
    (c41 : PySem.W.codeIn K cd41 "_law_far" = true)
    (k41 : PySem.W.keepIn K (.ref f41) = true)
    (a42 : PySem.W.nsIn K mainGlobals "_law_sure" = some (some (.ref f42)))
    (l42 : K.lookup f42 = some ⟨oc42, od42, .func (PySem.W.fnOf "_law_sure" "_law_sure" (C8.fnArgs s_law_sure) (C8.fnBody s_law_sure) (C8.fnScope s_law_sure) .none kV42 dc42 pm42 an42 cd42 ct42), sl42⟩)
    (c42 : PySem.W.codeIn K cd42 "_law_sure" = true)
    (k42 : PySem.W.keepIn K (.ref f42) = true)
    (a43 : PySem.W.nsIn K mainGlobals "_law_verdict" = some (some (.ref f43)))
    (l43 : K.lookup f43 = some ⟨oc43, od43, .func (PySem.W.fnOf "_law_verdict" "_law_verdict" (C8.fnArgs s_law_verdict) (C8.fnBody s_law_verdict) (C8.fnScope s_law_verdict) .none kV43 dc43 pm43 an43 cd43 ct43), sl43⟩)
    (c43 : PySem.W.codeIn K cd43 "_law_verdict" = true)
    (k43 : PySem.W.keepIn K (.ref f43) = true)
    (a44 : PySem.W.nsIn K mainGlobals "_law_pair" = some (some (.ref f44)))
    (l44 : K.lookup f44 = some ⟨oc44, od44, .func (PySem.W.fnOf "_law_pair" "_law_pair" (C8.fnArgs s_law_pair) (C8.fnBody s_law_pair) (C8.fnScope s_law_pair) .none kV44 dc44 pm44 an44 cd44 ct44), sl44⟩)
    (c44 : PySem.W.codeIn K cd44 "_law_pair" = true)
    (k44 : PySem.W.keepIn K (.ref f44) = true)
    (a45 : PySem.W.nsIn K mainGlobals "_law_log_text" = some (some (.ref f45)))
    (l45 : K.lookup f45 = some ⟨oc45, od45, .func (PySem.W.fnOf "_law_log_text" "_law_log_text" (C8.fnArgs s_law_log_text) (C8.fnBody s_law_log_text) (C8.fnScope s_law_log_text) .none kV45 dc45 pm45 an45 cd45 ct45), sl45⟩)
    (c45 : PySem.W.codeIn K cd45 "_law_log_text" = true)
    (k45 : PySem.W.keepIn K (.ref f45) = true)
    (a46 : PySem.W.nsIn K mainGlobals "_law_same" = some (some (.ref f46)))
    (l46 : K.lookup f46 = some ⟨oc46, od46, .func (PySem.W.fnOf "_law_same" "_law_same" (C8.fnArgs s_law_same) (C8.fnBody s_law_same) (C8.fnScope s_law_same) .none kV46 dc46 pm46 an46 cd46 ct46), sl46⟩)
    (c46 : PySem.W.codeIn K cd46 "_law_same" = true)
    (k46 : PySem.W.keepIn K (.ref f46) = true)
    (a47 : PySem.W.nsIn K mainGlobals "_law_words" = some (some (.ref f47)))
    (l47 : K.lookup f47 = some ⟨oc47, od47, .func (PySem.W.fnOf "_law_words" "_law_words" (C8.fnArgs s_law_words) (C8.fnBody s_law_words) (C8.fnScope s_law_words) .none kV47 dc47 pm47 an47 cd47 ct47), sl47⟩)
    (c47 : PySem.W.codeIn K cd47 "_law_words" = true)
    (k47 : PySem.W.keepIn K (.ref f47) = true)
    (a48 : PySem.W.nsIn K mainGlobals "_law_turns" = some (some (.ref f48)))
    (l48 : K.lookup f48 = some ⟨oc48, od48, .func (PySem.W.fnOf "_law_turns" "_law_turns" (C8.fnArgs s_law_turns) (C8.fnBody s_law_turns) (C8.fnScope s_law_turns) .none kV48 dc48 pm48 an48 cd48 ct48), sl48⟩)
    (c48 : PySem.W.codeIn K cd48 "_law_turns" = true)
    (k48 : PySem.W.keepIn K (.ref f48) = true)
    (a49 : PySem.W.nsIn K mainGlobals "_law_asked" = some (some (.ref f49)))
    (l49 : K.lookup f49 = some ⟨oc49, od49, .func (PySem.W.fnOf "_law_asked" "_law_asked" (C8.fnArgs s_law_asked) (C8.fnBody s_law_asked) (C8.fnScope s_law_asked) .none kV49 dc49 pm49 an49 cd49 ct49), sl49⟩)
    (c49 : PySem.W.codeIn K cd49 "_law_asked" = true)
    (k49 : PySem.W.keepIn K (.ref f49) = true)
    (a50 : PySem.W.nsIn K mainGlobals "_law_entry" = some (some (.ref f50)))
    (l50 : K.lookup f50 = some ⟨oc50, od50, .func (PySem.W.fnOf "_law_entry" "_law_entry" (C8.fnArgs s_law_entry) (C8.fnBody s_law_entry) (C8.fnScope s_law_entry) .none kV50 dc50 pm50 an50 cd50 ct50), sl50⟩)
    (c50 : PySem.W.codeIn K cd50 "_law_entry" = true)
    (k50 : PySem.W.keepIn K (.ref f50) = true)
    (a51 : PySem.W.nsIn K mainGlobals "_law_exchanged" = some (some (.ref f51)))
    (l51 : K.lookup f51 = some ⟨oc51, od51, .func (PySem.W.fnOf "_law_exchanged" "_law_exchanged" (C8.fnArgs s_law_exchanged) (C8.fnBody s_law_exchanged) (C8.fnScope s_law_exchanged) .none kV51 dc51 pm51 an51 cd51 ct51), sl51⟩)
    (c51 : PySem.W.codeIn K cd51 "_law_exchanged" = true)
    (k51 : PySem.W.keepIn K (.ref f51) = true)
    (a52 : PySem.W.nsIn K mainGlobals "_law_run" = some (some (.ref f52)))
    (l52 : K.lookup f52 = some ⟨oc52, od52, .func (PySem.W.fnOf "_law_run" "_law_run" (C8.fnArgs s_law_run) (C8.fnBody s_law_run) (C8.fnScope s_law_run) .none kV52 dc52 pm52 an52 cd52 ct52), sl52⟩)
    (c52 : PySem.W.codeIn K cd52 "_law_run" = true)
    (k52 : PySem.W.keepIn K (.ref f52) = true)
    (a53 : PySem.W.nsIn K mainGlobals "law" = some (some (.ref f53)))
    (l53 : K.lookup f53 = some ⟨oc53, od53, .func (PySem.W.fnOf "law" "law" (C8.fnArgs s_law) (C8.fnBody s_law) (C8.fnScope s_law) .none kV53 dc53 pm53 an53 cd53 ct53), sl53⟩)
    (c53 : PySem.W.codeIn K cd53 "law" = true)
    (k53 : PySem.W.keepIn K (.ref f53) = true)
    (a54 : PySem.W.nsIn K mainGlobals "_law_ringed" = some (some (.ref f54)))
    (l54 : K.lookup f54 = some ⟨oc54, od54, .func (PySem.W.fnOf "_law_ringed" "_law_ringed" (C8.fnArgs s_law_ringed) (C8.fnBody s_law_ringed) (C8.fnScope s_law_ringed) .none kV54 dc54 pm54 an54 cd54 ct54), sl54⟩)
    (c54 : PySem.W.codeIn K cd54 "_law_ringed" = true)
    (k54 : PySem.W.keepIn K (.ref f54) = true)
    (amchecked : PySem.W.findIn K (.ref C) "checked" = some (some (.ref fmchecked)))
    (imchecked : PySem.W.isFn K (.ref fmchecked) = true)
    (lmchecked : K.lookup fmchecked = some ⟨ocmchecked, odmchecked, .func (PySem.W.fnOf "checked" "Log.checked" (C8.fnArgs s_Log_checked) (C8.fnBody s_Log_checked) (C8.fnScope s_Log_checked) .none kVmchecked dcmchecked pmmchecked anmchecked cdmchecked ctmchecked), slmchecked⟩)
    (cmchecked : PySem.W.codeIn K cdmchecked "Log.checked" = true)
    (kmchecked : PySem.W.keepIn K (.ref fmchecked) = true)
    (amwith_late : PySem.W.findIn K (.ref C) "with_late" = some (some (.ref fmwith_late)))
    (imwith_late : PySem.W.isFn K (.ref fmwith_late) = true)
    (lmwith_late : K.lookup fmwith_late = some ⟨ocmwith_late, odmwith_late, .func (PySem.W.fnOf "with_late" "Log.with_late" (C8.fnArgs s_Log_with_late) (C8.fnBody s_Log_with_late) (C8.fnScope s_Log_with_late) .none kVmwith_late dcmwith_late pmmwith_late anmwith_late cdmwith_late ctmwith_late), slmwith_late⟩)
    (cmwith_late : PySem.W.codeIn K cdmwith_late "Log.with_late" = true)
    (kmwith_late : PySem.W.keepIn K (.ref fmwith_late) = true)
    (ameq : PySem.W.findIn K (.ref C) "__eq__" = some (some (.ref fmeq)))
    (imeq : PySem.W.isFn K (.ref fmeq) = true)
    (lmeq : K.lookup fmeq = some ⟨ocmeq, odmeq, .func (PySem.W.fnOf "__eq__" "Log.__eq__" (C8.fnArgs s_Log_eq) (C8.fnBody s_Log_eq) (C8.fnScope s_Log_eq) .none kVmeq dcmeq pmmeq anmeq cdmeq ctmeq), slmeq⟩)
    (cmeq : PySem.W.codeIn K cdmeq "Log.__eq__" = true)
    (kmeq : PySem.W.keepIn K (.ref fmeq) = true)
    (amiter : PySem.W.findIn K (.ref C) "__iter__" = some (some (.ref fmiter)))
    (imiter : PySem.W.isFn K (.ref fmiter) = true)
    (lmiter : K.lookup fmiter = some ⟨ocmiter, odmiter, .func (PySem.W.fnOf "__iter__" "Log.__iter__" (C8.fnArgs s_Log_iter) (C8.fnBody s_Log_iter) (C8.fnScope s_Log_iter) .none kVmiter dcmiter pmmiter anmiter cdmiter ctmiter), slmiter⟩)
    (cmiter : PySem.W.codeIn K cdmiter "Log.__iter__" = true)
    (kmiter : PySem.W.keepIn K (.ref fmiter) = true)
    (amI : PySem.W.findIn K (.ref C) "__init__" = some (some (.ref fmI)))
    (imI : PySem.W.isFn K (.ref fmI) = true)
    (lmI : K.lookup fmI = some ⟨ocmI, odmI, .func (PySem.W.fnOf "__init__" "Log.__init__" (C8.fnArgs s_Log_init) (C8.fnBody s_Log_init) (C8.fnScope s_Log_init) (.ref TD) kVmI dcmI pmmI anmI cdmI ctmI), slmI⟩)
    (cmI : PySem.W.codeIn K cdmI "Log.__init__" = true)
    (kmI : PySem.W.keepIn K (.ref fmI) = true)
    (lT : K.lookup TD = some ⟨ocT, odT, .seq #[.int 1 d1, .int 1 d2, .int 0 d3] nT, slT⟩)
    (pg : PySem.W.plainGet K C Str.empty = true)
    (hd : PySem.W.hasDictIn K C = true)
    (po : PySem.W.plainOver K C = true)
    (sa : PySem.W.findIn K (.ref C) "__setattr__" = some (some (.builtin "object.__setattr__")))
    (mk : PySem.W.makesIn K C = true)
    (kc : PySem.W.keepIn K (.ref C) = true)
    (n_size : PySem.W.findIn K (.ref C) "size" = some none)
    (n_entries : PySem.W.findIn K (.ref C) "entries" = some none)
    (n_fast : PySem.W.findIn K (.ref C) "fast" = some none)
    (n_slow : PySem.W.findIn K (.ref C) "slow" = some none)
    (n_late : PySem.W.findIn K (.ref C) "late" = some none)
    (ic : PySem.W.findIn K (.ref C) "__class__" = some (some (.builtin "object.__class__")))
    (ig : PySem.W.specialIn K (.builtin "object.__class__") "__get__" = some (some (.builtin "getset_descriptor.__get__")))
    (ik : PySem.W.takesIn K (.builtin "object.__class__") = some true)
    (im : PySem.W.mroIn K C (.type "object") = some true)
    (z_len : PySem.W.nsIn K mainGlobals "len" = some none)
    (z_range : PySem.W.nsIn K mainGlobals "range" = some none)
    (z_min : PySem.W.nsIn K mainGlobals "min" = some none)
    (z_max : PySem.W.nsIn K mainGlobals "max" = some none)
    (z_abs : PySem.W.nsIn K mainGlobals "abs" = some none)
    (z_int : PySem.W.nsIn K mainGlobals "int" = some none)
    (z_str : PySem.W.nsIn K mainGlobals "str" = some none)
    (z_tuple : PySem.W.nsIn K mainGlobals "tuple" = some none)
    (z_list : PySem.W.nsIn K mainGlobals "list" = some none)
    (z_isinstance : PySem.W.nsIn K mainGlobals "isinstance" = some none)
    (z_reversed : PySem.W.nsIn K mainGlobals "reversed" = some none)
    (z_all : PySem.W.nsIn K mainGlobals "all" = some none)
    (z_sum : PySem.W.nsIn K mainGlobals "sum" = some none)
    (z_bool : PySem.W.nsIn K mainGlobals "bool" = some none)
    (z_iter : PySem.W.nsIn K mainGlobals "iter" = some none)
    (z_super : PySem.W.nsIn K mainGlobals "super" = some none)
    (g_MOST : PySem.W.nsIn K mainGlobals "MOST" = some (some (.int 1000000000000000000000000000000 t_MOST)))
    (g_MOST_EVENTS : PySem.W.nsIn K mainGlobals "MOST_EVENTS" = some (some (.int 12 t_MOST_EVENTS)))
    (g_MOST_ENTRIES : PySem.W.nsIn K mainGlobals "MOST_ENTRIES" = some (some (.int 60 t_MOST_ENTRIES)))
    (g_MOST_RATE : PySem.W.nsIn K mainGlobals "MOST_RATE" = some (some (.int 1000 t_MOST_RATE)))
    (g_MOST_LATE : PySem.W.nsIn K mainGlobals "MOST_LATE" = some (some (.int 60 t_MOST_LATE)))
    (aN : PySem.W.nsIn K mainGlobals "NoCourse" = some (some (.ref CN)))
    (xN : K.lookup CN = some (excClassObj nm qn CN CNs bs bm true sn sub ab col dd m0 m1 m2 m3 m5 "ValueError.__new__"))
    (rN : PySem.HandSPX.refsVE bm = true)
    (sN : PySem.W.findIn K (.ref CN) "__setattr__" = some (some (.builtin "object.__setattr__")))
    (eN : PySem.W.subIn K (.ref CN) (.type "BaseException") = some true)
    (tN : PySem.W.typeIn K (.ref CN) = some (.type "type"))
    (kN : PySem.W.keepIn K (.ref CN) = true)
    (uN : PySem.W.findIn K (.ref CN) "__getattribute__" = some (some (.builtin "BaseException.__getattribute__")))
    (vN : PySem.W.findIn K (.ref CN) "__getattr__" = some none)
    (hN : PySem.W.hasDictIn K CN = true)
    (nN : PySem.W.findIn K (.ref CN) "ring" = some none)
    (wN : PySem.W.isClsIn K CN = true)
    (yN : PySem.W.subIn K (.ref CN) (.ref CN) = some true)
    (iN : PySem.W.findIn K (.ref CN) "__init__" = some (some (.ref fN)))
    (pN : PySem.W.typeIn K (.ref fN) = some (.type "function"))
    (lN : K.lookup fN = some ⟨ocN, odN, .func (PySem.W.ksFn "__init__" "NoCourse.__init__" (C8.fnArgs s_NoCourse_init) (C8.fnBody s_NoCourse_init) (C8.fnScope s_NoCourse_init) .none kVN dcN pmN anN (.ref cda) ctN cc), slN⟩)
    (cN : PySem.W.codeIn K (.ref cda) "NoCourse.__init__" = true)
    (dN : K.lookup cda = some ⟨ccl, cdd, .fields cvs, ccs⟩)
    (fN2 : cvs[2]? = some (.str file tfi))
    (gN : ((l.prog.main.file : Str) == file) = true)
    (oN : K.lookup cc = some ⟨cl0, cld, .cell (some (.ref CN)), csl⟩)
    (htop : (l.prog.main.scope.names.lookup ("super" : Str)).isSome = false)
    (hop : PySem.W.nsIn K cStatics "thirdparty.any" = some none)
    (hm : PySem.W.ks_superIn K CN CN "__init__" = some (some (.builtin "ValueError.__init__")))
    (hB : PySem.W.subIn K (.ref CN) (.type "ValueError") = some true)
    (hCC : PySem.W.mroIn K CN (.ref CN) = some true) :
    ∃ fd : FuncData, (∀ (s : Shared) (v : Value), BindsTo s fd ⟨[v], []⟩ [("script", v)]) ∧ ∀ base : Heap, K.In base → base.Ns mainGlobals mg → FnOk l.prog w K mg base C8.CX0 10 fa fd ["script"] (sp_law K) := by
  have e := hfa.symm.trans (PySem.W.mg_of X G a53)
  cases e
  have F0 : C8.Def K mg "number_in" s_number_in _ _ := ⟨fun8 l0 c0, PySem.W.mg_of X G a0, k0⟩
  have b0 := F0.fn.binds rfl (ps := ["part", "least", "most"]) fun _ _ _ _ _ _ us hl => match us, hl with | [_, _, _], _ => rfl
  have F1 : C8.Def K mg "line_at" s_line_at _ _ := ⟨fun8 l1 c1, PySem.W.mg_of X G a1, k1⟩
  have b1 := F1.fn.binds rfl (ps := ["lines", "index"]) fun _ _ _ _ _ _ us hl => match us, hl with | [_, _], _ => rfl
  have F2 : C8.Def K mg "check_end" s_check_end _ _ := ⟨fun8 l2 c2, PySem.W.mg_of X G a2, k2⟩
  have b2 := F2.fn.binds rfl (ps := ["lines", "count", "first"]) fun _ _ _ _ _ _ us hl => match us, hl with | [_, _, _], _ => rfl
  have F3 : C8.Def K mg "entry_fits" s_entry_fits _ _ := ⟨fun8 l3 c3, PySem.W.mg_of X G a3, k3⟩
  have b3 := F3.fn.binds rfl (ps := ["entry", "size"]) fun _ _ _ _ _ _ us hl => match us, hl with | [_, _], _ => rfl
  have F4 : C8.Def K mg "round_up" s_round_up _ _ := ⟨fun8 l4 c4, PySem.W.mg_of X G a4, k4⟩
  have b4 := F4.fn.binds rfl (ps := ["p", "q"]) fun _ _ _ _ _ _ us hl => match us, hl with | [_, _], _ => rfl
  have F5 : C8.Def K mg "round_down" s_round_down _ _ := ⟨fun8 l5 c5, PySem.W.mg_of X G a5, k5⟩
  have b5 := F5.fn.binds rfl (ps := ["p", "q"]) fun _ _ _ _ _ _ us hl => match us, hl with | [_, _], _ => rfl
  have F6 : C8.Def K mg "entry_bounds" s_entry_bounds _ _ := ⟨fun8 l6 c6, PySem.W.mg_of X G a6, k6⟩
  have b6 := F6.fn.binds rfl (ps := ["log", "entry"]) fun _ _ _ _ _ _ us hl => match us, hl with | [_, _], _ => rfl
  have F7 : C8.Def K mg "bounds" s_bounds _ _ := ⟨fun8 l7 c7, PySem.W.mg_of X G a7, k7⟩
  have b7 := F7.fn.binds rfl (ps := ["log"]) fun _ _ _ _ _ _ us hl => match us, hl with | [_], _ => rfl
  have F8 : C8.Def K mg "longer_chains" s_longer_chains _ _ := ⟨fun8 l8 c8, PySem.W.mg_of X G a8, k8⟩
  have b8 := F8.fn.binds rfl (ps := ["rows", "sums"]) fun _ _ _ _ _ _ us hl => match us, hl with | [_, _], _ => rfl
  have F9 : C8.Def K mg "longest" s_longest _ _ := ⟨fun8 l9 c9, PySem.W.mg_of X G a9, k9⟩
  have b9 := F9.fn.binds rfl (ps := ["size", "rows", "source"]) fun _ _ _ _ _ _ us hl => match us, hl with | [_, _, _], _ => rfl
  have F10 : C8.Def K mg "chain_to" s_chain_to _ _ := ⟨fun8 l10 c10, PySem.W.mg_of X G a10, k10⟩
  have b10 := F10.fn.binds rfl (ps := ["rows", "levels", "event"]) fun _ _ _ _ _ _ us hl => match us, hl with | [_, _, _], _ => rfl
  have F11 : C8.Def K mg "ring_within" s_ring_within _ _ := ⟨fun8 l11 c11, PySem.W.mg_of X G a11, k11⟩
  have b11 := F11.fn.binds rfl (ps := ["rows", "chain"]) fun _ _ _ _ _ _ us hl => match us, hl with | [_, _], _ => rfl
  have F12 : C8.Def K mg "ring_above" s_ring_above _ _ := ⟨fun8 l12 c12, PySem.W.mg_of X G a12, k12⟩
  have b12 := F12.fn.binds rfl (ps := ["rows", "levels"]) fun _ _ _ _ _ _ us hl => match us, hl with | [_, _], _ => rfl
  have F13 : C8.Def K mg "earliest" s_earliest _ _ := ⟨fun8 l13 c13, PySem.W.mg_of X G a13, k13⟩
  have b13 := F13.fn.binds rfl (ps := ["log"]) fun _ _ _ _ _ _ us hl => match us, hl with | [_], _ => rfl
  have F14 : C8.Def K mg "check_question" s_check_question _ _ := ⟨fun8 l14 c14, PySem.W.mg_of X G a14, k14⟩
  have b14 := F14.fn.binds rfl (ps := ["log", "x", "y"]) fun _ _ _ _ _ _ us hl => match us, hl with | [_, _, _], _ => rfl
  have F15 : C8.Def K mg "gap" s_gap _ _ := ⟨fun8 l15 c15, PySem.W.mg_of X G a15, k15⟩
  have b15 := F15.fn.binds rfl (ps := ["log", "x", "y"]) fun _ _ _ _ _ _ us hl => match us, hl with | [_, _, _], _ => rfl
  have F16 : C8.Def K mg "course_with" s_course_with _ _ := ⟨fun8 l16 c16, PySem.W.mg_of X G a16, k16⟩
  have b16 := F16.fn.binds rfl (ps := ["log", "bound"]) fun _ _ _ _ _ _ us hl => match us, hl with | [_, _], _ => rfl
  have F17 : C8.Def K mg "ahead" s_ahead _ _ := ⟨fun8 l17 c17, PySem.W.mg_of X G a17, k17⟩
  have b17 := F17.fn.binds rfl (ps := ["log", "x", "y"]) fun _ _ _ _ _ _ us hl => match us, hl with | [_, _, _], _ => rfl
  have F18 : C8.Def K mg "judge_chain" s_judge_chain _ _ := ⟨fun8 l18 c18, PySem.W.mg_of X G a18, k18⟩
  have b18 := F18.fn.binds rfl (ps := ["log", "x", "y", "least", "chain"]) fun _ _ _ _ _ _ us hl => match us, hl with | [_, _, _, _, _], _ => rfl
  have F19 : C8.Def K mg "fits" s_fits _ _ := ⟨fun8 l19 c19, PySem.W.mg_of X G a19, k19⟩
  have b19 := F19.fn.binds rfl (ps := ["log", "moments"]) fun _ _ _ _ _ _ us hl => match us, hl with | [_, _], _ => rfl
  have F20 : C8.Def K mg "has_course" s_has_course _ _ := ⟨fun8 l20 c20, PySem.W.mg_of X G a20, k20⟩
  have b20 := F20.fn.binds rfl (ps := ["log"]) fun _ _ _ _ _ _ us hl => match us, hl with | [_], _ => rfl
  have F21 : C8.Def K mg "in_doubt" s_in_doubt _ _ := ⟨fun8 l21 c21, PySem.W.mg_of X G a21, k21⟩
  have b21 := F21.fn.binds rfl (ps := ["log", "x", "y"]) fun _ _ _ _ _ _ us hl => match us, hl with | [_, _, _], _ => rfl
  have F22 : C8.Def K mg "least_late" s_least_late _ _ := ⟨fun8 l22 c22, PySem.W.mg_of X G a22, k22⟩
  have b22 := F22.fn.binds rfl (ps := ["log"]) fun _ _ _ _ _ _ us hl => match us, hl with | [_], _ => rfl
  have F23 : C8.Def K mg "trust" s_trust _ _ := ⟨fun8 l23 c23, PySem.W.mg_of X G a23, k23⟩
  have b23 := F23.fn.binds rfl (ps := ["log", "x", "y"]) fun _ _ _ _ _ _ us hl => match us, hl with | [_, _, _], _ => rfl
  have F24 : C8.Def K mg "rates_in" s_rates_in _ _ := ⟨fun8 l24 c24, PySem.W.mg_of X G a24, k24⟩
  have b24 := F24.fn.binds rfl (ps := ["parts"]) fun _ _ _ _ _ _ us hl => match us, hl with | [_], _ => rfl
  have F25 : C8.Def K mg "late_in" s_late_in _ _ := ⟨fun8 l25 c25, PySem.W.mg_of X G a25, k25⟩
  have b25 := F25.fn.binds rfl (ps := ["parts"]) fun _ _ _ _ _ _ us hl => match us, hl with | [_], _ => rfl
  have F26 : C8.Def K mg "head_in" s_head_in _ _ := ⟨fun8 l26 c26, PySem.W.mg_of X G a26, k26⟩
  have b26 := F26.fn.binds rfl (ps := ["line"]) fun _ _ _ _ _ _ us hl => match us, hl with | [_], _ => rfl
  have F27 : C8.Def K mg "entry_in" s_entry_in _ _ := ⟨fun8 l27 c27, PySem.W.mg_of X G a27, k27⟩
  have b27 := F27.fn.binds rfl (ps := ["line", "size"]) fun _ _ _ _ _ _ us hl => match us, hl with | [_, _], _ => rfl
  have F28 : C8.Def K mg "read_log" s_read_log _ _ := ⟨fun8 l28 c28, PySem.W.mg_of X G a28, k28⟩
  have F29 : C8.Def K mg "log_lines" s_log_lines _ _ := ⟨fun8 l29 c29, PySem.W.mg_of X G a29, k29⟩
  have b29 := F29.fn.binds rfl (ps := ["log"]) fun _ _ _ _ _ _ us hl => match us, hl with | [_], _ => rfl
  have F30 : C8.Def K mg "show_log" s_show_log _ _ := ⟨fun8 l30 c30, PySem.W.mg_of X G a30, k30⟩
  have b30 := F30.fn.binds rfl (ps := ["log"]) fun _ _ _ _ _ _ us hl => match us, hl with | [_], _ => rfl
  have F31 : C8.Def K mg "_law_cell" s_law_cell _ _ := ⟨fun8 l31 c31, PySem.W.mg_of X G a31, k31⟩
  have b31 := F31.fn.binds rfl (ps := ["script", "k"]) fun _ _ _ _ _ _ us hl => match us, hl with | [_, _], _ => rfl
  have F32 : C8.Def K mg "_law_numbers" s_law_numbers _ _ := ⟨fun8 l32 c32, PySem.W.mg_of X G a32, k32⟩
  have b32 := F32.fn.binds rfl (ps := ["cell", "salt", "count", "many"]) fun _ _ _ _ _ _ us hl => match us, hl with | [_, _, _, _], _ => rfl
  have F33 : C8.Def K mg "_law_is" s_law_is _ _ := ⟨fun8 l33 c33, PySem.W.mg_of X G a33, k33⟩
  have b33 := F33.fn.binds rfl (ps := ["actual", "expected"]) fun _ _ _ _ _ _ us hl => match us, hl with | [_, _], _ => rfl
  have F34 : C8.Def K mg "_law_list" s_law_list _ _ := ⟨fun8 l34 c34, PySem.W.mg_of X G a34, k34⟩
  have b34 := F34.fn.binds rfl (ps := ["told", "due"]) fun _ _ _ _ _ _ us hl => match us, hl with | [_, _], _ => rfl
  have F35 : C8.Def K mg "_law_short" s_law_short _ _ := ⟨fun8 l35 c35, PySem.W.mg_of X G a35, k35⟩
  have b35 := F35.fn.binds rfl (ps := ["told", "most"]) fun _ _ _ _ _ _ us hl => match us, hl with | [_, _], _ => rfl
  have F36 : C8.Def K mg "_law_chain" s_law_chain _ _ := ⟨fun8 l36 c36, PySem.W.mg_of X G a36, k36⟩
  have b36 := F36.fn.binds rfl (ps := ["rows", "x", "y", "least", "chain"]) fun _ _ _ _ _ _ us hl => match us, hl with | [_, _, _, _, _], _ => rfl
  have F37 : C8.Def K mg "_law_possible" s_law_possible _ _ := ⟨fun8 l37 c37, PySem.W.mg_of X G a37, k37⟩
  have b37 := F37.fn.binds rfl (ps := ["far"]) fun _ _ _ _ _ _ us hl => match us, hl with | [_], _ => rfl
  have F38 : C8.Def K mg "_law_with" s_law_with _ _ := ⟨fun8 l38 c38, PySem.W.mg_of X G a38, k38⟩
  have b38 := F38.fn.binds rfl (ps := ["far", "x", "y", "least"]) fun _ _ _ _ _ _ us hl => match us, hl with | [_, _, _, _], _ => rfl
  have F39 : C8.Def K mg "_law_bounds" s_law_bounds _ _ := ⟨fun8 l39 c39, PySem.W.mg_of X G a39, k39⟩
  have b39 := F39.fn.binds rfl (ps := ["world", "lag"]) fun _ _ _ _ _ _ us hl => match us, hl with | [_, _], _ => rfl
  have F40 : C8.Def K mg "_law_keeps" s_law_keeps _ _ := ⟨fun8 l40 c40, PySem.W.mg_of X G a40, k40⟩
  have b40 := F40.fn.binds rfl (ps := ["world", "lag", "moments"]) fun _ _ _ _ _ _ us hl => match us, hl with | [_, _, _], _ => rfl
  have F41 : C8.Def K mg "_law_far" s_law_far _ _ := ⟨fun8 l41 c41, PySem.W.mg_of X G a41, k41⟩
  have b41 := F41.fn.binds rfl (ps := ["size", "rows"]) fun _ _ _ _ _ _ us hl => match us, hl with | [_, _], _ => rfl
  have F42 : C8.Def K mg "_law_sure" s_law_sure _ _ := ⟨fun8 l42 c42, PySem.W.mg_of X G a42, k42⟩
  have b42 := F42.fn.binds rfl (ps := ["world", "lag", "x", "y"]) fun _ _ _ _ _ _ us hl => match us, hl with | [_, _, _, _], _ => rfl
  have F43 : C8.Def K mg "_law_verdict" s_law_verdict _ _ := ⟨fun8 l43 c43, PySem.W.mg_of X G a43, k43⟩
  have b43 := F43.fn.binds rfl (ps := ["log", "world", "rows", "far", "x", "y"]) fun _ _ _ _ _ _ us hl => match us, hl with | [_, _, _, _, _, _], _ => rfl
  have F44 : C8.Def K mg "_law_pair" s_law_pair _ _ := ⟨fun8 l44 c44, PySem.W.mg_of X G a44, k44⟩
  have b44 := F44.fn.binds rfl (ps := ["log", "world", "rows", "far", "x", "y"]) fun _ _ _ _ _ _ us hl => match us, hl with | [_, _, _, _, _, _], _ => rfl
  have F45 : C8.Def K mg "_law_log_text" s_law_log_text _ _ := ⟨fun8 l45 c45, PySem.W.mg_of X G a45, k45⟩
  have b45 := F45.fn.binds rfl (ps := ["data"]) fun _ _ _ _ _ _ us hl => match us, hl with | [_], _ => rfl
  have F46 : C8.Def K mg "_law_same" s_law_same _ _ := ⟨fun8 l46 c46, PySem.W.mg_of X G a46, k46⟩
  have b46 := F46.fn.binds rfl (ps := ["log", "world"]) fun _ _ _ _ _ _ us hl => match us, hl with | [_, _], _ => rfl
  have F47 : C8.Def K mg "_law_words" s_law_words _ _ := ⟨fun8 l47 c47, PySem.W.mg_of X G a47, k47⟩
  have b47 := F47.fn.binds rfl (ps := ["log", "world", "lag", "x", "y"]) fun _ _ _ _ _ _ us hl => match us, hl with | [_, _, _, _, _], _ => rfl
  have F48 : C8.Def K mg "_law_turns" s_law_turns _ _ := ⟨fun8 l48 c48, PySem.W.mg_of X G a48, k48⟩
  have b48 := F48.fn.binds rfl (ps := ["log", "world", "x", "y"]) fun _ _ _ _ _ _ us hl => match us, hl with | [_, _, _, _], _ => rfl
  have F49 : C8.Def K mg "_law_asked" s_law_asked _ _ := ⟨fun8 l49 c49, PySem.W.mg_of X G a49, k49⟩
  have b49 := F49.fn.binds rfl (ps := ["log", "world", "far", "pairs"]) fun _ _ _ _ _ _ us hl => match us, hl with | [_, _, _, _], _ => rfl
  have F50 : C8.Def K mg "_law_entry" s_law_entry _ _ := ⟨fun8 l50 c50, PySem.W.mg_of X G a50, k50⟩
  have b50 := F50.fn.binds rfl (ps := ["p", "moments", "rates", "slack"]) fun _ _ _ _ _ _ us hl => match us, hl with | [_, _, _, _], _ => rfl
  have F51 : C8.Def K mg "_law_exchanged" s_law_exchanged _ _ := ⟨fun8 l51 c51, PySem.W.mg_of X G a51, k51⟩
  have b51 := F51.fn.binds rfl (ps := ["script", "world"]) fun _ _ _ _ _ _ us hl => match us, hl with | [_, _], _ => rfl
  have F52 : C8.Def K mg "_law_run" s_law_run _ _ := ⟨fun8 l52 c52, PySem.W.mg_of X G a52, k52⟩
  have b52 := F52.fn.binds rfl (ps := ["script"]) fun _ _ _ _ _ _ us hl => match us, hl with | [_], _ => rfl
  have F53 : C8.Def K mg "law" s_law _ _ := ⟨fun8 l53 c53, PySem.W.mg_of X G a53, k53⟩
  have b53 := F53.fn.binds rfl (ps := ["script"]) fun _ _ _ _ _ _ us hl => match us, hl with | [_], _ => rfl
  have F54 : C8.Def K mg "_law_ringed" s_law_ringed _ _ := ⟨fun8 l54 c54, PySem.W.mg_of X G a54, k54⟩
  have b54 := F54.fn.binds rfl (ps := ["log", "world", "lag"]) fun _ _ _ _ _ _ us hl => match us, hl with | [_, _, _], _ => rfl
  have Fmchecked : C8.Fun K "checked" "Log.checked" s_Log_checked fmchecked _ := fun8 lmchecked cmchecked
  have bmchecked := Fmchecked.binds rfl (ps := ["self", "event"]) fun _ _ _ _ _ _ us hl => match us, hl with | [_, _], _ => rfl
  have memchecked : Meth K C "checked" fmchecked := ⟨amchecked, imchecked, kmchecked⟩
  have Fmwith_late : C8.Fun K "with_late" "Log.with_late" s_Log_with_late fmwith_late _ := fun8 lmwith_late cmwith_late
  have bmwith_late := Fmwith_late.binds rfl (ps := ["self", "late"]) fun _ _ _ _ _ _ us hl => match us, hl with | [_, _], _ => rfl
  have memwith_late : Meth K C "with_late" fmwith_late := ⟨amwith_late, imwith_late, kmwith_late⟩
  have Fmeq : C8.Fun K "__eq__" "Log.__eq__" s_Log_eq fmeq _ := fun8 lmeq cmeq
  have bmeq := Fmeq.binds rfl (ps := ["self", "other"]) fun _ _ _ _ _ _ us hl => match us, hl with | [_, _], _ => rfl
  have Fmiter : C8.Fun K "__iter__" "Log.__iter__" s_Log_iter fmiter _ := fun8 lmiter cmiter
  have bmiter := Fmiter.binds rfl (ps := ["self"]) fun _ _ _ _ _ _ us hl => match us, hl with | [_], _ => rfl
  have FI : C8.Fun K "__init__" "Log.__init__" s_Log_init fmI _ := fun8 lmI cmI
  have bI := init_binds lmI cmI kmI lT
  have cl : ClsL K C := ⟨⟨pg, hd, po, sa⟩, n_size, n_entries, n_fast, n_slow, n_late⟩
  have T : Gb mg := ⟨PySem.W.mg_none_of X G z_len, PySem.W.mg_none_of X G z_range, PySem.W.mg_none_of X G z_min, PySem.W.mg_none_of X G z_max, PySem.W.mg_none_of X G z_abs, PySem.W.mg_none_of X G z_int, PySem.W.mg_none_of X G z_str, PySem.W.mg_none_of X G z_tuple, PySem.W.mg_none_of X G z_list, PySem.W.mg_none_of X G z_isinstance, PySem.W.mg_none_of X G z_reversed, PySem.W.mg_none_of X G z_all, PySem.W.mg_none_of X G z_sum, PySem.W.mg_none_of X G z_bool, ⟨_, PySem.W.mg_of X G g_MOST, ⟨_, by rw [show My.MOST = 1000000000000000000000000000000 by decide +kernel]⟩⟩, ⟨_, PySem.W.mg_of X G g_MOST_EVENTS, ⟨_, rfl⟩⟩, ⟨_, PySem.W.mg_of X G g_MOST_ENTRIES, ⟨_, rfl⟩⟩, ⟨_, PySem.W.mg_of X G g_MOST_RATE, ⟨_, rfl⟩⟩, ⟨_, PySem.W.mg_of X G g_MOST_LATE, ⟨_, rfl⟩⟩⟩
  have hmC := PySem.W.mg_of X G aC
  have IC : C8.InsC K C := ⟨cl.cl, ic, ig, ik, im, by unfold PySem.W.kitOne; rw [if_pos (by simp)]⟩
  have D : IterD K mg C fmiter "entries" s_Log_iter _ := ⟨⟨amiter, imiter⟩, ⟨_, _, Fmiter⟩, bmiter, sc_Log_iter, cl.cl, cl.nEntries, ⟨_, _, _, _, _, rfl⟩, rfl, rfl, PySem.W.mg_none_of X G z_iter⟩
  have OE : OexC K CN := ⟨⟨nm, qn, CNs, bs, bm, sn, sub, ab, col, dd, m0, m1, m2, m3, m5, xN, rN⟩, sN, eN, tN, kN⟩
  have EI : ExI l.prog K mg CN fN _ "ring" "ring" := exi_of lN cN dN fN2 gN oN (PySem.W.mg_none_of X G z_super) htop hop hm hB hCC
  have te := exm_own eN wN tN yN
  have XF : XfC K CN := ⟨uN, vN, eN, hN⟩
  refine ⟨PySem.W.fnOf "law" "law" (C8.fnArgs s_law) (C8.fnBody s_law) (C8.fnScope s_law) .none kV53 dc53 pm53 an53 cd53 ct53, fun s v => .of_eq rfl, fun base _ _ => ?_⟩
  have NC : NoC l.prog w K mg base CN := ⟨OE, ⟨fN, _, iN, pN, fn_exi EI OE nN, nc_binds⟩, PySem.W.mg_of X G aN⟩
  have c_number_in := ok_number_in (P := l.prog) (w := w) (base := base) F0 b0 T
  have c_line_at := ok_line_at (P := l.prog) (w := w) (base := base) F1 b1 T
  have c_check_end := ok_check_end (P := l.prog) (w := w) (base := base) F2 b2 T
  have c_entry_fits := ok_entry_fits (P := l.prog) (w := w) (base := base) F3 b3 T
  have c_LogL := ok_Log_initL (P := l.prog) (w := w) (base := base) FI bI cl ⟨mk, amI, imI, kc⟩ hmC T c_entry_fits
  have c_LogT := ok_Log_initT (P := l.prog) (w := w) (base := base) FI bI cl ⟨mk, amI, imI, kc⟩ hmC T c_entry_fits
  have m_checked := ok_checked (P := l.prog) (w := w) (mg := mg) (base := base) Fmchecked bmchecked cl memchecked
  have m_with_late := ok_with_late (P := l.prog) (w := w) (mg := mg) (base := base) Fmwith_late bmwith_late cl memwith_late c_LogT
  have c_round_up := ok_round_up (P := l.prog) (w := w) (base := base) F4 b4
  have c_round_down := ok_round_down (P := l.prog) (w := w) (base := base) F5 b5
  have c_entry_bounds := ok_entry_bounds (P := l.prog) (w := w) (base := base) F6 b6 cl c_round_up c_round_down
  have c_bounds := ok_bounds (P := l.prog) (w := w) (base := base) F7 b7 cl T D c_entry_bounds
  have c_longer_chains := ok_longer_chains (P := l.prog) (w := w) (base := base) F8 b8 T
  have c_longest := ok_longest (P := l.prog) (w := w) (base := base) F9 b9 T c_longer_chains
  have c_chain_to := ok_chain_to (P := l.prog) (w := w) (base := base) F10 b10 T
  have c_ring_within := ok_ring_within (P := l.prog) (w := w) (base := base) F11 b11 T
  have c_ring_above := ok_ring_above (P := l.prog) (w := w) (base := base) F12 b12 T c_ring_within c_chain_to
  have xe := fn_earliest (P := l.prog) (w := w) (base := base) F13 b13 cl T NC c_bounds c_longest c_ring_above
  have xC : CalX l.prog w K mg base 4 "earliest" (sp_earliest K C CN) := ⟨_, _, _, xe, F13.mgf, F13.kp, b13⟩
  have xN2 : CalN l.prog w K mg base 4 "earliest" (sp_earliest K C CN) := ⟨_, _, _, fnN_earliest (P := l.prog) (w := w) (base := base) F13 b13 cl T NC c_bounds c_longest c_ring_above, F13.mgf, F13.kp, b13⟩
  have c_earliest := ok_earliestN (P := l.prog) (w := w) (base := base) F13 b13 xe
  have c_check_question := ok_check_question (P := l.prog) (w := w) (base := base) F14 b14 m_checked c_earliest
  have c_gap := ok_gap (P := l.prog) (w := w) (base := base) F15 b15 cl c_bounds c_longest c_check_question
  have c_course_with := ok_course_with (P := l.prog) (w := w) (base := base) F16 b16 cl c_bounds c_longest
  have c_ahead := ok_ahead (P := l.prog) (w := w) (base := base) F17 b17 cl c_bounds c_longest c_check_question c_chain_to c_course_with
  have c_judge_chain := ok_judge_chain (P := l.prog) (w := w) (base := base) F18 b18 cl T m_checked c_bounds
  have c_fits := ok_fits (P := l.prog) (w := w) (base := base) F19 b19 cl T c_bounds
  have c_has_course := ok_has_course (P := l.prog) (w := w) (base := base) F20 b20 NC te xC
  have c_in_doubt := ok_in_doubt (P := l.prog) (w := w) (base := base) F21 b21 c_has_course c_ahead
  have c_least_late := ok_least_late (P := l.prog) (w := w) (base := base) F22 b22 T c_has_course m_with_late
  have c_trust := ok_trust (P := l.prog) (w := w) (base := base) F23 b23 T c_has_course c_in_doubt m_with_late m_checked
  have c_rates_in := ok_rates_in (P := l.prog) (w := w) (base := base) F24 b24 T c_number_in
  have c_late_in := ok_late_in (P := l.prog) (w := w) (base := base) F25 b25 T c_number_in
  have c_head_in := ok_head_in (P := l.prog) (w := w) (base := base) F26 b26 T c_number_in c_rates_in c_late_in
  have c_entry_in := ok_entry_in (P := l.prog) (w := w) (base := base) F27 b27 T c_number_in
  have frl := fn_read_log (P := l.prog) (w := w) (base := base) F28 T c_head_in c_entry_in c_line_at c_check_end c_LogL
  obtain ⟨drl, vrl, brl⟩ := read_log_binds l28 c28 k28 nD
  have c_read_log : C8.Cal l.prog w K mg base 4 "read_log" (sp_read_log K C) [.int 1] := ⟨_, _, _, _, frl, F28.mgf, F28.kp, brl, vrl⟩
  have k_read_log : CalK l.prog w K mg base 4 "read_log" 1 ["first"] (sp_read_log K C) := ⟨_, _, _, frl, F28.mgf, F28.kp, read_log_kbinds⟩
  have g_log_lines : CalG l.prog w K mg base 1 "log_lines" (sp_log_lines K C) := ⟨_, _, _, gn_log_lines (P := l.prog) (w := w) (base := base) F29 cl T, F29.mgf, F29.kp, b29⟩
  have c_show_log := ok_show_log (P := l.prog) (w := w) (base := base) F30 b30 g_log_lines
  have Feq := fn_Log_eq (P := l.prog) (w := w) (base := base) Fmeq cl T IC hmC
  have c__law_cell := ok_law_cell (P := l.prog) (w := w) (base := base) F31 b31 T
  have c__law_numbers := ok_law_numbers (P := l.prog) (w := w) (base := base) F32 b32 T
  have c__law_is := ok_law_is (P := l.prog) (w := w) (base := base) F33 b33 T
  have c__law_list := ok_law_list (P := l.prog) (w := w) (base := base) F34 b34 T c__law_is
  have c__law_short := ok_law_short (P := l.prog) (w := w) (base := base) F35 b35 T
  have c__law_chain := ok_law_chain (P := l.prog) (w := w) (base := base) F36 b36 T
  have c__law_possible := ok_law_possible (P := l.prog) (w := w) (base := base) F37 b37 T
  have c__law_with := ok_law_with (P := l.prog) (w := w) (base := base) F38 b38 T
  have c__law_bounds := ok_law_bounds (P := l.prog) (w := w) (base := base) F39 b39 T
  have c__law_keeps := ok_law_keeps (P := l.prog) (w := w) (base := base) F40 b40 T
  have c__law_far := ok_law_far (P := l.prog) (w := w) (base := base) F41 b41 T
  have c__law_sure := ok_law_sure (P := l.prog) (w := w) (base := base) F42 b42 c__law_bounds c__law_far c__law_possible
  have c__law_verdict := ok_law_verdict (P := l.prog) (w := w) (base := base) F43 b43 T c_ahead c__law_short c__law_chain c__law_with c__law_keeps c__law_list
  have c__law_pair := ok_law_pair (P := l.prog) (w := w) (base := base) F44 b44 T c_gap c__law_is c__law_verdict
  have c__law_log_text := ok_law_log_text (P := l.prog) (w := w) (base := base) F45 b45 T
  have c__law_same := ok_law_same (P := l.prog) (w := w) (base := base) F46 b46 cl T IC hmC c__law_is c_show_log c__law_log_text
  have c__law_words := ok_law_words (P := l.prog) (w := w) (base := base) F47 b47 c__law_log_text k_read_log m_with_late c_ahead Feq ameq imeq bmeq
  have c__law_asked := ok_law_asked (P := l.prog) (w := w) (base := base) F49 b49 T c__law_bounds c_bounds c__law_list c_earliest c_fits c__law_pair c_gap c_ahead c_judge_chain
  have c__law_entry := ok_law_entry (P := l.prog) (w := w) (base := base) F50 b50 T
  have c__law_exchanged := ok_law_exchanged (P := l.prog) (w := w) (base := base) F51 b51 T c__law_cell c__law_numbers
  have c__law_run := ok_law_run (P := l.prog) (w := w) (base := base) F52 b52 T c__law_cell c__law_numbers c__law_entry
  have h_round_up := hk_round_up (P := l.prog) (w := w) (base := base) F4 b4
  have h_round_down := hk_round_down (P := l.prog) (w := w) (base := base) F5 b5
  have h_entry_bounds := hk_entry_bounds (P := l.prog) (w := w) (base := base) F6 b6 cl h_round_up h_round_down
  have h_bounds := hk_bounds (P := l.prog) (w := w) (base := base) F7 b7 cl T D h_entry_bounds
  have h_checked := hk_checked (P := l.prog) (w := w) (mg := mg) (base := base) Fmchecked bmchecked cl memchecked
  have h_judge_chain := hk_judge_chain (P := l.prog) (w := w) (base := base) F18 b18 cl T h_checked h_bounds
  have h__law_short := hk_law_short (P := l.prog) (w := w) (base := base) F35 b35 T
  have h__law_chain := hk_law_chain (P := l.prog) (w := w) (base := base) F36 b36 T
  have c__law_ringed := ok_law_ringed (P := l.prog) (w := w) (base := base) F54 b54 T NC te XF nN c__law_bounds m_with_late xN2 h__law_short h__law_chain h_judge_chain
  have c__law_turns := ok_law_turns (P := l.prog) (w := w) (base := base) F48 b48 T c_least_late c_trust c__law_sure c__law_ringed c__law_words
  exact fn_law (P := l.prog) (w := w) (base := base) F53 T c__law_run c__law_cell c__law_numbers c__law_exchanged c__law_log_text c_read_log k_read_log c__law_same c__law_bounds c__law_far c__law_asked c__law_turns
theorem walk {l : PySem.W.OpenLaw} {q : Program} {loose : List Str} {XP : (Str → Option Value) → Heap → Prop} {YP : World → Heap → Prop} {d : DefRec} {K : Params → PySem.W.Frag} (hn : l.most = some 63) (hdf : d.params.defaults = [])
    (hY : ∀ (w : World) (h : Heap), YP w h → (K w.params).In h)
    (F : ∀ (w : World) (mg : Str → Option Value) (fa : Addr) (h : Heap), (K w.params).In h → h.Ns mainGlobals mg → mg d.name = some (.ref fa) →
      ∃ fd : FuncData, (∀ (s : Shared) (u : Value), BindsTo s fd ⟨[u], []⟩ [("script", u)]) ∧ ∀ base : Heap, (K w.params).In base → base.Ns mainGlobals mg → FnOk l.prog w (K w.params) mg base C8.CX0 10 fa fd ["script"] (sp_law (K w.params))) :
    PySem.W.WalkO q loose XP YP l.row.toRowW d [] (fun f vs => PySem.call f vs) :=
  L2.walk_of (n := 63) (k := 10) (x := "script") (CX := fun _ => C8.CX0) (sp := fun w => sp_law (K w.params)) hn (by decide) hdf ⟨rfl, by decide, by decide⟩ hY F (fun _ _ a ns hl _ hS => ⟨a, ns, rfl, hS, fun _ => rfl⟩) fun _ _ _ _ _ z => z
end My
open PySem PySem.W PyProof.Rows
theorem PySem.Challenge.cw_matchclocks_k94_whole_logs_from_text_to_holds : PySem.Challenge.rw_matchclocks_k94_whole_logs_from_text_to.Holds := by
  w_on; o_law; k_head; (case hw => w_witness2)
  k_fill
  refine My.walk (l := PySem.Challenge.rw_matchclocks_k94_whole_logs_from_text_to) rfl rfl (fun w h Y => PySem.W.kIn_of Y) ?F
  case F =>
    intro w mg fa h KX G hmg
    refine' My.all_mk KX G hmg ?aC ?a0 ?l0 ?c0 ?k0 ?a1 ?l1 ?c1 ?k1 ?a2 ?l2 ?c2 ?k2 ?a3 ?l3 ?c3 ?k3 ?a4 ?l4 ?c4 ?k4 ?a5 ?l5 ?c5 ?k5 ?a6 ?l6 ?c6 ?k6 ?a7 ?l7 ?c7 ?k7 ?a8 ?l8 ?c8 ?k8 ?a9 ?l9 ?c9 ?k9 ?a10 ?l10 ?c10 ?k10 ?a11 ?l11 ?c11 ?k11 ?a12 ?l12 ?c12 ?k12 ?a13 ?l13 ?c13 ?k13 ?a14 ?l14 ?c14 ?k14 ?a15 ?l15 ?c15 ?k15 ?a16 ?l16 ?c16 ?k16 ?a17 ?l17 ?c17 ?k17 ?a18 ?l18 ?c18 ?k18 ?a19 ?l19 ?c19 ?k19 ?a20 ?l20 ?c20 ?k20 ?a21 ?l21 ?c21 ?k21 ?a22 ?l22 ?c22 ?k22 ?a23 ?l23 ?c23 ?k23 ?a24 ?l24 ?c24 ?k24 ?a25 ?l25 ?c25 ?k25 ?a26 ?l26 ?c26 ?k26 ?a27 ?l27 ?c27 ?k27 ?a28 ?l28 ?c28 ?k28 ?nD ?a29 ?l29 ?c29 ?k29 ?a30 ?l30 ?c30 ?k30 ?a31 ?l31 ?c31 ?k31 ?a32 ?l32 ?c32 ?k32 ?a33 ?l33 ?c33 ?k33 ?a34 ?l34 ?c34 ?k34 ?a35 ?l35 ?c35 ?k35 ?a36 ?l36 ?c36 ?k36 ?a37 ?l37 ?c37 ?k37 ?a38 ?l38 ?c38 ?k38 ?a39 ?l39 ?c39 ?k39 ?a40 ?l40 ?c40 ?k40 ?a41 ?l41 ?c41 ?k41 ?a42 ?l42 ?c42 ?k42 ?a43 ?l43 ?c43 ?k43 ?a44 ?l44 ?c44 ?k44 ?a45 ?l45 ?c45 ?k45 ?a46 ?l46 ?c46 ?k46 ?a47 ?l47 ?c47 ?k47 ?a48 ?l48 ?c48 ?k48 ?a49 ?l49 ?c49 ?k49 ?a50 ?l50 ?c50 ?k50 ?a51 ?l51 ?c51 ?k51 ?a52 ?l52 ?c52 ?k52 ?a53 ?l53 ?c53 ?k53 ?a54 ?l54 ?c54 ?k54 ?amchecked ?imchecked ?lmchecked ?cmchecked ?kmchecked ?amwith_late ?imwith_late ?lmwith_late ?cmwith_late ?kmwith_late ?ameq ?imeq ?lmeq ?cmeq ?kmeq ?amiter ?imiter ?lmiter ?cmiter ?kmiter ?amI ?imI ?lmI ?cmI ?kmI ?lT ?pg ?hd ?po ?sa ?mk ?kc ?n_size ?n_entries ?n_fast ?n_slow ?n_late ?ic ?ig ?ik ?im ?z_len ?z_range ?z_min ?z_max ?z_abs ?z_int ?z_str ?z_tuple ?z_list ?z_isinstance ?z_reversed ?z_all ?z_sum ?z_bool ?z_iter ?z_super ?g_MOST ?g_MOST_EVENTS ?g_MOST_ENTRIES ?g_MOST_RATE ?g_MOST_LATE ?aN ?xN ?rN ?sN ?eN ?tN ?kN ?uN ?vN ?hN ?nN ?wN ?yN ?iN ?pN ?lN ?cN ?dN ?fN2 ?gN ?oN ?htop ?hop ?hm ?hB ?hCC
    (case aC => k_is)
    (case a0 => k_is)
    (case l0 => k_is)
    (case c0 => k_is)
    (case k0 => k_is)
    (case a1 => k_is)
    (case l1 => k_is)
    (case c1 => k_is)
    (case k1 => k_is)
    (case a2 => k_is)
    (case l2 => k_is)
    (case c2 => k_is)
    (case k2 => k_is)
    (case a3 => k_is)
    (case l3 => k_is)
    (case c3 => k_is)
    (case k3 => k_is)
    (case a4 => k_is)
    (case l4 => k_is)
    (case c4 => k_is)
    (case k4 => k_is)
    (case a5 => k_is)
    (case l5 => k_is)
    (case c5 => k_is)
    (case k5 => k_is)
    (case a6 => k_is)
    (case l6 => k_is)
    (case c6 => k_is)
    (case k6 => k_is)
    (case a7 => k_is)
    (case l7 => k_is)
    (case c7 => k_is)
    (case k7 => k_is)
    (case a8 => k_is)
    (case l8 => k_is)
    (case c8 => k_is)
    (case k8 => k_is)
    (case a9 => k_is)
    (case l9 => k_is)
    (case c9 => k_is)
    (case k9 => k_is)
    (case a10 => k_is)
    (case l10 => k_is)
    (case c10 => k_is)
    (case k10 => k_is)
    (case a11 => k_is)
    (case l11 => k_is)
    (case c11 => k_is)
    (case k11 => k_is)
    (case a12 => k_is)
    (case l12 => k_is)
    (case c12 => k_is)
    (case k12 => k_is)
    (case a13 => k_is)
    (case l13 => k_is)
    (case c13 => k_is)
    (case k13 => k_is)
    (case a14 => k_is)
    (case l14 => k_is)
    (case c14 => k_is)
    (case k14 => k_is)
    (case a15 => k_is)
    (case l15 => k_is)
    (case c15 => k_is)
    (case k15 => k_is)
    (case a16 => k_is)
    (case l16 => k_is)
    (case c16 => k_is)
    (case k16 => k_is)
    (case a17 => k_is)
    (case l17 => k_is)
    (case c17 => k_is)
    (case k17 => k_is)
    (case a18 => k_is)
    (case l18 => k_is)
    (case c18 => k_is)
    (case k18 => k_is)
    (case a19 => k_is)
    (case l19 => k_is)
    (case c19 => k_is)
    (case k19 => k_is)
    (case a20 => k_is)
    (case l20 => k_is)
    (case c20 => k_is)
    (case k20 => k_is)
    (case a21 => k_is)
    (case l21 => k_is)
    (case c21 => k_is)
    (case k21 => k_is)
    (case a22 => k_is)
    (case l22 => k_is)
    (case c22 => k_is)
    (case k22 => k_is)
    (case a23 => k_is)
    (case l23 => k_is)
    (case c23 => k_is)
    (case k23 => k_is)
    (case a24 => k_is)
    (case l24 => k_is)
    (case c24 => k_is)
    (case k24 => k_is)
    (case a25 => k_is)
    (case l25 => k_is)
    (case c25 => k_is)
    (case k25 => k_is)
    (case a26 => k_is)
    (case l26 => k_is)
    (case c26 => k_is)
    (case k26 => k_is)
    (case a27 => k_is)
    (case l27 => k_is)
    (case c27 => k_is)
    (case k27 => k_is)
    (case a28 => k_is)
    (case l28 => k_is)
    (case c28 => k_is)
    (case k28 => k_is)
    (case nD => k_is)
    (case a29 => k_is)
    (case l29 => k_is)
    (case c29 => k_is)
    (case k29 => k_is)
    (case a30 => k_is)
    (case l30 => k_is)
    (case c30 => k_is)
    (case k30 => k_is)
    (case a31 => k_is)
    (case l31 => k_is)
    (case c31 => k_is)
    (case k31 => k_is)
    (case a32 => k_is)
    (case l32 => k_is)
    (case c32 => k_is)
    (case k32 => k_is)
    (case a33 => k_is)
    (case l33 => k_is)
    (case c33 => k_is)
    (case k33 => k_is)
    (case a34 => k_is)
    (case l34 => k_is)
    (case c34 => k_is)
    (case k34 => k_is)
    (case a35 => k_is)
    (case l35 => k_is)
    (case c35 => k_is)
    (case k35 => k_is)
    (case a36 => k_is)
    (case l36 => k_is)
    (case c36 => k_is)
    (case k36 => k_is)
    (case a37 => k_is)
    (case l37 => k_is)
    (case c37 => k_is)
    (case k37 => k_is)
    (case a38 => k_is)
    (case l38 => k_is)
    (case c38 => k_is)
    (case k38 => k_is)
    (case a39 => k_is)
    (case l39 => k_is)
    (case c39 => k_is)
    (case k39 => k_is)
    (case a40 => k_is)
    (case l40 => k_is)
    (case c40 => k_is)
    (case k40 => k_is)
    (case a41 => k_is)
    (case l41 => k_is)
    (case c41 => k_is)
    (case k41 => k_is)
    (case a42 => k_is)
    (case l42 => k_is)
    (case c42 => k_is)
    (case k42 => k_is)
    (case a43 => k_is)
    (case l43 => k_is)
    (case c43 => k_is)
    (case k43 => k_is)
    (case a44 => k_is)
    (case l44 => k_is)
    (case c44 => k_is)
    (case k44 => k_is)
    (case a45 => k_is)
    (case l45 => k_is)
    (case c45 => k_is)
    (case k45 => k_is)
    (case a46 => k_is)
    (case l46 => k_is)
    (case c46 => k_is)
    (case k46 => k_is)
    (case a47 => k_is)
    (case l47 => k_is)
    (case c47 => k_is)
    (case k47 => k_is)
    (case a48 => k_is)
    (case l48 => k_is)
    (case c48 => k_is)
    (case k48 => k_is)
    (case a49 => k_is)
    (case l49 => k_is)
    (case c49 => k_is)
    (case k49 => k_is)
    (case a50 => k_is)
    (case l50 => k_is)
    (case c50 => k_is)
    (case k50 => k_is)
    (case a51 => k_is)
    (case l51 => k_is)
    (case c51 => k_is)
    (case k51 => k_is)
    (case a52 => k_is)
    (case l52 => k_is)
    (case c52 => k_is)
    (case k52 => k_is)
    (case a53 => k_is)
    (case l53 => k_is)
    (case c53 => k_is)
    (case k53 => k_is)
    (case a54 => k_is)
    (case l54 => k_is)
    (case c54 => k_is)
    (case k54 => k_is)
    (case amchecked => k_is)
    (case imchecked => k_is)
    (case lmchecked => k_is)
    (case cmchecked => k_is)
    (case kmchecked => k_is)
    (case amwith_late => k_is)
    (case imwith_late => k_is)
    (case lmwith_late => k_is)
    (case cmwith_late => k_is)
    (case kmwith_late => k_is)
    (case ameq => k_is)
    (case imeq => k_is)
    (case lmeq => k_is)
    (case cmeq => k_is)
    (case kmeq => k_is)
    (case amiter => k_is)
    (case imiter => k_is)
    (case lmiter => k_is)
    (case cmiter => k_is)
    (case kmiter => k_is)
    (case amI => k_is)
    (case imI => k_is)
    (case lmI => k_is)
    (case cmI => k_is)
    (case kmI => k_is)
    (case lT => k_is)
    (case pg => k_is)
    (case hd => k_is)
    (case po => k_is)
    (case sa => k_is)
    (case mk => k_is)
    (case kc => k_is)
    (case n_size => k_is)
    (case n_entries => k_is)
    (case n_fast => k_is)
    (case n_slow => k_is)
    (case n_late => k_is)
    (case ic => k_is)
    (case ig => k_is)
    (case ik => k_is)
    (case im => k_is)
    (case z_len => k_is)
    (case z_range => k_is)
    (case z_min => k_is)
    (case z_max => k_is)
    (case z_abs => k_is)
    (case z_int => k_is)
    (case z_str => k_is)
    (case z_tuple => k_is)
    (case z_list => k_is)
    (case z_isinstance => k_is)
    (case z_reversed => k_is)
    (case z_all => k_is)
    (case z_sum => k_is)
    (case z_bool => k_is)
    (case z_iter => k_is)
    (case z_super => k_is)
    (case g_MOST => k_is)
    (case g_MOST_EVENTS => k_is)
    (case g_MOST_ENTRIES => k_is)
    (case g_MOST_RATE => k_is)
    (case g_MOST_LATE => k_is)
    (case aN => k_is)
    (case xN => k_is)
    (case rN => decide +kernel)
    (case sN => k_is)
    (case eN => k_is)
    (case tN => k_is)
    (case kN => k_is)
    (case uN => k_is)
    (case vN => k_is)
    (case hN => k_is)
    (case nN => k_is)
    (case wN => k_is)
    (case yN => k_is)
    (case iN => k_is)
    (case pN => k_is)
    (case lN => k_is)
    (case cN => k_is)
    (case dN => k_is)
    (case fN2 => rfl)
    (case gN => first | rfl | decide +kernel)
    (case oN => k_is)
    (case htop => first | rfl | decide +kernel)
    (case hop => k_is)
    (case hm => ks_is)
    (case hB => k_is)
    (case hCC => k_is)
