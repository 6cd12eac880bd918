import PyProof.Rows.All
import Wide.All
import OpenK.AllK
import Wide.FinOn
import HandS.ForMost
import HandS.Exc
import HandS.NoneIn
import HandS.Replace
import HandS.CallRecv
import HandS.Defaults
import HandS.Words
import HandS.WordsList
import HandS.WordsDict
import PySem.Challenge.RW_soundturns_k26_whole_one_behind_the_othe
import HandS.Head0
import HandS.Head1
import HandS.Head2
import HandS.HeadEnd
import HandS.HeadHook1
import HandS.HeadHook2
set_option Elab.async false
set_option linter.all false
/-! The plain mathematics of one machine behind another: no Python here. -/
namespace K26
abbrev Ent := List Nat × Nat
structure Row where
  last : List Nat
  ents : List Ent
structure Mach where
  k : Nat
  first : List Nat
  rows : List Row
def Mach.row (m : Mach) (s : Nat) : Row := m.rows.getD s ⟨[], []⟩
def Mach.ent (m : Mach) (s c : Nat) : Ent := (m.row s).ents.getD c ([], 0)
def walk (m : Mach) : Nat → List Nat → List Nat × Nat
  | s, [] => ([], s)
  | s, c :: w => ((m.ent s c).1 ++ (walk m (m.ent s c).2 w).1, (walk m (m.ent s c).2 w).2)
def form (m : Mach) (w : List Nat) : List Nat := m.first ++ (walk m 0 w).1 ++ (m.row (walk m 0 w).2).last
def Wd (k : Nat) (w : List Nat) : Prop := ∀ c ∈ w, c < k
theorem Wd.nil {k : Nat} : Wd k [] := fun _ h => nomatch h
theorem Wd.app {k : Nat} {u v : List Nat} (a : Wd k u) (b : Wd k v) : Wd k (u ++ v) := fun c h => (List.mem_append.mp h).elim (a c) (b c)
theorem Wd.at_ {k : Nat} {w : List Nat} {i c : Nat} (h : Wd k w) (e : w[i]? = some c) : c < k := h c (List.mem_of_getElem? e)
theorem Wd.one {k c : Nat} (h : c < k) : Wd k [c] := fun d hd => by
  have e : d = c := List.mem_singleton.mp hd
  omega
theorem Wd.mono {j k : Nat} {w : List Nat} (h : Wd j w) (l : j ≤ k) : Wd k w := fun c hc => Nat.lt_of_lt_of_le (h c hc) l
theorem Wd.take {k : Nat} {w : List Nat} (h : Wd k w) (i : Nat) : Wd k (w.take i) := fun c hc => h c (List.mem_of_mem_take hc)

structure RowOk (k n o l : Nat) (r : Row) : Prop where
  ll : r.last.length ≤ l
  lw : Wd k r.last
  en : r.ents.length = k
  ex : ∀ e ∈ r.ents, e.1.length ≤ o ∧ Wd k e.1 ∧ e.2 < n
structure Ok (m : Mach) (n o l f : Nat) : Prop where
  k2 : 2 ≤ m.k
  k6 : m.k ≤ 6
  pos : 1 ≤ m.rows.length
  le : m.rows.length ≤ n
  fl : m.first.length ≤ f
  fw : Wd m.k m.first
  row : ∀ r ∈ m.rows, RowOk m.k m.rows.length o l r
abbrev Wide (m : Mach) : Prop := Ok m 2000 60 60 60
theorem RowOk.mono {k n o l o' l' : Nat} {r : Row} (h : RowOk k n o l r) (ho : o ≤ o') (hl : l ≤ l') : RowOk k n o' l' r :=
  ⟨Nat.le_trans h.ll hl, h.lw, h.en, fun e he => ⟨Nat.le_trans (h.ex e he).1 ho, (h.ex e he).2⟩⟩
theorem Ok.mono {m : Mach} {n o l f n' o' l' f' : Nat} (h : Ok m n o l f) (hn : n ≤ n') (ho : o ≤ o') (hl : l ≤ l') (hf : f ≤ f') : Ok m n' o' l' f' :=
  ⟨h.k2, h.k6, h.pos, Nat.le_trans h.le hn, Nat.le_trans h.fl hf, h.fw, fun r hr => (h.row r hr).mono ho hl⟩
section
variable {m : Mach} {n o l f s c : Nat} {u v w : List Nat}
theorem row_at (h : s < m.rows.length) : m.rows[s]? = some (m.row s) := by
  unfold Mach.row
  rw [List.getD_eq_getElem?_getD, List.getElem?_eq_getElem h]
  rfl
theorem Ok.rowOk (h : Ok m n o l f) (hs : s < m.rows.length) : RowOk m.k m.rows.length o l (m.row s) := h.row _ (List.mem_of_getElem? (row_at hs))
theorem ent_at {r : Row} (h : c < r.ents.length) : r.ents[c]? = some (r.ents.getD c ([], 0)) := by
  rw [List.getD_eq_getElem?_getD, List.getElem?_eq_getElem h]
  rfl
theorem Ok.entAt (h : Ok m n o l f) (hs : s < m.rows.length) (hc : c < m.k) : (m.row s).ents[c]? = some (m.ent s c) :=
  ent_at (by rw [(h.rowOk hs).en]; exact hc)
theorem Ok.entOk (h : Ok m n o l f) (hs : s < m.rows.length) (hc : c < m.k) : (m.ent s c).1.length ≤ o ∧ Wd m.k (m.ent s c).1 ∧ (m.ent s c).2 < m.rows.length :=
  (h.rowOk hs).ex _ (List.mem_of_getElem? (h.entAt hs hc))
theorem walk_app : ∀ {s : Nat} {u v : List Nat}, walk m s (u ++ v) = ((walk m s u).1 ++ (walk m (walk m s u).2 v).1, (walk m (walk m s u).2 v).2)
  | s, [], v => rfl
  | s, c :: u, v => by
    show walk m s (c :: (u ++ v)) = _
    simp only [walk]
    rw [walk_app]
    simp only [List.append_assoc]
theorem walk_snoc : walk m s (w ++ [c]) = ((walk m s w).1 ++ (m.ent (walk m s w).2 c).1, (m.ent (walk m s w).2 c).2) := by
  rw [walk_app]
  simp only [walk, List.append_nil]
theorem take_snoc {w : List Nat} {i c : Nat} (h : w[i]? = some c) : w.take (i + 1) = w.take i ++ [c] := by
  rw [List.take_add_one, h]
  rfl
theorem walk_step {i : Nat} (h : w[i]? = some c) : walk m s (w.take (i + 1)) = ((walk m s (w.take i)).1 ++ (m.ent (walk m s (w.take i)).2 c).1, (m.ent (walk m s (w.take i)).2 c).2) := by
  rw [take_snoc h, walk_snoc]
theorem Ok.walk (h : Ok m n o l f) : ∀ {s : Nat} {w : List Nat}, s < m.rows.length → Wd m.k w → (K26.walk m s w).2 < m.rows.length ∧ Wd m.k (K26.walk m s w).1 ∧ (K26.walk m s w).1.length ≤ o * w.length
  | s, [], hs, _ => ⟨hs, Wd.nil, Nat.zero_le _⟩
  | s, c :: w, hs, hw => by
    obtain ⟨e1, e2, e3⟩ := h.entOk hs (hw c (List.mem_cons_self ..))
    obtain ⟨a, b, d⟩ := h.walk (w := w) e3 fun x hx => hw x (List.mem_cons_of_mem _ hx)
    refine ⟨a, e2.app b, ?_⟩
    show ((m.ent s c).1 ++ (K26.walk m (m.ent s c).2 w).1).length ≤ o * (w.length + 1)
    rw [List.length_append, Nat.mul_succ]
    omega
theorem Ok.formOk (h : Ok m n o l f) (hw : Wd m.k w) : Wd m.k (form m w) ∧ (form m w).length ≤ f + o * w.length + l := by
  obtain ⟨a, b, d⟩ := h.walk h.pos hw
  have r := h.rowOk a
  refine ⟨(h.fw.app b).app r.lw, ?_⟩
  unfold form
  rw [List.length_append, List.length_append]
  have := h.fl
  have := r.ll
  omega
end

/-! ### one behind the other -/
/-- the row of the pair p, the numbers told by P -/
structure JRow (A B : Mach) (P : List (Nat × Nat)) (p : Nat × Nat) (r : Row) : Prop where
  last : r.last = (walk B p.2 (A.row p.1).last).1 ++ (B.row (walk B p.2 (A.row p.1).last).2).last
  len : r.ents.length = A.k
  ent : ∀ c, c < A.k → ∃ j, r.ents[c]? = some ((walk B p.2 (A.ent p.1 c).1).1, j) ∧ P[j]? = some ((A.ent p.1 c).2, (walk B p.2 (A.ent p.1 c).1).2)
theorem get_app {α : Type} {P Q : List α} {i : Nat} {x : α} (h : P[i]? = some x) : (P ++ Q)[i]? = some x := by
  have hl := (List.getElem?_eq_some_iff.mp h).1
  rw [List.getElem?_append_left hl]
  exact h
theorem JRow.more {A B : Mach} {P Q : List (Nat × Nat)} {p : Nat × Nat} {r : Row} (h : JRow A B P p r) : JRow A B (P ++ Q) p r :=
  ⟨h.last, h.len, fun c hc => let ⟨j, e1, e2⟩ := h.ent c hc; ⟨j, e1, get_app e2⟩⟩
structure Joins (A B J : Mach) (P : List (Nat × Nat)) : Prop where
  k : J.k = A.k
  first : J.first = B.first ++ (walk B 0 A.first).1
  len : J.rows.length = P.length
  p0 : P[0]? = some (0, (walk B 0 A.first).2)
  nd : P.Nodup
  bnd : ∀ p ∈ P, p.1 < A.rows.length ∧ p.2 < B.rows.length
  row : ∀ (i : Nat) (p : Nat × Nat), P[i]? = some p → ∃ r, J.rows[i]? = some r ∧ JRow A B P p r

theorem nodup_lt : ∀ (n : Nat) (l : List Nat), l.Nodup → (∀ x ∈ l, x < n) → l.length ≤ n
  | 0, l, _, h => by
    cases l with
    | nil => exact Nat.le_refl _
    | cons a r => exact absurd (h a (List.mem_cons_self ..)) (Nat.not_lt_zero _)
  | n + 1, l, nd, h => by
    have q := nodup_lt n (l.erase n) (nd.erase n) fun x hx => by
      obtain ⟨h1, h2⟩ := nd.mem_erase_iff.mp hx
      have := h x h2
      omega
    by_cases hm : n ∈ l
    · rw [List.length_erase_of_mem hm] at q
      omega
    · rw [List.erase_of_not_mem hm] at q
      omega
theorem pair_code {a b c d m : Nat} (hb : b < m) (hd : d < m) (h : a * m + b = c * m + d) : a = c ∧ b = d := by
  have hm : 0 < m := Nat.lt_of_le_of_lt (Nat.zero_le _) hb
  have e1 : (a * m + b) / m = a := by
    rw [Nat.mul_comm, Nat.mul_add_div hm, Nat.div_eq_of_lt hb]
    omega
  have e2 : (c * m + d) / m = c := by
    rw [Nat.mul_comm, Nat.mul_add_div hm, Nat.div_eq_of_lt hd]
    omega
  have e : a = c := by rw [← e1, ← e2, h]
  subst e
  exact ⟨rfl, by omega⟩
theorem nodup_map {α β : Type} (f : α → β) : ∀ {l : List α}, l.Nodup → (∀ x ∈ l, ∀ y ∈ l, f x = f y → x = y) → (l.map f).Nodup
  | [], _, _ => List.nodup_nil
  | a :: r, h, hf => by
    obtain ⟨h1, h2⟩ := List.nodup_cons.mp h
    refine List.nodup_cons.mpr ⟨fun hm => ?_, nodup_map f h2 fun x hx y hy => hf x (List.mem_cons_of_mem _ hx) y (List.mem_cons_of_mem _ hy)⟩
    obtain ⟨b, hb, e⟩ := List.mem_map.mp hm
    have := hf b (List.mem_cons_of_mem _ hb) a (List.mem_cons_self ..) e
    subst this
    exact h1 hb
theorem pairs_le {n m : Nat} {P : List (Nat × Nat)} (nd : P.Nodup) (h : ∀ p ∈ P, p.1 < n ∧ p.2 < m) : P.length ≤ n * m := by
  have q := nodup_lt (n * m) (P.map fun p => p.1 * m + p.2) (nodup_map _ nd fun x hx y hy e => ?_) fun z hz => ?_
  · rw [List.length_map] at q
    exact q
  · obtain ⟨e1, e2⟩ := pair_code (h x hx).2 (h y hy).2 e
    exact Prod.ext e1 e2
  · obtain ⟨p, hp, e⟩ := List.mem_map.mp hz
    obtain ⟨h1, h2⟩ := h p hp
    rw [← e]
    have : (p.1 + 1) * m ≤ n * m := Nat.mul_le_mul_right m h1
    rw [Nat.succ_mul] at this
    show p.1 * m + p.2 < n * m
    omega
section
variable {A B J : Mach} {P : List (Nat × Nat)} {nA oA lA fA nB oB lB fB : Nat}
theorem getD_row {i : Nat} {r : Row} (h : J.rows[i]? = some r) : J.row i = r := by
  unfold Mach.row
  rw [List.getD_eq_getElem?_getD, h]
  rfl
theorem getD_ent {i c : Nat} {e : Ent} (h : (J.row i).ents[c]? = some e) : J.ent i c = e := by
  unfold Mach.ent
  rw [List.getD_eq_getElem?_getD, h]
  rfl
theorem Joins.at_ (j : Joins A B J P) {i : Nat} {p : Nat × Nat} (h : P[i]? = some p) : JRow A B P p (J.row i) := by
  obtain ⟨r, e, q⟩ := j.row i p h
  rw [getD_row e]
  exact q
theorem Joins.walk (j : Joins A B J P) (hA : Ok A nA oA lA fA) (hB : Ok B nB oB lB fB) (ek : A.k = B.k) : ∀ {w : List Nat} {i : Nat} {p : Nat × Nat}, P[i]? = some p → Wd A.k w →
    (K26.walk J i w).1 = (K26.walk B p.2 (K26.walk A p.1 w).1).1 ∧ P[(K26.walk J i w).2]? = some ((K26.walk A p.1 w).2, (K26.walk B p.2 (K26.walk A p.1 w).1).2)
  | [], i, p, h, _ => ⟨rfl, h⟩
  | c :: w, i, p, h, hw => by
    obtain ⟨hp1, hp2⟩ := j.bnd p (List.mem_of_getElem? h)
    obtain ⟨x, e1, e2⟩ := (j.at_ h).ent c (hw c (List.mem_cons_self ..))
    have ee := getD_ent e1
    obtain ⟨q1, q2⟩ := j.walk hA hB ek (w := w) e2 fun y hy => hw y (List.mem_cons_of_mem _ hy)
    simp only [K26.walk, ee, walk_app]
    exact ⟨by rw [q1], q2⟩
theorem Joins.form (j : Joins A B J P) (hA : Ok A nA oA lA fA) (hB : Ok B nB oB lB fB) (ek : A.k = B.k) {w : List Nat} (hw : Wd A.k w) : K26.form J w = K26.form B (K26.form A w) := by
  obtain ⟨q1, q2⟩ := j.walk hA hB ek j.p0 hw
  have r := (j.at_ q2).last
  unfold K26.form
  rw [r, q1, j.first]
  simp only [walk_app, List.append_assoc]
theorem Joins.ok (j : Joins A B J P) (hA : Ok A nA oA lA fA) (hB : Ok B nB oB lB fB) (ek : A.k = B.k) : Ok J (nA * nB) (oB * oA) (oB * lA + lB) (fB + oB * fA) := by
  have wf := hB.walk hB.pos (ek ▸ hA.fw)
  refine ⟨by rw [j.k]; exact hA.k2, by rw [j.k]; exact hA.k6, ?_, ?_, ?_, ?_, fun r hr => ?_⟩
  · rw [j.len]
    exact (List.getElem?_eq_some_iff.mp j.p0).1
  · rw [j.len]
    exact Nat.le_trans (pairs_le j.nd j.bnd) (Nat.mul_le_mul hA.le hB.le)
  · rw [j.first, List.length_append]
    have h1 := hB.fl
    have h2 := wf.2.2
    have h3 := Nat.mul_le_mul_left oB hA.fl
    omega
  · rw [j.first, j.k]
    exact (ek ▸ hB.fw).app (ek ▸ wf.2.1)
  · obtain ⟨i, hi⟩ := List.getElem?_of_mem hr
    have hl : i < P.length := by
      rw [← j.len]
      exact (List.getElem?_eq_some_iff.mp hi).1
    obtain ⟨r', e, q⟩ := j.row i P[i] (List.getElem?_eq_getElem hl)
    rw [hi] at e
    cases e
    obtain ⟨b1, b2⟩ := j.bnd P[i] (List.getElem_mem hl)
    have ra := hA.rowOk b1
    have wl := hB.walk b2 (ek ▸ ra.lw)
    have rb := hB.rowOk wl.1
    refine ⟨?_, ?_, ?_, fun e he => ?_⟩
    · rw [q.last, List.length_append]
      have h1 := wl.2.2
      have h2 := rb.ll
      have h3 := Nat.mul_le_mul_left oB ra.ll
      omega
    · rw [q.last, j.k]
      exact (ek ▸ wl.2.1).app (ek ▸ rb.lw)
    · rw [q.len, j.k]
    · obtain ⟨c, hc⟩ := List.getElem?_of_mem he
      have hcl : c < A.k := by
        rw [← q.len]
        exact (List.getElem?_eq_some_iff.mp hc).1
      obtain ⟨x, e1, e2⟩ := q.ent c hcl
      rw [hc] at e1
      cases e1
      obtain ⟨a1, a2, a3⟩ := hA.entOk b1 hcl
      have we := hB.walk b2 (ek ▸ a2)
      refine ⟨Nat.le_trans we.2.2 (Nat.mul_le_mul_left oB a1), by rw [j.k]; exact (ek ▸ we.2.1), ?_⟩
      rw [j.len]
      exact (List.getElem?_eq_some_iff.mp e2).1
end
/-- the still machine -/
def calm (k : Nat) : Mach := ⟨k, [], [⟨[], (List.range k).map fun c => ([c], 0)⟩]⟩
theorem calm_ent {k c : Nat} (h : c < k) : (calm k).ent 0 c = ([c], 0) := by
  show ((List.range k).map fun c => (([c], 0) : Ent)).getD c ([], 0) = _
  rw [List.getD_eq_getElem?_getD, List.getElem?_map, List.getElem?_range h]
  rfl
theorem calm_walk {k : Nat} : ∀ {w : List Nat}, Wd k w → walk (calm k) 0 w = (w, 0)
  | [], _ => rfl
  | c :: w, h => by
    simp only [walk, calm_ent (h c (List.mem_cons_self ..)), calm_walk fun x hx => h x (List.mem_cons_of_mem _ hx)]
    rfl
theorem calm_form {k : Nat} {w : List Nat} (h : Wd k w) : form (calm k) w = w := by
  unfold form
  rw [calm_walk h]
  show [] ++ w ++ [] = w
  rw [List.nil_append, List.append_nil]
theorem calm_ok {k : Nat} (h2 : 2 ≤ k) (h6 : k ≤ 6) : Ok (calm k) 1 1 0 0 := by
  refine ⟨h2, h6, Nat.le_refl _, Nat.le_refl _, Nat.le_refl _, Wd.nil, fun r hr => ?_⟩
  have e : r = ⟨[], (List.range k).map fun c => ([c], 0)⟩ := List.mem_singleton.mp hr
  subst e
  refine ⟨Nat.le_refl _, Wd.nil, by simp [calm], fun e he => ?_⟩
  obtain ⟨c, hc, e⟩ := List.mem_map.mp he
  subst e
  exact ⟨Nat.le_refl _, Wd.one (List.mem_range.mp hc), Nat.zero_lt_one⟩
end K26

set_option Elab.async false
set_option linter.all false
set_option maxRecDepth 100000
/-! Short words over the layer: texts, machines in the heap, walks over a text. -/
namespace K26
open PySem PySem.Spec PyProof.Rows L2

/-! ### texts -/
def tx (w : List Nat) : Str := ⟨(w.map (97 + ·)).toArray⟩
abbrev vS (w : List Nat) : V := .str (tx w)
theorem tx_len (w : List Nat) : (tx w).length = w.length := by
  show ((w.map (97 + ·)).toArray).size = _
  rw [List.size_toArray, List.length_map]
theorem tx_app (u v : List Nat) : tx u ++ tx v = tx (u ++ v) := by
  apply TL.ext_tl
  rw [TL.tl_append]
  show u.map (97 + ·) ++ v.map (97 + ·) = (u ++ v).map (97 + ·)
  rw [List.map_append]
theorem tx_at {w : List Nat} {i c : Nat} (h : (tx w).cps[i]? = some c) : ∃ d, w[i]? = some d ∧ c = 97 + d := by
  have h2 : ((w.map (97 + ·)).toArray)[i]? = some c := h
  rw [List.getElem?_toArray, List.getElem?_map] at h2
  cases e : w[i]? with
  | none =>
    rw [e] at h2
    cases h2
  | some d =>
    rw [e] at h2
    exact ⟨d, rfl, (Option.some.inj h2).symm⟩
theorem tx_one (c : Nat) : (⟨#[97 + c]⟩ : Str) = tx [c] := rfl
theorem letters_eq : ("abcdef" : Str) = tx [0, 1, 2, 3, 4, 5] := by decide +kernel
theorem empty_eq : ("" : Str) = tx [] := by decide +kernel
theorem joined (ps : List (List Nat)) : Txt.join "" (ps.map tx) = tx ps.flatten := by
  rw [TL.join_eq]
  apply TL.ext_tl
  rw [TL.tl_join, empty_eq]
  show TL.joinL [] _ = _
  induction ps with
  | nil => rfl
  | cons a r ih =>
    cases r with
    | nil =>
      show a.map (97 + ·) = ((a :: []).flatten).map (97 + ·)
      simp
    | cons b r =>
      show a.map (97 + ·) ++ ([] ++ TL.joinL [] (((b :: r).map tx).map TL.tl)) = (a ++ (b :: r).flatten).map (97 + ·)
      rw [ih, List.nil_append, List.map_append]
      rfl
/-- the index of a letter -/
theorem letter_index {c : Nat} (h : c < 6) : ∃ rest, Builtin.Str.occurrences "abcdef" (tx [c]) 0 ("abcdef" : Str).length 1 = c :: rest := by
  have all : ∀ c : Fin 6, Builtin.Str.occurrences "abcdef" (tx [c.val]) 0 ("abcdef" : Str).length 1 = [c.val] := by decide +kernel
  exact ⟨[], all ⟨c, h⟩⟩
theorem letter_in {k c : Nat} (hk : k ≤ 6) (h : c < k) : decide (97 + c ∈ (cutS "abcdef" none (some (k : Int))).cps.toList) = true := by
  have all : ∀ k : Fin 7, ∀ c : Fin 6, c.val < k.val → decide (97 + c.val ∈ (cutS "abcdef" none (some (k.val : Int))).cps.toList) = true := by decide +kernel
  exact all ⟨k, by omega⟩ ⟨c, by omega⟩ h
theorem cut_letters {k : Nat} (hk : k ≤ 6) : cutS "abcdef" none (some (k : Int)) = tx (List.range k) := by
  have all : ∀ k : Fin 7, cutS "abcdef" none (some (k.val : Int)) = tx (List.range k.val) := by decide +kernel
  exact all ⟨k, by omega⟩
theorem letter_at {c : Nat} (h : c < 6) : ("abcdef" : Str).cps[c]? = some (97 + c) := by
  have all : ∀ c : Fin 6, ("abcdef" : Str).cps[c.val]? = some (97 + c.val) := by decide +kernel
  exact all ⟨c, h⟩

/-! ### machines in the heap -/
def All2 {α : Type} (R : V → α → Prop) (vs : List V) (xs : List α) : Prop := vs.length = xs.length ∧ ∀ (i : Nat) (x : α), xs[i]? = some x → ∃ v, vs[i]? = some v ∧ R v x
theorem All2.imp {α : Type} {R R' : V → α → Prop} {vs : List V} {xs : List α} (h : All2 R vs xs) (f : ∀ v x, R v x → R' v x) : All2 R' vs xs :=
  ⟨h.1, fun i x e => let ⟨v, e1, r⟩ := h.2 i x e; ⟨v, e1, f v x r⟩⟩
theorem All2.nil {α : Type} {R : V → α → Prop} : All2 R [] [] := ⟨rfl, fun i x e => by simp at e⟩
theorem All2.snoc {α : Type} {R : V → α → Prop} {vs : List V} {xs : List α} {v : V} {x : α} (h : All2 R vs xs) (r : R v x) : All2 R (vs ++ [v]) (xs ++ [x]) := by
  refine ⟨by rw [List.length_append, List.length_append, h.1]; rfl, fun i y e => ?_⟩
  by_cases hi : i < xs.length
  · rw [List.getElem?_append_left hi] at e
    obtain ⟨u, e1, r1⟩ := h.2 i y e
    exact ⟨u, get_app e1, r1⟩
  · rw [List.getElem?_append_right (by omega)] at e
    have hi0 : i - xs.length = 0 := by
      have := (List.getElem?_eq_some_iff.mp e).1
      simp at this
      omega
    rw [hi0] at e
    cases e
    refine ⟨v, ?_, r⟩
    rw [List.getElem?_append_right (by have := h.1; omega), show i - vs.length = 0 from by have := h.1; omega]
    rfl
theorem All2.at_ {α : Type} {R : V → α → Prop} {vs : List V} {xs : List α} {i : Nat} {v : V} (h : All2 R vs xs) (e : vs[i]? = some v) : ∃ x, xs[i]? = some x ∧ R v x := by
  have hl : i < xs.length := by
    rw [← h.1]
    exact (List.getElem?_eq_some_iff.mp e).1
  obtain ⟨u, e1, r⟩ := h.2 i xs[i] (List.getElem?_eq_getElem hl)
  rw [e] at e1
  cases e1
  exact ⟨_, List.getElem?_eq_getElem hl, r⟩
def EntAt (H : Hp) (v : V) (e : Ent) : Prop := ∃ p, v = .ref p ∧ H p = some (.tup [vS e.1, .int (e.2 : Int)])
def RowAt (H : Hp) (v : V) (r : Row) : Prop := ∃ p q es, v = .ref p ∧ H p = some (.tup [vS r.last, .ref q]) ∧ H q = some (.tup es) ∧ All2 (EntAt H) es r.ents
def MachAt (H : Hp) (v : V) (m : Mach) : Prop := ∃ p q rs, v = .ref p ∧ H p = some (.tup [.int (m.k : Int), vS m.first, .ref q]) ∧ H q = some (.tup rs) ∧ All2 (RowAt H) rs m.rows
/-- all tuples stay -/
def Tups (H H' : Hp) : Prop := ∀ b xs, H b = some (.tup xs) → H' b = some (.tup xs)
theorem Tups.refl {H : Hp} : Tups H H := fun _ _ h => h
theorem Tups.trans {H H1 H2 : Hp} (a : Tups H H1) (b : Tups H1 H2) : Tups H H2 := fun c xs e => b c xs (a c xs e)
theorem Tups.new {H : Hp} {p : Addr} {o : HO} (h : H p = none) : Tups H (upd H p o) := fun b xs e => by
  rw [upd_ne (ne_of_none e h)]
  exact e
theorem EntAt.keep {H H' : Hp} {v : V} {e : Ent} (h : EntAt H v e) (k : Tups H H') : EntAt H' v e := let ⟨p, a, b⟩ := h; ⟨p, a, k _ _ b⟩
theorem RowAt.keep {H H' : Hp} {v : V} {r : Row} (h : RowAt H v r) (k : Tups H H') : RowAt H' v r :=
  let ⟨p, q, es, a, b, c, d⟩ := h; ⟨p, q, es, a, k _ _ b, k _ _ c, d.imp fun _ _ x => x.keep k⟩
theorem MachAt.keep {H H' : Hp} {v : V} {m : Mach} (h : MachAt H v m) (k : Tups H H') : MachAt H' v m :=
  let ⟨p, q, rs, a, b, c, d⟩ := h; ⟨p, q, rs, a, k _ _ b, k _ _ c, d.imp fun _ _ x => x.keep k⟩

/-! ### heaps that grow -/
theorem same_new {H : Hp} {p : Addr} {o : HO} (h : H p = none) : Same H (upd H p o) := fun b u e => by
  rw [upd_ne (ne_of_none e h)]
  exact e
theorem tups_same {H H' : Hp} (s : Same H H') : Tups H H' := fun b xs e => s b _ e
/-- what was new behind H may be changed -/
theorem same_upd {H H' : Hp} {p : Addr} {o : HO} (s : Same H H') (h : H p = none) : Same H (upd H' p o) := fun b u e => by
  rw [upd_ne (ne_of_none e h)]
  exact s b u e
/-- all but the object at d stays -/
def But (d : Addr) (H H' : Hp) : Prop := ∀ b o, b ≠ d → H b = some o → H' b = some o
theorem But.refl {d : Addr} {H : Hp} : But d H H := fun _ _ _ h => h
theorem But.trans {d : Addr} {H H1 H2 : Hp} (a : But d H H1) (b : But d H1 H2) : But d H H2 := fun c o n e => b c o n (a c o n e)
theorem But.of {d : Addr} {H H' : Hp} (s : Same H H') : But d H H' := fun b o _ e => s b o e
theorem But.upd {d : Addr} {H H' : Hp} {o : HO} (s : But d H H') : But d H (upd H' d o) := fun b u n e => by
  rw [upd_ne n]
  exact s b u n e
theorem But.new {d p : Addr} {H H' : Hp} {o : HO} (s : But d H H') (h : H' p = none) : But d H (L2.upd H' p o) := fun b u n e => by
  rw [upd_ne (ne_of_none (s b u n e) h)]
  exact s b u n e
theorem But.tups {d : Addr} {H H' : Hp} {xs : List V} (s : But d H H') (h : H d = some (.lst xs)) : Tups H H' := fun b ys e =>
  s b _ (fun q => by
    rw [q, h] at e
    cases e) e

/-! ### walks over a text -/
section
variable {w : List Nat}
theorem its_yld {i : Nat} {H H' : Hp} {v : V} (h : (Its (tx w)).yld i H v H') : H' = H ∧ ∃ c, w[i]? = some c ∧ v = vS [c] := by
  obtain ⟨e, c, ec, ev⟩ := h
  obtain ⟨d, e1, e2⟩ := tx_at ec
  subst e2
  exact ⟨e, d, e1, ev⟩
theorem tx_size : (tx w).cps.size = w.length := tx_len w
theorem for_tx {g : TG} {tb : TS} {D : Ends} {σ : L2.St} {H : Hp} (Pv : Nat → L2.St → Hp → Prop) (h0 : Pv 0 σ H)
    (hs : ∀ i c σ H, w[i]? = some c → Pv i σ H → g (vS [c]) σ H fun σ2 H2 => tb { D with nx := Pv (i + 1), ct := Pv (i + 1), bk := D.nx } σ2 H2) (hd : ∀ σ H, Pv w.length σ H → D.nx σ H) :
    ∃ W : Nat → Nat → L2.St → Hp → Prop, (∃ m, W 0 m σ H) ∧ ∀ i m σ H, W i m σ H →
      ((Its (tx w)).stop i H ∧ D.nx σ H) ∨ ((Its (tx w)).go i H ∧ ∃ N : L2.St → Hp → Prop, (∀ σ' H', N σ' H' → ∃ m', m' < m ∧ W (i + 1) m' σ' H') ∧ ∀ x H', (Its (tx w)).yld i H x H' → g x σ H' fun σ2 H2 => tb { D with nx := N, ct := N, bk := D.nx } σ2 H2) := by
  refine ⟨fun i m σ H => m = w.length - i ∧ i ≤ w.length ∧ Pv i σ H, ⟨w.length, by simp, Nat.zero_le _, h0⟩, ?_⟩
  rintro i m σ H ⟨rfl, hi, p⟩
  by_cases hlt : i < w.length
  · refine .inr ⟨show i < (tx w).cps.size by rw [tx_size]; exact hlt, Pv (i + 1), fun σ' H' p' => ⟨w.length - (i + 1), by omega, rfl, hlt, p'⟩, fun x H' y => ?_⟩
    obtain ⟨e, c, e1, ev⟩ := its_yld y
    subst e ev
    exact hs i c σ _ e1 p
  · have e : i = w.length := by omega
    subst e
    exact .inl ⟨show (tx w).cps.size ≤ w.length by rw [tx_size]; exact Nat.le_refl _, hd σ H p⟩
theorem lc_tx {g : TG} {tt : TT} {te : TE} {vs : List Nat} {σ : L2.St} {H1 : Hp} {D : Addr} {Qd : Hp → Prop} (Pv : Nat → Hp → Prop) (h0 : Pv 0 (upd H1 D (.lst [])))
    (hs : ∀ i c H, w[i]? = some c → Pv i H → g (vS [c]) (wipe σ vs) H fun σ2 H2 => wipe σ2 vs = wipe σ vs ∧ tt σ2 H2 fun b H3 =>
      if b = true then te σ2 H3 fun y H4 => ∃ acc, H4 D = some (.lst acc) ∧ acc.length < sizeLine ∧ Pv (i + 1) (upd H4 D (.lst (acc ++ [y]))) else Pv (i + 1) H3) (hd : ∀ H, Pv w.length H → Qd H) :
    ∃ W : Nat → Nat → Hp → Prop, (∃ m, W 0 m (upd H1 D (.lst []))) ∧ ∀ i m H, W i m H →
      ((Its (tx w)).stop i H ∧ Qd H) ∨ ((Its (tx w)).go i H ∧ ∃ Nx : Hp → Prop, (∀ H', Nx H' → ∃ m', m' < m ∧ W (i + 1) m' H') ∧ ∀ x H', (Its (tx w)).yld i H x H' → g x (wipe σ vs) H' fun σ2 H2 => wipe σ2 vs = wipe σ vs ∧ tt σ2 H2 fun b H3 =>
        if b = true then te σ2 H3 fun y H4 => ∃ acc, H4 D = some (.lst acc) ∧ acc.length < sizeLine ∧ Nx (upd H4 D (.lst (acc ++ [y]))) else Nx H3) := by
  refine ⟨fun i m H => m = w.length - i ∧ i ≤ w.length ∧ Pv i H, ⟨w.length, by simp, Nat.zero_le _, h0⟩, ?_⟩
  rintro i m H ⟨rfl, hi, p⟩
  by_cases hlt : i < w.length
  · refine .inr ⟨show i < (tx w).cps.size by rw [tx_size]; exact hlt, Pv (i + 1), fun H' p' => ⟨w.length - (i + 1), by omega, rfl, hlt, p'⟩, fun x H' y => ?_⟩
    obtain ⟨e, c, e1, ev⟩ := its_yld y
    subst e ev
    exact hs i c _ e1 p
  · have e : i = w.length := by omega
    subst e
    exact .inl ⟨show (tx w).cps.size ≤ w.length by rw [tx_size]; exact Nat.le_refl _, hd H p⟩
end

/-! ### the text of the program by places -/
def top (i : Nat) : Stmt := PySem.Challenge.pw_soundturns_k26_whole_one_behind_the_othe.main.body.getD i (.Pass ⟨0, 0, 0, 0⟩)
abbrev FnP (K : PySem.W.Frag) (x q : Str) (st : Stmt) (f : Addr) (fd : FuncData) : Prop := FunD K x q (defArgs st) (defBody st) (defScope st) [] [] f fd
end K26

set_option Elab.async false
set_option linter.all false
set_option maxRecDepth 100000
set_option maxHeartbeats 4000000
namespace K26
open PySem PySem.Spec L2

/-! ### what the module's names hold -/
structure Txt (mg : Str → Option Value) : Prop where
  len : mg "len" = none
  all : mg "all" = none
  tuple : mg "tuple" = none
  range : mg "range" = none
  int : mg "int" = none
  max : mg "max" = none
  letters : ∃ t, mg "LETTERS" = some (.str "abcdef" t)
  longest : ∃ t, mg "LONGEST" = some (.int 60 t)
  mostL : ∃ t, mg "MOST_LETTERS" = some (.int 60 t)
  mostW : ∃ t, mg "MOST_WIDE" = some (.int 2000 t)
/-- a def that keeps its promise, by its name -/
def Cal (P : Program) (w : World) (K : PySem.W.Frag) (mg : Str → Option Value) (base : Heap) (x : Str) (k : Nat) (ps : List Str) (sp : Sp) : Prop :=
  ∃ f fd, FnOk P w K mg base CX0 k f fd ps sp ∧ mg x = some (.ref f) ∧ PySem.W.keepIn K (.ref f) = true ∧ Binds K fd ps []
theorem pe_cal {X : Cx} {x : Str} {k j : Nat} {ps : List Str} {sp : Sp} {p pos : Pos} {e : Expr} {es : List Expr} {t : TA} (C : Cal X.prog X.w X.K X.mg X.base x k ps sp) (hr : Room j X.A) (hg : Gl X x) (ha : PA X (e :: es) t) (hj : k ≤ j := by decide)
    (hdb : (x == ("__debug__" : Str)) = false := by decide) (he : starEach (e :: es) X.env = (false, eval e X.env) :: starEach es X.env := by rfl) (hpl : (backTo pos (starEach es X.env)).any (·.1) = false := by rfl) :
    PE X (.Call (.Name x p) (e :: es) [] pos) (tCall sp [] E0 t) := by
  obtain ⟨f, fd, F, hm, hk, hb⟩ := C
  exact pe_call F (hr.mono hj) hg hm hk hb .nil pass0 ha hdb he hpl
theorem iteD {c A B : Prop} [Decidable c] (hc : c) (h : A) : if decide c = true then A else B := by
  rw [decide_eq_true hc]
  exact iteT h
theorem iteND {c A B : Prop} [Decidable c] (hc : ¬ c) (h : B) : if decide c = true then A else B := by
  rw [decide_eq_false hc]
  exact iteF h
theorem line_ge {n : Nat} (h : n ≤ 100000) : n ≤ sizeLine := Nat.le_trans h (by decide)
theorem line_gt {n : Nat} (h : n ≤ 100000) : n < sizeLine := Nat.lt_of_le_of_lt h (by decide)
theorem six_line : ("abcdef" : Str).length ≤ sizeLine := by decide +kernel
theorem six_len : ("abcdef" : Str).length = 6 := by decide +kernel
/-- so many True -/
def trues (n : Nat) : List V := (List.replicate n true).map V.bl
theorem trues_len (n : Nat) : (trues n).length = n := by simp [trues]
theorem trues_snoc (n : Nat) : trues n ++ [.bl true] = trues (n + 1) := by
  show (List.replicate n true).map V.bl ++ [true].map V.bl = _
  rw [← List.map_append, ← List.replicate_succ']
  rfl
theorem all_trues (n : Nat) : (List.replicate n true).all id = true := by simp

/-! ### promises -/
def spSize : Sp := fun vs H Q _ => ∃ k : Nat, vs = [.int k] ∧ 2 ≤ k ∧ k ≤ 6 ∧ Q .non H
def spHas : Sp := fun vs H Q _ => ∃ (k : Nat) (w : List Nat), vs = [.int k, vS w] ∧ k ≤ 6 ∧ Wd k w ∧ w.length ≤ 60 ∧ ∀ H', Same H H' → Q (.bl true) H'
def spWord : Sp := fun vs H Q _ => ∃ (k : Nat) (w : List Nat), vs = [.int k, vS w] ∧ 2 ≤ k ∧ k ≤ 6 ∧ Wd k w ∧ w.length ≤ 60 ∧ ∀ H', Same H H' → Q (.bl true) H'
def spCheckWord : Sp := fun vs H Q _ => ∃ (k : Nat) (w : List Nat), vs = [.int k, vS w] ∧ 2 ≤ k ∧ k ≤ 6 ∧ Wd k w ∧ w.length ≤ 60 ∧ ∀ H', Same H H' → Q .non H'
section
variable {P : Program} {w : World} {K : PySem.W.Frag} {mg : Str → Option Value} {base : Heap} {f : Addr} {fd : FuncData}

theorem sc_size : FnScope ["k"] ["k"] (defScope (top 9)) := ⟨rfl, rfl, rfl, by decide +kernel, rfl, by decide +kernel, by decide +kernel⟩
theorem ok_size (F : FnP K "check_size" "check_size" (top 9) f fd) (g : mg "check_size" = some (.ref f)) (T : Txt mg) : Cal P w K mg base "check_size" 1 ["k"] spSize := by
  refine ⟨f, fd, F.ok sc_size (fun vs H Q E h => ?_) (fun cdv A outer s H vs Q E hr h => ?_), g, F.kp, F.bindsN fun _ _ _ _ _ _ us hl => match us, hl with | [_], _ => rfl⟩
  · obtain ⟨k, rfl, _⟩ := h
    rfl
  · obtain ⟨k, rfl, h2, h6, q⟩ := h
    obtain ⟨tl, hl⟩ := T.letters
    refine ⟨_, PSs.nox (pss_one (ps_if (pt_not (pt_chain op_le op_le pe_int (pv 0) (pe_callB call_len_str (by rfl) T.len PySem.boot_len (pa_cons (pe_glob (v := .str "abcdef") rfl hl ⟨_, rfl⟩) pa_nil)))) pss_never pss_nil)), ?_⟩
    refine ⟨_, rfl, _, _, rfl, rfl, _, rfl, iteD (by omega) ?_⟩
    refine ⟨_, rfl, six_line, _, _, rfl, rfl, _, rfl, ?_⟩
    rw [six_len]
    exact iteNS (by omega) q
theorem sc_has : FnScope ["k", "word", "letter"] ["k", "word"] (defScope (top 10)) := ⟨rfl, rfl, rfl, by decide +kernel, rfl, by decide +kernel, by decide +kernel⟩
theorem ok_has (F : FnP K "has_letters" "has_letters" (top 10) f fd) (g : mg "has_letters" = some (.ref f)) (T : Txt mg) : Cal P w K mg base "has_letters" 1 ["k", "word"] spHas := by
  refine ⟨f, fd, F.ok sc_has (fun vs H Q E h => ?_) (fun cdv A outer s H vs Q E hr h => ?_), g, F.kp, F.bindsN fun _ _ _ _ _ _ us hl => match us, hl with | [_, _], _ => rfl⟩
  · obtain ⟨k, w, rfl, _⟩ := h
    rfl
  · obtain ⟨k, w, rfl, h6, hw, hz, q⟩ := h
    obtain ⟨tl, hl⟩ := T.letters
    refine ⟨_, PSs.nox (pss_one (ps_ret (pe_callB (cr_all rfl) (by rfl) T.all PyProof.Rows.boot_all (pa_cons
      (pe_lc (own := [("letter", 2)]) (g := gName 2) (tt := tYes) rfl sc_has.nd (pi_str (pv 1)) (blkOk_by (own := [("letter", 2)]) (N := ["k", "word", "letter"]) (sc := defScope (top 10)) (by decide +kernel))
        (fun _ _ _ _ _ => pg_name (i := 2) sc_has.nd rfl (Or.inl rfl)) (fun _ _ _ _ _ => pts_nil)
        (fun _ _ _ _ _ => pe_cmpR op_in_sign (pv 2) (pe_slice sl_str (pe_glob (v := .str "abcdef") rfl hl ⟨_, rfl⟩) po_none (po_some (pv 0))) rfl)) pa_nil)))), ?_⟩
    refine ⟨_, rfl, _, rfl, fun D hD => lc_tx (w := w) (fun i H' => H' = upd H D (.lst (trues i))) rfl ?_ ?_⟩
    · rintro i c H' hc rfl
      refine ⟨rfl, ?_⟩
      refine ⟨_, rfl, _, rfl, _, rfl, _, rfl, six_line, 97 + c, _, rfl, rfl, _, upd_same, ?_, ?_⟩
      · rw [trues_len]
        have := (List.getElem?_eq_some_iff.mp hc).1
        exact line_gt (by omega)
      · rw [upd_upd, letter_in h6 (hw.at_ hc), trues_snoc]
    · rintro H' rfl
      refine ⟨_, List.replicate w.length true, rfl, SqL.of upd_same, ?_⟩
      rw [all_trues]
      exact q _ (same_new hD)
end
end K26

set_option Elab.async false
set_option linter.all false
set_option maxRecDepth 100000
set_option maxHeartbeats 4000000
namespace K26
open PySem PySem.Spec L2
def spIsRow : Sp := fun vs H Q _ => ∃ (k n : Nat) (v : V) (r : Row), vs = [.int k, .int n, v] ∧ k ≤ 6 ∧ RowAt H v r ∧ RowOk k n 60 60 r ∧ ∀ H', Same H H' → Q (.bl true) H'
def spFormed : Sp := fun vs H Q _ => ∃ (v : V) (m : Mach), vs = [v, .int 2000] ∧ MachAt H v m ∧ Wide m ∧ ∀ H', Same H H' → Q (.bl true) H'
def spWide : Sp := fun vs H Q _ => ∃ (v : V) (m : Mach), vs = [v] ∧ MachAt H v m ∧ Wide m ∧ ∀ H', Same H H' → Q (.bl true) H'
def spCheckWide : Sp := fun vs H Q _ => ∃ (v : V) (m : Mach), vs = [v] ∧ MachAt H v m ∧ Wide m ∧ ∀ H', Same H H' → Q .non H'
section
variable {P : Program} {w : World} {K : PySem.W.Frag} {mg : Str → Option Value} {base : Heap} {f : Addr} {fd : FuncData}
theorem sc_word : FnScope ["k", "word"] ["k", "word"] (defScope (top 11)) := ⟨rfl, rfl, rfl, by decide +kernel, rfl, by decide +kernel, by decide +kernel⟩
theorem ok_word (F : FnP K "is_word" "is_word" (top 11) f fd) (g : mg "is_word" = some (.ref f)) (T : Txt mg) (C1 : Cal P w K mg base "check_size" 1 ["k"] spSize) (C2 : Cal P w K mg base "has_letters" 1 ["k", "word"] spHas) :
    Cal P w K mg base "is_word" 2 ["k", "word"] spWord := by
  refine ⟨f, fd, F.ok sc_word (fun vs H Q E h => ?_) (fun cdv A outer s H vs Q E hr h => ?_), g, F.kp, F.bindsN fun _ _ _ _ _ _ us hl => match us, hl with | [_, _], _ => rfl⟩
  · obtain ⟨k, w, rfl, _⟩ := h
    rfl
  · obtain ⟨k, w, rfl, h2, h6, hw, hz, q⟩ := h
    obtain ⟨tm, hm⟩ := T.mostL
    refine ⟨_, PSs.nox (pss_cons (ps_expr (pe_cal C1 hr rfl (pa_cons (pv 0) pa_nil)))
      (pss_one (ps_ret (pe_and (pe_cmpR op_le (pe_callB call_len_str (by rfl) T.len PySem.boot_len (pa_cons (pv 1) pa_nil)) (pe_glob (v := .int 60) rfl hm ⟨_, rfl⟩) (nomark _))
        (pe_one (pe_cal C2 hr rfl (pa_cons (pv 0) (pa_cons (pv 1) pa_nil)))))))), ?_⟩
    refine ⟨_, rfl, k, rfl, h2, h6, ?_⟩
    refine ⟨_, rfl, _, rfl, line_ge (by rw [tx_len]; omega), _, _, rfl, rfl, _, rfl, iteD (by rw [tx_len]; omega) ?_⟩
    exact ⟨_, rfl, _, rfl, k, w, rfl, h6, hw, hz, q⟩
theorem sc_checkWord : FnScope ["k", "word"] ["k", "word"] (defScope (top 12)) := ⟨rfl, rfl, rfl, by decide +kernel, rfl, by decide +kernel, by decide +kernel⟩
theorem ok_checkWord (F : FnP K "check_word" "check_word" (top 12) f fd) (g : mg "check_word" = some (.ref f)) (C1 : Cal P w K mg base "is_word" 2 ["k", "word"] spWord) :
    Cal P w K mg base "check_word" 3 ["k", "word"] spCheckWord := by
  refine ⟨f, fd, F.ok sc_checkWord (fun vs H Q E h => ?_) (fun cdv A outer s H vs Q E hr h => ?_), g, F.kp, F.bindsN fun _ _ _ _ _ _ us hl => match us, hl with | [_, _], _ => rfl⟩
  · obtain ⟨k, w, rfl, _⟩ := h
    rfl
  · obtain ⟨k, w, rfl, h2, h6, hw, hz, q⟩ := h
    refine ⟨_, PSs.nox (pss_one (ps_if (pt_not (pt_val (pe_cal C1 hr rfl (pa_cons (pv 0) (pa_cons (pv 1) pa_nil))))) pss_never pss_nil)), ?_⟩
    exact ⟨_, rfl, _, rfl, k, w, rfl, h2, h6, hw, hz, fun H' s' => ⟨true, rfl, q H' s'⟩⟩
theorem sc_string : FnScope ["k", "text"] ["k", "text"] (defScope (top 16)) := ⟨rfl, rfl, rfl, by decide +kernel, rfl, by decide +kernel, by decide +kernel⟩
theorem ok_string (F : FnP K "is_string" "is_string" (top 16) f fd) (g : mg "is_string" = some (.ref f)) (T : Txt mg) (C2 : Cal P w K mg base "has_letters" 1 ["k", "word"] spHas) :
    Cal P w K mg base "is_string" 2 ["k", "text"] spHas := by
  refine ⟨f, fd, F.ok sc_string (fun vs H Q E h => ?_) (fun cdv A outer s H vs Q E hr h => ?_), g, F.kp, F.bindsN fun _ _ _ _ _ _ us hl => match us, hl with | [_, _], _ => rfl⟩
  · obtain ⟨k, w, rfl, _⟩ := h
    rfl
  · obtain ⟨k, w, rfl, h6, hw, hz, q⟩ := h
    obtain ⟨tm, hm⟩ := T.longest
    refine ⟨_, PSs.nox (pss_one (ps_ret (pe_and (pe_cmpR op_le (pe_callB call_len_str (by rfl) T.len PySem.boot_len (pa_cons (pv 1) pa_nil)) (pe_glob (v := .int 60) rfl hm ⟨_, rfl⟩) (nomark _))
        (pe_one (pe_cal C2 hr rfl (pa_cons (pv 0) (pa_cons (pv 1) pa_nil))))))), ?_⟩
    refine ⟨_, rfl, _, rfl, line_ge (by rw [tx_len]; omega), _, _, rfl, rfl, _, rfl, iteD (by rw [tx_len]; omega) ?_⟩
    exact ⟨_, rfl, _, rfl, k, w, rfl, h6, hw, hz, q⟩
theorem sc_row : FnScope ["k", "count", "row", "last", "entries", "out", "following"] ["k", "count", "row"] (defScope (top 17)) := ⟨rfl, rfl, rfl, by decide +kernel, rfl, by decide +kernel, by decide +kernel⟩
theorem ok_row (F : FnP K "is_row" "is_row" (top 17) f fd) (g : mg "is_row" = some (.ref f)) (T : Txt mg) (C1 : Cal P w K mg base "is_string" 2 ["k", "text"] spHas) :
    Cal P w K mg base "is_row" 3 ["k", "count", "row"] spIsRow := by
  refine ⟨f, fd, F.ok sc_row (fun vs H Q E h => ?_) (fun cdv A outer s H vs Q E hr h => ?_), g, F.kp, F.bindsN fun _ _ _ _ _ _ us hl => match us, hl with | [_, _, _], _ => rfl⟩
  · obtain ⟨k, n, v, r, rfl, _⟩ := h
    rfl
  · obtain ⟨k, n, v, r, rfl, h6, ⟨p, a, es, rfl, hp, ha, hes⟩, hr1, q⟩ := h
    refine ⟨_, PSs.nox (pss_cons (ps_asg (pv 2) (pg_tup (by rfl) (pgs_cons (pg_name (i := 3) sc_row.nd rfl (Or.inl rfl)) (pgs_cons (pg_name (i := 4) sc_row.nd rfl (Or.inl rfl)) pgs_nil))))
      (pss_cons (ps_if (PW.pt (pw_or (pt_not (pt_val (pe_cal C1 hr rfl (pa_cons (pv 0) (pa_cons (pv 3) pa_nil)))))
          (pw_or1 (pt_cmpR op_ne (pe_callB call_len_seq (by rfl) T.len PySem.boot_len (pa_cons (pv 4) pa_nil)) (pv 0) (nomark _))))) pss_never pss_nil)
        (pss_one (ps_ret (pe_callB (cr_all rfl) (by rfl) T.all PyProof.Rows.boot_all (pa_cons
          (pe_lc (own := [("out", 5), ("following", 6)]) (g := gTup K 2 (gCons (gName 5) (gCons (gName 6) gNil))) (tt := tYes) rfl sc_row.nd (pi_tup (pv 4)) (blkOk_by (own := [("out", 5), ("following", 6)]) (N := ["k", "count", "row", "last", "entries", "out", "following"]) (sc := defScope (top 17)) (by decide +kernel))
            (fun _ _ _ _ _ => pg_tup (by rfl) (pgs_cons (pg_name (i := 5) sc_row.nd rfl (Or.inl rfl)) (pgs_cons (pg_name (i := 6) sc_row.nd rfl (Or.inl rfl)) pgs_nil))) (fun _ _ _ _ _ => pts_nil)
            (fun _ _ _ _ _ => pe_and (pe_cal C1 hr rfl (pa_cons (pv 0) (pa_cons (pv 5) pa_nil))) (pe_one (pe_chain op_le op_lt pe_int (pv 6) (pv 1))))) pa_nil)))))), ?_⟩
    refine ⟨_, rfl, p, _, rfl, SqT.of hp, rfl, _, _, rfl, _, _, rfl, rfl, ?_⟩
    refine ⟨_, rfl, _, rfl, k, r.last, rfl, h6, hr1.lw, hr1.ll, fun H1 s1 => ⟨true, rfl, ?_⟩⟩
    refine ⟨_, rfl, a, es, rfl, .inr (SqT.of (s1 _ _ ha)), _, rfl, rfl, _, rfl, ?_⟩
    refine iteNS (by rw [hes.1, hr1.en]) ?_
    refine ⟨_, rfl, a, rfl, ⟨_, SqT.of (s1 _ _ ha)⟩, fun D hD => lc_tup (K := K) (a := a) (xs := es) (fun i H' => Same H1 H' ∧ H' D = some (.lst (trues i))) ⟨same_new hD, upd_same⟩ (fun i H' _ ⟨s2, _⟩ => SqT.of (s2 _ _ (s1 _ _ ha))) ?_ ?_⟩
    · rintro i x H' hx ⟨s2, hl⟩
      obtain ⟨e, he, y, rfl, hy⟩ := hes.at_ hx
      obtain ⟨z1, z2, z3⟩ := hr1.ex e (List.mem_of_getElem? he)
      refine ⟨y, _, rfl, SqT.of (s2 _ _ (s1 _ _ hy)), rfl, _, _, rfl, _, _, rfl, rfl, rfl, ?_⟩
      refine ⟨_, rfl, _, rfl, k, e.1, rfl, h6, z2, z1, fun H3 s3 => ⟨true, rfl, ?_⟩⟩
      refine ⟨_, rfl, _, _, rfl, rfl, _, rfl, iteD (by omega) ?_⟩
      refine ⟨_, rfl, _, _, rfl, rfl, _, s3 _ _ hl, ?_, fun b o eb => ?_, ?_⟩
      · rw [trues_len]
        have h1 := (List.getElem?_eq_some_iff.mp he).1
        have h2 := hr1.en
        exact line_gt (by omega)
      · have nb : b ≠ D := ne_of_none eb hD
        rw [upd_ne nb]
        exact s3 _ _ (s2 _ _ eb)
      · rw [upd_same]
        show some (HO.lst (trues i ++ [V.bl (decide (((e.2 : Nat) : Int) < (n : Int)))])) = _
        rw [decide_eq_true (show ((e.2 : Nat) : Int) < (n : Int) by omega), trues_snoc]
    · rintro H' ⟨s2, hl⟩
      refine ⟨_, List.replicate es.length true, rfl, SqL.of hl, ?_⟩
      rw [all_trues]
      exact q _ (s1.trans s2)
end
end K26

set_option Elab.async false
set_option linter.all false
set_option maxRecDepth 100000
set_option maxHeartbeats 4000000
namespace K26
open PySem PySem.Spec L2
abbrev rLenS (K : PySem.W.Frag) : List V → Hp → VK → Prop := fun xs H Q => ∃ p ys, xs = [V.ref p] ∧ (SqL K H p ys ∨ SqT K H p ys) ∧ Q (V.int ys.length) H
section
variable {P : Program} {w : World} {K : PySem.W.Frag} {mg : Str → Option Value} {base : Heap} {f : Addr} {fd : FuncData}
theorem sc_formed : FnScope ["machine", "most", "k", "first", "rows", "row"] ["machine", "most"] (defScope (top 18)) := ⟨rfl, rfl, rfl, by decide +kernel, rfl, by decide +kernel, by decide +kernel⟩
theorem ok_formed (F : FnP K "is_formed" "is_formed" (top 18) f fd) (g : mg "is_formed" = some (.ref f)) (T : Txt mg) (C1 : Cal P w K mg base "is_string" 2 ["k", "text"] spHas) (C2 : Cal P w K mg base "is_row" 3 ["k", "count", "row"] spIsRow) :
    Cal P w K mg base "is_formed" 4 ["machine", "most"] spFormed := by
  refine ⟨f, fd, F.ok sc_formed (fun vs H Q E h => ?_) (fun cdv A outer s H vs Q E hr h => ?_), g, F.kp, F.bindsN fun _ _ _ _ _ _ us hl => match us, hl with | [_, _], _ => rfl⟩
  · obtain ⟨v, m, rfl, _⟩ := h
    rfl
  · obtain ⟨v, m, rfl, ⟨p, a, rs, rfl, hp, ha, hrs⟩, hw, q⟩ := h
    have hlen := hw.le
    have hpos := hw.pos
    have hk2 := hw.k2
    have hk6 := hw.k6
    refine ⟨_, PSs.nox (pss_cons (ps_asg (pv 0) (pg_tup (by rfl) (pgs_cons (pg_name (i := 2) sc_formed.nd rfl (Or.inr rfl)) (pgs_cons (pg_name (i := 3) sc_formed.nd rfl (Or.inl rfl)) (pgs_cons (pg_name (i := 4) sc_formed.nd rfl (Or.inr rfl)) pgs_nil)))))
      (pss_cons (ps_if (PW.pt (pw_or (pt_not (pt_chain op_le op_le pe_int (pv 2) pe_int))
          (pw_or (pt_not (pt_chain op_le op_le pe_int (pe_callB call_len_seq (by rfl) T.len PySem.boot_len (pa_cons (pv 4) pa_nil)) (pv 1)))
            (pw_or1 (pt_not (pt_val (pe_cal C1 hr rfl (pa_cons (pv 2) (pa_cons (pv 3) pa_nil))))))))) pss_never pss_nil)
        (pss_one (ps_ret (pe_callB (cr_all rfl) (by rfl) T.all PyProof.Rows.boot_all (pa_cons
          (pe_lc (own := [("row", 5)]) (g := gName 5) (tt := tYes) rfl sc_formed.nd (pi_tup (pv 4)) (blkOk_by (own := [("row", 5)]) (N := ["machine", "most", "k", "first", "rows", "row"]) (sc := defScope (top 18)) (by decide +kernel))
            (fun _ _ _ _ _ => pg_name (i := 5) sc_formed.nd rfl (Or.inl rfl)) (fun _ _ _ _ _ => pts_nil)
            (fun _ _ _ _ _ => pe_cal C2 hr rfl (pa_cons (pv 2) (pa_cons (pe_callB (r := rLenS K) call_len_seq (by rfl) T.len PySem.boot_len (pa_cons (pv 4) pa_nil)) (pa_cons (pv 5) pa_nil))))) pa_nil)))))), ?_⟩
    refine ⟨_, rfl, p, _, rfl, SqT.of hp, rfl, _, _, rfl, _, _, rfl, _, _, rfl, rfl, ?_⟩
    refine ⟨_, rfl, _, _, rfl, rfl, _, rfl, iteD (by omega) ?_⟩
    refine ⟨_, _, rfl, rfl, _, rfl, iteNS (by omega) ?_⟩
    refine ⟨_, rfl, a, rs, rfl, .inr (SqT.of ha), _, _, rfl, rfl, _, rfl, iteD (by rw [hrs.1]; omega) ?_⟩
    refine ⟨_, rfl, _, _, rfl, rfl, _, rfl, iteNS (by rw [hrs.1]; omega) ?_⟩
    refine ⟨_, rfl, _, rfl, m.k, m.first, rfl, hk6, hw.fw, hw.fl, fun H1 s1 => ⟨true, rfl, ?_⟩⟩
    refine ⟨_, rfl, a, rfl, ⟨_, SqT.of (s1 _ _ ha)⟩, fun D hD => lc_tup (K := K) (a := a) (xs := rs) (fun i H' => Same H1 H' ∧ H' D = some (.lst (trues i))) ⟨same_new hD, upd_same⟩ (fun i H' _ ⟨s2, _⟩ => SqT.of (s2 _ _ (s1 _ _ ha))) ?_ ?_⟩
    · rintro i x H' hx ⟨s2, hl⟩
      obtain ⟨r, he, hy⟩ := hrs.at_ hx
      refine ⟨rfl, ?_⟩
      refine ⟨_, rfl, _, rfl, a, rs, rfl, .inr (SqT.of (s2 _ _ (s1 _ _ ha))), _, rfl, m.k, m.rows.length, x, r, by rw [hrs.1]; rfl, hk6, hy.keep (tups_same (s1.trans s2)), hw.row r (List.mem_of_getElem? he), fun H3 s3 => ?_⟩
      refine ⟨_, s3 _ _ hl, ?_, fun b o eb => ?_, ?_⟩
      · rw [trues_len]
        have h1 := (List.getElem?_eq_some_iff.mp he).1
        exact line_gt (by omega)
      · have nb : b ≠ D := ne_of_none eb hD
        rw [upd_ne nb]
        exact s3 _ _ (s2 _ _ eb)
      · rw [upd_same, trues_snoc]
    · rintro H' ⟨s2, hl⟩
      refine ⟨_, List.replicate rs.length true, rfl, SqL.of hl, ?_⟩
      rw [all_trues]
      exact q _ (s1.trans s2)
theorem sc_wide : FnScope ["machine"] ["machine"] (defScope (top 19)) := ⟨rfl, rfl, rfl, by decide +kernel, rfl, by decide +kernel, by decide +kernel⟩
theorem ok_wide (F : FnP K "is_wide" "is_wide" (top 19) f fd) (g : mg "is_wide" = some (.ref f)) (T : Txt mg) (C1 : Cal P w K mg base "is_formed" 4 ["machine", "most"] spFormed) :
    Cal P w K mg base "is_wide" 5 ["machine"] spWide := by
  refine ⟨f, fd, F.ok sc_wide (fun vs H Q E h => ?_) (fun cdv A outer s H vs Q E hr h => ?_), g, F.kp, F.bindsN fun _ _ _ _ _ _ us hl => match us, hl with | [_], _ => rfl⟩
  · obtain ⟨v, m, rfl, _⟩ := h
    rfl
  · obtain ⟨v, m, rfl, hm, hw, q⟩ := h
    obtain ⟨tm, hW⟩ := T.mostW
    refine ⟨_, PSs.nox (pss_one (ps_ret (pe_cal C1 hr rfl (pa_cons (pv 0) (pa_cons (pe_glob (v := .int 2000) rfl hW ⟨_, rfl⟩) pa_nil))))), ?_⟩
    exact ⟨_, rfl, v, m, rfl, hm, hw, q⟩
theorem sc_checkWide : FnScope ["machine"] ["machine"] (defScope (top 20)) := ⟨rfl, rfl, rfl, by decide +kernel, rfl, by decide +kernel, by decide +kernel⟩
theorem ok_checkWide (F : FnP K "check_wide" "check_wide" (top 20) f fd) (g : mg "check_wide" = some (.ref f)) (C1 : Cal P w K mg base "is_wide" 5 ["machine"] spWide) :
    Cal P w K mg base "check_wide" 6 ["machine"] spCheckWide := by
  refine ⟨f, fd, F.ok sc_checkWide (fun vs H Q E h => ?_) (fun cdv A outer s H vs Q E hr h => ?_), g, F.kp, F.bindsN fun _ _ _ _ _ _ us hl => match us, hl with | [_], _ => rfl⟩
  · obtain ⟨v, m, rfl, _⟩ := h
    rfl
  · obtain ⟨v, m, rfl, hm, hw, q⟩ := h
    refine ⟨_, PSs.nox (pss_one (ps_if (pt_not (pt_val (pe_cal C1 hr rfl (pa_cons (pv 0) pa_nil)))) pss_never pss_nil)), ?_⟩
    exact ⟨_, rfl, v, m, rfl, hm, hw, fun H' s' => ⟨true, rfl, q H' s'⟩⟩
end
end K26

set_option Elab.async false
set_option linter.all false
set_option maxRecDepth 100000
set_option maxHeartbeats 4000000
namespace K26
open PySem PySem.Spec L2
def spWalked : Sp := fun vs H Q _ => ∃ (v : V) (m : Mach) (s : Nat) (w : List Nat), vs = [v, .int s, vS w] ∧ MachAt H v m ∧ Wide m ∧ s < m.rows.length ∧ Wd m.k w ∧ w.length ≤ 1000 ∧
  ∀ H' p, Same H H' → H p = none → H' p = some (.tup [vS (walk m s w).1, .int (walk m s w).2]) → Q (.ref p) H'
def spForm : Sp := fun vs H Q _ => ∃ (v : V) (m : Mach) (w : List Nat), vs = [v, vS w] ∧ MachAt H v m ∧ Wide m ∧ Wd m.k w ∧ w.length ≤ 60 ∧ ∀ H', Same H H' → Q (vS (form m w)) H'
def spCheckCall : Sp := fun vs H Q _ => ∃ (v : V) (m : Mach) (w : List Nat), vs = [v, vS w] ∧ MachAt H v m ∧ Wide m ∧ Wd m.k w ∧ w.length ≤ 60 ∧ ∀ H', Same H H' → Q .non H'
def spStill : Sp := fun vs H Q _ => ∃ k : Nat, vs = [.int k] ∧ 2 ≤ k ∧ k ≤ 6 ∧ ∀ H' v, Same H H' → MachAt H' v (calm k) → Q v H'
/-- parts of a text: their lengths -/
theorem parts_len : ∀ (ps : List (List Nat)) , ((ps.map tx).map (·.length)).sum = ps.flatten.length
  | [] => rfl
  | a :: r => by
    show (tx a).length + ((r.map tx).map (·.length)).sum = (a ++ r.flatten).length
    rw [parts_len r, tx_len, List.length_append]
/-- the row of a state, in the heap -/
theorem MachAt.row {H : Hp} {v : V} {m : Mach} {s : Nat} (h : MachAt H v m) (hs : s < m.rows.length) :
    ∃ p q rs, v = .ref p ∧ H p = some (.tup [.int (m.k : Int), vS m.first, .ref q]) ∧ H q = some (.tup rs) ∧ ∃ p1 a es, rs[s]? = some (.ref p1) ∧ H p1 = some (.tup [vS (m.row s).last, .ref a]) ∧ H a = some (.tup es) ∧ All2 (EntAt H) es (m.row s).ents := by
  obtain ⟨p, q, rs, e, hp, hq, hr⟩ := h
  obtain ⟨v1, e1, ⟨p1, a, es, rfl, h1, h2, h3⟩⟩ := hr.2 s _ (row_at hs)
  exact ⟨p, q, rs, e, hp, hq, p1, a, es, e1, h1, h2, h3⟩
section
variable {P : Program} {w : World} {K : PySem.W.Frag} {mg : Str → Option Value} {base : Heap} {f : Addr} {fd : FuncData}
theorem sc_walked : FnScope ["machine", "state", "word", "parts", "letter", "out"] ["machine", "state", "word"] (defScope (top 21)) := ⟨rfl, rfl, rfl, by decide +kernel, rfl, by decide +kernel, by decide +kernel⟩
theorem ok_walked (F : FnP K "walked" "walked" (top 21) f fd) (g : mg "walked" = some (.ref f)) (T : Txt mg) :
    Cal P w K mg base "walked" 1 ["machine", "state", "word"] spWalked := by
  refine ⟨f, fd, F.ok sc_walked (fun vs H Q E h => ?_) (fun cdv A outer s H vs Q E hr h => ?_), g, F.kp, F.bindsN fun _ _ _ _ _ _ us hl => match us, hl with | [_, _, _], _ => rfl⟩
  · obtain ⟨v, m, s, w, rfl, _⟩ := h
    rfl
  · obtain ⟨v, m, s, w, rfl, hm, hw, hs, hd, hz, q⟩ := h
    obtain ⟨tl, hl⟩ := T.letters
    refine ⟨_, PSs.nox (pss_cons (ps_set (i := 3) sc_walked.nd rfl (Or.inl rfl) (pe_lst pa_nil))
      (pss_cons (ps_for PassesOwn.never rfl (pi_str (pv 2)) (pg_name (i := 4) sc_walked.nd rfl (Or.inl rfl))
          (pss_cons (ps_asg (pe_ix ix_tup (pe_ix ix_tup (pe_ix ix_tup (pe_ix ix_tup (pv 0) pe_int (fun _ _ => rfl)) (pv 1) (fun _ _ => rfl)) pe_int (fun _ _ => rfl))
              (pe_bm PySem.F.plainAttrs_str PySem.F.slot_str_index PySem.F.type_str_index mt_sindex (pe_glob (v := .str "abcdef") rfl hl ⟨_, rfl⟩) (pa_cons (pv 4) pa_nil)) (fun _ _ => rfl))
              (pg_tup (by rfl) (pgs_cons (pg_name (i := 5) sc_walked.nd rfl (Or.inl rfl)) (pgs_cons (pg_name (i := 1) sc_walked.nd rfl (Or.inl rfl)) pgs_nil))))
            (pss_one (ps_expr (pe_bm PySem.F.plainAttrs_list PySem.F.slot_list_append PySem.F.type_list_append mt_append (pv 3) (pa_cons (pv 5) pa_nil))))))
        (pss_one (ps_ret (pe_tup (pa_cons (pe_join pe_str (pv 3)) (pa_cons (pv 1) pa_nil))))))), ?_⟩
    refine ⟨Nat.zero_le _, fun l hl0 => ?_⟩
    have hm0 : MachAt (upd H l (.lst [])) v m := hm.keep (Tups.new hl0)
    refine ⟨_, rfl, _, rfl, for_tx (w := w) (fun i σ H' => ∃ (c o : Option V) (ps : List (List Nat)), σ = [some v, some (.int ((walk m s (w.take i)).2 : Nat)), some (vS w), some (.ref l), c, o] ∧
        Same H H' ∧ H' l = some (.lst ((ps.map tx).map V.str)) ∧ ps.length = i ∧ ps.flatten = (walk m s (w.take i)).1) ⟨none, none, [], rfl, same_new hl0, upd_same, rfl, rfl⟩ ?_ ?_⟩
    · rintro i c σ H' hc ⟨c0, o0, ps, rfl, s1, h1, e1, e2⟩
      have hi := (List.getElem?_eq_some_iff.mp hc).1
      have hck := hd.at_ hc
      have wk := hw.walk hs (hd.take i)
      obtain ⟨p, q1, rs, rfl, hp, hq, p1, a, es, er, hp1, ha, hes⟩ := (hm.keep (tups_same s1)).row wk.1
      obtain ⟨_, ee, ⟨y, rfl, hy⟩⟩ := hes.2 c _ (hw.entAt wk.1 hck)
      obtain ⟨rest, ho⟩ := letter_index (show c < 6 by have := hw.k6; omega)
      refine ⟨_, rfl, _, _, _, _, rfl, rfl, SqT.of hp, atI_nat (j := 2) rfl, _, rfl, _, _, _, _, rfl, rfl, SqT.of hq, atI_nat er, _, _, _, _, rfl, rfl, SqT.of hp1, atI_nat (j := 1) rfl, rfl, _, rfl,
        _, _, c, rest, rfl, rfl, ho, _, _, _, _, rfl, rfl, SqT.of ha, atI_nat ee, ?_⟩
      refine ⟨y, _, rfl, SqT.of hy, rfl, _, _, rfl, _, _, rfl, rfl, ?_⟩
      refine ⟨_, rfl, .inl ⟨rfl, _, SqL.of h1⟩, _, rfl, l, _, _, rfl, rfl, h1, ?_, ?_⟩
      · rw [List.length_map, List.length_map, e1]
        exact line_gt (by omega)
      · refine ⟨some (vS [c]), some (vS (m.ent (walk m s (w.take i)).2 c).1), ps ++ [(m.ent (walk m s (w.take i)).2 c).1], ?_, same_upd s1 hl0, ?_, ?_, ?_⟩
        · rw [walk_step hc]
          rfl
        · rw [upd_same, List.map_append, List.map_append]
          rfl
        · rw [List.length_append, e1]
          rfl
        · rw [walk_step hc, List.flatten_append, e2]
          show _ ++ ([(m.ent (walk m s (w.take i)).2 c).1]).flatten = _
          simp
    · rintro σ H' ⟨c0, o0, ps, rfl, s1, h1, e1, e2⟩
      rw [List.take_length] at e2 ⊢
      have wk := hw.walk hs hd
      refine ⟨⟨_, rfl⟩, _, rfl, _, l, ps.map tx, rfl, rfl, .inl (SqL.of h1), ?_, _, rfl, (by show 2 ≤ sizeLine; decide), fun p hp => ?_⟩
      · rw [parts_len, e2]
        show _ + _ * ("" : Str).length ≤ _
        rw [show ("" : Str).length = 0 from rfl, Nat.mul_zero]
        have := Nat.mul_le_mul_left 60 hz
        have := wk.2.2
        omega
      · rw [joined, e2]
        exact q _ p (s1.trans (same_new hp)) (s1.free hp) upd_same
end
end K26

set_option Elab.async false
set_option linter.all false
set_option maxRecDepth 100000
set_option maxHeartbeats 4000000
namespace K26
open PySem PySem.Spec L2
section
variable {P : Program} {w : World} {K : PySem.W.Frag} {mg : Str → Option Value} {base : Heap} {f : Addr} {fd : FuncData}
theorem sc_changed : FnScope ["machine", "word", "text", "state"] ["machine", "word"] (defScope (top 22)) := ⟨rfl, rfl, rfl, by decide +kernel, rfl, by decide +kernel, by decide +kernel⟩
theorem ok_changed (F : FnP K "changed" "changed" (top 22) f fd) (g : mg "changed" = some (.ref f)) (C1 : Cal P w K mg base "walked" 1 ["machine", "state", "word"] spWalked) :
    Cal P w K mg base "changed" 2 ["machine", "word"] spForm := by
  refine ⟨f, fd, F.ok sc_changed (fun vs H Q E h => ?_) (fun cdv A outer s H vs Q E hr h => ?_), g, F.kp, F.bindsN fun _ _ _ _ _ _ us hl => match us, hl with | [_, _], _ => rfl⟩
  · obtain ⟨v, m, w, rfl, _⟩ := h
    rfl
  · obtain ⟨v, m, w, rfl, hm, hw, hd, hz, q⟩ := h
    refine ⟨_, PSs.nox (pss_cons (ps_asg (pe_cal C1 hr rfl (pa_cons (pv 0) (pa_cons pe_int (pa_cons (pv 1) pa_nil)))) (pg_tup (by rfl) (pgs_cons (pg_name (i := 2) sc_changed.nd rfl (Or.inl rfl)) (pgs_cons (pg_name (i := 3) sc_changed.nd rfl (Or.inl rfl)) pgs_nil))))
      (pss_one (ps_ret (pe_op op_add_str (pe_op op_add_str (pe_ix ix_tup (pv 0) pe_int (fun _ _ => rfl)) (pv 2))
        (pe_ix ix_tup (pe_ix ix_tup (pe_ix ix_tup (pv 0) pe_int (fun _ _ => rfl)) (pv 3) (fun _ _ => rfl)) pe_int (fun _ _ => rfl)))))), ?_⟩
    refine ⟨_, rfl, _, rfl, v, m, 0, w, rfl, hm, hw, hw.pos, hd, Nat.le_trans hz (by decide), fun H1 p1 s1 n1 h1 => ?_⟩
    have wk := hw.walk hw.pos hd
    obtain ⟨p, q1, rs, rfl, hp, hq, p2, a, es, er, hp2, ha, hes⟩ := (hm.keep (tups_same s1)).row wk.1
    have ro := hw.rowOk wk.1
    have z1 := hw.fl
    have z2 := wk.2.2
    have z3 := ro.ll
    have z4 := Nat.mul_le_mul_left 60 hz
    refine ⟨_, _, rfl, SqT.of h1, rfl, _, _, rfl, _, _, rfl, rfl, ?_⟩
    refine ⟨_, rfl, _, _, _, _, rfl, rfl, SqT.of hp, atI_nat (j := 1) rfl, _, rfl, _, _, rfl, rfl, line_ge (by rw [tx_len, tx_len]; omega), ?_⟩
    rw [tx_app]
    refine ⟨_, rfl, _, _, _, _, rfl, rfl, SqT.of hp, atI_nat (j := 2) rfl, _, rfl, _, _, _, _, rfl, rfl, SqT.of hq, atI_nat er, _, _, _, _, rfl, rfl, SqT.of hp2, atI_nat (j := 0) rfl,
      _, _, rfl, rfl, line_ge (by rw [tx_len, tx_len, List.length_append]; omega), ?_⟩
    rw [tx_app]
    exact q _ s1
theorem sc_checkCall : FnScope ["machine", "word"] ["machine", "word"] (defScope (top 23)) := ⟨rfl, rfl, rfl, by decide +kernel, rfl, by decide +kernel, by decide +kernel⟩
theorem ok_checkCall (F : FnP K "check_call" "check_call" (top 23) f fd) (g : mg "check_call" = some (.ref f)) (C1 : Cal P w K mg base "check_wide" 6 ["machine"] spCheckWide) (C2 : Cal P w K mg base "check_word" 3 ["k", "word"] spCheckWord) :
    Cal P w K mg base "check_call" 7 ["machine", "word"] spCheckCall := by
  refine ⟨f, fd, F.ok sc_checkCall (fun vs H Q E h => ?_) (fun cdv A outer s H vs Q E hr h => ?_), g, F.kp, F.bindsN fun _ _ _ _ _ _ us hl => match us, hl with | [_, _], _ => rfl⟩
  · obtain ⟨v, m, w, rfl, _⟩ := h
    rfl
  · obtain ⟨v, m, w, rfl, hm, hw, hd, hz, q⟩ := h
    refine ⟨_, PSs.nox (pss_cons (ps_expr (pe_cal C1 hr rfl (pa_cons (pv 0) pa_nil)))
      (pss_one (ps_expr (pe_cal C2 hr rfl (pa_cons (pe_ix ix_tup (pv 0) pe_int (fun _ _ => rfl)) (pa_cons (pv 1) pa_nil)))))), ?_⟩
    refine ⟨_, rfl, v, m, rfl, hm, hw, fun H1 s1 => ?_⟩
    obtain ⟨p, q1, rs, rfl, hp, _⟩ := hm.keep (tups_same s1)
    exact ⟨_, rfl, _, _, _, _, rfl, rfl, SqT.of hp, atI_nat (j := 0) rfl, _, rfl, m.k, w, rfl, hw.k2, hw.k6, hd, hz, fun H2 s2 => q _ (s1.trans s2)⟩
theorem sc_form : FnScope ["machine", "word"] ["machine", "word"] (defScope (top 24)) := ⟨rfl, rfl, rfl, by decide +kernel, rfl, by decide +kernel, by decide +kernel⟩
theorem ok_form (F : FnP K "form" "form" (top 24) f fd) (g : mg "form" = some (.ref f)) (C1 : Cal P w K mg base "check_call" 7 ["machine", "word"] spCheckCall) (C2 : Cal P w K mg base "changed" 2 ["machine", "word"] spForm) :
    Cal P w K mg base "form" 8 ["machine", "word"] spForm := by
  refine ⟨f, fd, F.ok sc_form (fun vs H Q E h => ?_) (fun cdv A outer s H vs Q E hr h => ?_), g, F.kp, F.bindsN fun _ _ _ _ _ _ us hl => match us, hl with | [_, _], _ => rfl⟩
  · obtain ⟨v, m, w, rfl, _⟩ := h
    rfl
  · obtain ⟨v, m, w, rfl, hm, hw, hd, hz, q⟩ := h
    refine ⟨_, PSs.nox (pss_cons (ps_expr (pe_cal C1 hr rfl (pa_cons (pv 0) (pa_cons (pv 1) pa_nil)))) (pss_one (ps_ret (pe_cal C2 hr rfl (pa_cons (pv 0) (pa_cons (pv 1) pa_nil)))))), ?_⟩
    refine ⟨_, rfl, _, rfl, v, m, w, rfl, hm, hw, hd, hz, fun H1 s1 => ?_⟩
    exact ⟨_, rfl, _, rfl, v, m, w, rfl, hm.keep (tups_same s1), hw, hd, hz, fun H2 s2 => q _ (s1.trans s2)⟩
theorem range_at {k i c : Nat} (h : (List.range k)[i]? = some c) : c = i ∧ i < k := by
  obtain ⟨h1, h2⟩ := List.getElem?_eq_some_iff.mp h
  rw [List.length_range] at h1
  rw [List.getElem_range] at h2
  exact ⟨h2.symm, h1⟩
theorem sc_still : FnScope ["k", "letter"] ["k"] (defScope (top 25)) := ⟨rfl, rfl, rfl, by decide +kernel, rfl, by decide +kernel, by decide +kernel⟩
theorem ok_still (F : FnP K "still" "still" (top 25) f fd) (g : mg "still" = some (.ref f)) (T : Txt mg) (C1 : Cal P w K mg base "check_size" 1 ["k"] spSize) :
    Cal P w K mg base "still" 2 ["k"] spStill := by
  refine ⟨f, fd, F.ok sc_still (fun vs H Q E h => ?_) (fun cdv A outer s H vs Q E hr h => ?_), g, F.kp, F.bindsN fun _ _ _ _ _ _ us hl => match us, hl with | [_], _ => rfl⟩
  · obtain ⟨k, rfl, _⟩ := h
    rfl
  · obtain ⟨k, rfl, h2, h6, q⟩ := h
    obtain ⟨tl, hl⟩ := T.letters
    refine ⟨_, PSs.nox (pss_cons (ps_expr (pe_cal C1 hr rfl (pa_cons (pv 0) pa_nil)))
      (pss_one (ps_ret (pe_tup (pa_cons (pv 0) (pa_cons pe_str (pa_cons (pe_tup (pa_cons (pe_tup (pa_cons pe_str (pa_cons
        (pe_callTy call_tuple_of (by rfl) T.tuple (by decide +kernel) (pa_cons
          (pe_lc (own := [("letter", 1)]) (g := gName 1) (tt := tYes) (te := tTup (tCons (tVar 1) (tCons (tC (.int 0)) tNil))) rfl sc_still.nd (pi_str (pe_slice sl_str (pe_glob (v := .str "abcdef") rfl hl ⟨_, rfl⟩) po_none (po_some (pv 0))))
            (blkOk_by (own := [("letter", 1)]) (N := ["k", "letter"]) (sc := defScope (top 25)) (by decide +kernel))
            (fun _ _ _ _ _ => pg_name (i := 1) sc_still.nd rfl (Or.inl rfl)) (fun _ _ _ _ _ => pts_nil)
            (fun _ _ _ _ _ => pe_tup (pa_cons (pv 1) (pa_cons pe_int pa_nil)))) pa_nil)) pa_nil))) pa_nil)) pa_nil))))))), ?_⟩
    refine ⟨_, rfl, k, rfl, h2, h6, ?_⟩
    refine ⟨_, rfl, _, rfl, _, rfl, _, rfl, six_line, _, rfl, ?_⟩
    rw [cut_letters h6]
    refine fun D hD => lc_tx (w := List.range k) (fun i H' => Same H H' ∧ ∃ es, H' D = some (.lst es) ∧ All2 (EntAt H') es ((List.range i).map fun c => (([c], 0) : Ent))) ⟨same_new hD, [], upd_same, All2.nil⟩ ?_ ?_
    · rintro i c H' hc ⟨s1, es, hl1, he⟩
      obtain ⟨rfl, hi⟩ := range_at hc
      refine ⟨rfl, ?_⟩
      refine ⟨_, rfl, (by show 2 ≤ sizeLine; decide), fun p hp => ?_⟩
      have nD : D ≠ p := ne_of_none hl1 hp
      refine ⟨es, by rw [upd_ne nD]; exact hl1, ?_, same_upd (s1.trans (same_new hp)) hD, _, upd_same, ?_⟩
      · rw [he.1, List.length_map, List.length_range]
        exact line_gt (by omega)
      · have tk : Tups H' (upd (upd H' p (.tup [vS [c], .int ((0 : Nat) : Int)])) D (.lst (es ++ [V.ref p]))) := fun b xs e => by
          rw [upd_ne (fun z => by rw [z, hl1] at e; cases e)]
          exact Tups.new hp b xs e
        rw [List.range_succ, List.map_append]
        refine (he.imp fun _ _ z => z.keep tk).snoc ⟨p, rfl, ?_⟩
        rw [upd_ne nD.symm, upd_same]
    · rintro H' ⟨s1, es, hl1, he⟩
      refine ⟨_, _, rfl, .inl ⟨SqL.of hl1, fun t ht => ?_⟩⟩
      refine ⟨(by show 2 ≤ sizeLine; decide), fun r hr1 => ⟨(by show 1 ≤ sizeLine; decide), fun rr hrr => ⟨(by show 3 ≤ sizeLine; decide), fun m hm => ?_⟩⟩⟩
      rw [List.length_range] at he
      have n1 : t ≠ r := fun z => by
        rw [← z, upd_same] at hr1
        cases hr1
      have n2 : r ≠ rr := fun z => by
        rw [← z, upd_same] at hrr
        cases hrr
      have n3 : rr ≠ m := fun z => by
        rw [← z, upd_same] at hm
        cases hm
      have s2 := same_new (o := .tup es) ht
      have s3 := same_new (o := .tup [vS [], .ref t]) hr1
      have s4 := same_new (o := .tup [.ref r]) hrr
      have s5 := same_new (o := .tup [.int (k : Int), vS [], .ref rr]) hm
      refine q _ _ (s1.trans (s2.trans (s3.trans (s4.trans s5)))) ⟨m, rr, [.ref r], rfl, upd_same, s5 _ _ upd_same, rfl, fun i x hx => ?_⟩
      have hi := (List.getElem?_eq_some_iff.mp hx).1
      have hi0 : i = 0 := by
        have : i < 1 := hi
        omega
      subst hi0
      cases hx
      refine ⟨_, rfl, r, t, es, rfl, s5 _ _ (s4 _ _ upd_same), s5 _ _ (s4 _ _ (s3 _ _ upd_same)), ?_⟩
      exact he.imp fun _ _ z => z.keep (tups_same (s2.trans (s3.trans (s4.trans s5))))
end
end K26

set_option Elab.async false
set_option linter.all false
set_option maxRecDepth 100000
set_option maxHeartbeats 4000000
namespace K26
open PySem PySem.Spec L2
/-! ### the class that joins two machines: what its instance holds -/
def jf (vA vB : V) (nd pl : Addr) : List (Str × V) := putF "pairs" (.ref pl) (putF "numbers" (.ref nd) (putF "other" vB (putF "one" vA [])))
theorem jf_one (vA vB : V) (nd pl : Addr) : (jf vA vB nd pl).lookup ("one" : Str) = some vA := by
  unfold jf
  rw [lookup_putF, if_neg (by decide +kernel), lookup_putF, if_neg (by decide +kernel), lookup_putF, if_neg (by decide +kernel), lookup_putF, if_pos rfl]
theorem jf_other (vA vB : V) (nd pl : Addr) : (jf vA vB nd pl).lookup ("other" : Str) = some vB := by
  unfold jf
  rw [lookup_putF, if_neg (by decide +kernel), lookup_putF, if_neg (by decide +kernel), lookup_putF, if_pos rfl]
theorem jf_numbers (vA vB : V) (nd pl : Addr) : (jf vA vB nd pl).lookup ("numbers" : Str) = some (.ref nd) := by
  unfold jf
  rw [lookup_putF, if_neg (by decide +kernel), lookup_putF, if_pos rfl]
theorem jf_pairs (vA vB : V) (nd pl : Addr) : (jf vA vB nd pl).lookup ("pairs" : Str) = some (.ref pl) := by
  unfold jf
  rw [lookup_putF, if_pos rfl]
theorem jf_no (vA vB : V) (nd pl : Addr) {m : Str} (h1 : ¬ m = "pairs") (h2 : ¬ m = "numbers") (h3 : ¬ m = "other") (h4 : ¬ m = "one") : (jf vA vB nd pl).lookup m = none := by
  unfold jf
  rw [lookup_putF, if_neg h1, lookup_putF, if_neg h2, lookup_putF, if_neg h3, lookup_putF, if_neg h4]
  all_goals rfl
/-! the numbers of the pairs -/
abbrev keyOf (p : Nat × Nat) : List Key := [Sum.inl (p.1 : Int), Sum.inl (p.2 : Int)]
theorem keyOf_inj {p q : Nat × Nat} (h : keyOf p = keyOf q) : p = q := by
  have h1 : (p.1 : Int) = q.1 ∧ (p.2 : Int) = q.2 := by simpa [keyOf] using h
  exact Prod.ext (by omega) (by omega)
def kvsF : Nat → List (Nat × Nat) → List (List Key × V)
  | _, [] => []
  | n, p :: r => (keyOf p, .int (n : Int)) :: kvsF (n + 1) r
theorem kvsF_len : ∀ (n : Nat) (P : List (Nat × Nat)), (kvsF n P).length = P.length
  | _, [] => rfl
  | n, p :: r => congrArg Nat.succ (kvsF_len (n + 1) r)
theorem kvsF_snoc : ∀ (n : Nat) (P : List (Nat × Nat)) (p : Nat × Nat), kvsF n (P ++ [p]) = kvsF n P ++ [(keyOf p, .int ((n + P.length : Nat) : Int))]
  | n, [], p => rfl
  | n, q :: r, p => by
    show (keyOf q, V.int (n : Int)) :: kvsF (n + 1) (r ++ [p]) = (keyOf q, V.int (n : Int)) :: (kvsF (n + 1) r ++ [(keyOf p, .int ((n + (r.length + 1) : Nat) : Int))])
    rw [kvsF_snoc (n + 1) r p, show n + 1 + r.length = n + (r.length + 1) by omega]
theorem kvsF_val : ∀ {n : Nat} {P : List (Nat × Nat)} {p : Nat × Nat} {v : V}, valV (kvsF n P) (keyOf p) = some v → ∃ j, P[j]? = some p ∧ v = .int ((n + j : Nat) : Int)
  | n, [], p, v, h => by
    rw [show kvsF n [] = [] from rfl, valV_nil] at h
    cases h
  | n, q :: r, p, v, h => by
    have h2 : valV ((keyOf q, V.int (n : Int)) :: kvsF (n + 1) r) (keyOf p) = some v := h
    by_cases e : q = p
    · subst e
      rw [valV_pos rfl] at h2
      cases h2
      exact ⟨0, rfl, rfl⟩
    · rw [valV_neg (fun z => e (keyOf_inj z))] at h2
      obtain ⟨j, e1, e2⟩ := kvsF_val h2
      exact ⟨j + 1, e1, by rw [e2, show n + 1 + j = n + (j + 1) by omega]⟩
theorem kvsF_none : ∀ {n : Nat} {P : List (Nat × Nat)} {p : Nat × Nat}, valV (kvsF n P) (keyOf p) = none → p ∉ P
  | n, [], p, _ => fun h => nomatch h
  | n, q :: r, p, h => fun hm => by
    have h2 : valV ((keyOf q, V.int (n : Int)) :: kvsF (n + 1) r) (keyOf p) = none := h
    by_cases e : q = p
    · subst e
      rw [valV_pos rfl] at h2
      cases h2
    · rw [valV_neg (fun z => e (keyOf_inj z))] at h2
      rcases List.mem_cons.mp hm with z | z
      · exact e z.symm
      · exact kvsF_none h2 z
def PairAt (H : Hp) (v : V) (p : Nat × Nat) : Prop := ∃ a, v = .ref a ∧ H a = some (.tup [.int (p.1 : Int), .int (p.2 : Int)])
theorem PairAt.keep {H H' : Hp} {v : V} {p : Nat × Nat} (h : PairAt H v p) (k : Tups H H') : PairAt H' v p := let ⟨a, e, q⟩ := h; ⟨a, e, k _ _ q⟩
structure JS (C x dx nd pl : Addr) (vA vB : V) (P : List (Nat × Nat)) (H : Hp) : Prop where
  ix : H x = some (.ins C dx (jf vA vB nd pl))
  hn : H nd = some (.dT (kvsF 0 P))
  hp : ∃ as, H pl = some (.lst as) ∧ All2 (PairAt H) as P
/-- all but the dict and the list of pairs stays -/
def KeepJ (nd pl : Addr) (H H' : Hp) : Prop := ∀ b o, b ≠ nd → b ≠ pl → H b = some o → H' b = some o
section
variable {C x dx nd pl : Addr} {vA vB : V} {P : List (Nat × Nat)} {H H1 H2 : Hp}
theorem KeepJ.refl : KeepJ nd pl H H := fun _ _ _ _ h => h
theorem KeepJ.of (s : Same H H1) : KeepJ nd pl H H1 := fun b o _ _ e => s b o e
theorem KeepJ.trans (a : KeepJ nd pl H H1) (b : KeepJ nd pl H1 H2) : KeepJ nd pl H H2 := fun c o n m e => b c o n m (a c o n m e)
theorem KeepJ.new {p : Addr} {o : HO} (a : KeepJ nd pl H H1) (h : H1 p = none) : KeepJ nd pl H (upd H1 p o) := a.trans (.of (same_new h))
/-- a thing that is new behind H is written -/
theorem KeepJ.upd {p : Addr} {o : HO} (a : KeepJ nd pl H H1) (h : H p = none) : KeepJ nd pl H (L2.upd H1 p o) := fun b u n m e => by
  rw [upd_ne (ne_of_none e h)]
  exact a b u n m e
theorem JS.tups (j : JS C x dx nd pl vA vB P H) (k : KeepJ nd pl H H1) : Tups H H1 := fun b xs e => by
  obtain ⟨as, hp, _⟩ := j.hp
  refine k b _ (fun z => ?_) (fun z => ?_) e
  · rw [z, j.hn] at e
    cases e
  · rw [z, hp] at e
    cases e
theorem JS.same (j : JS C x dx nd pl vA vB P H) (s : Same H H1) : JS C x dx nd pl vA vB P H1 := by
  obtain ⟨as, hp, ha⟩ := j.hp
  exact ⟨s _ _ j.ix, s _ _ j.hn, as, s _ _ hp, ha.imp fun _ _ z => z.keep (tups_same s)⟩
/-- another thing is written -/
theorem JS.upd {p : Addr} {o : HO} (j : JS C x dx nd pl vA vB P H) (h1 : p ≠ x) (h2 : p ≠ nd) (h3 : p ≠ pl) (h4 : ∀ ys, H p ≠ some (.tup ys)) : JS C x dx nd pl vA vB P (L2.upd H p o) := by
  obtain ⟨as, hp, ha⟩ := j.hp
  refine ⟨by rw [upd_ne (Ne.symm h1)]; exact j.ix, by rw [upd_ne (Ne.symm h2)]; exact j.hn, as, by rw [upd_ne (Ne.symm h3)]; exact hp, ha.imp fun _ _ z => z.keep fun b ys e => ?_⟩
  rw [upd_ne (fun q : b = p => h4 ys (q ▸ e))]
  exact e
end
theorem nodup_snoc {P : List (Nat × Nat)} {p : Nat × Nat} (nd : P.Nodup) (h : p ∉ P) : (P ++ [p]).Nodup := nd_snoc nd h

/-- what the class's name and its parts hold -/
structure TxtJ (K : PySem.W.Frag) (mg : Str → Option Value) (C : Addr) : Prop where
  cl : Cls K C
  n1 : NoAttr K C "one"
  n2 : NoAttr K C "other"
  n3 : NoAttr K C "numbers"
  n4 : NoAttr K C "pairs"
  mgC : mg "Joining" = some (.ref C)
/-- a method that keeps its promise -/
def CalM (P : Program) (w : World) (K : PySem.W.Frag) (mg : Str → Option Value) (base : Heap) (C : Addr) (x : Str) (k : Nat) (ps : List Str) (sp : Sp) : Prop :=
  ∃ f fd, FnOk P w K mg base CX0 k f fd ps sp ∧ Meth K C x f ∧ Binds K fd ps []
def spChecked : Sp := fun vs H Q _ => ∃ w : List Nat, vs = [vS w] ∧ w.length ≤ 60 ∧ Q (vS w) H
def spInit (C : Addr) : Sp := fun vs H Q _ => ∃ (x dx : Addr) (vA vB : V), vs = [.ref x, vA, vB] ∧ H x = some (.ins C dx []) ∧
  ∀ H' nd pl, H nd = none → H pl = none → JS C x dx nd pl vA vB [] H' → (∀ b o, b ≠ x → H b = some o → H' b = some o) → Q .non H'
def spNumber (C : Addr) : Sp := fun vs H Q _ => ∃ (x dx nd pl : Addr) (vA vB : V) (P : List (Nat × Nat)) (b : Addr) (p : Nat × Nat), vs = [.ref x, .ref b] ∧ JS C x dx nd pl vA vB P H ∧ H b = some (.tup [.int (p.1 : Int), .int (p.2 : Int)]) ∧
  P.Nodup ∧ (p ∉ P → P.length < 2000) ∧ ∀ H' Z (j : Nat), JS C x dx nd pl vA vB (P ++ Z) H' → (P ++ Z).Nodup → (∀ z ∈ Z, z = p) → (P ++ Z)[j]? = some p → KeepJ nd pl H H' → Q (.int (j : Int)) H'
section
variable {P : Program} {w : World} {K : PySem.W.Frag} {mg : Str → Option Value} {base : Heap} {f C : Addr} {fd : FuncData}
theorem sc_checked : FnScope ["text"] ["text"] (defScope (top 27)) := ⟨rfl, rfl, rfl, by decide +kernel, rfl, by decide +kernel, by decide +kernel⟩
theorem ok_checked (F : FnP K "checked" "checked" (top 27) f fd) (g : mg "checked" = some (.ref f)) (T : Txt mg) :
    Cal P w K mg base "checked" 1 ["text"] spChecked := by
  refine ⟨f, fd, F.ok sc_checked (fun vs H Q E h => ?_) (fun cdv A outer s H vs Q E hr h => ?_), g, F.kp, F.bindsN fun _ _ _ _ _ _ us hl => match us, hl with | [_], _ => rfl⟩
  · obtain ⟨w, rfl, _⟩ := h
    rfl
  · obtain ⟨w, rfl, hz, q⟩ := h
    obtain ⟨tm, hm⟩ := T.longest
    refine ⟨_, PSs.nox (pss_cons (ps_if (pt_cmpR op_gt (pe_callB call_len_str (by rfl) T.len PySem.boot_len (pa_cons (pv 0) pa_nil)) (pe_glob (v := .int 60) rfl hm ⟨_, rfl⟩) (nomark _)) pss_never pss_nil)
      (pss_one (ps_ret (pv 0)))), ?_⟩
    refine ⟨_, rfl, _, rfl, line_ge (by rw [tx_len]; omega), _, _, rfl, rfl, _, rfl, iteND (by rw [tx_len]; omega) ?_⟩
    exact ⟨_, rfl, q⟩
theorem sc_init : FnScope ["self", "one", "other"] ["self", "one", "other"] (defScope (inClass (top 28) 0)) := ⟨rfl, rfl, rfl, by decide +kernel, rfl, by decide +kernel, by decide +kernel⟩
theorem ok_init (F : FnP K "__init__" "Joining.__init__" (inClass (top 28) 0) f fd) (T : TxtJ K mg C) : FnOk P w K mg base CX0 1 f fd ["self", "one", "other"] (spInit C) := by
  refine F.ok sc_init (fun vs H Q E h => ?_) (fun cdv A outer s H vs Q E hr h => ?_)
  · obtain ⟨x, dx, vA, vB, rfl, _⟩ := h
    rfl
  · obtain ⟨x, dx, vA, vB, rfl, hx, q⟩ := h
    refine ⟨_, PSs.nox (pss_cons (ps_fld (pv 0) (pv 1) rfl) (pss_cons (ps_fld (pv 0) (pv 2) rfl) (pss_cons (ps_fld (pv 0) pe_dnewT rfl) (pss_one (ps_fld (pv 0) (pe_lst pa_nil) rfl))))), ?_⟩
    refine ⟨_, rfl, _, rfl, x, C, dx, _, rfl, hx, T.cl, T.n1, (by show 0 < 1000; decide), ?_⟩
    refine ⟨_, rfl, _, rfl, x, C, dx, _, rfl, upd_same, T.cl, T.n2, (Nat.lt_of_le_of_lt (length_putF _ _ _) (by show 0 + 1 < 1000; decide)), ?_⟩
    intro nd hnd
    have hnx : nd ≠ x := fun z => by
      rw [z, upd_same] at hnd
      cases hnd
    have hnd0 : H nd = none := by
      rw [upd_ne hnx, upd_ne hnx] at hnd
      exact hnd
    have l1 : (putF ("one" : Str) vA []).length ≤ 1 := length_putF _ _ _
    have l2 : (putF ("other" : Str) vB (putF ("one" : Str) vA [])).length ≤ 2 := Nat.le_trans (length_putF _ _ _) (Nat.succ_le_succ l1)
    have l3 : (putF ("numbers" : Str) (.ref nd) (putF ("other" : Str) vB (putF ("one" : Str) vA []))).length ≤ 3 := Nat.le_trans (length_putF _ _ _) (Nat.succ_le_succ l2)
    refine ⟨_, rfl, x, C, dx, _, rfl, (by rw [upd_ne hnx.symm, upd_same]), T.cl, T.n3, (by omega), ?_⟩
    refine ⟨Nat.zero_le _, fun pl hpl => ?_⟩
    have hpx : pl ≠ x := fun z => by
      rw [z, upd_same] at hpl
      cases hpl
    have hpn : pl ≠ nd := fun z => by
      rw [z, upd_ne hnx, upd_same] at hpl
      cases hpl
    have hpl0 : H pl = none := by
      rw [upd_ne hpx, upd_ne hpn, upd_ne hpx, upd_ne hpx] at hpl
      exact hpl
    refine ⟨_, rfl, x, C, dx, _, rfl, (by rw [upd_ne hpx.symm, upd_same]), T.cl, T.n4, (by omega), ?_⟩
    refine q _ nd pl hnd0 hpl0 ⟨upd_same, by rw [upd_ne hnx, upd_ne hpn.symm, upd_ne hnx, upd_same]; rfl, [], by rw [upd_ne hpx, upd_same], All2.nil⟩ fun b o nb e => ?_
    rw [upd_ne nb, upd_ne (ne_of_none e hpl0), upd_ne nb, upd_ne (ne_of_none e hnd0), upd_ne nb, upd_ne nb]
    exact e
theorem sc_number : FnScope ["self", "pair"] ["self", "pair"] (defScope (inClass (top 28) 1)) := ⟨rfl, rfl, rfl, by decide +kernel, rfl, by decide +kernel, by decide +kernel⟩
theorem ok_number (F : FnP K "number" "Joining.number" (inClass (top 28) 1) f fd) (M : Meth K C "number" f) (Tx : Txt mg) (T : TxtJ K mg C) : CalM P w K mg base C "number" 1 ["self", "pair"] (spNumber C) := by
  refine ⟨f, fd, F.ok sc_number (fun vs H Q E h => ?_) (fun cdv A outer s H vs Q E hr h => ?_), M, F.bindsN fun _ _ _ _ _ _ us hl => match us, hl with | [_, _], _ => rfl⟩
  · obtain ⟨x, dx, nd, pl, vA, vB, P, b, p, rfl, _⟩ := h
    rfl
  · obtain ⟨x, dx, nd, pl, vA, vB, P, b, p, rfl, J, hb, nodup, hz, q⟩ := h
    obtain ⟨tm, hm⟩ := Tx.mostW
    have hu := hu_of hr
    obtain ⟨as, hp, ha⟩ := J.hp
    have kb : H b = some (.tup ((keyOf p).map kV)) := hb
    refine ⟨_, PSs.nox (pss_cons (ps_if (pt_cmp (pc_dnotin hu (pv 1) (pe_fld (pv 0) rfl)))
        (pss_cons (ps_if (pt_cmpR op_eq (pe_callB call_len_seq (by rfl) Tx.len PySem.boot_len (pa_cons (pe_fld (pv 0) rfl) pa_nil)) (pe_glob (v := .int 2000) rfl hm ⟨_, rfl⟩) (nomark _)) pss_never pss_nil)
          (pss_cons (ps_dput hu (pe_fld (pv 0) rfl) (pv 1) (pe_callB call_len_seq (by rfl) Tx.len PySem.boot_len (pa_cons (pe_fld (pv 0) rfl) pa_nil)) rfl)
            (pss_one (ps_expr (pe_bm PySem.F.plainAttrs_list PySem.F.slot_list_append PySem.F.type_list_append mt_append (pe_fld (pv 0) rfl) (pa_cons (pv 1) pa_nil)))))) pss_nil)
      (pss_one (ps_ret (pe_dget hu (pe_fld (pv 0) rfl) (pv 1) (fun _ _ => rfl))))), ?_⟩
    refine ⟨_, rfl, _, rfl, x, C, dx, _, _, rfl, J.ix, T.cl, T.n3, jf_numbers _ _ _ _, nd, _, rfl, DGet.t J.hn kb, _, rfl, ?_⟩
    cases ev : valV (kvsF 0 P) (keyOf p) with
    | some v =>
      show if (!true) = true then _ else _
      refine iteF ?_
      obtain ⟨j, e1, e2⟩ := kvsF_val ev
      subst e2
      refine ⟨_, rfl, x, C, dx, _, _, rfl, J.ix, T.cl, T.n3, jf_numbers _ _ _ _, _, rfl, nd, _, rfl, by rw [← ev]; exact DGet.t J.hn kb, ?_⟩
      rw [Nat.zero_add]
      have en : P ++ [] = P := List.append_nil P
      exact q H [] j (en.symm ▸ J) (en.symm ▸ nodup) (fun z hz => nomatch hz) (en.symm ▸ e1) KeepJ.refl
    | none =>
      have hnp := kvsF_none ev
      have hlt := hz hnp
      show if (!false) = true then _ else _
      refine iteT ?_
      refine ⟨_, rfl, x, C, dx, _, _, rfl, J.ix, T.cl, T.n4, jf_pairs _ _ _ _, pl, as, rfl, .inl (SqL.of hp), rfl, _, rfl, iteND (fun z => ?_) ?_⟩
      · have z1 : ((as.length : Nat) : Int) = 2000 := by injection z
        rw [ha.1] at z1
        omega
      have npl : pl ≠ nd := ne_of hp J.hn (by intro z; cases z)
      have nxn : x ≠ nd := ne_of J.ix J.hn (by intro z; cases z)
      have nxp : x ≠ pl := ne_of J.ix hp (by intro z; cases z)
      have nbn : b ≠ nd := ne_of hb J.hn (by intro z; cases z)
      have nbp : b ≠ pl := ne_of hb hp (by intro z; cases z)
      refine ⟨_, rfl, x, C, dx, _, _, rfl, J.ix, T.cl, T.n4, jf_pairs _ _ _ _, pl, as, rfl, .inl (SqL.of hp), ?_⟩
      refine ⟨_, rfl, x, C, dx, _, _, rfl, J.ix, T.cl, T.n3, jf_numbers _ _ _ _, _, rfl, nd, _, rfl, DPut.t J.hn kb (by rw [kvsF_len]; exact line_gt (by omega)), ?_⟩
      have ek : putK (kvsF 0 P) (keyOf p) (.int (as.length : Int)) = kvsF 0 (P ++ [p]) := by
        rw [putK_new _ ev, kvsF_snoc, Nat.zero_add, ha.1]
      rw [ek]
      have hp2 : upd H nd (.dT (kvsF 0 (P ++ [p]))) pl = some (.lst as) := by rw [upd_ne npl]; exact hp
      have hx2 : upd H nd (.dT (kvsF 0 (P ++ [p]))) x = some (.ins C dx (jf vA vB nd pl)) := by rw [upd_ne nxn]; exact J.ix
      refine ⟨_, rfl, x, C, dx, _, _, rfl, hx2, T.cl, T.n4, jf_pairs _ _ _ _, .inl ⟨rfl, _, SqL.of hp2⟩, _, rfl, pl, _, _, rfl, rfl, hp2, by rw [ha.1]; exact line_gt (by omega), ?_⟩
      have kp : KeepJ nd pl H (upd (upd H nd (.dT (kvsF 0 (P ++ [p])))) pl (.lst (as ++ [V.ref b]))) := fun c o n1 n2 e => by
        rw [upd_ne n2, upd_ne n1]
        exact e
      have J2 : JS C x dx nd pl vA vB (P ++ [p]) (upd (upd H nd (.dT (kvsF 0 (P ++ [p])))) pl (.lst (as ++ [V.ref b]))) := by
        refine ⟨kp _ _ nxn nxp J.ix, by rw [upd_ne npl.symm, upd_same], _, upd_same, ?_⟩
        exact (ha.imp fun _ _ z => z.keep (J.tups kp)).snoc ⟨b, rfl, kp _ _ nbn nbp hb⟩
      have ev2 : valV (kvsF 0 (P ++ [p])) (keyOf p) = some (.int (P.length : Int)) := by
        rw [← ek, valV_put, if_pos rfl, ha.1]
      refine ⟨_, rfl, x, C, dx, _, _, rfl, J2.ix, T.cl, T.n3, jf_numbers _ _ _ _, _, rfl, nd, _, rfl, by rw [← ev2]; exact DGet.t J2.hn (kp _ _ nbn nbp kb), ?_⟩
      refine q _ [p] P.length J2 (nodup_snoc nodup hnp) (fun z hz => List.mem_singleton.mp hz) ?_ kp
      rw [List.getElem?_append_right (Nat.le_refl _), Nat.sub_self]
      rfl
end
end K26

set_option Elab.async false
set_option linter.all false
set_option maxRecDepth 100000
set_option maxHeartbeats 4000000
namespace K26
open PySem PySem.Spec L2
/-- what B makes behind A fits the program's bounds -/
structure Fits (A B : Mach) : Prop where
  a : Wide A
  b : Wide B
  k : A.k = B.k
  n : A.rows.length * B.rows.length ≤ 2000
  out : ∀ s t c, s < A.rows.length → t < B.rows.length → c < A.k → (walk B t (A.ent s c).1).1.length ≤ 60
  last : ∀ s t, s < A.rows.length → t < B.rows.length → ((walk B t (A.row s).last).1 ++ (B.row (walk B t (A.row s).last).2).last).length ≤ 60
  first : (B.first ++ (walk B 0 A.first).1).length ≤ 60
def Bnd (A B : Mach) (P : List (Nat × Nat)) : Prop := ∀ p ∈ P, p.1 < A.rows.length ∧ p.2 < B.rows.length
theorem Bnd.lt {A B : Mach} {P : List (Nat × Nat)} {p : Nat × Nat} (h : Bnd A B P) (F : Fits A B) (nd : P.Nodup) (h1 : p.1 < A.rows.length) (h2 : p.2 < B.rows.length) (hp : p ∉ P) : P.length < 2000 := by
  have q := pairs_le (nodup_snoc nd hp) (n := A.rows.length) (m := B.rows.length) fun z hz => by
    rcases List.mem_append.mp hz with z1 | z1
    · exact h z z1
    · rw [List.mem_singleton.mp z1]
      exact ⟨h1, h2⟩
  rw [List.length_append] at q
  have := F.n
  have : [p].length = 1 := rfl
  omega
/-- the row so far -/
def Part (A B : Mach) (P : List (Nat × Nat)) (s t : Nat) (xs : List Ent) : Prop :=
  ∀ c, c < xs.length → ∃ j, xs[c]? = some ((walk B t (A.ent s c).1).1, j) ∧ P[j]? = some ((A.ent s c).2, (walk B t (A.ent s c).1).2)
theorem Part.snoc {A B : Mach} {P Z : List (Nat × Nat)} {s t j : Nat} {xs : List Ent} (h : Part A B P s t xs) (e : (P ++ Z)[j]? = some ((A.ent s xs.length).2, (walk B t (A.ent s xs.length).1).2)) :
    Part A B (P ++ Z) s t (xs ++ [((walk B t (A.ent s xs.length).1).1, j)]) := fun c hc => by
  by_cases hlt : c < xs.length
  · obtain ⟨i, e1, e2⟩ := h c hlt
    exact ⟨i, get_app e1, get_app e2⟩
  · have hce : c = xs.length := by
      rw [List.length_append] at hc
      have : [((walk B t (A.ent s xs.length).1).1, j)].length = 1 := rfl
      omega
    subst hce
    refine ⟨j, ?_, e⟩
    rw [List.getElem?_append_right (Nat.le_refl _), Nat.sub_self]
    rfl
def spRow (C : Addr) : Sp := fun vs H Q _ => ∃ (x dx nd pl : Addr) (vA vB : V) (A B : Mach) (P : List (Nat × Nat)) (b : Addr) (s t : Nat), vs = [.ref x, .ref b] ∧ JS C x dx nd pl vA vB P H ∧ MachAt H vA A ∧ MachAt H vB B ∧ Fits A B ∧
  H b = some (.tup [.int (s : Int), .int (t : Int)]) ∧ s < A.rows.length ∧ t < B.rows.length ∧ P.Nodup ∧ Bnd A B P ∧
  ∀ H' Z v r, JS C x dx nd pl vA vB (P ++ Z) H' → (P ++ Z).Nodup → Bnd A B (P ++ Z) → JRow A B (P ++ Z) (s, t) r → RowAt H' v r → KeepJ nd pl H H' → Q v H'
section
variable {P : Program} {w : World} {K : PySem.W.Frag} {mg : Str → Option Value} {base : Heap} {f C : Addr} {fd : FuncData}
theorem pe_calM {X : Cx} {C : Addr} {m : Str} {k j : Nat} {ps : List Str} {sp : Sp} {pos apos : Pos} {o e : Expr} {es : List Expr} {ta : TE} {t : TA} {pl : Sem Bool} (M : CalM X.prog X.w X.K X.mg X.base C m k ps sp) (c : Cls X.K C) (he : PE X o ta) (hr : Room j X.A) (ha : PA X (e :: es) t) (hj : k ≤ j := by decide)
    (hst : starEach (e :: es) X.env = (false, eval e X.env) :: starEach es X.env := by rfl) (hpl : (backTo pos (starEach es X.env)).any (·.1) = false := by rfl)
    (ht : eval (.Call (.Attribute o m apos) (e :: es) [] pos) X.env = (do
      let ov ← eval o X.env
      standAt apos.atName
      let (f, first) ← holding [ov] (getMethod ov m pl)
      callWith pos f first (backTo pos (starEach (e :: es) X.env)) (backToKw pos (keywordEach [] X.env))) := by rfl) :
    PE X (.Call (.Attribute o m apos) (e :: es) [] pos) (tMeth C m sp [] E0 ta t) := by
  obtain ⟨f, fd, F, hm, hb⟩ := M
  exact pe_meth he c hm F (hr.mono hj) hb .nil pass0 ha hst hpl ht
abbrev NR : List Str := ["self", "pair", "last", "entries", "text", "state", "found", "out", "following", "more", "behind_it"]
theorem sc_jrow : FnScope NR ["self", "pair"] (defScope (inClass (top 28) 2)) := ⟨rfl, rfl, rfl, by decide +kernel, rfl, by decide +kernel, by decide +kernel⟩
theorem ok_jrow (F : FnP K "row" "Joining.row" (inClass (top 28) 2) f fd) (M : Meth K C "row" f) (T : TxtJ K mg C) (Tx : Txt mg) (C1 : Cal P w K mg base "walked" 1 ["machine", "state", "word"] spWalked) (C2 : Cal P w K mg base "checked" 1 ["text"] spChecked)
    (C3 : CalM P w K mg base C "number" 1 ["self", "pair"] (spNumber C)) : CalM P w K mg base C "row" 2 ["self", "pair"] (spRow C) := by
  refine ⟨f, fd, F.ok sc_jrow (fun vs H Q E h => ?_) (fun cdv A outer s H vs Q E hr h => ?_), M, F.bindsN fun _ _ _ _ _ _ us hl => match us, hl with | [_, _], _ => rfl⟩
  · obtain ⟨x, dx, nd, pl, vA, vB, A, B, P, b, s, t, rfl, _⟩ := h
    rfl
  · obtain ⟨x, dx, nd, pl, vA, vB, A, B, P, b, s, t, rfl, J, hA, hB, Ft, hb, hs, ht, nodup, hbd, q⟩ := h
    have wA := Ft.a
    have wB := Ft.b
    have noN : (jf vA vB nd pl).lookup ("number" : Str) = none := jf_no _ _ _ _ (by decide +kernel) (by decide +kernel) (by decide +kernel) (by decide +kernel)
    refine ⟨_, PSs.nox (pss_cons (ps_asg (pe_ix ix_tup (pe_ix ix_tup (pe_fld (pv 0) rfl) pe_int (fun _ _ => rfl)) (pe_ix ix_tup (pv 1) pe_int (fun _ _ => rfl)) (fun _ _ => rfl))
          (pg_tup (by rfl) (pgs_cons (pg_name (i := 2) sc_jrow.nd rfl (Or.inl rfl)) (pgs_cons (pg_name (i := 3) sc_jrow.nd rfl (Or.inl rfl)) pgs_nil))))
      (pss_cons (ps_asg (pe_cal C1 hr rfl (pa_cons (pe_fld (pv 0) rfl) (pa_cons (pe_ix ix_tup (pv 1) pe_int (fun _ _ => rfl)) (pa_cons (pv 2) pa_nil))))
          (pg_tup (by rfl) (pgs_cons (pg_name (i := 4) sc_jrow.nd rfl (Or.inl rfl)) (pgs_cons (pg_name (i := 5) sc_jrow.nd rfl (Or.inl rfl)) pgs_nil))))
      (pss_cons (ps_set (i := 6) sc_jrow.nd rfl (Or.inl rfl) (pe_lst pa_nil))
      (pss_cons (ps_for PassesOwn.never rfl (pi_tup (pv 3)) (pg_tup (by rfl) (pgs_cons (pg_name (i := 7) sc_jrow.nd rfl (Or.inl rfl)) (pgs_cons (pg_name (i := 8) sc_jrow.nd rfl (Or.inl rfl)) pgs_nil)))
          (pss_cons (ps_asg (pe_cal C1 hr rfl (pa_cons (pe_fld (pv 0) rfl) (pa_cons (pe_ix ix_tup (pv 1) pe_int (fun _ _ => rfl)) (pa_cons (pv 7) pa_nil))))
              (pg_tup (by rfl) (pgs_cons (pg_name (i := 9) sc_jrow.nd rfl (Or.inl rfl)) (pgs_cons (pg_name (i := 10) sc_jrow.nd rfl (Or.inl rfl)) pgs_nil))))
            (pss_one (ps_expr (pe_bm PySem.F.plainAttrs_list PySem.F.slot_list_append PySem.F.type_list_append mt_append (pv 6)
              (pa_cons (pe_tup (pa_cons (pe_cal C2 hr rfl (pa_cons (pv 9) pa_nil)) (pa_cons (pe_calM C3 T.cl (pv 0) hr (pa_cons (pe_tup (pa_cons (pv 8) (pa_cons (pv 10) pa_nil))) pa_nil)) pa_nil))) pa_nil))))))
        (pss_one (ps_ret (pe_tup (pa_cons (pe_cal C2 hr rfl (pa_cons (pe_op op_add_str (pv 4) (pe_ix ix_tup (pe_ix ix_tup (pe_ix ix_tup (pe_fld (pv 0) rfl) pe_int (fun _ _ => rfl)) (pv 5) (fun _ _ => rfl)) pe_int (fun _ _ => rfl))) pa_nil))
          (pa_cons (pe_callTy call_tuple_of (by rfl) Tx.tuple (by decide +kernel) (pa_cons (pv 6) pa_nil)) pa_nil))))))))), ?_⟩
    -- last, entries = self.one[2][pair[0]]
    obtain ⟨p, q1, rs, rfl, hp, hq, p1, a, es, er, hp1, ha, hes⟩ := hA.row hs
    have rA := wA.rowOk hs
    refine ⟨_, rfl, x, C, dx, _, _, rfl, J.ix, T.cl, T.n1, jf_one _ _ _ _, _, _, _, _, rfl, rfl, SqT.of hp, atI_nat (j := 2) rfl, _, rfl, _, _, _, _, rfl, rfl, SqT.of hb, atI_nat (j := 0) rfl,
      _, _, _, _, rfl, rfl, SqT.of hq, atI_nat er, ?_⟩
    refine ⟨p1, _, rfl, SqT.of hp1, rfl, _, _, rfl, _, _, rfl, rfl, ?_⟩
    -- text, state = walked(self.other, pair[1], last)
    refine ⟨_, rfl, x, C, dx, _, _, rfl, J.ix, T.cl, T.n2, jf_other _ _ _ _, _, rfl, _, _, _, _, rfl, rfl, SqT.of hb, atI_nat (j := 1) rfl, _, rfl,
      vB, B, t, (A.row s).last, rfl, hB, wB, ht, Ft.k ▸ rA.lw, Nat.le_trans rA.ll (by decide), fun H1 o1 s1 n1 h1 => ?_⟩
    have J1 := J.same s1
    have wl := wB.walk ht (Ft.k ▸ rA.lw)
    refine ⟨o1, _, rfl, SqT.of h1, rfl, _, _, rfl, _, _, rfl, rfl, ?_⟩
    -- found = []
    refine ⟨Nat.zero_le _, fun l hl => ?_⟩
    have s2 : Same H (upd H1 l (.lst [])) := s1.trans (same_new hl)
    have hl0 : H l = none := s1.free hl
    have nlx : l ≠ x := fun z => by
      rw [z, J1.ix] at hl
      cases hl
    have nln : l ≠ nd := fun z => by
      rw [z, J1.hn] at hl
      cases hl
    have nlp : l ≠ pl := fun z => by
      obtain ⟨as, e, _⟩ := J1.hp
      rw [z, e] at hl
      cases hl
    refine ⟨_, rfl, a, rfl, ⟨_, SqT.of (s2 _ _ ha)⟩, for_tup (K := K) (a := a) (xs := es)
      (fun i σ H' => ∃ (c1 c2 c3 c4 : Option V) (Z : List (Nat × Nat)) (fs : List V) (xs : List Ent), σ = [some (.ref x), some (.ref b), some (vS (A.row s).last), some (.ref a), some (vS (walk B t (A.row s).last).1), some (.int ((walk B t (A.row s).last).2 : Nat)), some (.ref l), c1, c2, c3, c4] ∧
        JS C x dx nd pl (.ref p) vB (P ++ Z) H' ∧ (P ++ Z).Nodup ∧ Bnd A B (P ++ Z) ∧ KeepJ nd pl H H' ∧ H' l = some (.lst fs) ∧ All2 (EntAt H') fs xs ∧ xs.length = i ∧ Part A B (P ++ Z) s t xs)
      ⟨none, none, none, none, [], [], [], rfl, (List.append_nil P).symm ▸ J.same s2, (List.append_nil P).symm ▸ nodup, (List.append_nil P).symm ▸ hbd, KeepJ.of s2, upd_same, All2.nil, rfl, fun c hc => absurd hc (Nat.not_lt_zero _)⟩
      (fun i σ H' _ ⟨c1, c2, c3, c4, Z, fs, xs, _, J', _, _, k', _⟩ => SqT.of (J.tups k' _ _ ha)) ?_ ?_⟩
    · rintro i v σ H' hv ⟨c1, c2, c3, c4, Z, fs, xs, rfl, J', nodup', hbd', k', hf, hxs, el, hpart⟩
      have tk := J.tups k'
      obtain ⟨e, he, y, rfl, hy⟩ := hes.at_ hv
      have hi : i < A.k := by
        rw [← rA.en]
        exact (List.getElem?_eq_some_iff.mp he).1
      have ee : e = A.ent s i := by
        have z := wA.entAt hs hi
        rw [z] at he
        exact (Option.some.inj he).symm
      subst ee
      obtain ⟨a1, a2, a3⟩ := wA.entOk hs hi
      refine ⟨y, _, rfl, SqT.of (tk _ _ hy), rfl, _, _, rfl, _, _, rfl, rfl, ?_⟩
      refine ⟨_, rfl, x, C, dx, _, _, rfl, J'.ix, T.cl, T.n2, jf_other _ _ _ _, _, rfl, _, _, _, _, rfl, rfl, SqT.of (tk _ _ hb), atI_nat (j := 1) rfl, _, rfl,
        vB, B, t, (A.ent s i).1, rfl, hB.keep tk, wB, ht, Ft.k ▸ a2, Nat.le_trans a1 (by decide), fun H2 o2 s3 n2 h2 => ?_⟩
      have we := wB.walk ht (Ft.k ▸ a2)
      have J2 := J'.same s3
      refine ⟨o2, _, rfl, SqT.of h2, rfl, _, _, rfl, _, _, rfl, rfl, ?_⟩
      refine ⟨_, rfl, .inl ⟨rfl, _, SqL.of (s3 _ _ hf)⟩, ?_⟩
      refine ⟨_, rfl, _, rfl, Ft.out s t i hs ht hi, ?_⟩
      refine ⟨_, rfl, x, dx, _, rfl, J2.ix, noN, ?_⟩
      refine ⟨_, rfl, _, rfl, (by show 2 ≤ sizeLine; decide), fun t1 ht1 => ?_⟩
      have J3 := J2.same (same_new (o := .tup [.int ((A.ent s i).2 : Int), .int ((walk B t (A.ent s i).1).2 : Nat)]) ht1)
      refine ⟨x, dx, nd, pl, .ref p, vB, P ++ Z, t1, ((A.ent s i).2, (walk B t (A.ent s i).1).2), rfl, J3, upd_same, nodup', hbd'.lt Ft nodup' a3 we.1, fun H3 Z2 j J4 nodup4 hz4 hj4 k4 => ?_⟩
      have k3 : KeepJ nd pl H' H3 := (KeepJ.of (s3.trans (same_new ht1))).trans k4
      have hf3 : H3 l = some (.lst fs) := k3 _ _ nln nlp hf
      refine ⟨(by show 2 ≤ sizeLine; decide), fun t2 ht2 => ?_⟩
      have nlt : l ≠ t2 := ne_of_none hf3 ht2
      refine ⟨l, fs, _, rfl, rfl, by rw [upd_ne nlt]; exact hf3, by rw [hxs.1, el]; exact line_gt (by have := wA.k6; omega), ?_⟩
      have ea : P ++ Z ++ Z2 = P ++ (Z ++ Z2) := List.append_assoc ..
      rw [ea] at J4 nodup4 hj4
      have k5 : KeepJ nd pl H (upd (upd H3 t2 (.tup [vS (walk B t (A.ent s i).1).1, .int (j : Int)])) l (.lst (fs ++ [.ref t2]))) := ((k'.trans k3).new ht2).upd hl0
      have J5 : JS C x dx nd pl (.ref p) vB (P ++ (Z ++ Z2)) (upd (upd H3 t2 (.tup [vS (walk B t (A.ent s i).1).1, .int (j : Int)])) l (.lst (fs ++ [.ref t2]))) :=
        (J4.same (same_new ht2)).upd nlx nln nlp fun ys e => by
          rw [upd_ne nlt, hf3] at e
          cases e
      refine ⟨_, _, _, _, Z ++ Z2, fs ++ [.ref t2], xs ++ [((walk B t (A.ent s i).1).1, j)], rfl, J5, nodup4, fun z hz => ?_, k5, upd_same, ?_, by rw [List.length_append, el]; rfl, ?_⟩
      · rw [← ea] at hz
        rcases List.mem_append.mp hz with z1 | z1
        · exact hbd' z z1
        · rw [hz4 z z1]
          exact ⟨a3, we.1⟩
      · have tk5 : Tups H' (upd (upd H3 t2 (.tup [vS (walk B t (A.ent s i).1).1, .int (j : Int)])) l (.lst (fs ++ [.ref t2]))) := fun c ys e => by
          rw [upd_ne (fun z : c = l => by rw [z, hf] at e; cases e)]
          exact Tups.new ht2 _ _ (J'.tups k3 _ _ e)
        refine (hxs.imp fun _ _ z => z.keep tk5).snoc ⟨t2, rfl, ?_⟩
        rw [upd_ne nlt.symm, upd_same]
      · subst el
        rw [← ea]
        rw [← ea] at hj4
        exact hpart.snoc hj4
    · rintro σ H' ⟨c1, c2, c3, c4, Z, fs, xs, rfl, J', nodup', hbd', k', hf, hxs, el, hpart⟩
      have tk := J.tups k'
      obtain ⟨pb, qb, rb, rfl, hpb, hqb, p2, a2, es2, er2, hp2, ha2, _⟩ := (hB.keep tk).row wl.1
      have rB := wB.rowOk wl.1
      have ls := Ft.last s t hs ht
      refine ⟨_, rfl, _, rfl, x, C, dx, _, _, rfl, J'.ix, T.cl, T.n2, jf_other _ _ _ _, _, _, _, _, rfl, rfl, SqT.of hpb, atI_nat (j := 2) rfl, _, rfl, _, _, _, _, rfl, rfl, SqT.of hqb, atI_nat er2,
        _, _, _, _, rfl, rfl, SqT.of hp2, atI_nat (j := 0) rfl, _, _, rfl, rfl, line_ge (by rw [tx_len, tx_len]; rw [List.length_append] at ls; omega), ?_⟩
      rw [tx_app]
      refine ⟨_, rfl, ls, ?_⟩
      refine ⟨_, rfl, l, _, rfl, .inl ⟨SqL.of hf, fun t1 ht1 => ⟨(by show 2 ≤ sizeLine; decide), fun t2 ht2 => ?_⟩⟩⟩
      have s4 : Same H' (upd (upd H' t1 (.tup fs)) t2 (.tup [vS ((walk B t (A.row s).last).1 ++ (B.row (walk B t (A.row s).last).2).last), .ref t1])) := (same_new ht1).trans (same_new ht2)
      have n12 : t1 ≠ t2 := fun z => by
        rw [← z, upd_same] at ht2
        cases ht2
      refine q _ Z _ ⟨(walk B t (A.row s).last).1 ++ (B.row (walk B t (A.row s).last).2).last, xs⟩ (J'.same s4) nodup' hbd' ⟨rfl, ?_, fun c hc => ?_⟩ ⟨t2, t1, fs, rfl, upd_same, by rw [upd_ne n12, upd_same], hxs.imp fun _ _ z => z.keep (tups_same s4)⟩ (k'.trans (.of s4))
      · show xs.length = A.k
        rw [el, hes.1, rA.en]
      · exact hpart c (by rw [el, hes.1, rA.en]; exact hc)
end
end K26

set_option Elab.async false
set_option linter.all false
set_option maxRecDepth 100000
set_option maxHeartbeats 4000000
namespace K26
open PySem PySem.Spec L2
def spMachine (C : Addr) : Sp := fun vs H Q _ => ∃ (x dx nd pl : Addr) (vA vB : V) (A B : Mach), vs = [.ref x] ∧ JS C x dx nd pl vA vB [] H ∧ MachAt H vA A ∧ MachAt H vB B ∧ Fits A B ∧
  ∀ H' v J P, Joins A B J P → MachAt H' v J → KeepJ nd pl H H' → Q v H'
def spBehind : Sp := fun vs H Q _ => ∃ (vA vB : V) (A B : Mach), vs = [vA, vB] ∧ MachAt H vA A ∧ MachAt H vB B ∧ Fits A B ∧ ∀ H' v J P, Joins A B J P → MachAt H' v J → Same H H' → Q v H'
/-- how many items a list holds -/
def lenAt (H : Hp) (l : Addr) : Nat := match H l with
  | some (.lst xs) => xs.length
  | _ => 0
theorem lenAt_of {H : Hp} {l : Addr} {xs : List V} (h : H l = some (.lst xs)) : lenAt H l = xs.length := by
  unfold lenAt
  rw [h]
section
variable {P : Program} {w : World} {K : PySem.W.Frag} {mg : Str → Option Value} {base : Heap} {f C : Addr} {fd : FuncData}
theorem sc_jmachine : FnScope ["self", "text", "state", "rows"] ["self"] (defScope (inClass (top 28) 3)) := ⟨rfl, rfl, rfl, by decide +kernel, rfl, by decide +kernel, by decide +kernel⟩
theorem ok_jmachine (F : FnP K "machine" "Joining.machine" (inClass (top 28) 3) f fd) (M : Meth K C "machine" f) (T : TxtJ K mg C) (Tx : Txt mg) (C1 : Cal P w K mg base "walked" 1 ["machine", "state", "word"] spWalked) (C2 : Cal P w K mg base "checked" 1 ["text"] spChecked)
    (C3 : CalM P w K mg base C "number" 1 ["self", "pair"] (spNumber C)) (C4 : CalM P w K mg base C "row" 2 ["self", "pair"] (spRow C)) : CalM P w K mg base C "machine" 3 ["self"] (spMachine C) := by
  refine ⟨f, fd, F.ok sc_jmachine (fun vs H Q E h => ?_) (fun cdv A outer s H vs Q E hr h => ?_), M, F.bindsN fun _ _ _ _ _ _ us hl => match us, hl with | [_], _ => rfl⟩
  · obtain ⟨x, dx, nd, pl, vA, vB, A, B, rfl, _⟩ := h
    rfl
  · obtain ⟨x, dx, nd, pl, vA, vB, A, B, rfl, J, hA, hB, Ft, q⟩ := h
    have wA := Ft.a
    have wB := Ft.b
    have noN : (jf vA vB nd pl).lookup ("number" : Str) = none := jf_no _ _ _ _ (by decide +kernel) (by decide +kernel) (by decide +kernel) (by decide +kernel)
    have noR : (jf vA vB nd pl).lookup ("row" : Str) = none := jf_no _ _ _ _ (by decide +kernel) (by decide +kernel) (by decide +kernel) (by decide +kernel)
    refine ⟨_, PSs.nox (pss_cons (ps_asg (pe_cal C1 hr rfl (pa_cons (pe_fld (pv 0) rfl) (pa_cons pe_int (pa_cons (pe_ix ix_tup (pe_fld (pv 0) rfl) pe_int (fun _ _ => rfl)) pa_nil))))
          (pg_tup (by rfl) (pgs_cons (pg_name (i := 1) sc_jmachine.nd rfl (Or.inl rfl)) (pgs_cons (pg_name (i := 2) sc_jmachine.nd rfl (Or.inl rfl)) pgs_nil))))
      (pss_cons (ps_expr (pe_calM C3 T.cl (pv 0) hr (pa_cons (pe_tup (pa_cons pe_int (pa_cons (pv 2) pa_nil))) pa_nil)))
      (pss_cons (ps_set (i := 3) sc_jmachine.nd rfl (Or.inl rfl) (pe_lst pa_nil))
      (pss_cons (ps_while PassesOwn.never (pt_cmpR op_lt (pe_callB call_len_seq (by rfl) Tx.len PySem.boot_len (pa_cons (pv 3) pa_nil)) (pe_callB call_len_seq (by rfl) Tx.len PySem.boot_len (pa_cons (pe_fld (pv 0) rfl) pa_nil)) (nomark _))
          (pss_one (ps_expr (pe_bm PySem.F.plainAttrs_list PySem.F.slot_list_append PySem.F.type_list_append mt_append (pv 3)
            (pa_cons (pe_calM C4 T.cl (pv 0) hr (pa_cons (pe_ix ix_list (pe_fld (pv 0) rfl) (pe_callB call_len_seq (by rfl) Tx.len PySem.boot_len (pa_cons (pv 3) pa_nil)) (fun _ _ => rfl)) pa_nil)) pa_nil)))))
        (pss_one (ps_ret (pe_tup (pa_cons (pe_ix ix_tup (pe_fld (pv 0) rfl) pe_int (fun _ _ => rfl)) (pa_cons
          (pe_cal C2 hr rfl (pa_cons (pe_op op_add_str (pe_ix ix_tup (pe_fld (pv 0) rfl) pe_int (fun _ _ => rfl)) (pv 1)) pa_nil))
          (pa_cons (pe_callTy call_tuple_of (by rfl) Tx.tuple (by decide +kernel) (pa_cons (pv 3) pa_nil)) pa_nil)))))))))), ?_⟩
    -- text, state = walked(self.other, 0, self.one[1])
    obtain ⟨p, q1, rs, rfl, hp, hq, hrs⟩ := id hA
    have wf := wB.walk wB.pos (Ft.k ▸ wA.fw)
    refine ⟨_, rfl, x, C, dx, _, _, rfl, J.ix, T.cl, T.n2, jf_other _ _ _ _, _, rfl, x, C, dx, _, _, rfl, J.ix, T.cl, T.n1, jf_one _ _ _ _, _, _, _, _, rfl, rfl, SqT.of hp, atI_nat (j := 1) rfl,
      vB, B, 0, A.first, rfl, hB, wB, wB.pos, Ft.k ▸ wA.fw, Nat.le_trans wA.fl (by decide), fun H1 o1 s1 n1 h1 => ?_⟩
    have J1 := J.same s1
    refine ⟨o1, _, rfl, SqT.of h1, rfl, _, _, rfl, _, _, rfl, rfl, ?_⟩
    -- self.number((0, state))
    refine ⟨_, rfl, x, dx, _, rfl, J1.ix, noN, _, rfl, (by show 2 ≤ sizeLine; decide), fun t1 ht1 => ?_⟩
    have J2 := J1.same (same_new (o := .tup [.int 0, .int ((walk B 0 A.first).2 : Nat)]) ht1)
    refine ⟨x, dx, nd, pl, .ref p, vB, [], t1, (0, (walk B 0 A.first).2), rfl, J2, upd_same, List.nodup_nil, fun _ => by show 0 < 2000; decide, fun H2 Z j J3 nodup hz hj k3 => ?_⟩
    rw [List.nil_append] at J3 nodup hj
    have kk2 : KeepJ nd pl H H2 := (KeepJ.of (s1.trans (same_new ht1))).trans k3
    have hb2 : Bnd A B Z := fun z hm => by
      rw [hz z hm]
      exact ⟨wA.pos, wf.1⟩
    have hZ0 : Z[0]? = some (0, (walk B 0 A.first).2) := by
      cases Z with
      | nil => cases hj
      | cons z r => rw [show z = (0, (walk B 0 A.first).2) from hz z (List.mem_cons_self ..)]; rfl
    refine ⟨Nat.zero_le _, fun l hl => ?_⟩
    have nlx : l ≠ x := fun z => by
      rw [z, J3.ix] at hl
      cases hl
    have nln : l ≠ nd := fun z => by
      rw [z, J3.hn] at hl
      cases hl
    have nlp : l ≠ pl := fun z => by
      obtain ⟨as, e, _⟩ := J3.hp
      rw [z, e] at hl
      cases hl
    have hl0 : H l = none := by
      cases e : H l with
      | none => rfl
      | some o =>
        rw [kk2 _ _ nln nlp e] at hl
        cases hl
    refine while_by (fun σ H' => ∃ (Pp : List (Nat × Nat)) (vs : List V) (Rr : List Row), σ = [some (.ref x), some (vS (walk B 0 A.first).1), some (.int ((walk B 0 A.first).2 : Nat)), some (.ref l)] ∧
        JS C x dx nd pl (.ref p) vB Pp H' ∧ Pp.Nodup ∧ Bnd A B Pp ∧ Pp[0]? = some (0, (walk B 0 A.first).2) ∧ H' l = some (.lst vs) ∧ All2 (RowAt H') vs Rr ∧ Rr.length ≤ Pp.length ∧
        (∀ (i : Nat) (pp : Nat × Nat), i < Rr.length → Pp[i]? = some pp → ∃ r, Rr[i]? = some r ∧ JRow A B Pp pp r) ∧ KeepJ nd pl H H') (fun _ H' => A.rows.length * B.rows.length - lenAt H' l)
      ⟨Z, [], [], rfl, J3.same (same_new hl), nodup, hb2, hZ0, upd_same, All2.nil, Nat.zero_le _, fun i pp hi _ => absurd hi (Nat.not_lt_zero _), kk2.new hl⟩ ?_ ?_
    · rintro σ H' ⟨Pp, vs, Rr, rfl, Jj, nodupP, bndP, hP0, hvs, haR, hle, hrow, kH⟩
      obtain ⟨as, hpl, has⟩ := Jj.hp
      refine ⟨_, rfl, l, vs, rfl, .inl (SqL.of hvs), _, rfl, x, C, dx, _, _, rfl, Jj.ix, T.cl, T.n4, jf_pairs _ _ _ _, pl, as, rfl, .inl (SqL.of hpl), _, _, rfl, rfl, _, rfl, ?_⟩
      refine ite2 (fun hlt => ?_) (fun hge => ?_)
      · have hlt1 : ((vs.length : Nat) : Int) < ((as.length : Nat) : Int) := of_decide_eq_true hlt
        have hlt2 : vs.length < Pp.length := by
          have := has.1
          omega
        have hP := List.getElem?_eq_getElem hlt2
        obtain ⟨_, eb, ⟨b, rfl, hb⟩⟩ := has.2 vs.length _ hP
        obtain ⟨bs, bt⟩ := bndP _ (List.getElem_mem hlt2)
        refine ⟨_, rfl, .inl ⟨rfl, _, SqL.of hvs⟩, _, rfl, x, dx, _, rfl, Jj.ix, noR, ?_⟩
        refine ⟨_, rfl, x, C, dx, _, _, rfl, Jj.ix, T.cl, T.n4, jf_pairs _ _ _ _, _, rfl, l, vs, rfl, .inl (SqL.of hvs), pl, as, _, _, rfl, rfl, SqL.of hpl, atI_nat eb, ?_⟩
        have tk := J.tups kH
        refine ⟨x, dx, nd, pl, .ref p, vB, A, B, Pp, b, Pp[vs.length].1, Pp[vs.length].2, rfl, Jj, hA.keep tk, hB.keep tk, Ft, hb, bs, bt, nodupP, bndP, fun H3 Z3 v r J5 nodup5 bnd5 jr hv k5 => ?_⟩
        have hvs3 : H3 l = some (.lst vs) := k5 _ _ nln nlp hvs
        have hplen : (Pp ++ Z3).length ≤ A.rows.length * B.rows.length := pairs_le nodup5 bnd5
        have hpp : Pp.length ≤ (Pp ++ Z3).length := by
          rw [List.length_append]
          exact Nat.le_add_right _ _
        refine ⟨l, vs, v, rfl, rfl, hvs3, line_gt (by have := Ft.n; omega), ⟨Pp ++ Z3, vs ++ [v], Rr ++ [r], rfl, J5.upd nlx nln nlp (fun ys e => by rw [hvs3] at e; cases e), nodup5, bnd5, get_app hP0, upd_same, ?_, ?_, ?_, (kH.trans k5).upd hl0⟩, ?_⟩
        · have tk3 : Tups H' (upd H3 l (.lst (vs ++ [v]))) := fun c ys e => by
            rw [upd_ne (fun z : c = l => by rw [z, hvs] at e; cases e)]
            exact Jj.tups k5 _ _ e
          exact (haR.imp fun _ _ z => z.keep tk3).snoc (hv.keep fun c ys e => by
            rw [upd_ne (fun z : c = l => by rw [z, hvs3] at e; cases e)]
            exact e)
        · rw [List.length_append]
          have : [r].length = 1 := rfl
          have := haR.1
          omega
        · intro i pp hi hpi
          by_cases hlt3 : i < Rr.length
          · have hiP : i < Pp.length := by omega
            rw [List.getElem?_append_left hiP] at hpi
            obtain ⟨r2, e2, j2⟩ := hrow i pp hlt3 hpi
            exact ⟨r2, get_app e2, j2.more⟩
          · have hie : i = vs.length := by
              rw [List.length_append] at hi
              have : [r].length = 1 := rfl
              have := haR.1
              omega
            subst hie
            rw [List.getElem?_append_left hlt2, hP] at hpi
            cases hpi
            refine ⟨r, ?_, jr⟩
            rw [haR.1, List.getElem?_append_right (Nat.le_refl _), Nat.sub_self]
            rfl
        · show A.rows.length * B.rows.length - lenAt (upd H3 l (.lst (vs ++ [v]))) l < A.rows.length * B.rows.length - lenAt H' l
          rw [lenAt_of hvs, lenAt_of upd_same, List.length_append]
          have : [v].length = 1 := rfl
          omega
      · have hge1 : ¬ ((vs.length : Nat) : Int) < ((as.length : Nat) : Int) := fun z => hge (decide_eq_true z)
        have hlen : Rr.length = Pp.length := by
          have := has.1
          have := haR.1
          omega
        have tk := J.tups kH
        obtain ⟨pb, qb, rb, rfl, hpb, hqb, hrb⟩ := hB.keep tk
        have ff := Ft.first
        refine ⟨_, rfl, x, C, dx, _, _, rfl, Jj.ix, T.cl, T.n1, jf_one _ _ _ _, _, _, _, _, rfl, rfl, SqT.of (tk _ _ hp), atI_nat (j := 0) rfl, ?_⟩
        refine ⟨_, rfl, x, C, dx, _, _, rfl, Jj.ix, T.cl, T.n2, jf_other _ _ _ _, _, _, _, _, rfl, rfl, SqT.of hpb, atI_nat (j := 1) rfl, _, rfl, _, _, rfl, rfl, line_ge (by rw [tx_len, tx_len]; rw [List.length_append] at ff; omega), ?_⟩
        rw [tx_app]
        refine ⟨_, rfl, ff, ?_⟩
        refine ⟨_, rfl, l, _, rfl, .inl ⟨SqL.of hvs, fun t1 ht1 => ⟨(by show 3 ≤ sizeLine; decide), fun t2 ht2 => ?_⟩⟩⟩
        have s4 : Same H' (upd (upd H' t1 (.tup vs)) t2 (.tup [.int (A.k : Int), vS (B.first ++ (walk B 0 A.first).1), .ref t1])) := (same_new ht1).trans (same_new ht2)
        have n12 : t1 ≠ t2 := fun z => by
          rw [← z, upd_same] at ht2
          cases ht2
        refine q _ _ ⟨A.k, B.first ++ (walk B 0 A.first).1, Rr⟩ Pp ⟨rfl, rfl, hlen, hP0, nodupP, bndP, fun i pp hpi => hrow i pp (by rw [hlen]; exact (List.getElem?_eq_some_iff.mp hpi).1) hpi⟩
          ⟨t2, t1, vs, rfl, upd_same, by rw [upd_ne n12, upd_same], haR.imp fun _ _ z => z.keep (tups_same s4)⟩ (kH.trans (.of s4))
    · rintro σ H' Q1 Q2 hQ ⟨v1, e1, p1, y1, e2, e3, v2, e4, x2, C2', dx2, fs2, v3, e5, e6, e7, e8, e9, p3, y3, e10, e11, i1, j1, e12, e13, b1, e14, qq⟩
      exact ⟨v1, e1, p1, y1, e2, e3, v2, e4, x2, C2', dx2, fs2, v3, e5, e6, e7, e8, e9, p3, y3, e10, e11, i1, j1, e12, e13, b1, e14, hQ _ _ qq⟩
theorem sc_behind : FnScope ["one", "other"] ["one", "other"] (defScope (top 29)) := ⟨rfl, rfl, rfl, by decide +kernel, rfl, by decide +kernel, by decide +kernel⟩
theorem ok_behind {fI : Addr} {fdI : FuncData} (F : FnP K "behind" "behind" (top 29) f fd) (g : mg "behind" = some (.ref f)) (T : TxtJ K mg C) (C1 : Cal P w K mg base "check_wide" 6 ["machine"] spCheckWide)
    (M : Mk K C fI) (GI : FnOk P w K mg base CX0 1 fI fdI ["self", "one", "other"] (spInit C)) (bI : Binds K fdI ["self", "one", "other"] [])
    (C4 : CalM P w K mg base C "machine" 3 ["self"] (spMachine C)) : Cal P w K mg base "behind" 7 ["one", "other"] spBehind := by
  refine ⟨f, fd, F.ok sc_behind (fun vs H Q E h => ?_) (fun cdv A outer s H vs Q E hr h => ?_), g, F.kp, F.bindsN fun _ _ _ _ _ _ us hl => match us, hl with | [_, _], _ => rfl⟩
  · obtain ⟨vA, vB, A, B, rfl, _⟩ := h
    rfl
  · obtain ⟨vA, vB, A, B, rfl, hA, hB, Ft, q⟩ := h
    obtain ⟨fM, fdM, FM, hM, bM⟩ := C4
    have noM : ∀ nd pl, (jf vA vB nd pl).lookup ("machine" : Str) = none := fun nd pl => jf_no _ _ _ _ (by decide +kernel) (by decide +kernel) (by decide +kernel) (by decide +kernel)
    refine ⟨_, PSs.nox (pss_cons (ps_expr (pe_cal C1 hr rfl (pa_cons (pv 0) pa_nil))) (pss_cons (ps_expr (pe_cal C1 hr rfl (pa_cons (pv 1) pa_nil)))
      (pss_cons (ps_if (pt_cmpR op_ne (pe_ix ix_tup (pv 0) pe_int (fun _ _ => rfl)) (pe_ix ix_tup (pv 1) pe_int (fun _ _ => rfl)) (nomark _)) pss_never pss_nil)
        (pss_one (ps_ret (pe_meth0 (pe_make M GI (hr.mono (by decide)) rfl T.mgC bI .nil pass0 (pa_cons (pv 0) (pa_cons (pv 1) pa_nil))) T.cl hM FM (hr.mono (by decide)) bM .nil pass0)))))), ?_⟩
    refine ⟨_, rfl, vA, A, rfl, hA, Ft.a, fun H1 s1 => ?_⟩
    refine ⟨_, rfl, vB, B, rfl, hB.keep (tups_same s1), Ft.b, fun H2 s2 => ?_⟩
    have s12 := s1.trans s2
    have hA2 := hA.keep (tups_same s12)
    have hB2 := hB.keep (tups_same s12)
    obtain ⟨pa, qa, ra, rfl, hpa, hqa, hra⟩ := id hA2
    obtain ⟨pb, qb, rb, rfl, hpb, hqb, hrb⟩ := id hB2
    refine ⟨_, rfl, _, _, _, _, rfl, rfl, SqT.of hpa, atI_nat (j := 0) rfl, _, rfl, _, _, _, _, rfl, rfl, SqT.of hpb, atI_nat (j := 0) rfl, rfl, _, rfl, iteNS (by rw [Ft.k]) ?_⟩
    refine ⟨_, rfl, _, rfl, fun x dx nx ndx nex => ?_⟩
    have s3 : Same H2 (upd (upd H2 dx (.own x)) x (.ins C dx [])) := fun b o e => by
      rw [upd_ne (ne_of_none e nx), upd_ne (ne_of_none e ndx)]
      exact e
    refine ⟨x, dx, .ref pa, .ref pb, rfl, upd_same, fun H3 nd pl hn hp J3 k3 => ⟨rfl, ?_⟩⟩
    have s4 : Same H2 H3 := fun b o e => k3 b o (ne_of_none e nx) (s3 b o e)
    refine ⟨x, dx, _, rfl, J3.ix, noM nd pl, x, dx, nd, pl, .ref pa, .ref pb, A, B, rfl, J3, hA2.keep (tups_same s4), hB2.keep (tups_same s4), Ft, fun H4 v J Pp jj hv k4 => ?_⟩
    refine q H4 v J Pp jj hv fun b o e => ?_
    have e2 := s12 b o e
    refine k4 b o (fun z => ?_) (fun z => ?_) (s4 b o e2)
    · have e3 := s3 b o e2
      rw [z, hn] at e3
      cases e3
    · have e3 := s3 b o e2
      rw [z, hp] at e3
      cases e3
end
end K26

set_option Elab.async false
set_option linter.all false
set_option maxRecDepth 100000
set_option maxHeartbeats 4000000
namespace K26
open PySem PySem.Spec L2
/-- the list of draws: some ints -/
def Dr (d : Addr) (H : Hp) : Prop := ∃ ds : List Int, H d = some (.lst (ds.map V.int))
theorem Dr.same {d : Addr} {H H' : Hp} (h : Dr d H) (s : Same H H') : Dr d H' := let ⟨ds, e⟩ := h; ⟨ds, s _ _ e⟩
theorem Dr.ne {d p : Addr} {H : Hp} (h : Dr d H) (hp : H p = none) : d ≠ p := let ⟨_, e⟩ := h; ne_of_none e hp
theorem Dr.new {d p : Addr} {H : Hp} {o : HO} (h : Dr d H) (hp : H p = none) : Dr d (upd H p o) := h.same (same_new hp)
theorem Dr.upd {d p : Addr} {H : Hp} {o : HO} (h : Dr d H) (n : d ≠ p) : Dr d (L2.upd H p o) := by
  obtain ⟨ds, e⟩ := h
  exact ⟨ds, by rw [upd_ne n]; exact e⟩
theorem But.of_new {d p : Addr} {H H' : Hp} {o : HO} (s : But d H H') (h : H p = none) : But d H (L2.upd H' p o) := fun b u n e => by
  rw [upd_ne (ne_of_none e h)]
  exact s b u n e
theorem But.dtups {d : Addr} {H H' : Hp} (s : But d H H') (h : Dr d H) : Tups H H' := let ⟨_, e⟩ := h; s.tups e
theorem But.free {d p : Addr} {H H' : Hp} (s : But d H H') (h : Dr d H) (hp : H' p = none) (hd : Dr d H') : H p = none := by
  cases e : H p with
  | none => rfl
  | some o =>
    rw [s p o (hd.ne hp).symm e] at hp
    cases hp
def spNum : Sp := fun vs H Q _ => ∃ i : Int, vs = [.int i] ∧ ∀ j : Int, Q (.int j) H
def spDraws (K : PySem.W.Frag) : Sp := fun vs H Q _ => ∃ (a : Addr) (ns : List Int), vs = [.ref a] ∧ SqL K H a (ns.map V.int) ∧ ns.length ≤ 63 ∧ ∀ H' d, Same H H' → H d = none → Dr d H' → Q (.ref d) H'
def spNext : Sp := fun vs H Q _ => ∃ d : Addr, vs = [.ref d] ∧ Dr d H ∧ ∀ H' (i : Int), But d H H' → Dr d H' → Q (.int i) H'
def spText : Sp := fun vs H Q _ => ∃ (d : Addr) (k most : Nat), vs = [.ref d, .int k, .int most] ∧ Dr d H ∧ 2 ≤ k ∧ k ≤ 6 ∧ most ≤ 8 ∧ ∀ H' w, But d H H' → Dr d H' → Wd k w → w.length ≤ most → Q (vS w) H'
def spLWalked : Sp := fun vs H Q _ => ∃ (v : V) (m : Mach) (s : Nat) (w : List Nat), vs = [v, .int s, vS w] ∧ MachAt H v m ∧ Wide m ∧ s < m.rows.length ∧ Wd m.k w ∧ w.length ≤ 1000 ∧
  ∀ H' p, Same H H' → H' p = some (.lst [vS (walk m s w).1, .int (walk m s w).2]) → Q (.ref p) H'
def spLForm : Sp := fun vs H Q _ => ∃ (v : V) (m : Mach) (w : List Nat), vs = [v, vS w] ∧ MachAt H v m ∧ Wide m ∧ Wd m.k w ∧ w.length ≤ 1000 ∧ ∀ H', Same H H' → Q (vS (form m w)) H'
def spOut : Sp := fun vs H Q _ => ∃ (d : Addr) (k c : Nat), vs = [.ref d, .int k, .int c] ∧ Dr d H ∧ 2 ≤ k ∧ k ≤ 6 ∧ c < k ∧ ∀ H' w, But d H H' → Dr d H' → Wd k w → w.length ≤ 2 → Q (vS w) H'
section
variable {P : Program} {w : World} {K : PySem.W.Frag} {mg : Str → Option Value} {base : Heap} {f : Addr} {fd : FuncData}
theorem sc_lnum : FnScope ["_law_cell"] ["_law_cell"] (defScope (top 31)) := ⟨rfl, rfl, rfl, by decide +kernel, rfl, by decide +kernel, by decide +kernel⟩
theorem ok_lnum (F : FnP K "_law_number" "_law_number" (top 31) f fd) (g : mg "_law_number" = some (.ref f)) : Cal P w K mg base "_law_number" 1 ["_law_cell"] spNum := by
  refine ⟨f, fd, F.ok sc_lnum (fun vs H Q E h => ?_) (fun cdv A outer s H vs Q E hr h => ?_), g, F.kp, F.bindsN fun _ _ _ _ _ _ us hl => match us, hl with | [_], _ => rfl⟩
  · obtain ⟨i, rfl, _⟩ := h
    rfl
  · obtain ⟨i, rfl, q⟩ := h
    refine ⟨_, PSs.nox (pss_cons (ps_if (pt_cmpR op_lt (pv 0) pe_int (nomark _)) (pss_one (ps_ret (pe_op op_sub pe_int (pv 0)))) pss_nil) (pss_one (ps_ret (pv 0)))), ?_⟩
    refine ⟨_, rfl, _, _, rfl, rfl, _, rfl, ite2 (fun _ => ?_) (fun _ => ?_)⟩
    · exact ⟨_, rfl, _, _, rfl, rfl, q _⟩
    · exact ⟨_, rfl, q _⟩
abbrev ND : List Str := ["_law_script", "_law_draws_here", "_law_cell", "_law_rest", "_law_k", "_law_once", "_law_twice"]
theorem sc_ldraws : FnScope ND ["_law_script"] (defScope (top 32)) := ⟨rfl, rfl, rfl, by decide +kernel, rfl, by decide +kernel, by decide +kernel⟩
theorem ok_ldraws (F : FnP K "_law_draws" "_law_draws" (top 32) f fd) (g : mg "_law_draws" = some (.ref f)) (T : Txt mg) (C1 : Cal P w K mg base "_law_number" 1 ["_law_cell"] spNum) : Cal P w K mg base "_law_draws" 2 ["_law_script"] (spDraws K) := by
  refine ⟨f, fd, F.ok sc_ldraws (fun vs H Q E h => ?_) (fun cdv A outer s H vs Q E hr h => ?_), g, F.kp, F.bindsN fun _ _ _ _ _ _ us hl => match us, hl with | [_], _ => rfl⟩
  · obtain ⟨a, ns, rfl, _⟩ := h
    rfl
  · obtain ⟨a, ns, rfl, hS, hlen, q⟩ := h
    have bi : bootBuiltins "int" = some (.type "int") := by decide +kernel
    refine ⟨_, PSs.nox (pss_cons (ps_set (i := 1) sc_ldraws.nd rfl (Or.inl rfl) (pe_lst pa_nil))
      (pss_cons (ps_for PassesOwn.never rfl (pi_list (pv 0)) (pg_name (i := 2) sc_ldraws.nd rfl (Or.inl rfl))
          (pss_cons (ps_set (i := 3) sc_ldraws.nd rfl (Or.inl rfl) (pe_cal C1 hr rfl (pa_cons (pv 2) pa_nil)))
            (pss_one (ps_if (pt_cmpR op_ge (pv 3) pe_int (nomark _))
              (pss_one (ps_for PassesOwn.never rfl (pi_range1 rfl T.range (pa_cons pe_int pa_nil)) (pg_name (i := 4) sc_ldraws.nd rfl (Or.inl rfl))
                (pss_cons (ps_if (pt_cmpR op_eq (pv 3) pe_int (nomark _)) (pss_one ps_break) pss_nil)
                  (pss_cons (ps_expr (pe_bm PySem.F.plainAttrs_list PySem.F.slot_list_append PySem.F.type_list_append mt_append (pv 1) (pa_cons (pe_op op_mod (pe_callTy call_int1 (by rfl) T.int bi (pa_cons (pv 3) pa_nil)) pe_int) pa_nil)))
                    (pss_one (ps_set (i := 3) sc_ldraws.nd rfl (Or.inl rfl) (pe_op op_fdiv (pv 3) pe_int)))))))
              (pss_cons (ps_set (i := 5) sc_ldraws.nd rfl (Or.inl rfl) (pe_op op_mod (pe_callTy call_int1 (by rfl) T.int bi (pa_cons (pe_op op_add (pe_op op_mul (pv 3) pe_int) pe_int) pa_nil)) pe_int))
                (pss_cons (ps_set (i := 6) sc_ldraws.nd rfl (Or.inl rfl) (pe_op op_mod (pe_callTy call_int1 (by rfl) T.int bi (pa_cons (pe_op op_add (pe_op op_mul (pv 5) pe_int) (pv 3)) pa_nil)) pe_int))
                  (pss_one (ps_expr (pe_bm PySem.F.plainAttrs_list PySem.F.slot_list_extend PySem.F.type_list_extend mt_extend (pv 1)
                    (pa_cons (pe_lst (pa_cons (pe_op op_mod (pe_callTy call_int1 (by rfl) T.int bi (pa_cons (pv 3) pa_nil)) pe_int)
                      (pa_cons (pe_op op_mod (pe_callTy call_int1 (by rfl) T.int bi (pa_cons (pv 5) pa_nil)) pe_int)
                      (pa_cons (pe_op op_mod (pe_callTy call_int1 (by rfl) T.int bi (pa_cons (pv 6) pa_nil)) pe_int) pa_nil)))) pa_nil))))))))))
        (pss_one (ps_ret (pv 1))))), ?_⟩
    refine ⟨Nat.zero_le _, fun d hd => ?_⟩
    refine ⟨_, rfl, a, rfl, ⟨_, (same_new hd).seq hS⟩, for_list (K := K) (a := a) (xs := ns.map V.int)
      (fun i σ H' => ∃ (ds : List Int) (c r k o t : Option V), σ = [some (.ref a), some (.ref d), c, r, k, o, t] ∧ Same H H' ∧ H' d = some (.lst (ds.map V.int)) ∧ ds.length ≤ 60 * i)
      ⟨[], none, none, none, none, none, rfl, same_new hd, upd_same, Nat.le_refl _⟩ (fun i σ H' _ ⟨_, _, _, _, _, _, _, s1, _⟩ => s1.seq hS) ?_ ?_⟩
    · rintro i y σ H' hi ⟨ds, c, r, k, o, t, rfl, s1, hd1, hl⟩
      have hi63 : i < 63 := by
        have q := (List.getElem?_eq_some_iff.mp hi).1
        rw [List.length_map] at q
        omega
      obtain ⟨u, rfl⟩ : ∃ u, y = V.int u := by
        rw [List.getElem?_map] at hi
        cases e : ns[i]? with
        | none =>
          rw [e] at hi
          cases hi
        | some u =>
          rw [e] at hi
          exact ⟨u, (Option.some.inj hi).symm⟩
      refine ⟨_, rfl, u, rfl, fun r0 => ?_⟩
      refine ⟨_, rfl, _, _, rfl, rfl, _, rfl, ite2 (fun _ => ?_) (fun _ => ?_)⟩
      · -- many digits
        refine ⟨60, rfl, by decide, by decide, for_range (lo := 0) (n := 60) (fun j σ H2 => ∃ (ds : List Int) (r1 : Int) (k1 : Option V), σ = [some (.ref a), some (.ref d), some (.int u), some (.int r1), k1, o, t] ∧
            Same H H2 ∧ H2 d = some (.lst (ds.map V.int)) ∧ ds.length ≤ 60 * i + j) ⟨ds, r0, k, rfl, s1, hd1, hl⟩ ?_ ?_⟩
        · rintro j σ H2 hj ⟨ds2, r1, k1, rfl, s2, hd2, hl2⟩
          refine ⟨_, rfl, rfl, _, rfl, ite2 (fun _ => ?_) (fun _ => ?_)⟩
          · exact ⟨ds2, _, _, _, _, _, rfl, s2, hd2, by omega⟩
          · refine ⟨_, rfl, .inl ⟨rfl, _, SqL.of hd2⟩, _, rfl, .inl ⟨_, rfl, _, _, rfl, rfl, (by show (0 : Int) < 1000; decide), d, _, _, rfl, rfl, hd2, by rw [List.length_map]; exact line_gt (by omega), ?_⟩⟩
            refine ⟨_, rfl, _, _, rfl, rfl, ⟨by decide, by decide⟩, ?_⟩
            refine ⟨ds2 ++ [r1 % 1000], _, _, rfl, same_upd s2 hd, ?_, ?_⟩
            · rw [upd_same, List.map_append]
              rfl
            · rw [List.length_append]
              have : [r1 % 1000].length = 1 := rfl
              omega
        · rintro σ H2 ⟨ds2, r1, k1, rfl, s2, hd2, hl2⟩
          exact ⟨ds2, _, _, _, _, _, rfl, s2, hd2, by omega⟩
      · refine ⟨_, rfl, _, _, rfl, rfl, .inr ⟨by decide, by decide⟩, _, _, rfl, rfl, .inl ⟨_, rfl, _, _, rfl, rfl, (by show (0 : Int) < 2147483647; decide), ?_⟩⟩
        refine ⟨_, rfl, _, _, rfl, rfl, .inr ⟨by decide, by decide⟩, _, rfl, _, _, rfl, rfl, .inl ⟨_, rfl, _, _, rfl, rfl, (by show (0 : Int) < 2147483629; decide), ?_⟩⟩
        refine ⟨_, rfl, .inl ⟨rfl, _, SqL.of hd1⟩, _, rfl, .inl ⟨_, rfl, _, _, rfl, rfl, (by show (0 : Int) < 1000; decide), _, rfl, .inl ⟨_, rfl, _, _, rfl, rfl, (by show (0 : Int) < 1000; decide), _, rfl, .inl ⟨_, rfl, _, _, rfl, rfl, (by show (0 : Int) < 1000; decide), ?_⟩⟩⟩⟩
        refine ⟨(by show 3 ≤ sizeLine; decide), fun l3 hl3 => ?_⟩
        have ndl : d ≠ l3 := ne_of_none hd1 hl3
        refine ⟨d, l3, _, _, rfl, rfl, by rw [upd_ne ndl]; exact hd1, upd_same, by rw [List.length_map]; exact line_ge (by show ds.length + 3 ≤ 100000; omega), ?_⟩
        refine ⟨ds ++ [r0 % 1000, (r0 * 48271 + 11) % 2147483647 % 1000, ((r0 * 48271 + 11) % 2147483647 * 69621 + r0) % 2147483629 % 1000], _, _, _, _, _, rfl, same_upd (s1.trans (same_new hl3)) hd, ?_, ?_⟩
        · rw [upd_same, List.map_append]
          rfl
        · rw [List.length_append]
          show ds.length + 3 ≤ _
          omega
    · rintro σ H' ⟨ds, c, r, k, o, t, rfl, s1, hd1, hl⟩
      exact ⟨_, rfl, q _ d s1 hd ⟨ds, hd1⟩⟩
theorem sc_lnext : FnScope ["_law_draws_here"] ["_law_draws_here"] (defScope (top 33)) := ⟨rfl, rfl, rfl, by decide +kernel, rfl, by decide +kernel, by decide +kernel⟩
theorem ok_lnext (F : FnP K "_law_next" "_law_next" (top 33) f fd) (g : mg "_law_next" = some (.ref f)) : Cal P w K mg base "_law_next" 1 ["_law_draws_here"] spNext := by
  refine ⟨f, fd, F.ok sc_lnext (fun vs H Q E h => ?_) (fun cdv A outer s H vs Q E hr h => ?_), g, F.kp, F.bindsN fun _ _ _ _ _ _ us hl => match us, hl with | [_], _ => rfl⟩
  · obtain ⟨d, rfl, _⟩ := h
    rfl
  · obtain ⟨d, rfl, ⟨ds, hd⟩, q⟩ := h
    refine ⟨_, PSs.nox (pss_cons (ps_if (pt_truth (pv 0) (by intro _; rfl)) (pss_one (ps_ret (pe_bm0 PySem.F.plainAttrs_list PySem.F.slot_list_pop PySem.F.type_list_pop mt_pop (pv 0)))) pss_nil) (pss_one (ps_ret pe_int))), ?_⟩
    refine ⟨_, rfl, _, .inl ⟨_, SqL.of hd, rfl⟩, ite2 (fun hne => ?_) (fun _ => ?_)⟩
    · have hpos : 0 < ds.length := by
        cases ds with
        | nil => cases hne
        | cons a r => exact Nat.succ_pos _
      have hg : ds[ds.length - 1]? = some (ds[ds.length - 1]'(by omega)) := List.getElem?_eq_getElem _
      refine ⟨_, rfl, .inl ⟨rfl, _, SqL.of hd⟩, d, _, .int (ds[ds.length - 1]'(by omega)), rfl, rfl, hd, ?_, ?_⟩
      · rw [List.length_map, List.getElem?_map, hg]
        rfl
      · exact q _ _ But.refl.upd ⟨ds.dropLast, by rw [upd_same, List.map_dropLast]⟩
    · exact q _ _ But.refl ⟨ds, hd⟩
end
end K26

set_option Elab.async false
set_option linter.all false
set_option maxRecDepth 100000
set_option maxHeartbeats 4000000
namespace K26
open PySem PySem.Spec L2
theorem mod_nat {i : Int} {k : Nat} (hk : 0 < k) : ∃ c : Nat, i % (k : Int) = (c : Int) ∧ c < k := by
  have h1 := Int.emod_nonneg i (show (k : Int) ≠ 0 by omega)
  have h2 := Int.emod_lt_of_pos i (show (0 : Int) < (k : Int) by omega)
  exact ⟨(i % (k : Int)).toNat, by omega, by omega⟩
theorem six_at {c : Nat} (h : c < 6) : ("abcdef" : Str).cps.toList[c]? = some (97 + c) := by
  rw [Array.getElem?_toList]
  exact letter_at h
theorem atI_of {α : Type} {xs : List α} {z : Int} {j : Nat} {v : α} (e : z = (j : Int)) (h : xs[j]? = some v) : atI xs z = some v := by
  rw [e]
  exact atI_nat h
theorem ones (cs : List Nat) : (cs.map fun c => [c]).flatten = cs := by
  induction cs with
  | nil => rfl
  | cons a r ih =>
    show [a] ++ (r.map fun c => [c]).flatten = a :: r
    rw [ih]
    rfl
theorem boot_intK : bootBuiltins "int" = some (.type "int") := by decide +kernel
section
variable {P : Program} {w : World} {K : PySem.W.Frag} {mg : Str → Option Value} {base : Heap} {f : Addr} {fd : FuncData}
abbrev NT : List Str := ["_law_draws_here", "_law_k", "_law_most", "_law_size", "_law_j"]
theorem sc_ltext : FnScope NT ["_law_draws_here", "_law_k", "_law_most"] (defScope (top 34)) := ⟨rfl, rfl, rfl, by decide +kernel, rfl, by decide +kernel, by decide +kernel⟩
theorem ok_ltext (F : FnP K "_law_text" "_law_text" (top 34) f fd) (g : mg "_law_text" = some (.ref f)) (T : Txt mg) (C1 : Cal P w K mg base "_law_next" 1 ["_law_draws_here"] spNext) : Cal P w K mg base "_law_text" 2 ["_law_draws_here", "_law_k", "_law_most"] spText := by
  refine ⟨f, fd, F.ok sc_ltext (fun vs H Q E h => ?_) (fun cdv A outer s H vs Q E hr h => ?_), g, F.kp, F.bindsN fun _ _ _ _ _ _ us hl => match us, hl with | [_, _, _], _ => rfl⟩
  · obtain ⟨d, k, most, rfl, _⟩ := h
    rfl
  · obtain ⟨d, k, most, rfl, hD, h2, h6, hm, q⟩ := h
    refine ⟨_, PSs.nox (pss_cons (ps_set (i := 3) sc_ltext.nd rfl (Or.inl rfl) (pe_op op_mod (pe_callTy call_int1 (by rfl) T.int boot_intK (pa_cons (pe_cal C1 hr rfl (pa_cons (pv 0) pa_nil)) pa_nil)) (pe_op op_add (pv 2) pe_int)))
      (pss_one (ps_ret (pe_join pe_str
        (pe_lc (own := [("_law_j", 4)]) (g := gName 4) (tt := tYes) rfl sc_ltext.nd (pi_range1 rfl T.range (pa_cons (pv 3) pa_nil)) (blkOk_by (own := [("_law_j", 4)]) (N := NT) (sc := defScope (top 34)) (by decide +kernel))
          (fun _ _ _ _ _ => pg_name (i := 4) sc_ltext.nd rfl (Or.inl rfl)) (fun _ _ _ _ _ => pts_nil)
          (fun _ _ _ _ _ => pe_ix ix_str pe_str (pe_op op_mod (pe_callTy call_int1 (by rfl) T.int boot_intK (pa_cons (pe_cal C1 hr rfl (pa_cons (pv 0) pa_nil)) pa_nil)) (pv 1)) (fun _ _ => rfl))))))), ?_⟩
    refine ⟨_, rfl, d, rfl, hD, fun H1 i1 b1 hD1 => ?_⟩
    refine .inl ⟨_, rfl, _, rfl, _, _, rfl, rfl, _, _, rfl, rfl, (by show (0 : Int) < (most : Int) + 1; omega), ?_⟩
    obtain ⟨z, ez, hz⟩ := mod_nat (i := i1) (k := most + 1) (by omega)
    have ez2 : i1 % ((most : Int) + 1) = (z : Int) := by rw [← ez]; rfl
    show gName 3 (V.int (i1 % ((most : Int) + 1))) _ H1 _
    rw [ez2]
    refine ⟨⟨_, rfl⟩, _, rfl, _, rfl, by omega, by omega, fun D hDn => lc_range (lo := 0) (n := z) (fun i H' => But d H H' ∧ Dr d H' ∧ ∃ cs : List Nat, H' D = some (.lst ((cs.map fun c => tx [c]).map V.str)) ∧ Wd k cs ∧ cs.length = i)
      ⟨b1.new hDn, hD1.new hDn, [], upd_same, Wd.nil, rfl⟩ ?_ ?_⟩
    · rintro i H' hi ⟨b2, hD2, cs, hcs, hw, hl⟩
      have ndD : d ≠ D := hD1.ne hDn
      have hD0 : H D = none := b1.free hD hDn hD1
      refine ⟨rfl, ?_⟩
      refine ⟨_, rfl, d, rfl, hD2, fun H3 i3 b3 hD3 => ?_⟩
      obtain ⟨c, ec, hc⟩ := mod_nat (i := i3) (k := k) (by omega)
      have b3' : H3 D = some (.lst ((cs.map fun c => tx [c]).map V.str)) := b3 _ _ ndD.symm hcs
      refine .inl ⟨_, rfl, _, rfl, _, _, rfl, rfl, (by show (0 : Int) < (k : Int); omega), _, _, 97 + c, rfl, rfl, six_line, atI_of ec (six_at (c := c) (by omega)), _, b3', ?_, ?_⟩
      · rw [List.length_map, List.length_map, hl]
        exact line_gt (by omega)
      · refine ⟨(b2.trans b3).of_new hD0, hD3.upd ndD, cs ++ [c], ?_, hw.app (Wd.one hc), by rw [List.length_append, hl]; rfl⟩
        rw [upd_same, List.map_append, List.map_append]
        rfl
    · rintro H' ⟨b2, hD2, cs, hcs, hw, hl⟩
      have em : (cs.map fun c => tx [c]) = (cs.map fun c => [c]).map tx := by rw [List.map_map]; rfl
      refine ⟨_, D, cs.map fun c => tx [c], rfl, rfl, .inl (SqL.of hcs), ?_, ?_⟩
      · rw [em, parts_len, ones]
        show _ + _ * ("" : Str).length ≤ _
        rw [show ("" : Str).length = 0 from rfl, Nat.mul_zero]
        omega
      · rw [em, joined, ones]
        exact q _ cs b2 hD2 hw (by omega)
abbrev NW : List Str := ["_law_machine_here", "_law_state", "_law_word", "_law_text_here", "_law_letter", "_law_out_here"]
theorem sc_lwalked : FnScope NW ["_law_machine_here", "_law_state", "_law_word"] (defScope (top 35)) := ⟨rfl, rfl, rfl, by decide +kernel, rfl, by decide +kernel, by decide +kernel⟩
theorem ok_lwalked (F : FnP K "_law_walked" "_law_walked" (top 35) f fd) (g : mg "_law_walked" = some (.ref f)) : Cal P w K mg base "_law_walked" 1 ["_law_machine_here", "_law_state", "_law_word"] spLWalked := by
  refine ⟨f, fd, F.ok sc_lwalked (fun vs H Q E h => ?_) (fun cdv A outer s H vs Q E hr h => ?_), g, F.kp, F.bindsN fun _ _ _ _ _ _ us hl => match us, hl with | [_, _, _], _ => rfl⟩
  · obtain ⟨v, m, s, w, rfl, _⟩ := h
    rfl
  · obtain ⟨v, m, s, w, rfl, hm, hw, hs, hd, hz, q⟩ := h
    refine ⟨_, PSs.nox (pss_cons (ps_set (i := 3) sc_lwalked.nd rfl (Or.inl rfl) pe_str)
      (pss_cons (ps_for PassesOwn.never rfl (pi_str (pv 2)) (pg_name (i := 4) sc_lwalked.nd rfl (Or.inl rfl))
          (pss_cons (ps_asg (pe_ix ix_tup (pe_ix ix_tup (pe_ix ix_tup (pe_ix ix_tup (pv 0) pe_int (fun _ _ => rfl)) (pv 1) (fun _ _ => rfl)) pe_int (fun _ _ => rfl))
              (pe_bm PySem.F.plainAttrs_str PySem.F.slot_str_index PySem.F.type_str_index mt_sindex pe_str (pa_cons (pv 4) pa_nil)) (fun _ _ => rfl))
              (pg_tup (by rfl) (pgs_cons (pg_name (i := 5) sc_lwalked.nd rfl (Or.inl rfl)) (pgs_cons (pg_name (i := 1) sc_lwalked.nd rfl (Or.inl rfl)) pgs_nil))))
            (pss_one (ps_set (i := 3) sc_lwalked.nd rfl (Or.inl rfl) (pe_op op_add_str (pv 3) (pv 5))))))
        (pss_one (ps_ret (pe_lst (pa_cons (pv 3) (pa_cons (pv 1) pa_nil))))))), ?_⟩
    refine ⟨_, rfl, _, rfl, for_tx (w := w) (fun i σ H' => ∃ (c o : Option V), σ = [some v, some (.int ((walk m s (w.take i)).2 : Nat)), some (vS w), some (vS (walk m s (w.take i)).1), c, o] ∧ Same H H') ⟨none, none, rfl, Same.refl _⟩ ?_ ?_⟩
    · rintro i c σ H' hc ⟨c0, o0, rfl, s1⟩
      have hi := (List.getElem?_eq_some_iff.mp hc).1
      have hck := hd.at_ hc
      have wk := hw.walk hs (hd.take i)
      obtain ⟨p, q1, rs, rfl, hp, hq, p1, a, es, er, hp1, ha, hes⟩ := (hm.keep (tups_same s1)).row wk.1
      obtain ⟨_, ee, ⟨y, rfl, hy⟩⟩ := hes.2 c _ (hw.entAt wk.1 hck)
      obtain ⟨rest, ho⟩ := letter_index (show c < 6 by have := hw.k6; omega)
      have eo := hw.entOk wk.1 hck
      refine ⟨_, rfl, _, _, _, _, rfl, rfl, SqT.of hp, atI_nat (j := 2) rfl, _, rfl, _, _, _, _, rfl, rfl, SqT.of hq, atI_nat er, _, _, _, _, rfl, rfl, SqT.of hp1, atI_nat (j := 1) rfl, rfl, _, rfl,
        _, _, c, rest, rfl, rfl, ho, _, _, _, _, rfl, rfl, SqT.of ha, atI_nat ee, ?_⟩
      refine ⟨y, _, rfl, SqT.of hy, rfl, _, _, rfl, _, _, rfl, rfl, ?_⟩
      refine ⟨_, rfl, _, rfl, _, _, rfl, rfl, ?_, ?_⟩
      · rw [tx_len, tx_len]
        have h1 := wk.2.2
        have h2 := eo.1
        have h3 : (w.take i).length ≤ 1000 := by rw [List.length_take]; omega
        have h4 := Nat.mul_le_mul_left 60 h3
        exact line_ge (by omega)
      · refine ⟨some (vS [c]), some (vS (m.ent (walk m s (w.take i)).2 c).1), ?_, s1⟩
        rw [walk_step hc, tx_app]
        rfl
    · rintro σ H' ⟨c0, o0, rfl, s1⟩
      rw [List.take_length]
      refine ⟨_, rfl, _, rfl, (by show 2 ≤ sizeLine; decide), fun p hp => ?_⟩
      exact q _ p (s1.trans (same_new hp)) upd_same
theorem sc_lform : FnScope ["_law_machine_here", "_law_word", "_law_text_here", "_law_state"] ["_law_machine_here", "_law_word"] (defScope (top 36)) := ⟨rfl, rfl, rfl, by decide +kernel, rfl, by decide +kernel, by decide +kernel⟩
theorem ok_lform (F : FnP K "_law_form" "_law_form" (top 36) f fd) (g : mg "_law_form" = some (.ref f)) (C1 : Cal P w K mg base "_law_walked" 1 ["_law_machine_here", "_law_state", "_law_word"] spLWalked) :
    Cal P w K mg base "_law_form" 2 ["_law_machine_here", "_law_word"] spLForm := by
  refine ⟨f, fd, F.ok sc_lform (fun vs H Q E h => ?_) (fun cdv A outer s H vs Q E hr h => ?_), g, F.kp, F.bindsN fun _ _ _ _ _ _ us hl => match us, hl with | [_, _], _ => rfl⟩
  · obtain ⟨v, m, w, rfl, _⟩ := h
    rfl
  · obtain ⟨v, m, w, rfl, hm, hw, hd, hz, q⟩ := h
    refine ⟨_, PSs.nox (pss_cons (ps_asg (pe_cal C1 hr rfl (pa_cons (pv 0) (pa_cons pe_int (pa_cons (pv 1) pa_nil)))) (pg_unl (by rfl) (pgs_cons (pg_name (i := 2) sc_lform.nd rfl (Or.inl rfl)) (pgs_cons (pg_name (i := 3) sc_lform.nd rfl (Or.inl rfl)) pgs_nil))))
      (pss_one (ps_ret (pe_op op_add_str (pe_op op_add_str (pe_ix ix_tup (pv 0) pe_int (fun _ _ => rfl)) (pv 2))
        (pe_ix ix_tup (pe_ix ix_tup (pe_ix ix_tup (pv 0) pe_int (fun _ _ => rfl)) (pv 3) (fun _ _ => rfl)) pe_int (fun _ _ => rfl)))))), ?_⟩
    refine ⟨_, rfl, _, rfl, v, m, 0, w, rfl, hm, hw, hw.pos, hd, hz, fun H1 p1 s1 h1 => ?_⟩
    have wk := hw.walk hw.pos hd
    obtain ⟨p, q1, rs, rfl, hp, hq, p2, a, es, er, hp2, ha, hes⟩ := (hm.keep (tups_same s1)).row wk.1
    have ro := hw.rowOk wk.1
    have z1 := hw.fl
    have z2 := wk.2.2
    have z3 := ro.ll
    have z4 := Nat.mul_le_mul_left 60 hz
    refine ⟨_, _, rfl, SqL.of h1, rfl, _, _, rfl, _, _, rfl, rfl, ?_⟩
    refine ⟨_, rfl, _, _, _, _, rfl, rfl, SqT.of hp, atI_nat (j := 1) rfl, _, rfl, _, _, rfl, rfl, line_ge (by rw [tx_len, tx_len]; omega), ?_⟩
    rw [tx_app]
    refine ⟨_, rfl, _, _, _, _, rfl, rfl, SqT.of hp, atI_nat (j := 2) rfl, _, rfl, _, _, _, _, rfl, rfl, SqT.of hq, atI_nat er, _, _, _, _, rfl, rfl, SqT.of hp2, atI_nat (j := 0) rfl,
      _, _, rfl, rfl, line_ge (by rw [tx_len, tx_len, List.length_append]; omega), ?_⟩
    rw [tx_app]
    exact q _ s1
theorem sc_lout : FnScope ["_law_draws_here", "_law_k", "_law_letter", "_law_draw"] ["_law_draws_here", "_law_k", "_law_letter"] (defScope (top 37)) := ⟨rfl, rfl, rfl, by decide +kernel, rfl, by decide +kernel, by decide +kernel⟩
theorem ok_lout (F : FnP K "_law_out" "_law_out" (top 37) f fd) (g : mg "_law_out" = some (.ref f)) (T : Txt mg) (C1 : Cal P w K mg base "_law_next" 1 ["_law_draws_here"] spNext) (C2 : Cal P w K mg base "_law_text" 2 ["_law_draws_here", "_law_k", "_law_most"] spText) :
    Cal P w K mg base "_law_out" 3 ["_law_draws_here", "_law_k", "_law_letter"] spOut := by
  refine ⟨f, fd, F.ok sc_lout (fun vs H Q E h => ?_) (fun cdv A outer s H vs Q E hr h => ?_), g, F.kp, F.bindsN fun _ _ _ _ _ _ us hl => match us, hl with | [_, _, _], _ => rfl⟩
  · obtain ⟨d, k, c, rfl, _⟩ := h
    rfl
  · obtain ⟨d, k, c, rfl, hD, h2, h6, hc, q⟩ := h
    refine ⟨_, PSs.nox (pss_cons (ps_set (i := 3) sc_lout.nd rfl (Or.inl rfl) (pe_op op_mod (pe_callTy call_int1 (by rfl) T.int boot_intK (pa_cons (pe_cal C1 hr rfl (pa_cons (pv 0) pa_nil)) pa_nil)) pe_int))
      (pss_cons (ps_if (pt_cmpR op_lt (pv 3) pe_int (nomark _)) (pss_one (ps_ret (pe_ix ix_str pe_str (pv 2) (fun _ _ => rfl)))) pss_nil)
      (pss_cons (ps_if (pt_cmpR op_eq (pv 3) pe_int (nomark _)) (pss_one (ps_ret pe_str)) pss_nil)
        (pss_one (ps_ret (pe_cal C2 hr rfl (pa_cons (pv 0) (pa_cons (pv 1) (pa_cons (pe_op op_sub (pv 3) pe_int) pa_nil))))))))), ?_⟩
    refine ⟨_, rfl, d, rfl, hD, fun H1 i1 b1 hD1 => ?_⟩
    refine .inl ⟨_, rfl, _, _, rfl, rfl, (by show (0 : Int) < 6; decide), ?_⟩
    obtain ⟨z, ez, hz⟩ := mod_nat (i := i1) (k := 6) (by omega)
    have ez2 : i1 % (6 : Int) = (z : Int) := ez
    show gName 3 (V.int (i1 % 6)) _ H1 _
    rw [ez2]
    refine ⟨_, rfl, _, _, rfl, rfl, _, rfl, ite2 (fun _ => ?_) (fun h3 => ?_)⟩
    · refine ⟨_, rfl, _, _, _, rfl, rfl, six_line, atI_nat (six_at (c := c) (by omega)), ?_⟩
      exact q _ [c] b1 hD1 (Wd.one hc) (by show 1 ≤ 2; decide)
    · have h3' : ¬ ((z : Nat) : Int) < 3 := fun y => h3 (decide_eq_true y)
      refine ⟨_, rfl, rfl, _, rfl, ite2 (fun _ => ?_) (fun h4 => ?_)⟩
      · exact q _ [] b1 hD1 Wd.nil (Nat.zero_le _)
      · have h4' : ¬ ((z : Nat) : Int) = 3 := fun y => h4 (decide_eq_true (congrArg V.int y))
        refine ⟨_, rfl, _, rfl, _, rfl, _, _, rfl, rfl, d, k, z - 3, ?_, hD1, h2, h6, by omega, fun H2 w b2 hD2 hw hl => q _ w (b1.trans b2) hD2 hw (by omega)⟩
        have e3 : ((z : Nat) : Int) - 3 = ((z - 3 : Nat) : Int) := by omega
        show [V.ref d, V.int (k : Int), V.int (((z : Nat) : Int) - 3)] ++ [] = _
        rw [e3]
        rfl
end
end K26

set_option Elab.async false
set_option linter.all false
set_option maxRecDepth 100000
set_option maxHeartbeats 4000000
namespace K26
open PySem PySem.Spec L2
def spMach : Sp := fun vs H Q _ => ∃ (d : Addr) (k : Nat), vs = [.ref d, .int k, .int 3] ∧ Dr d H ∧ 2 ≤ k ∧ k ≤ 6 ∧ ∀ H' v m, But d H H' → Dr d H' → MachAt H' v m → m.k = k → Ok m 3 2 2 1 → Q v H'
def spWords : Sp := fun vs H Q _ => ∃ (k n : Nat), vs = [.int k, .int n] ∧ 2 ≤ k ∧ k ≤ 6 ∧ n ≤ 5 ∧
  ∀ H' p (ws : List (List Nat)), Same H H' → H p = none → H' p = some (.lst (ws.map vS)) → (∀ w ∈ ws, Wd k w ∧ w.length ≤ 5) → ws.length ≤ 50000 → Q (.ref p) H'
/-- entries so far: within bounds -/
def Ents (k n : Nat) (xs : List Ent) : Prop := ∀ e ∈ xs, e.1.length ≤ 2 ∧ Wd k e.1 ∧ e.2 < n
theorem Ents.snoc {k n : Nat} {xs : List Ent} {e : Ent} (h : Ents k n xs) (he : e.1.length ≤ 2 ∧ Wd k e.1 ∧ e.2 < n) : Ents k n (xs ++ [e]) := fun x hx => by
  rcases List.mem_append.mp hx with z | z
  · exact h x z
  · rw [List.mem_singleton.mp z]
    exact he
section
variable {P : Program} {w : World} {K : PySem.W.Frag} {mg : Str → Option Value} {base : Heap} {f : Addr} {fd : FuncData}
abbrev NM : List Str := ["_law_draws_here", "_law_k", "_law_most", "_law_count", "_law_rows", "_law_state", "_law_entries", "_law_letter", "_law_out_here", "_law_last"]
theorem sc_lmach : FnScope NM ["_law_draws_here", "_law_k", "_law_most"] (defScope (top 38)) := ⟨rfl, rfl, rfl, by decide +kernel, rfl, by decide +kernel, by decide +kernel⟩
theorem ok_lmach (F : FnP K "_law_machine" "_law_machine" (top 38) f fd) (g : mg "_law_machine" = some (.ref f)) (T : Txt mg) (C1 : Cal P w K mg base "_law_next" 1 ["_law_draws_here"] spNext)
    (C2 : Cal P w K mg base "_law_text" 2 ["_law_draws_here", "_law_k", "_law_most"] spText) (C3 : Cal P w K mg base "_law_out" 3 ["_law_draws_here", "_law_k", "_law_letter"] spOut) :
    Cal P w K mg base "_law_machine" 4 ["_law_draws_here", "_law_k", "_law_most"] spMach := by
  refine ⟨f, fd, F.ok sc_lmach (fun vs H Q E h => ?_) (fun cdv A outer s H vs Q E hr h => ?_), g, F.kp, F.bindsN fun _ _ _ _ _ _ us hl => match us, hl with | [_, _, _], _ => rfl⟩
  · obtain ⟨d, k, rfl, _⟩ := h
    rfl
  · obtain ⟨d, k, rfl, hD, h2, h6, q⟩ := h
    refine ⟨_, PSs.nox (pss_cons (ps_set (i := 3) sc_lmach.nd rfl (Or.inl rfl) (pe_op op_add pe_int (pe_op op_mod (pe_callTy call_int1 (by rfl) T.int boot_intK (pa_cons (pe_cal C1 hr rfl (pa_cons (pv 0) pa_nil)) pa_nil)) (pv 2))))
      (pss_cons (ps_set (i := 4) sc_lmach.nd rfl (Or.inl rfl) (pe_lst pa_nil))
      (pss_cons (ps_for PassesOwn.never rfl (pi_range1 rfl T.range (pa_cons (pv 3) pa_nil)) (pg_name (i := 5) sc_lmach.nd rfl (Or.inl rfl))
          (pss_cons (ps_set (i := 6) sc_lmach.nd rfl (Or.inl rfl) (pe_lst pa_nil))
          (pss_cons (ps_for PassesOwn.never rfl (pi_range1 rfl T.range (pa_cons (pv 1) pa_nil)) (pg_name (i := 7) sc_lmach.nd rfl (Or.inl rfl))
              (pss_cons (ps_set (i := 8) sc_lmach.nd rfl (Or.inl rfl) (pe_cal C3 hr rfl (pa_cons (pv 0) (pa_cons (pv 1) (pa_cons (pv 7) pa_nil)))))
                (pss_one (ps_expr (pe_bm PySem.F.plainAttrs_list PySem.F.slot_list_append PySem.F.type_list_append mt_append (pv 6)
                  (pa_cons (pe_tup (pa_cons (pv 8) (pa_cons (pe_op op_mod (pe_callTy call_int1 (by rfl) T.int boot_intK (pa_cons (pe_cal C1 hr rfl (pa_cons (pv 0) pa_nil)) pa_nil)) (pv 3)) pa_nil))) pa_nil))))))
          (pss_cons (ps_set (i := 9) sc_lmach.nd rfl (Or.inl rfl) pe_str)
          (pss_cons (ps_if (pt_cmpR op_eq (pe_op op_mod (pe_callTy call_int1 (by rfl) T.int boot_intK (pa_cons (pe_cal C1 hr rfl (pa_cons (pv 0) pa_nil)) pa_nil)) pe_int) pe_int (nomark _))
              (pss_one (ps_set (i := 9) sc_lmach.nd rfl (Or.inl rfl) (pe_cal C2 hr rfl (pa_cons (pv 0) (pa_cons (pv 1) (pa_cons pe_int pa_nil)))))) pss_nil)
            (pss_one (ps_expr (pe_bm PySem.F.plainAttrs_list PySem.F.slot_list_append PySem.F.type_list_append mt_append (pv 4)
              (pa_cons (pe_tup (pa_cons (pv 9) (pa_cons (pe_callTy call_tuple_of (by rfl) T.tuple (by decide +kernel) (pa_cons (pv 6) pa_nil)) pa_nil))) pa_nil)))))))))
        (pss_one (ps_ret (pe_tup (pa_cons (pv 1) (pa_cons (pe_cal C2 hr rfl (pa_cons (pv 0) (pa_cons (pv 1) (pa_cons (pe_op op_mod (pe_callTy call_int1 (by rfl) T.int boot_intK (pa_cons (pe_cal C1 hr rfl (pa_cons (pv 0) pa_nil)) pa_nil)) pe_int) pa_nil))))
          (pa_cons (pe_callTy call_tuple_of (by rfl) T.tuple (by decide +kernel) (pa_cons (pv 4) pa_nil)) pa_nil))))))))), ?_⟩
    -- count
    refine ⟨_, rfl, d, rfl, hD, fun H1 i1 b1 hD1 => ?_⟩
    refine .inl ⟨_, rfl, _, rfl, _, _, rfl, rfl, (by show (0 : Int) < 3; decide), _, _, rfl, rfl, ?_⟩
    obtain ⟨z, ez, hz⟩ := mod_nat (i := i1) (k := 3) (by omega)
    have ez2 : (1 : Int) + i1 % 3 = ((1 + z : Nat) : Int) := by
      have : i1 % (3 : Int) = (z : Int) := ez
      omega
    show gName 3 (V.int (1 + i1 % 3)) _ H1 _
    rw [ez2]
    obtain ⟨n, hn⟩ : ∃ n : Nat, 1 + z = n := ⟨_, rfl⟩
    rw [hn]
    refine ⟨Nat.zero_le _, fun lr hlr => ?_⟩
    have ndr : d ≠ lr := hD1.ne hlr
    have hlr0 : H lr = none := b1.free hD hlr hD1
    refine ⟨_, rfl, _, rfl, by omega, by omega, for_range (lo := 0) (n := n) (fun i σ H' => ∃ (c5 c6 c7 c8 c9 : Option V) (vs : List V) (Rr : List Row), σ = [some (.ref d), some (.int (k : Int)), some (.int 3), some (.int (n : Int)), some (.ref lr), c5, c6, c7, c8, c9] ∧
        But d H H' ∧ Dr d H' ∧ H' lr = some (.lst vs) ∧ All2 (RowAt H') vs Rr ∧ Rr.length = i ∧ ∀ r ∈ Rr, RowOk k n 2 2 r)
      ⟨none, none, none, none, none, [], [], rfl, b1.of_new hlr0, hD1.new hlr, upd_same, All2.nil, rfl, fun r hr => nomatch hr⟩ ?_ ?_⟩
    · rintro i σ H2 hi ⟨c5, c6, c7, c8, c9, vs, Rr, rfl, b2, hD2, hv2, ha2, el2, ok2⟩
      -- entries = []
      refine ⟨Nat.zero_le _, fun le hle => ?_⟩
      have nde : d ≠ le := hD2.ne hle
      have nre : lr ≠ le := ne_of_none hv2 hle
      have hle0 : H le = none := b2.free hD hle hD2
      refine ⟨_, rfl, _, rfl, by omega, by omega, for_range (lo := 0) (n := k) (fun j σ H3 => ∃ (c7 c8 : Option V) (es : List V) (xs : List Ent), σ = [some (.ref d), some (.int (k : Int)), some (.int 3), some (.int (n : Int)), some (.ref lr), some (.int (0 + (i : Int))), some (.ref le), c7, c8, c9] ∧
          But d H2 H3 ∧ Dr d H3 ∧ H3 le = some (.lst es) ∧ All2 (EntAt H3) es xs ∧ xs.length = j ∧ Ents k n xs)
        ⟨c7, c8, [], [], rfl, But.refl.of_new hle, hD2.new hle, upd_same, All2.nil, rfl, fun e he => nomatch he⟩ ?_ ?_⟩
      · rintro j σ H3 hj ⟨c7', c8', es, xs, rfl, b3, hD3, he3, ha3, el3, ok3⟩
        refine ⟨_, rfl, _, rfl, _, rfl, d, k, j, by rw [Int.zero_add]; rfl, hD3, h2, h6, hj, fun H4 w b4 hD4 hw hl => ?_⟩
        have he4 : H4 le = some (.lst es) := b4 _ _ nde.symm he3
        refine ⟨_, rfl, .inl ⟨rfl, _, SqL.of he4⟩, _, rfl, _, rfl, d, rfl, hD4, fun H5 i5 b5 hD5 => ?_⟩
        have he5 : H5 le = some (.lst es) := b5 _ _ nde.symm he4
        obtain ⟨nx, enx, hnx⟩ := mod_nat (i := i5) (k := n) (by omega)
        refine .inl ⟨_, rfl, _, rfl, _, _, rfl, rfl, (by show (0 : Int) < (n : Int); omega), (by show 2 ≤ sizeLine; decide), fun t1 ht1 => ?_⟩
        have net : le ≠ t1 := ne_of_none he5 ht1
        have ndt : d ≠ t1 := hD5.ne ht1
        refine ⟨le, es, _, rfl, rfl, by rw [upd_ne net]; exact he5, by rw [ha3.1, el3]; exact line_gt (by omega), ?_⟩
        have b45 : But d H3 H5 := b4.trans b5
        refine ⟨_, _, es ++ [.ref t1], xs ++ [(w, nx)], rfl, ((b3.trans b45).new ht1).of_new hle, (hD5.new ht1).upd nde, upd_same, ?_, by rw [List.length_append, el3]; rfl, ok3.snoc ⟨hl, hw, hnx⟩⟩
        have tk : Tups H3 (L2.upd (L2.upd H5 t1 (.tup [vS w, .int (nx : Int)])) le (.lst (es ++ [.ref t1]))) := fun c ys e => by
          rw [upd_ne (fun z : c = le => by rw [z, he3] at e; cases e)]
          exact Tups.new ht1 _ _ (b45.dtups hD3 _ _ e)
        show All2 (EntAt (L2.upd (L2.upd H5 t1 (.tup [vS w, .int (i5 % (n : Int))])) le (.lst (es ++ [.ref t1])))) _ _
        rw [enx]
        refine (ha3.imp fun _ _ z => z.keep tk).snoc ⟨t1, rfl, ?_⟩
        rw [upd_ne net.symm, upd_same]
      · rintro σ H3 ⟨c7', c8', es, xs, rfl, b3, hD3, he3, ha3, el3, ok3⟩
        have hv3 : H3 lr = some (.lst vs) := b3 _ _ ndr.symm hv2
        -- the end of a turn: last is w
        have fin : ∀ (H5 : Hp) (w : List Nat), But d H3 H5 → Dr d H5 → Wd k w → w.length ≤ 2 → ∀ t1, H5 t1 = none → ∀ t2, upd H5 t1 (.tup es) t2 = none →
            ∃ (vs' : List V) (Rr' : List Row), But d H (L2.upd (upd (upd H5 t1 (.tup es)) t2 (.tup [vS w, .ref t1])) lr (.lst (vs ++ [.ref t2]))) ∧ Dr d (L2.upd (upd (upd H5 t1 (.tup es)) t2 (.tup [vS w, .ref t1])) lr (.lst (vs ++ [.ref t2]))) ∧
              vs' = vs ++ [.ref t2] ∧ All2 (RowAt (L2.upd (upd (upd H5 t1 (.tup es)) t2 (.tup [vS w, .ref t1])) lr (.lst (vs ++ [.ref t2])))) vs' Rr' ∧ Rr'.length = i + 1 ∧ ∀ r ∈ Rr', RowOk k n 2 2 r := by
          intro H5 w b5 hD5 hw hl t1 ht1 t2 ht2
          have n12 : t1 ≠ t2 := fun z => by
            rw [← z, upd_same] at ht2
            cases ht2
          have ht20 : H5 t2 = none := by
            rw [upd_ne n12.symm] at ht2
            exact ht2
          have hv5 : H5 lr = some (.lst vs) := b5 _ _ ndr.symm hv3
          have nr1 : lr ≠ t1 := ne_of_none hv5 ht1
          have nr2 : lr ≠ t2 := ne_of_none hv5 ht20
          have s5 : Same H5 (upd (upd H5 t1 (.tup es)) t2 (.tup [vS w, .ref t1])) := (same_new ht1).trans (same_new ht2)
          have tk5 : Tups H5 (L2.upd (upd (upd H5 t1 (.tup es)) t2 (.tup [vS w, .ref t1])) lr (.lst (vs ++ [.ref t2]))) := fun c ys e => by
            rw [upd_ne (fun z : c = lr => by rw [z, hv5] at e; cases e)]
            exact s5 _ _ e
          have b25 : But d H2 H5 := b3.trans b5
          refine ⟨_, Rr ++ [⟨w, xs⟩], ((b2.trans b25).trans (But.of s5)).of_new hlr0, (hD5.same s5).upd ndr, rfl, ?_, by rw [List.length_append, el2]; rfl, fun r hr => ?_⟩
          · refine (ha2.imp fun _ _ z => z.keep ((b25.dtups hD2).trans tk5)).snoc ⟨t2, t1, es, rfl, ?_, ?_, ha3.imp fun _ _ z => z.keep ((b5.dtups hD3).trans tk5)⟩
            · rw [upd_ne nr2.symm, upd_same]
            · rw [upd_ne nr1.symm, upd_ne n12, upd_same]
          · rcases List.mem_append.mp hr with y | y
            · exact ok2 r y
            · rw [List.mem_singleton.mp y]
              exact ⟨hl, hw, el3, ok3⟩
        refine ⟨_, rfl, d, rfl, hD3, fun H4 i4 b4 hD4 => ?_⟩
        refine .inl ⟨_, rfl, _, _, rfl, rfl, (by show (0 : Int) < 3; decide), rfl, _, rfl, ite2 (fun _ => ?_) (fun _ => ?_)⟩
        · refine ⟨_, rfl, _, rfl, d, k, 2, rfl, hD4, h2, h6, by omega, fun H5 w b5 hD5 hw hl => ?_⟩
          have b35 : But d H3 H5 := b4.trans b5
          have he5 : H5 le = some (.lst es) := b35 _ _ nde.symm he3
          have hv5 : H5 lr = some (.lst vs) := b35 _ _ ndr.symm hv3
          refine ⟨_, rfl, .inl ⟨rfl, _, SqL.of hv5⟩, _, rfl, _, rfl, le, es, rfl, .inl ⟨SqL.of he5, fun t1 ht1 => ⟨(by show 2 ≤ sizeLine; decide), fun t2 ht2 => ?_⟩⟩⟩
          have hv6 : upd (upd H5 t1 (.tup es)) t2 (.tup [vS w, .ref t1]) lr = some (.lst vs) := ((same_new ht1).trans (same_new ht2)) _ _ hv5
          obtain ⟨vs', Rr', f1, f2, f3, f4, f5, f6⟩ := fin H5 w b35 hD5 hw hl t1 ht1 t2 ht2
          subst f3
          exact ⟨lr, vs, _, rfl, rfl, hv6, by rw [ha2.1, el2]; exact line_gt (by omega), _, _, _, _, _, _, Rr', rfl, f1, f2, upd_same, f4, f5, f6⟩
        · have he5 : H4 le = some (.lst es) := b4 _ _ nde.symm he3
          have hv5 : H4 lr = some (.lst vs) := b4 _ _ ndr.symm hv3
          refine ⟨_, rfl, .inl ⟨rfl, _, SqL.of hv5⟩, _, rfl, _, rfl, le, es, rfl, .inl ⟨SqL.of he5, fun t1 ht1 => ⟨(by show 2 ≤ sizeLine; decide), fun t2 ht2 => ?_⟩⟩⟩
          have hv6 : upd (upd H4 t1 (.tup es)) t2 (.tup [vS [], .ref t1]) lr = some (.lst vs) := ((same_new ht1).trans (same_new ht2)) _ _ hv5
          obtain ⟨vs', Rr', f1, f2, f3, f4, f5, f6⟩ := fin H4 [] b4 hD4 Wd.nil (Nat.zero_le _) t1 ht1 t2 ht2
          subst f3
          exact ⟨lr, vs, _, rfl, rfl, hv6, by rw [ha2.1, el2]; exact line_gt (by omega), _, _, _, _, _, _, Rr', rfl, f1, f2, upd_same, f4, f5, f6⟩
    · rintro σ H2 ⟨c5, c6, c7, c8, c9, vs, Rr, rfl, b2, hD2, hv2, ha2, el2, ok2⟩
      refine ⟨_, rfl, _, rfl, _, rfl, _, rfl, d, rfl, hD2, fun H3 i3 b3 hD3 => ?_⟩
      obtain ⟨y, ey, hy⟩ := mod_nat (i := i3) (k := 2) (by omega)
      have ey2 : i3 % (2 : Int) = (y : Int) := ey
      refine .inl ⟨_, rfl, _, _, rfl, rfl, (by show (0 : Int) < 2; decide), d, k, y, ?_, hD3, h2, h6, by omega, fun H4 w b4 hD4 hw hl => ?_⟩
      · show [V.ref d, V.int (k : Int), V.int (i3 % 2)] ++ [] = _
        rw [ey2]
        rfl
      · have b24 : But d H2 H4 := b3.trans b4
        have hv4 : H4 lr = some (.lst vs) := b24 _ _ ndr.symm hv2
        refine ⟨_, rfl, lr, vs, rfl, .inl ⟨SqL.of hv4, fun t1 ht1 => ⟨(by show 3 ≤ sizeLine; decide), fun t2 ht2 => ?_⟩⟩⟩
        have n12 : t1 ≠ t2 := fun z => by
          rw [← z, upd_same] at ht2
          cases ht2
        have s5 : Same H4 (upd (upd H4 t1 (.tup vs)) t2 (.tup [.int (k : Int), vS w, .ref t1])) := (same_new ht1).trans (same_new ht2)
        refine q _ _ ⟨k, w, Rr⟩ ((b2.trans b24).trans (But.of s5)) (hD4.same s5) ⟨t2, t1, vs, rfl, upd_same, by rw [upd_ne n12, upd_same], ha2.imp fun _ _ x => x.keep ((b24.dtups hD2).trans (tups_same s5))⟩ rfl ?_
        refine ⟨h2, h6, by show 1 ≤ Rr.length; omega, by show Rr.length ≤ 3; omega, by show w.length ≤ 1; omega, hw, fun r hr => ?_⟩
        show RowOk k Rr.length 2 2 r
        rw [el2]
        exact ok2 r hr
end
end K26

set_option Elab.async false
set_option linter.all false
set_option maxRecDepth 100000
set_option maxHeartbeats 4000000
namespace K26
open PySem PySem.Spec L2
/-- words of letters, so long at most -/
def Wds (k l : Nat) (ws : List (List Nat)) : Prop := ∀ w ∈ ws, Wd k w ∧ w.length ≤ l
theorem Wds.nil {k l : Nat} : Wds k l [] := fun _ h => nomatch h
theorem Wds.app {k l : Nat} {us ws : List (List Nat)} (a : Wds k l us) (b : Wds k l ws) : Wds k l (us ++ ws) := fun w h => (List.mem_append.mp h).elim (a w) (b w)
theorem Wds.mono {k l l' : Nat} {ws : List (List Nat)} (a : Wds k l ws) (h : l ≤ l') : Wds k l' ws := fun w hw => ⟨(a w hw).1, Nat.le_trans (a w hw).2 h⟩
theorem Wds.one {k l : Nat} {w : List Nat} (a : Wd k w) (h : w.length ≤ l) : Wds k l [w] := fun x hx => by
  rw [List.mem_singleton.mp hx]
  exact ⟨a, h⟩
theorem pow6 {j : Nat} (h : j ≤ 5) : 6 ^ j ≤ 7776 := Nat.le_trans (Nat.pow_le_pow_right (by decide) h) (by decide)
section
variable {P : Program} {w : World} {K : PySem.W.Frag} {mg : Str → Option Value} {base : Heap} {f : Addr} {fd : FuncData}
abbrev NS : List Str := ["_law_k", "_law_length", "_law_words_here", "_law_ring", "_law_j", "_law_longer", "_law_word", "_law_letter"]
theorem sc_lwords : FnScope NS ["_law_k", "_law_length"] (defScope (top 39)) := ⟨rfl, rfl, rfl, by decide +kernel, rfl, by decide +kernel, by decide +kernel⟩
theorem ok_lwords (F : FnP K "_law_words" "_law_words" (top 39) f fd) (g : mg "_law_words" = some (.ref f)) (T : Txt mg) : Cal P w K mg base "_law_words" 1 ["_law_k", "_law_length"] spWords := by
  refine ⟨f, fd, F.ok sc_lwords (fun vs H Q E h => ?_) (fun cdv A outer s H vs Q E hr h => ?_), g, F.kp, F.bindsN fun _ _ _ _ _ _ us hl => match us, hl with | [_, _], _ => rfl⟩
  · obtain ⟨k, n, rfl, _⟩ := h
    rfl
  · obtain ⟨k, n, rfl, h2, h6, hn, q⟩ := h
    refine ⟨_, PSs.nox (pss_cons (ps_set (i := 2) sc_lwords.nd rfl (Or.inl rfl) (pe_lst (pa_cons pe_str pa_nil)))
      (pss_cons (ps_set (i := 3) sc_lwords.nd rfl (Or.inl rfl) (pe_lst (pa_cons pe_str pa_nil)))
      (pss_cons (ps_for PassesOwn.never rfl (pi_range1 rfl T.range (pa_cons (pv 1) pa_nil)) (pg_name (i := 4) sc_lwords.nd rfl (Or.inl rfl))
          (pss_cons (ps_set (i := 5) sc_lwords.nd rfl (Or.inl rfl) (pe_lst pa_nil))
          (pss_cons (ps_for PassesOwn.never rfl (pi_list (pv 3)) (pg_name (i := 6) sc_lwords.nd rfl (Or.inr rfl))
              (pss_one (ps_set (i := 5) sc_lwords.nd rfl (Or.inl rfl) (pe_op op_cat (pv 5)
                (pe_lc (own := [("_law_letter", 7)]) (g := gName 7) (tt := tYes) rfl sc_lwords.nd (pi_range1 rfl T.range (pa_cons (pv 0) pa_nil)) (blkOk_by (own := [("_law_letter", 7)]) (N := NS) (sc := defScope (top 39)) (by decide +kernel))
                  (fun _ _ _ _ _ => pg_name (i := 7) sc_lwords.nd rfl (Or.inl rfl)) (fun _ _ _ _ _ => pts_nil)
                  (fun _ _ _ _ _ => pe_op op_add_str (pv 6) (pe_ix ix_str pe_str (pv 7) (fun _ _ => rfl))))))))
          (pss_cons (ps_set (i := 2) sc_lwords.nd rfl (Or.inl rfl) (pe_op op_cat (pv 2) (pv 5)))
            (pss_one (ps_set (i := 3) sc_lwords.nd rfl (Or.inl rfl) (pv 5)))))))
        (pss_one (ps_ret (pv 2)))))), ?_⟩
    refine ⟨(by show 1 ≤ sizeLine; decide), fun l1 hl1 => ⟨(by show 1 ≤ sizeLine; decide), fun l2 hl2 => ?_⟩⟩
    have n12 : l1 ≠ l2 := fun z => by
      rw [← z, upd_same] at hl2
      cases hl2
    refine ⟨_, rfl, _, rfl, by omega, by omega, for_range (lo := 0) (n := n) (fun j σ H' => ∃ (pw pr : Addr) (c4 c5 c6 c7 : Option V) (ws rs : List (List Nat)), σ = [some (.int (k : Int)), some (.int (n : Int)), some (.ref pw), some (.ref pr), c4, c5, c6, c7] ∧
        Same H H' ∧ H pw = none ∧ H' pw = some (.lst (ws.map vS)) ∧ H' pr = some (.lst (rs.map vS)) ∧ Wds k j ws ∧ Wds k j rs ∧ rs.length ≤ 6 ^ j ∧ ws.length ≤ 1 + j * 7776)
      ⟨l1, l2, none, none, none, none, [[]], [[]], rfl, (same_new hl1).trans (same_new hl2), hl1, by rw [upd_ne n12, upd_same]; rfl, upd_same, Wds.one Wd.nil (Nat.le_refl _), Wds.one Wd.nil (Nat.le_refl _), Nat.le_refl _, Nat.le_refl _⟩ ?_ ?_⟩
    · rintro j σ H1 hj ⟨pw, pr, c4, c5, c6, c7, ws, rs, rfl, s1, npw, hw1, hr1, okw, okr, lr, lw⟩
      refine ⟨Nat.zero_le _, fun l3 hl3 => ?_⟩
      have s3 : Same H1 (upd H1 l3 (.lst [])) := same_new hl3
      have h6j := pow6 (show j ≤ 5 by omega)
      refine ⟨_, rfl, pr, rfl, ⟨_, SqL.of (s3 _ _ hr1)⟩, for_list (K := K) (a := pr) (xs := rs.map vS) (fun i σ H' => ∃ (pl : Addr) (c6 c7 : Option V) (ls : List (List Nat)), σ = [some (.int (k : Int)), some (.int (n : Int)), some (.ref pw), some (.ref pr), some (.int (0 + (j : Int))), some (.ref pl), c6, c7] ∧
          Same H1 H' ∧ H' pl = some (.lst (ls.map vS)) ∧ Wds k (j + 1) ls ∧ ls.length ≤ 6 * i)
        ⟨l3, c6, c7, [], rfl, s3, upd_same, Wds.nil, Nat.le_refl _⟩ (fun i σ H' _ ⟨_, _, _, _, _, s4, _⟩ => SqL.of (s4 _ _ hr1)) ?_ ?_⟩
      · rintro i v σ H2 hi ⟨pl, c6, c7, ls, rfl, s4, hl4, okl, ll⟩
        obtain ⟨u, hu, rfl⟩ : ∃ u, rs[i]? = some u ∧ v = vS u := by
          rw [List.getElem?_map] at hi
          cases e : rs[i]? with
          | none =>
            rw [e] at hi
            cases hi
          | some u =>
            rw [e] at hi
            exact ⟨u, rfl, (Option.some.inj hi).symm⟩
        obtain ⟨uw, ul⟩ := okr u (List.mem_of_getElem? hu)
        have hi2 : i < rs.length := (List.getElem?_eq_some_iff.mp hu).1
        refine ⟨_, rfl, _, rfl, _, rfl, by omega, by omega, fun D hDn => lc_range (lo := 0) (n := k) (fun c H' => Same H2 H' ∧ ∃ es : List (List Nat), H' D = some (.lst (es.map vS)) ∧ Wds k (j + 1) es ∧ es.length = c)
          ⟨same_new hDn, [], upd_same, Wds.nil, rfl⟩ ?_ ?_⟩
        · rintro c H3 hc ⟨s5, es, he, oke, le⟩
          refine ⟨rfl, ?_⟩
          refine ⟨_, rfl, _, rfl, _, _, 97 + c, rfl, rfl, six_line, atI_of (by omega) (six_at (c := c) (by omega)), _, _, rfl, rfl, ?_, ?_⟩
          · show (tx u).length + (tx [c]).length ≤ _
            rw [tx_len, tx_len]
            exact line_ge (by show u.length + 1 ≤ 100000; omega)
          · refine ⟨_, he, by rw [List.length_map, le]; exact line_gt (by omega), same_upd s5 hDn, es ++ [u ++ [c]], ?_, oke.app (Wds.one (uw.app (Wd.one hc)) ?_), by rw [List.length_append, le]; rfl⟩
            · rw [upd_same, List.map_append]
              show some (HO.lst (es.map vS ++ [V.str (tx u ++ tx [c])])) = _
              rw [tx_app]
              rfl
            · rw [List.length_append]
              show u.length + 1 ≤ j + 1
              omega
        · rintro H3 ⟨s5, es, he, oke, le⟩
          refine ⟨pl, D, _, _, rfl, rfl, s5 _ _ hl4, he, by rw [List.length_map, List.length_map, le]; exact line_ge (by omega), fun p hp => ?_⟩
          refine ⟨p, _, _, ls ++ es, rfl, s4.trans (s5.trans (same_new hp)), ?_, okl.app oke, ?_⟩
          · rw [upd_same, List.map_append]
          · rw [List.length_append, le]
            omega
      · rintro σ H2 ⟨pl, c6, c7, ls, rfl, s4, hl4, okl, ll⟩
        rw [List.length_map] at ll
        have llr : ls.length ≤ 6 ^ (j + 1) := by
          rw [Nat.pow_succ]
          have := Nat.mul_le_mul_left 6 lr
          omega
        have h6j1 := pow6 (show j + 1 ≤ 5 by omega)
        refine ⟨_, rfl, _, rfl, pw, pl, _, _, rfl, rfl, s4 _ _ hw1, hl4, by rw [List.length_map, List.length_map]; exact line_ge (by omega), fun p hp => ?_⟩
        have s6 := same_new (o := .lst (ws.map vS ++ ls.map vS)) hp
        have np : H p = none := (s1.trans s4).free hp
        refine ⟨_, rfl, p, pl, _, _, _, _, ws ++ ls, ls, rfl, (s1.trans s4).trans s6, np, ?_, s6 _ _ hl4, (okw.mono (Nat.le_succ _)).app okl, okl, llr, ?_⟩
        · rw [upd_same, List.map_append]
        · rw [List.length_append, Nat.succ_mul]
          omega
    · rintro σ H1 ⟨pw, pr, c4, c5, c6, c7, ws, rs, rfl, s1, npw, hw1, hr1, okw, okr, lr, lw⟩
      refine ⟨_, rfl, q _ pw ws s1 npw hw1 (okw.mono hn) ?_⟩
      have := Nat.mul_le_mul_right 7776 hn
      omega
end
end K26

set_option Elab.async false
set_option linter.all false
set_option maxRecDepth 100000
set_option maxHeartbeats 8000000
namespace K26
open PySem PySem.Spec L2
theorem fits {A B : Mach} {nA oA lA fA nB oB lB fB : Nat} (hA : Ok A nA oA lA fA) (hB : Ok B nB oB lB fB) (ek : A.k = B.k) (a : nA ≤ 2000 ∧ oA ≤ 60 ∧ lA ≤ 60 ∧ fA ≤ 60) (b : nB ≤ 2000 ∧ oB ≤ 60 ∧ lB ≤ 60 ∧ fB ≤ 60)
    (hn : nA * nB ≤ 2000) (ho : oB * oA ≤ 60) (hl : oB * lA + lB ≤ 60) (hf : fB + oB * fA ≤ 60) : Fits A B := by
  refine ⟨hA.mono a.1 a.2.1 a.2.2.1 a.2.2.2, hB.mono b.1 b.2.1 b.2.2.1 b.2.2.2, ek, Nat.le_trans (Nat.mul_le_mul hA.le hB.le) hn, fun s t c hs ht hc => ?_, fun s t hs ht => ?_, ?_⟩
  · have e := hA.entOk hs hc
    have w := hB.walk ht (ek ▸ e.2.1)
    exact Nat.le_trans w.2.2 (Nat.le_trans (Nat.mul_le_mul_left oB e.1) ho)
  · have r := hA.rowOk hs
    have w := hB.walk ht (ek ▸ r.lw)
    have r2 := hB.rowOk w.1
    rw [List.length_append]
    have h1 := Nat.mul_le_mul_left oB r.ll
    have h2 := w.2.2
    have h3 := r2.ll
    omega
  · have w := hB.walk hB.pos (ek ▸ hA.fw)
    rw [List.length_append]
    have h1 := Nat.mul_le_mul_left oB hA.fl
    have h2 := w.2.2
    have h3 := hB.fl
    omega
theorem menu {c : Nat} (h : c < 8) : ∃ k : Nat, ([.int 2, .int 2, .int 2, .int 3, .int 3, .int 4, .int 5, .int 6] : List V)[c]? = some (.int (k : Int)) ∧ 2 ≤ k ∧ k ≤ 6 := by
  match c, h with
  | 0, _ => exact ⟨2, rfl, by decide, by decide⟩
  | 1, _ => exact ⟨2, rfl, by decide, by decide⟩
  | 2, _ => exact ⟨2, rfl, by decide, by decide⟩
  | 3, _ => exact ⟨3, rfl, by decide, by decide⟩
  | 4, _ => exact ⟨3, rfl, by decide, by decide⟩
  | 5, _ => exact ⟨4, rfl, by decide, by decide⟩
  | 6, _ => exact ⟨5, rfl, by decide, by decide⟩
  | 7, _ => exact ⟨6, rfl, by decide, by decide⟩
theorem maxed {k : Nat} (h2 : 2 ≤ k) : ∃ n : Nat, (if (9 : Int) - 2 * (k : Int) > 1 then (9 : Int) - 2 * (k : Int) else 1) = (n : Int) ∧ n ≤ 5 := by
  refine ⟨(if (9 : Int) - 2 * (k : Int) > 1 then (9 : Int) - 2 * (k : Int) else 1).toNat, ?_, ?_⟩
  · split <;> omega
  · split <;> omega
theorem three_of {α : Type} {R : V → α → Prop} {vs : List V} {xs : List α} (h : All2 R vs xs) (l : xs.length = 3) : ∃ v1 v2 v3 x1 x2 x3, vs = [v1, v2, v3] ∧ xs = [x1, x2, x3] ∧ R v1 x1 ∧ R v2 x2 ∧ R v3 x3 := by
  match xs, l with
  | [x1, x2, x3], _ =>
    have lv := h.1
    match vs, lv with
    | [v1, v2, v3], _ =>
      obtain ⟨_, e1, r1⟩ := h.2 0 x1 rfl
      obtain ⟨_, e2, r2⟩ := h.2 1 x2 rfl
      obtain ⟨_, e3, r3⟩ := h.2 2 x3 rfl
      cases e1
      cases e2
      cases e3
      exact ⟨v1, v2, v3, x1, x2, x3, rfl, rfl, r1, r2, r3⟩
def spLaw (K : PySem.W.Frag) : Sp := fun vs H Q _ => ∃ (a : Addr) (ns : List Int), vs = [.ref a] ∧ SqL K H a (ns.map V.int) ∧ ns.length ≤ 63 ∧ ∀ H', Q (.bl true) H'
abbrev NL : List Str := ["_law_script", "_law_draws_here", "_law_k", "_law_machines", "_law_words_here", "_law_one", "_law_two", "_law_three", "_law_joined", "_law_left", "_law_right", "_law_calm", "_law_same", "_law_again", "_law_word", "_law_due", "_law_j"]
theorem sc_law : FnScope NL ["_law_script"] (defScope (top 40)) := ⟨rfl, rfl, rfl, by decide +kernel, rfl, by decide +kernel, by decide +kernel⟩
section
variable {P : Program} {w : World} {K : PySem.W.Frag} {mg : Str → Option Value} {base : Heap} {f : Addr} {fd : FuncData}
theorem ok_law (F : FnP K "law" "law" (top 40) f fd) (T : Txt mg) (CD : Cal P w K mg base "_law_draws" 2 ["_law_script"] (spDraws K)) (CN : Cal P w K mg base "_law_next" 1 ["_law_draws_here"] spNext)
    (CM : Cal P w K mg base "_law_machine" 4 ["_law_draws_here", "_law_k", "_law_most"] spMach) (CW : Cal P w K mg base "_law_words" 1 ["_law_k", "_law_length"] spWords) (CT : Cal P w K mg base "_law_text" 2 ["_law_draws_here", "_law_k", "_law_most"] spText)
    (CB : Cal P w K mg base "behind" 7 ["one", "other"] spBehind) (CS : Cal P w K mg base "still" 2 ["k"] spStill) (CL : Cal P w K mg base "_law_form" 2 ["_law_machine_here", "_law_word"] spLForm) (CF : Cal P w K mg base "form" 8 ["machine", "word"] spForm) :
    FnOk P w K mg base CX0 9 f fd ["_law_script"] (spLaw K) := by
  refine F.ok sc_law (fun vs H Q E h => ?_) (fun cdv A outer s H vs Q E hr h => ?_)
  · obtain ⟨a, ns, rfl, _⟩ := h
    rfl
  · obtain ⟨a, ns, rfl, hS, hlen, q⟩ := h
    refine ⟨_, PSs.nox (pss_cons (ps_set (i := 1) sc_law.nd rfl (Or.inr rfl) (pe_cal CD hr rfl (pa_cons (pv 0) pa_nil)))
      (pss_cons (ps_expr (pe_bm0 PySem.F.plainAttrs_list PySem.F.slot_list_reverse PySem.F.type_list_reverse mt_reverse (pv 1)))
      (pss_cons (ps_set (i := 2) sc_law.nd rfl (Or.inr rfl) (pe_ix ix_list (pe_lst (pa_cons pe_int (pa_cons pe_int (pa_cons pe_int (pa_cons pe_int (pa_cons pe_int (pa_cons pe_int (pa_cons pe_int (pa_cons pe_int pa_nil)))))))))
          (pe_op op_mod (pe_callTy call_int1 (by rfl) T.int boot_intK (pa_cons (pe_cal CN hr rfl (pa_cons (pv 1) pa_nil)) pa_nil)) pe_int) (fun _ _ => rfl)))
      (pss_cons (ps_setLc (i := 3) (own := [("_law_j", 16)]) (g := gName 16) (tt := tYes) rfl sc_law.nd rfl rfl (sw_true rfl rfl rfl (by decide +kernel)) (pi_range1 rfl T.range (pa_cons pe_int pa_nil)) (blkOk_by (own := [("_law_j", 16)]) (N := NL) (sc := defScope (top 40)) (by decide +kernel))
          (fun _ _ _ _ _ => pg_name (i := 16) sc_law.nd rfl (Or.inl rfl)) (fun _ _ _ _ _ => pts_nil) (fun _ _ _ _ _ => pe_cal CM hr rfl (pa_cons (pv 1) (pa_cons (pv 2) (pa_cons pe_int pa_nil)))))
      (pss_cons (ps_set (i := 4) sc_law.nd rfl (Or.inl rfl) (pe_op op_cat
          (pe_cal CW hr rfl (pa_cons (pv 2) (pa_cons (pe_callB (call_max2 rfl) (by rfl) T.max PyProof.Rows.boot_max (pa_cons pe_int (pa_cons (pe_op op_sub pe_int (pe_op op_mul pe_int (pv 2))) pa_nil))) pa_nil)))
          (pe_lc (own := [("_law_j", 16)]) (g := gName 16) (tt := tYes) rfl sc_law.nd (pi_range1 rfl T.range (pa_cons pe_int pa_nil)) (blkOk_by (own := [("_law_j", 16)]) (N := NL) (sc := defScope (top 40)) (by decide +kernel))
            (fun _ _ _ _ _ => pg_name (i := 16) sc_law.nd rfl (Or.inl rfl)) (fun _ _ _ _ _ => pts_nil) (fun _ _ _ _ _ => pe_cal CT hr rfl (pa_cons (pv 1) (pa_cons (pv 2) (pa_cons pe_int pa_nil)))))))
      (pss_cons (ps_asg (pv 3) (pg_unl (by rfl) (pgs_cons (pg_name (i := 5) sc_law.nd rfl (Or.inl rfl)) (pgs_cons (pg_name (i := 6) sc_law.nd rfl (Or.inl rfl)) (pgs_cons (pg_name (i := 7) sc_law.nd rfl (Or.inl rfl)) pgs_nil)))))
      (pss_cons (ps_set (i := 8) sc_law.nd rfl (Or.inr rfl) (pe_cal CB hr rfl (pa_cons (pv 5) (pa_cons (pv 6) pa_nil))))
      (pss_cons (ps_try_thru0 (pss_cons (ps_set (i := 9) sc_law.nd rfl (Or.inl rfl) (pe_cal CB hr rfl (pa_cons (pv 8) (pa_cons (pv 7) pa_nil))))
          (pss_one (ps_set (i := 10) sc_law.nd rfl (Or.inl rfl) (pe_cal CB hr rfl (pa_cons (pv 5) (pa_cons (pe_cal CB hr rfl (pa_cons (pv 6) (pa_cons (pv 7) pa_nil))) pa_nil)))))))
      (pss_cons (ps_set (i := 11) sc_law.nd rfl (Or.inl rfl) (pe_cal CS hr rfl (pa_cons (pv 2) pa_nil)))
      (pss_cons (ps_set (i := 12) sc_law.nd rfl (Or.inl rfl) (pe_cal CB hr rfl (pa_cons (pv 8) (pa_cons (pv 11) pa_nil))))
      (pss_cons (ps_set (i := 13) sc_law.nd rfl (Or.inr rfl) (pe_cal CB hr rfl (pa_cons (pv 11) (pa_cons (pv 8) pa_nil))))
      (pss_cons (ps_for PassesOwn.never rfl (pi_list (pv 4)) (pg_name (i := 14) sc_law.nd rfl (Or.inl rfl))
          (pss_cons (ps_set (i := 15) sc_law.nd rfl (Or.inl rfl) (pe_cal CL hr rfl (pa_cons (pv 6) (pa_cons (pe_cal CL hr rfl (pa_cons (pv 5) (pa_cons (pv 14) pa_nil))) pa_nil))))
          (pss_cons (ps_if (PW.pt (pw_or (pt_cmpR op_ne (pe_cal CF hr rfl (pa_cons (pv 8) (pa_cons (pv 14) pa_nil))) (pv 15) (nomark _)) (pw_or1 (pt_cmpR op_ne (pe_cal CF hr rfl (pa_cons (pv 12) (pa_cons (pv 14) pa_nil))) (pv 15) (nomark _))))) pss_never pss_nil)
            (pss_one (ps_if (PW.pt (pw_or (pt_cmpR op_ne (pe_cal CF hr rfl (pa_cons (pv 9) (pa_cons (pv 14) pa_nil))) (pe_cal CL hr rfl (pa_cons (pv 7) (pa_cons (pv 15) pa_nil))) (nomark _))
              (pw_or1 (pt_cmpR op_ne (pe_cal CF hr rfl (pa_cons (pv 10) (pa_cons (pv 14) pa_nil))) (pe_cal CL hr rfl (pa_cons (pv 7) (pa_cons (pv 15) pa_nil))) (nomark _))))) pss_never pss_nil)))))
        (pss_one (ps_ret (pe_callB (cr_all rfl) (by rfl) T.all PyProof.Rows.boot_all (pa_cons
          (pe_lc (own := [("_law_word", 14)]) (g := gName 14) (tt := tYes) rfl sc_law.nd (pi_list (pv 4)) (blkOk_by (own := [("_law_word", 14)]) (N := NL) (sc := defScope (top 40)) (by decide +kernel))
            (fun _ _ _ _ _ => pg_name (i := 14) sc_law.nd rfl (Or.inl rfl)) (fun _ _ _ _ _ => pts_nil)
            (fun _ _ _ _ _ => pe_cmpR op_eq (pe_cal CF hr rfl (pa_cons (pv 13) (pa_cons (pv 14) pa_nil))) (pe_cal CF hr rfl (pa_cons (pv 8) (pa_cons (pv 14) pa_nil))) (nomark _))) pa_nil)))))))))))))))), ?_⟩
    -- the draws
    refine ⟨_, rfl, a, ns, rfl, hS, hlen, fun H1 d s1 nd ⟨ds, hd⟩ => ?_⟩
    refine ⟨_, rfl, .inl ⟨rfl, _, SqL.of hd⟩, d, _, rfl, rfl, hd, ?_⟩
    obtain ⟨H2, eH2⟩ : ∃ H2, upd H1 d (.lst (ds.map V.int).reverse) = H2 := ⟨_, rfl⟩
    have hD2 : Dr d H2 := ⟨ds.reverse, by rw [← eH2, upd_same, List.map_reverse]⟩
    rw [eH2]
    -- the number of letters
    refine ⟨(by show 8 ≤ sizeLine; decide), fun l0 hl0 => ?_⟩
    refine ⟨_, rfl, d, rfl, hD2.new hl0, fun H3 i3 b3 hD3 => ?_⟩
    obtain ⟨c, ec, hc⟩ := mod_nat (i := i3) (k := 8) (by omega)
    obtain ⟨k, ek, h2, h6⟩ := menu hc
    have ec2 : i3 % (8 : Int) = (c : Int) := ec
    refine .inl ⟨_, rfl, _, _, rfl, rfl, (by show (0 : Int) < 8; decide), l0, _, _, _, rfl, rfl, SqL.of (b3 _ _ (hD2.ne hl0).symm upd_same), atI_of ec2 ek, ?_⟩
    -- three machines
    refine ⟨3, rfl, by decide, by decide, fun Dm hDm => lc_range (lo := 0) (n := 3) (fun i H' => Dr d H' ∧ ∃ (vs : List V) (ms : List Mach), H' Dm = some (.lst vs) ∧ All2 (MachAt H') vs ms ∧ ms.length = i ∧ ∀ m ∈ ms, m.k = k ∧ Ok m 3 2 2 1)
      ⟨hD3.new hDm, [], [], upd_same, All2.nil, rfl, fun m hm => nomatch hm⟩ ?_ ?_⟩
    · rintro i H' hi ⟨hD', vs, ms, hv, ha, el, okm⟩
      refine ⟨rfl, ?_⟩
      refine ⟨_, rfl, _, rfl, d, k, rfl, hD', h2, h6, fun H4 v m b4 hD4 hm hk ok => ?_⟩
      have nd4 : d ≠ Dm := by
        obtain ⟨dd, e⟩ := hD3
        exact ne_of_none e hDm
      have hv4 : H4 Dm = some (.lst vs) := b4 _ _ nd4.symm hv
      refine ⟨vs, hv4, by rw [ha.1, el]; exact line_gt (by omega), hD4.upd nd4, vs ++ [v], ms ++ [m], upd_same, ?_, by rw [List.length_append, el]; rfl, fun x hx => ?_⟩
      · have tk : Tups H4 (upd H4 Dm (.lst (vs ++ [v]))) := fun b ys e => by
          rw [upd_ne (fun z : b = Dm => by rw [z, hv4] at e; cases e)]
          exact e
        exact (ha.imp fun _ _ z => z.keep ((b4.dtups hD').trans tk)).snoc (hm.keep tk)
      · rcases List.mem_append.mp hx with z | z
        · exact okm x z
        · rw [List.mem_singleton.mp z]
          exact ⟨hk, ok⟩
    rintro H4 ⟨hD4, vs, ms, hv4, ha4, el4, okm⟩
    obtain ⟨v1, v2, v3, m1, m2, m3, rfl, rfl, hm1, hm2, hm3⟩ := three_of ha4 el4
    obtain ⟨k1, o1⟩ := okm m1 (by simp)
    obtain ⟨k2, o2⟩ := okm m2 (by simp)
    obtain ⟨k3, o3⟩ := okm m3 (by simp)
    -- the words
    obtain ⟨n, en, hn⟩ := maxed h2
    refine ⟨_, rfl, _, rfl, _, _, rfl, rfl, .inl ⟨by decide, by decide⟩, _, _, rfl, rfl, 1, _, rfl, ?_⟩
    refine ⟨k, n, ?_, h2, h6, hn, fun H5 pw ws s5 npw hw5 okw lw => ?_⟩
    · show [V.int (k : Int), V.int (if (9 : Int) - 2 * (k : Int) > 1 then (9 : Int) - 2 * (k : Int) else 1)] ++ [] = _
      rw [en]
      rfl
    have hD5 : Dr d H5 := hD4.same s5
    refine ⟨4, rfl, by decide, by decide, fun Dt hDt => lc_range (lo := 0) (n := 4) (fun i H' => But d H5 H' ∧ Dr d H' ∧ ∃ ts : List (List Nat), H' Dt = some (.lst (ts.map vS)) ∧ Wds k 8 ts ∧ ts.length = i)
      ⟨But.refl.new hDt, hD5.new hDt, [], upd_same, Wds.nil, rfl⟩ ?_ ?_⟩
    · rintro i H' hi ⟨b', hD', ts, ht, okt, el⟩
      refine ⟨rfl, ?_⟩
      refine ⟨_, rfl, _, rfl, d, k, 8, rfl, hD', h2, h6, by omega, fun H6 w b6 hD6 hw hl => ?_⟩
      have ndt : d ≠ Dt := hD5.ne hDt
      have ht6 : H6 Dt = some (.lst (ts.map vS)) := b6 _ _ ndt.symm ht
      refine ⟨_, ht6, by rw [List.length_map, el]; exact line_gt (by omega), (b'.trans b6).of_new hDt, hD6.upd ndt, ts ++ [w], ?_, okt.app (Wds.one hw hl), by rw [List.length_append, el]; rfl⟩
      rw [upd_same, List.map_append]
      rfl
    rintro H6 ⟨b6, hD6, ts, ht6, okt, elt⟩
    have npd : pw ≠ d := fun z => by
      obtain ⟨dd, e⟩ := hD4
      rw [z, e] at npw
      cases npw
    refine ⟨pw, Dt, _, _, rfl, rfl, b6 _ _ npd hw5, ht6, by rw [List.length_map, List.length_map, elt]; exact line_ge (by omega), fun lw6 hlw6 => ?_⟩
    rw [← List.map_append]
    obtain ⟨us, eus⟩ : ∃ us, ws ++ ts = us := ⟨_, rfl⟩
    rw [eus]
    have oku : Wds k 8 us := by
      rw [← eus]
      exact Wds.app (fun x hx => ⟨(okw x hx).1, Nat.le_trans (okw x hx).2 (by decide)⟩) okt
    have lus : us.length ≤ 50004 := by
      rw [← eus, List.length_append, elt]
      omega
    obtain ⟨H7, eH7⟩ : ∃ H7, upd H6 lw6 (.lst (us.map vS)) = H7 := ⟨_, rfl⟩
    rw [eH7]
    have t7 : Tups H4 H7 := by
      rw [← eH7]
      exact (tups_same s5).trans ((b6.dtups hD5).trans (Tups.new hlw6))
    have hu7 : H7 lw6 = some (.lst (us.map vS)) := by
      rw [← eH7]
      exact upd_same
    have ndDm : Dm ≠ d := fun z => by
      obtain ⟨dd, e⟩ := hD3
      rw [z, e] at hDm
      cases hDm
    have hv7 : H7 Dm = some (.lst [v1, v2, v3]) := by
      rw [← eH7]
      exact same_new hlw6 _ _ (b6 _ _ ndDm (s5 _ _ hv4))
    have hm1 := hm1.keep t7
    have hm2 := hm2.keep t7
    have hm3 := hm3.keep t7
    -- one, two, three
    refine ⟨_, rfl, Dm, _, rfl, SqL.of hv7, rfl, _, _, rfl, _, _, rfl, _, _, rfl, rfl, ?_⟩
    have f12 : Fits m1 m2 := fits o1 o2 (by omega) (by decide) (by decide) (by decide) (by decide) (by decide) (by decide)
    have f23 : Fits m2 m3 := fits o2 o3 (by omega) (by decide) (by decide) (by decide) (by decide) (by decide) (by decide)
    refine ⟨_, rfl, _, rfl, v1, v2, m1, m2, rfl, hm1, hm2, f12, fun H8 vj J PJ jj hj s8 => ?_⟩
    have oj : Ok J 9 4 6 3 := jj.ok o1 o2 (by omega)
    have kj : J.k = k := by rw [jj.k, k1]
    have fj3 : Fits J m3 := fits oj o3 (by omega) (by decide) (by decide) (by decide) (by decide) (by decide) (by decide)
    refine ⟨_, rfl, _, rfl, vj, v3, J, m3, rfl, hj, hm3.keep (tups_same s8), fj3, fun H9 vl L PL jl hl s9 => ?_⟩
    have s89 := s8.trans s9
    refine ⟨_, rfl, _, rfl, _, rfl, v2, v3, m2, m3, rfl, hm2.keep (tups_same s89), hm3.keep (tups_same s89), f23, fun Ha vt TT PT jt ht sa => ?_⟩
    have ot : Ok TT 9 4 6 3 := jt.ok o2 o3 (by omega)
    have kt : TT.k = k := by rw [jt.k, k2]
    have f1t : Fits m1 TT := fits o1 ot (by omega) (by decide) (by decide) (by decide) (by decide) (by decide) (by decide)
    have s8a := s89.trans sa
    refine ⟨v1, vt, m1, TT, rfl, hm1.keep (tups_same s8a), ht, f1t, fun Hb vr RR PR jr hrr sb => ?_⟩
    have s8b := s8a.trans sb
    -- the still machine
    refine ⟨_, rfl, k, rfl, h2, h6, fun Hc vc sc hc1 => ?_⟩
    have oc := calm_ok h2 h6
    have fjc : Fits J (calm k) := fits oj oc kj (by decide) (by decide) (by decide) (by decide) (by decide) (by decide)
    have fcj : Fits (calm k) J := fits oc oj kj.symm (by decide) (by decide) (by decide) (by decide) (by decide) (by decide)
    have s9c := s9.trans (sa.trans (sb.trans sc))
    refine ⟨_, rfl, _, rfl, vj, vc, J, calm k, rfl, hj.keep (tups_same s9c), hc1, fjc, fun Hd vs1 S1 PS js hs sd => ?_⟩
    have s9d := s9c.trans sd
    refine ⟨_, rfl, _, rfl, vc, vj, calm k, J, rfl, hc1.keep (tups_same sd), hj.keep (tups_same s9d), fcj, fun He vg GG PG jg hg se => ?_⟩
    have s9e := s9d.trans se
    have s7e : Same H7 He := s8.trans s9e
    have uE : He lw6 = some (.lst (us.map vS)) := s7e _ _ hu7
    have mJ : MachAt He vj J := hj.keep (tups_same s9e)
    have m1E : MachAt He v1 m1 := hm1.keep (tups_same s7e)
    have m2E : MachAt He v2 m2 := hm2.keep (tups_same s7e)
    have m3E : MachAt He v3 m3 := hm3.keep (tups_same s7e)
    have mL : MachAt He vl L := hl.keep (tups_same (sa.trans (sb.trans (sc.trans (sd.trans se)))))
    have mR : MachAt He vr RR := hrr.keep (tups_same (sc.trans (sd.trans se)))
    have mS : MachAt He vs1 S1 := hs.keep (tups_same se)
    have oL := jl.ok oj o3 (by omega)
    have oR := jr.ok o1 ot (by omega)
    have oS := js.ok oj oc kj
    have oG := jg.ok oc oj kj.symm
    have w1 : Wide m1 := f12.a
    have w2 : Wide m2 := f12.b
    have w3 : Wide m3 := f23.b
    have wJ : Wide J := fj3.a
    have wL : Wide L := oL.mono (by decide) (by decide) (by decide) (by decide)
    have wR : Wide RR := oR.mono (by decide) (by decide) (by decide) (by decide)
    have wS : Wide S1 := oS.mono (by decide) (by decide) (by decide) (by decide)
    have wG : Wide GG := oG.mono (by decide) (by decide) (by decide) (by decide)
    have kL : L.k = k := by rw [jl.k, kj]
    have kR : RR.k = k := by rw [jr.k, k1]
    have kS : S1.k = k := by rw [js.k, kj]
    have kG : GG.k = k := by rw [jg.k]; rfl
    -- the loop over the words
    refine ⟨_, rfl, lw6, rfl, ⟨_, SqL.of uE⟩, for_list (K := K) (a := lw6) (xs := us.map vS) (fun i σ H' => ∃ (c14 c15 c16 : Option V), σ = [some (.ref a), some (.ref d), some (.int (k : Int)), some (.ref Dm), some (.ref lw6), some v1, some v2, some v3, some vj, some vl, some vr, some vc, some vs1, some vg, c14, c15, c16] ∧ Same He H')
      ⟨none, none, none, rfl, Same.refl _⟩ (fun i σ H' _ ⟨_, _, _, _, s'⟩ => SqL.of (s' _ _ uE)) ?_ ?_⟩
    · rintro i x σ H' hi ⟨c14, c15, c16, rfl, s'⟩
      obtain ⟨u, hu, rfl⟩ : ∃ u, us[i]? = some u ∧ x = vS u := by
        rw [List.getElem?_map] at hi
        cases e : us[i]? with
        | none =>
          rw [e] at hi
          cases hi
        | some u =>
          rw [e] at hi
          exact ⟨u, rfl, (Option.some.inj hi).symm⟩
      obtain ⟨uw, ul⟩ := oku u (List.mem_of_getElem? hu)
      have uw1 : Wd m1.k u := k1.symm ▸ uw
      have fo := o1.formOk uw1
      have l1 : (form m1 u).length ≤ 19 := by omega
      have fw2 : Wd m2.k (form m1 u) := by rw [k2, ← k1]; exact fo.1
      have fo2 := o2.formOk fw2
      have l2 : (form m2 (form m1 u)).length ≤ 41 := by omega
      have fw3 : Wd m3.k (form m2 (form m1 u)) := by rw [k3, ← k2]; exact fo2.1
      have uwJ : Wd J.k u := kj.symm ▸ uw
      have eJ : form J u = form m2 (form m1 u) := jj.form o1 o2 (by omega) uw1
      have eL : form L u = form m3 (form m2 (form m1 u)) := by rw [jl.form oj o3 (by omega) uwJ, eJ]
      have eR : form RR u = form m3 (form m2 (form m1 u)) := by rw [jr.form o1 ot (by omega) uw1, jt.form o2 o3 (by omega) fw2]
      have eS : form S1 u = form m2 (form m1 u) := by
        rw [js.form oj oc kj uwJ, eJ]
        exact calm_form (by rw [← k2]; exact fo2.1)
      refine ⟨_, rfl, _, rfl, _, rfl, v1, m1, u, rfl, m1E.keep (tups_same s'), w1, uw1, by omega, fun Hf sf => ?_⟩
      refine ⟨v2, m2, form m1 u, rfl, m2E.keep (tups_same (s'.trans sf)), w2, fw2, by omega, fun Hg1 sg => ?_⟩
      have s2 := s'.trans (sf.trans sg)
      refine ⟨_, rfl, _, rfl, vj, J, u, rfl, mJ.keep (tups_same s2), wJ, uwJ, by omega, fun Hh sh => ?_⟩
      refine ⟨_, rfl, rfl, _, rfl, iteNS (by rw [eJ]) ?_⟩
      have s3 := s2.trans sh
      refine ⟨_, rfl, _, rfl, vs1, S1, u, rfl, mS.keep (tups_same s3), wS, kS.symm ▸ uw, by omega, fun Hi si => ?_⟩
      refine ⟨_, rfl, rfl, _, rfl, iteNS (by rw [eS]) ?_⟩
      have s4 := s3.trans si
      refine ⟨_, rfl, _, rfl, vl, L, u, rfl, mL.keep (tups_same s4), wL, kL.symm ▸ uw, by omega, fun Hj sj => ?_⟩
      have s5' := s4.trans sj
      refine ⟨_, rfl, _, rfl, v3, m3, form m2 (form m1 u), rfl, m3E.keep (tups_same s5'), w3, fw3, by omega, fun Hk sk => ⟨rfl, _, rfl, iteNS (by rw [eL]) ?_⟩⟩
      have s6 := s5'.trans sk
      refine ⟨_, rfl, _, rfl, vr, RR, u, rfl, mR.keep (tups_same s6), wR, kR.symm ▸ uw, by omega, fun Hl1 sl => ?_⟩
      have s7 := s6.trans sl
      refine ⟨_, rfl, _, rfl, v3, m3, form m2 (form m1 u), rfl, m3E.keep (tups_same s7), w3, fw3, by omega, fun Hm sm => ⟨rfl, _, rfl, iteNS (by rw [eR]) ?_⟩⟩
      exact ⟨_, _, _, rfl, s7.trans sm⟩
    · rintro σ H' ⟨c14, c15, c16, rfl, s'⟩
      refine ⟨_, rfl, lw6, rfl, ⟨_, SqL.of (s' _ _ uE)⟩, fun D hDn => lc_list (K := K) (a := lw6) (xs := us.map vS) (fun i H2 => Same H' H2 ∧ H2 D = some (.lst (trues i))) ⟨same_new hDn, upd_same⟩ (fun i H2 _ ⟨s2, _⟩ => SqL.of (s2 _ _ (s' _ _ uE))) ?_ ?_⟩
      · rintro i x H2 hi ⟨s2, hl2⟩
        obtain ⟨u, hu, rfl⟩ : ∃ u, us[i]? = some u ∧ x = vS u := by
          rw [List.getElem?_map] at hi
          cases e : us[i]? with
          | none =>
            rw [e] at hi
            cases hi
          | some u =>
            rw [e] at hi
            exact ⟨u, rfl, (Option.some.inj hi).symm⟩
        obtain ⟨uw, ul⟩ := oku u (List.mem_of_getElem? hu)
        have hi2 : i < us.length := (List.getElem?_eq_some_iff.mp hu).1
        have s02 := s'.trans s2
        have eG : form GG u = form J u := by rw [jg.form oc oj kj.symm uw, calm_form uw]
        refine ⟨rfl, ?_⟩
        refine ⟨_, rfl, _, rfl, vg, GG, u, rfl, hg.keep (tups_same s02), wG, kG.symm ▸ uw, by omega, fun H3 s3 => ?_⟩
        refine ⟨_, rfl, _, rfl, vj, J, u, rfl, mJ.keep (tups_same (s02.trans s3)), wJ, kj.symm ▸ uw, by omega, fun H4 s4 => ⟨rfl, ?_⟩⟩
        have s34 := s3.trans s4
        refine ⟨_, s34 _ _ hl2, by rw [trues_len]; exact line_gt (by omega), same_upd (s2.trans s34) hDn, ?_⟩
        rw [upd_same, decide_eq_true (show vS (form GG u) = vS (form J u) by rw [eG]), trues_snoc]
      · rintro H2 ⟨s2, hl2⟩
        refine ⟨_, List.replicate (us.map vS).length true, rfl, SqL.of hl2, ?_⟩
        rw [all_trues]
        exact q _
end
end K26

set_option Elab.async false
set_option linter.all false
set_option maxRecDepth 100000
set_option maxHeartbeats 0
/-! The head: the facts of the defs, the top's run. -/
namespace K26
open PySem PySem.Spec L2
abbrev glo1 (x : Str) (i : Nat) : He.DefD := ⟨(x, none), x, x, defArgs (top i), defBody (top i), defScope (top i), [], []⟩
abbrev met1 (m q : Str) (j : Nat) : He.DefD := ⟨("Joining", some m), m, q, defArgs (inClass (top 28) j), defBody (inClass (top 28) j), defScope (inClass (top 28) j), [], []⟩
def fn : List He.DefD := [
  glo1 "check_size" 9, glo1 "has_letters" 10, glo1 "is_word" 11, glo1 "check_word" 12,
  glo1 "is_string" 16, glo1 "is_row" 17, glo1 "is_formed" 18, glo1 "is_wide" 19, glo1 "check_wide" 20, glo1 "walked" 21, glo1 "changed" 22, glo1 "check_call" 23, glo1 "form" 24, glo1 "still" 25,
  glo1 "checked" 27, met1 "__init__" "Joining.__init__" 0, met1 "number" "Joining.number" 1, met1 "row" "Joining.row" 2, met1 "machine" "Joining.machine" 3, glo1 "behind" 29,
  glo1 "_law_number" 31, glo1 "_law_draws" 32, glo1 "_law_next" 33, glo1 "_law_text" 34, glo1 "_law_walked" 35, glo1 "_law_form" 36, glo1 "_law_out" 37, glo1 "_law_machine" 38, glo1 "_law_words" 39, glo1 "law" 40]
def fa : List He.Fa := [
  .glo "check_size", .glo "has_letters", .glo "is_word", .glo "check_word",
  .glo "is_string", .glo "is_row", .glo "is_formed", .glo "is_wide", .glo "check_wide", .glo "walked", .glo "changed", .glo "check_call", .glo "form", .glo "still",
  .glo "checked", .glo "Joining", .glo "behind",
  .glo "_law_number", .glo "_law_draws", .glo "_law_next", .glo "_law_text", .glo "_law_walked", .glo "_law_form", .glo "_law_out", .glo "_law_machine", .glo "_law_words", .glo "law",
  .free "len", .free "all", .free "tuple", .free "range", .free "int", .free "max",
  .int "MOST_LETTERS" 60, .int "MOST_WIDE" 2000, .int "LONGEST" 60, .str "LETTERS" "abcdef",
  .cls "Joining", .noat "Joining" "one", .noat "Joining" "other", .noat "Joining" "numbers", .noat "Joining" "pairs",
  .meth "Joining" "number", .meth "Joining" "row", .meth "Joining" "machine", .mkr "Joining"]
def loose : List Str := (["ShiftError", "NotWord", "NotMachine", "BadNumber", "TooLarge", "LETTERS", "MOST_LETTERS", "check_size", "has_letters", "is_word", "check_word", "MOST_WIDE", "LONGEST"] : List Str) ++
  ((["is_string", "is_row", "is_formed", "is_wide", "check_wide", "walked", "changed", "check_call", "form", "still", "checked", "Joining", "behind"] : List Str) ++
  (["_law_number", "_law_draws", "_law_next", "_law_text", "_law_walked", "_law_form", "_law_out", "_law_machine", "_law_words"] : List Str))
abbrev R : PySem.W.OpenRow := PySem.W.OpenLaw.row PySem.Challenge.rw_soundturns_k26_whole_one_behind_the_othe
abbrev hk : PySem.W.Hook := He.hookD 6 fa fn
def ob (s : PySem.W.SharedT) : He.AlD := He.obsDG 6 fa fn (HandSHeadRun.getT s)
theorem ob_eq (s : PySem.W.SharedT) : ob s = hk.obs s.abs := He.obsDG_eq (HandSHeadRun.getT_eq s)
theorem run (w : World) : HandSHeadRun.RunEq R (PySem.W.view R.prog [40]) hk ob 4000 loose w := by
  intro os
  kernel_rfl
end K26

set_option Elab.async false
set_option linter.all false
set_option maxRecDepth 100000
set_option maxHeartbeats 0
namespace K26
open PySem PySem.Spec L2
theorem facts {P : Program} {w : World} {K : PySem.W.Frag} {h : Heap} {mg : Str → Option Value} {f : Addr} (X : K.In h) (G : h.Ns mainGlobals mg) (hfa : mg ("law" : Str) = some (.ref f)) (c : He.SaysD fa fn K) :
    ∃ fd : FuncData, (∀ (s : Shared) (v : Value), BindsTo s fd ⟨[v], []⟩ [("_law_script", v)]) ∧ ∀ base : Heap, K.In base → base.Ns mainGlobals mg → FnOk P w K mg base CX0 9 f fd ["_law_script"] (spLaw K) := by
  obtain ⟨fd0, F0⟩ := c.def_ 0 (d := glo1 "check_size" 9) rfl
  obtain ⟨fd1, F1⟩ := c.def_ 1 (d := glo1 "has_letters" 10) rfl
  obtain ⟨fd2, F2⟩ := c.def_ 2 (d := glo1 "is_word" 11) rfl
  obtain ⟨fd3, F3⟩ := c.def_ 3 (d := glo1 "check_word" 12) rfl
  obtain ⟨fd4, F4⟩ := c.def_ 4 (d := glo1 "is_string" 16) rfl
  obtain ⟨fd5, F5⟩ := c.def_ 5 (d := glo1 "is_row" 17) rfl
  obtain ⟨fd6, F6⟩ := c.def_ 6 (d := glo1 "is_formed" 18) rfl
  obtain ⟨fd7, F7⟩ := c.def_ 7 (d := glo1 "is_wide" 19) rfl
  obtain ⟨fd8, F8⟩ := c.def_ 8 (d := glo1 "check_wide" 20) rfl
  obtain ⟨fd9, F9⟩ := c.def_ 9 (d := glo1 "walked" 21) rfl
  obtain ⟨fd10, F10⟩ := c.def_ 10 (d := glo1 "changed" 22) rfl
  obtain ⟨fd11, F11⟩ := c.def_ 11 (d := glo1 "check_call" 23) rfl
  obtain ⟨fd12, F12⟩ := c.def_ 12 (d := glo1 "form" 24) rfl
  obtain ⟨fd13, F13⟩ := c.def_ 13 (d := glo1 "still" 25) rfl
  obtain ⟨fd14, F14⟩ := c.def_ 14 (d := glo1 "checked" 27) rfl
  obtain ⟨fd15, F15⟩ := c.def_ 15 (d := met1 "__init__" "Joining.__init__" 0) rfl
  obtain ⟨fd16, F16⟩ := c.def_ 16 (d := met1 "number" "Joining.number" 1) rfl
  obtain ⟨fd17, F17⟩ := c.def_ 17 (d := met1 "row" "Joining.row" 2) rfl
  obtain ⟨fd18, F18⟩ := c.def_ 18 (d := met1 "machine" "Joining.machine" 3) rfl
  obtain ⟨fd19, F19⟩ := c.def_ 19 (d := glo1 "behind" 29) rfl
  obtain ⟨fd20, F20⟩ := c.def_ 20 (d := glo1 "_law_number" 31) rfl
  obtain ⟨fd21, F21⟩ := c.def_ 21 (d := glo1 "_law_draws" 32) rfl
  obtain ⟨fd22, F22⟩ := c.def_ 22 (d := glo1 "_law_next" 33) rfl
  obtain ⟨fd23, F23⟩ := c.def_ 23 (d := glo1 "_law_text" 34) rfl
  obtain ⟨fd24, F24⟩ := c.def_ 24 (d := glo1 "_law_walked" 35) rfl
  obtain ⟨fd25, F25⟩ := c.def_ 25 (d := glo1 "_law_form" 36) rfl
  obtain ⟨fd26, F26⟩ := c.def_ 26 (d := glo1 "_law_out" 37) rfl
  obtain ⟨fd27, F27⟩ := c.def_ 27 (d := glo1 "_law_machine" 38) rfl
  obtain ⟨fd28, F28⟩ := c.def_ 28 (d := glo1 "_law_words" 39) rfl
  obtain ⟨fd29, F29⟩ := c.def_ 29 (d := glo1 "law" 40) rfl
  have g0 := He.glo_ok X G (c.fact 0 (f := .glo "check_size") rfl)
  have g1 := He.glo_ok X G (c.fact 1 (f := .glo "has_letters") rfl)
  have g2 := He.glo_ok X G (c.fact 2 (f := .glo "is_word") rfl)
  have g3 := He.glo_ok X G (c.fact 3 (f := .glo "check_word") rfl)
  have g4 := He.glo_ok X G (c.fact 4 (f := .glo "is_string") rfl)
  have g5 := He.glo_ok X G (c.fact 5 (f := .glo "is_row") rfl)
  have g6 := He.glo_ok X G (c.fact 6 (f := .glo "is_formed") rfl)
  have g7 := He.glo_ok X G (c.fact 7 (f := .glo "is_wide") rfl)
  have g8 := He.glo_ok X G (c.fact 8 (f := .glo "check_wide") rfl)
  have g9 := He.glo_ok X G (c.fact 9 (f := .glo "walked") rfl)
  have g10 := He.glo_ok X G (c.fact 10 (f := .glo "changed") rfl)
  have g11 := He.glo_ok X G (c.fact 11 (f := .glo "check_call") rfl)
  have g12 := He.glo_ok X G (c.fact 12 (f := .glo "form") rfl)
  have g13 := He.glo_ok X G (c.fact 13 (f := .glo "still") rfl)
  have g14 := He.glo_ok X G (c.fact 14 (f := .glo "checked") rfl)
  have g15 := He.glo_ok X G (c.fact 15 (f := .glo "Joining") rfl)
  have g16 := He.glo_ok X G (c.fact 16 (f := .glo "behind") rfl)
  have g17 := He.glo_ok X G (c.fact 17 (f := .glo "_law_number") rfl)
  have g18 := He.glo_ok X G (c.fact 18 (f := .glo "_law_draws") rfl)
  have g19 := He.glo_ok X G (c.fact 19 (f := .glo "_law_next") rfl)
  have g20 := He.glo_ok X G (c.fact 20 (f := .glo "_law_text") rfl)
  have g21 := He.glo_ok X G (c.fact 21 (f := .glo "_law_walked") rfl)
  have g22 := He.glo_ok X G (c.fact 22 (f := .glo "_law_form") rfl)
  have g23 := He.glo_ok X G (c.fact 23 (f := .glo "_law_out") rfl)
  have g24 := He.glo_ok X G (c.fact 24 (f := .glo "_law_machine") rfl)
  have g25 := He.glo_ok X G (c.fact 25 (f := .glo "_law_words") rfl)
  have g26 := He.glo_ok X G (c.fact 26 (f := .glo "law") rfl)
  have T : Txt mg := ⟨He.free_ok X G (c.fact 27 (f := .free "len") rfl), He.free_ok X G (c.fact 28 (f := .free "all") rfl), He.free_ok X G (c.fact 29 (f := .free "tuple") rfl), He.free_ok X G (c.fact 30 (f := .free "range") rfl),
    He.free_ok X G (c.fact 31 (f := .free "int") rfl), He.free_ok X G (c.fact 32 (f := .free "max") rfl), He.str_ok X G (c.fact 36 (f := .str "LETTERS" "abcdef") rfl), He.int_ok X G (c.fact 35 (f := .int "LONGEST" 60) rfl),
    He.int_ok X G (c.fact 33 (f := .int "MOST_LETTERS" 60) rfl), He.int_ok X G (c.fact 34 (f := .int "MOST_WIDE" 2000) rfl)⟩
  have TJ : TxtJ K mg (He.ga K "Joining") := ⟨He.cls_ok (c.fact 37 (f := .cls "Joining") rfl), He.noat_ok (c.fact 38 (f := .noat "Joining" "one") rfl), He.noat_ok (c.fact 39 (f := .noat "Joining" "other") rfl),
    He.noat_ok (c.fact 40 (f := .noat "Joining" "numbers") rfl), He.noat_ok (c.fact 41 (f := .noat "Joining" "pairs") rfl), g15⟩
  have M1 := He.meth_ok (c.fact 42 (f := .meth "Joining" "number") rfl)
  have M2 := He.meth_ok (c.fact 43 (f := .meth "Joining" "row") rfl)
  have M3 := He.meth_ok (c.fact 44 (f := .meth "Joining" "machine") rfl)
  have MK := He.mkr_ok (c.fact 45 (f := .mkr "Joining") rfl)
  have e : f = He.ga K "law" := by
    have z := hfa.symm.trans g26
    cases z
    rfl
  subst e
  have b := FunD.bindsA (ps := ["_law_script"]) F29 fun _ _ _ _ _ _ us hl => match us, hl with | [_], _ => rfl
  refine ⟨fd29, fun s v => b s [v] rfl, fun base _ _ => ?_⟩
  have C0 : Cal P w K mg base "check_size" 1 ["k"] spSize := ok_size F0 g0 T
  have C1 : Cal P w K mg base "has_letters" 1 ["k", "word"] spHas := ok_has F1 g1 T
  have C2 := ok_word F2 g2 T C0 C1
  have C3 := ok_checkWord F3 g3 C2
  have C4 := ok_string F4 g4 T C1
  have C5 := ok_row F5 g5 T C4
  have C6 := ok_formed F6 g6 T C4 C5
  have C7 := ok_wide F7 g7 T C6
  have C8 := ok_checkWide F8 g8 C7
  have C9 : Cal P w K mg base "walked" 1 ["machine", "state", "word"] spWalked := ok_walked F9 g9 T
  have C10 := ok_changed F10 g10 C9
  have C11 := ok_checkCall F11 g11 C8 C3
  have C12 := ok_form F12 g12 C11 C10
  have C13 := ok_still F13 g13 T C0
  have C14 : Cal P w K mg base "checked" 1 ["text"] spChecked := ok_checked F14 g14 T
  have GI : FnOk P w K mg base CX0 1 _ fd15 ["self", "one", "other"] (spInit (He.ga K "Joining")) := ok_init F15 TJ
  have bI : L2.Binds K fd15 ["self", "one", "other"] [] := FunD.bindsN F15 fun _ _ _ _ _ _ us hl => match us, hl with | [_, _, _], _ => rfl
  have C16 : CalM P w K mg base (He.ga K "Joining") "number" 1 ["self", "pair"] (spNumber (He.ga K "Joining")) := ok_number F16 M1 T TJ
  have C17 := ok_jrow F17 M2 TJ T C9 C14 C16
  have C18 := ok_jmachine F18 M3 TJ T C9 C14 C16 C17
  have C19 := ok_behind F19 g16 TJ C8 MK GI bI C18
  have C20 : Cal P w K mg base "_law_number" 1 ["_law_cell"] spNum := ok_lnum F20 g17
  have C21 := ok_ldraws F21 g18 T C20
  have C22 : Cal P w K mg base "_law_next" 1 ["_law_draws_here"] spNext := ok_lnext F22 g19
  have C23 := ok_ltext F23 g20 T C22
  have C24 : Cal P w K mg base "_law_walked" 1 ["_law_machine_here", "_law_state", "_law_word"] spLWalked := ok_lwalked F24 g21
  have C25 := ok_lform F25 g22 C24
  have C26 := ok_lout F26 g23 T C22 C23
  have C27 := ok_lmach F27 g24 T C22 C23 C26
  have C28 : Cal P w K mg base "_law_words" 1 ["_law_k", "_law_length"] spWords := ok_lwords F28 g25 T
  exact ok_law F29 T C21 C22 C27 C28 C23 C19 C13 C25 C12
end K26
open PySem PySem.W PySem.Calls PyProof.Rows
theorem PySem.Challenge.cw_soundturns_k26_whole_one_behind_the_othe_holds : PySem.Challenge.rw_soundturns_k26_whole_one_behind_the_othe.Holds := by
  w_on; o_law
  refine HandSHeadRun.head_any (r := OpenLaw.row PySem.Challenge.rw_soundturns_k26_whole_one_behind_the_othe) (q := view (OpenLaw.row PySem.Challenge.rw_soundturns_k26_whole_one_behind_the_othe).prog [40]) (H := K26.hk) (ob := K26.ob) (M := 4000) (loose := K26.loose) (d := HandSHeadRun.topDef (OpenLaw.row PySem.Challenge.rw_soundturns_k26_whole_one_behind_the_othe).prog 40) (kwd := []) K26.ob_eq
    (by kernel_rfl) (fun s => by kernel_rfl) K26.run (by kernel_rfl) (by kernel_rfl) (by kernel_rfl) (by rfl) (by first | assumption | decide +kernel) (by decide +kernel) ⟨rfl, rfl, rfl, rfl, rfl, by decide +kernel⟩ ?hw ?hc
  case hw => w_witness2
  case hc =>
    refine L2.walk_ofE (l := PySem.Challenge.rw_soundturns_k26_whole_one_behind_the_othe) (n := 63) (k := 9) (x := "_law_script") (CX := L2.CX0) rfl (by decide) (by kernel_rfl) ⟨rfl, by decide, by decide⟩ ?F (fun _ _ _ _ z => z)
    intro w mg fa h Y G hmg0
    obtain ⟨K, KX, c⟩ := Y
    have hmg : mg ("law" : PySem.Str) = some (.ref fa) := by
      have e : (HandSHeadRun.topDef (OpenLaw.row PySem.Challenge.rw_soundturns_k26_whole_one_behind_the_othe).prog 40).name = ("law" : PySem.Str) := by kernel_rfl
      rw [← e]
      exact hmg0
    obtain ⟨fd, hb, hF⟩ := K26.facts (P := (PySem.Challenge.rw_soundturns_k26_whole_one_behind_the_othe).prog) (w := w) KX G hmg c
    exact ⟨K, fd, K26.spLaw K, KX, hb, fun H a ns hl _ hS => ⟨a, ns, rfl, hS, hl, fun _ => rfl⟩, hF⟩
#print axioms PySem.Challenge.cw_soundturns_k26_whole_one_behind_the_othe_holds
