import PyProof.Rows.All
import Wide.All
import OpenK.AllK
import Wide.FinOn
import HandS.ForMost
import HandS.TupAny
import HandS.Conv
import HandS.Style
import HandS.NoneIn
import HandS.IsInst
import HandS.Wide
import HandS.Flow
import KE.KTupSum
import PyProof.ReprRoads
import PySem.Challenge.RW_coverpapers_k21_whole_notes_are_judged
set_option Elab.async false
set_option linter.all false
set_option maxRecDepth 100000

/-! Families of rising and falling lists of a word, led over a move. Plain Lean. -/
namespace Km

def rel (fa : Bool) (x y : Int) : Prop := if fa = true then y < x else x ≤ y
theorem rel_t {x y : Int} : rel true x y ↔ y < x := by simp [rel]
theorem rel_f {x y : Int} : rel false x y ↔ x ≤ y := by simp [rel]
theorem rel_trans {fa : Bool} {x y z : Int} (a : rel fa x y) (b : rel fa y z) : rel fa x z := by
  cases fa
  · rw [rel_f] at *; omega
  · rw [rel_t] at *; omega

/-- the letter at an index -/
def wat (w : List Int) (i : Int) : Int := w.getD i.toNat 0
theorem wat_nat (w : List Int) (k : Nat) : wat w (k : Int) = w.getD k 0 := by simp [wat]
theorem wat_some {w : List Int} {k : Nat} {x : Int} (h : w[k]? = some x) : wat w (k : Int) = x := by
  simp [wat, List.getD_eq_getElem?_getD, h]
theorem wat_left {u r : List Int} {i : Int} (h0 : 0 ≤ i) (h : i < u.length) : wat (u ++ r) i = wat u i := by
  unfold wat
  rw [List.getD_eq_getElem?_getD, List.getD_eq_getElem?_getD, List.getElem?_append_left (by omega)]
theorem wat_right {u r : List Int} {i : Int} (h : (u.length : Int) ≤ i) : wat (u ++ r) i = wat r (i - u.length) := by
  unfold wat
  rw [List.getD_eq_getElem?_getD, List.getD_eq_getElem?_getD, List.getElem?_append_right (by omega)]
  congr 2
  omega
theorem wat_cons0 {a : Int} {r : List Int} {i : Int} (h : i = 0) : wat (a :: r) i = a := by subst h; rfl
theorem wat_consS {a : Int} {r : List Int} {i : Int} (h : 0 < i) : wat (a :: r) i = wat r (i - 1) := by
  obtain ⟨k, rfl⟩ : ∃ k : Nat, i = (k : Int) + 1 := ⟨(i - 1).toNat, by omega⟩
  rw [show (k : Int) + 1 - 1 = (k : Int) by omega, show (k : Int) + 1 = ((k + 1 : Nat) : Int) by omega, wat_nat, wat_nat]
  simp

def pr (fa : Bool) (w : List Int) (i j : Int) : Prop := i < j ∧ rel fa (wat w i) (wat w j)
theorem pr_trans {fa : Bool} {w : List Int} {i j k : Int} (a : pr fa w i j) (b : pr fa w j k) : pr fa w i k := ⟨by have := a.1; have := b.1; omega, rel_trans a.2 b.2⟩

structure FamOk (fa : Bool) (w : List Int) (fam : List (List Int)) : Prop where
  inc : ∀ l ∈ fam, l.Pairwise (pr fa w)
  nd : fam.flatten.Nodup
  rg : ∀ l ∈ fam, ∀ i ∈ l, 0 ≤ i ∧ i < w.length

def cov (fam : List (List Int)) : Nat := (fam.map List.length).sum
theorem cov_flat (fam : List (List Int)) : cov fam = fam.flatten.length := by rw [List.length_flatten]; rfl

/-! ### counting -/
theorem count_set (x : Int) : ∀ (fam : List (List Int)) (b : Nat) (l Y : List Int), fam[b]? = some l → (fam.set b Y).flatten.count x + l.count x = fam.flatten.count x + Y.count x
  | [], _, _, _, h => by simp at h
  | a :: r, 0, l, Y, h => by
    have e : a = l := by simpa using h
    subst e
    simp only [List.set_cons_zero, List.flatten_cons, List.count_append]
    omega
  | a :: r, b + 1, l, Y, h => by
    have := count_set x r b l Y (by simpa using h)
    simp only [List.set_cons_succ, List.flatten_cons, List.count_append]
    omega
theorem len_set : ∀ (fam : List (List Int)) (b : Nat) (l Y : List Int), fam[b]? = some l → (fam.set b Y).flatten.length + l.length = fam.flatten.length + Y.length
  | [], _, _, _, h => by simp at h
  | a :: r, 0, l, Y, h => by
    have e : a = l := by simpa using h
    subst e
    simp only [List.set_cons_zero, List.flatten_cons, List.length_append]
    omega
  | a :: r, b + 1, l, Y, h => by
    have := len_set r b l Y (by simpa using h)
    simp only [List.set_cons_succ, List.flatten_cons, List.length_append]
    omega
theorem apart {fam : List (List Int)} (nd : fam.flatten.Nodup) {i j : Nat} {l k : List Int} (hi : fam[i]? = some l) (hj : fam[j]? = some k) (ne : i ≠ j) {x : Int} (hx : x ∈ l) : x ∉ k := fun hk => by
  have h1 := count_set x fam i l [] hi
  have h2 : (fam.set i [])[j]? = some k := by rw [List.getElem?_set_ne ne]; exact hj
  have h3 := count_set x (fam.set i []) j k [] h2
  have h4 : fam.flatten.count x ≤ 1 := List.nodup_iff_count.mp nd x
  have h5 : 0 < l.count x := List.count_pos_iff.mpr hx
  have h6 : 0 < k.count x := List.count_pos_iff.mpr hk
  simp only [List.count_nil] at h1 h3
  omega
theorem mem_nd {fam : List (List Int)} (nd : fam.flatten.Nodup) {l : List Int} (h : l ∈ fam) : l.Nodup := by
  obtain ⟨i, hi⟩ := List.getElem?_of_mem h
  refine List.nodup_iff_count.mpr fun x => ?_
  have h1 := count_set x fam i l [] hi
  have h4 : fam.flatten.count x ≤ 1 := List.nodup_iff_count.mp nd x
  simp only [List.count_nil] at h1
  omega

/-! ### head and tail at an index -/
def hd (l : List Int) (x : Int) : List Int := l.take (l.idxOf x)
def tl (l : List Int) (x : Int) : List Int := l.drop (l.idxOf x + 1)
theorem split_at {l : List Int} {x : Int} (h : x ∈ l) : l = hd l x ++ x :: tl l x := by
  unfold hd tl
  have hlt : l.idxOf x < l.length := List.idxOf_lt_length_of_mem h
  have e : l[l.idxOf x] = x := List.getElem_idxOf hlt
  have := List.drop_eq_getElem_cons hlt
  rw [e] at this
  rw [← this, List.take_append_drop]
theorem tl_tl {l A B : List Int} {p q : Int} (e : l = A ++ p :: q :: B) (hp : p ∉ A) (hq : q ∉ A) (ne : p ≠ q) : hd l p = A ∧ tl l q = B ∧ tl l p = q :: B ∧ hd l q = A ++ [p] := by
  subst e
  have i1 : (A ++ p :: q :: B).idxOf p = A.length := by rw [List.idxOf_append, if_neg hp]; simp
  have i2 : (A ++ p :: q :: B).idxOf q = A.length + 1 := by
    rw [List.idxOf_append, if_neg hq, List.idxOf_cons]
    have : (p == q) = false := by simpa using ne
    rw [this]
    simp
    omega
  unfold hd tl
  rw [i1, i2]
  refine ⟨by simp, ?_, ?_, ?_⟩
  · rw [show A.length + 1 + 1 = A.length + 2 by omega, List.drop_append]
    simp
  · rw [List.drop_append]; simp
  · rw [List.take_append, List.take_of_length_le (by omega)]; simp

/-! ### the program's carrying -/
def lw (fam : List (List Int)) (x : Int) : Option Nat := fam.findIdx? fun l => decide (x ∈ l)
theorem lw_some {fam : List (List Int)} {x : Int} {b : Nat} (h : lw fam x = some b) : ∃ l, fam[b]? = some l ∧ x ∈ l := by
  unfold lw at h
  rw [List.findIdx?_eq_some_iff_getElem] at h
  obtain ⟨hb, hx, _⟩ := h
  exact ⟨fam[b], List.getElem?_eq_getElem hb, by simpa using hx⟩
theorem lw_none {fam : List (List Int)} {x : Int} (h : lw fam x = none) : ∀ l ∈ fam, x ∉ l := by
  unfold lw at h
  rw [List.findIdx?_eq_none_iff] at h
  intro l hl
  simpa using h l hl

def sw (p i : Int) : Int := if i = p then p + 1 else if i = p + 1 then p else i
abbrev Mov := Int × Bool
def plc (m : Mov) : Int := if m.2 = true then m.1 + 1 else m.1
def carr (m : Mov) (fam : List (List Int)) : List (List Int) :=
  let p := plc m
  match lw fam p with
  | none => fam.map fun l => l.map (sw p)
  | some b =>
    let lb := fam.getD b []
    if p + 1 ∈ lb then
      if m.2 = true then
        match lw fam (p - 1) with
        | none => fam.set b (hd lb p ++ [p - 1, p] ++ tl lb (p + 1))
        | some o => (fam.set o (hd (fam.getD o []) (p - 1) ++ [p - 1, p] ++ tl lb (p + 1))).set b (hd lb p ++ [p + 1] ++ tl (fam.getD o []) (p - 1))
      else
        match lw fam (p + 2) with
        | none => fam.set b (hd lb p ++ [p + 1, p + 2] ++ tl lb (p + 1))
        | some o => (fam.set o (hd (fam.getD o []) (p + 2) ++ [p] ++ tl lb (p + 1))).set b (hd lb p ++ [p + 1, p + 2] ++ tl (fam.getD o []) (p + 2))
    else fam.map fun l => l.map (sw p)
theorem carr_len (m : Mov) (fam : List (List Int)) : (carr m fam).length = fam.length := by
  unfold carr
  simp only
  split
  · simp
  · split
    · split <;> split <;> simp
    · simp

/-- what a move does to the word, by letters -/
structure Swp (w : List Int) (p : Int) (w' : List Int) : Prop where
  len : w'.length = w.length
  lo : 0 ≤ p
  hi : p + 1 < w.length
  e1 : wat w' p = wat w (p + 1)
  e2 : wat w' (p + 1) = wat w p
  e3 : ∀ i, 0 ≤ i → i ≠ p → i ≠ p + 1 → wat w' i = wat w i
theorem Swp.at_sw {w w' : List Int} {p i : Int} (s : Swp w p w') (h : 0 ≤ i) : wat w' (sw p i) = wat w i := by
  unfold sw
  split
  · rename_i e; subst e; exact s.e2
  · split
    · rename_i e; subst e; exact s.e1
    · exact s.e3 i h (by assumption) (by assumption)
structure Mv (w : List Int) (m : Mov) (w' : List Int) : Prop where
  s : Swp w (plc m) w'
  rt : m.2 = true → 0 ≤ plc m - 1 ∧ ((wat w (plc m) < wat w (plc m - 1) ∧ wat w (plc m - 1) ≤ wat w (plc m + 1)) ∨ (wat w (plc m + 1) < wat w (plc m - 1) ∧ wat w (plc m - 1) ≤ wat w (plc m)))
  lf : m.2 = false → plc m + 2 < w.length ∧ ((wat w (plc m) ≤ wat w (plc m + 2) ∧ wat w (plc m + 2) < wat w (plc m + 1)) ∨ (wat w (plc m + 1) ≤ wat w (plc m + 2) ∧ wat w (plc m + 2) < wat w (plc m)))

theorem sw_inj {p i j : Int} (h : sw p i = sw p j) : i = j := by
  unfold sw at h
  split at h <;> split at h <;> (try split at h) <;> (try split at h) <;> omega

section
variable {fa : Bool} {w w' : List Int} {fam : List (List Int)}
theorem FamOk.flat_rg (F : FamOk fa w fam) : ∀ i ∈ fam.flatten, 0 ≤ i ∧ i < w.length := fun i h => by
  obtain ⟨l, hl, hi⟩ := List.mem_flatten.mp h
  exact F.rg l hl i hi
theorem famOk_of {fam : List (List Int)} (h1 : ∀ l ∈ fam, l.Pairwise (pr fa w)) (h2 : fam.flatten.Nodup) (h3 : ∀ i ∈ fam.flatten, 0 ≤ i ∧ i < w.length) : FamOk fa w fam :=
  ⟨h1, h2, fun l hl i hi => h3 i (List.mem_flatten.mpr ⟨l, hl, hi⟩)⟩
/-- a list that has not both of the two indexes -/
theorem pw_sw {p : Int} (s : Swp w p w') {l : List Int} (hl : l.Pairwise (pr fa w)) (h0 : ∀ i ∈ l, 0 ≤ i) (hn : ¬ (p ∈ l ∧ p + 1 ∈ l)) : (l.map (sw p)).Pairwise (pr fa w') := by
  rw [List.pairwise_map]
  refine List.Pairwise.imp_of_mem (fun {i j} hi hj h => ?_) hl
  refine ⟨?_, ?_⟩
  · have hlt := h.1
    have : ¬ (i = p ∧ j = p + 1) := fun ⟨a, b⟩ => hn ⟨a ▸ hi, b ▸ hj⟩
    unfold sw
    split <;> split <;> (try split) <;> (try split) <;> omega
  · rw [s.at_sw (h0 i hi), s.at_sw (h0 j hj)]
    exact h.2
/-- a list with neither of them -/
theorem pw_off {p : Int} (s : Swp w p w') {l : List Int} (hl : l.Pairwise (pr fa w)) (h0 : ∀ i ∈ l, 0 ≤ i) (h1 : p ∉ l) (h2 : p + 1 ∉ l) : l.Pairwise (pr fa w') := by
  refine List.Pairwise.imp_of_mem (fun {i j} hi hj h => ⟨h.1, ?_⟩) hl
  rw [s.e3 i (h0 i hi) (fun e => h1 (e ▸ hi)) (fun e => h2 (e ▸ hi)), s.e3 j (h0 j hj) (fun e => h1 (e ▸ hj)) (fun e => h2 (e ▸ hj))]
  exact h.2
theorem map_sw_ok {p : Int} (s : Swp w p w') (F : FamOk fa w fam) (hn : ∀ l ∈ fam, ¬ (p ∈ l ∧ p + 1 ∈ l)) : FamOk fa w' (fam.map fun l => l.map (sw p)) := by
  have e : (fam.map fun l => l.map (sw p)).flatten = fam.flatten.map (sw p) := by rw [List.map_flatten]
  refine famOk_of (fun l hl => ?_) ?_ fun i hi => ?_
  · obtain ⟨k, hk, rfl⟩ := List.mem_map.mp hl
    exact pw_sw s (F.inc k hk) (fun i hi => (F.rg k hk i hi).1) (hn k hk)
  · rw [e]
    show List.Pairwise (· ≠ ·) _
    rw [List.pairwise_map]
    exact List.Pairwise.imp (fun h e => h (sw_inj e)) F.nd
  · rw [e] at hi
    obtain ⟨j, hj, rfl⟩ := List.mem_map.mp hi
    have := F.flat_rg j hj
    have h1 := s.lo
    have h2 := s.hi
    rw [s.len]
    unfold sw
    split
    · omega
    · split <;> omega
theorem map_sw_cov {p : Int} : cov (fam.map fun l => l.map (sw p)) = cov fam := by
  unfold cov
  rw [List.map_map]
  congr 1
  exact List.map_congr_left fun l _ => by simp
/-- Pairwise of pieces joined in the middle -/
theorem pw_mid {A B : List Int} {m : Int} {M : List Int} (hA : A.Pairwise (pr fa w)) (hm : (m :: M).Pairwise (pr fa w)) (hB : B.Pairwise (pr fa w)) (h1 : ∀ a ∈ A, ∀ x ∈ m :: M, pr fa w a x) (h2 : ∀ x ∈ m :: M, ∀ b ∈ B, pr fa w x b) : (A ++ (m :: M) ++ B).Pairwise (pr fa w) := by
  rw [List.pairwise_append, List.pairwise_append]
  refine ⟨⟨hA, hm, h1⟩, hB, fun a ha b hb => ?_⟩
  rcases List.mem_append.mp ha with h | h
  · exact pr_trans (h1 a h m (by simp)) (h2 m (by simp) b hb)
  · exact h2 a h b hb
end
end Km

namespace Km
section
variable {fa : Bool} {w w' : List Int} {fam : List (List Int)}
theorem pw_nodup {l : List Int} (h : l.Pairwise (pr fa w)) : l.Nodup := List.Pairwise.imp (fun h e => by have := h.1; omega) h
theorem other_off {p : Int} (F : FamOk fa w fam) {b i : Nat} {lb l : List Int} (hb : fam[b]? = some lb) (hp : p ∈ lb) (hi : fam[i]? = some l) (ne : i ≠ b) : p ∉ l := apart F.nd hb hi (Ne.symm ne) hp
theorem set1_ok {p : Int} (s : Swp w p w') (F : FamOk fa w fam) {b : Nat} {lb Y : List Int} (hb : fam[b]? = some lb) (h1 : p ∈ lb) (h2 : p + 1 ∈ lb) (hY : Y.Pairwise (pr fa w'))
    (hc : ∀ x, Y.count x ≤ lb.count x ∨ x ∉ fam.flatten) (hr : ∀ i ∈ Y, 0 ≤ i ∧ i < w.length) (hl : Y.length = lb.length) : FamOk fa w' (fam.set b Y) ∧ cov (fam.set b Y) = cov fam := by
  refine ⟨⟨fun l hl => ?_, ?_, fun l hl i hi => ?_⟩, ?_⟩
  · obtain ⟨i, hi⟩ := List.getElem?_of_mem hl
    by_cases e : i = b
    · subst e
      have hlt : i < fam.length := (List.getElem?_eq_some_iff.mp hb).1
      rw [List.getElem?_set_self hlt] at hi
      cases hi
      exact hY
    · rw [List.getElem?_set_ne (Ne.symm e)] at hi
      have hm : l ∈ fam := List.mem_of_getElem? hi
      exact pw_off s (F.inc l hm) (fun i hi => (F.rg l hm i hi).1) (other_off F hb h1 hi e) (other_off F hb h2 hi e)
  · refine List.nodup_iff_count.mpr fun x => ?_
    have a := count_set x fam b lb Y hb
    have c := List.nodup_iff_count.mp F.nd x
    have d := List.nodup_iff_count.mp (pw_nodup hY) x
    rcases hc x with e | e
    · omega
    · have := List.count_eq_zero.mpr e
      omega
  · rw [s.len]
    rcases List.mem_or_eq_of_mem_set hl with h | h
    · exact F.rg l h i hi
    · subst h
      exact hr i hi
  · rw [cov_flat, cov_flat]
    have := len_set fam b lb Y hb
    omega
theorem set2_ok {p : Int} (s : Swp w p w') (F : FamOk fa w fam) {b o : Nat} {lb lo X Y : List Int} (hb : fam[b]? = some lb) (ho : fam[o]? = some lo) (ne : o ≠ b) (h1 : p ∈ lb) (h2 : p + 1 ∈ lb) (hX : X.Pairwise (pr fa w')) (hY : Y.Pairwise (pr fa w'))
    (hc : ∀ x, X.count x + Y.count x = lo.count x + lb.count x) : FamOk fa w' ((fam.set o X).set b Y) ∧ cov ((fam.set o X).set b Y) = cov fam := by
  have hb' : (fam.set o X)[b]? = some lb := by rw [List.getElem?_set_ne ne]; exact hb
  have P : ((fam.set o X).set b Y).flatten.Perm fam.flatten := by
    rw [List.perm_iff_count]
    intro x
    have a := count_set x fam o lo X ho
    have c := count_set x (fam.set o X) b lb Y hb'
    have d := hc x
    omega
  refine ⟨famOk_of (fun l hl => ?_) (P.nodup_iff.mpr F.nd) fun i hi => ?_, ?_⟩
  · obtain ⟨i, hi⟩ := List.getElem?_of_mem hl
    by_cases e : i = b
    · subst e
      have hlt : i < (fam.set o X).length := (List.getElem?_eq_some_iff.mp hb').1
      rw [List.getElem?_set_self hlt] at hi
      cases hi
      exact hY
    · rw [List.getElem?_set_ne (Ne.symm e)] at hi
      by_cases e2 : i = o
      · subst e2
        have hlt : i < fam.length := (List.getElem?_eq_some_iff.mp ho).1
        rw [List.getElem?_set_self hlt] at hi
        cases hi
        exact hX
      · rw [List.getElem?_set_ne (Ne.symm e2)] at hi
        have hm : l ∈ fam := List.mem_of_getElem? hi
        exact pw_off s (F.inc l hm) (fun i hi => (F.rg l hm i hi).1) (other_off F hb h1 hi e) (other_off F hb h2 hi e)
  · rw [s.len]
    exact F.flat_rg i (P.mem_iff.mp hi)
  · rw [cov_flat, cov_flat]
    exact P.length_eq

/-- the list that has both -/
theorem both_split {p : Int} {l : List Int} (hl : l.Pairwise (pr fa w)) (h1 : p ∈ l) (h2 : p + 1 ∈ l) : ∃ A B, l = A ++ p :: (p + 1) :: B ∧ hd l p = A ∧ tl l (p + 1) = B := by
  have e := split_at h1
  have hl' := hl
  rw [e, List.pairwise_append, List.pairwise_cons] at hl'
  obtain ⟨_, ⟨q1, q2⟩, q3⟩ := hl'
  have nA : p + 1 ∉ hd l p := fun h => by have := (q3 _ h p (by simp)).1; omega
  have nA0 : p ∉ hd l p := fun h => by have := (q3 _ h p (by simp)).1; omega
  have hm : p + 1 ∈ tl l p := by
    rw [e] at h2
    rcases List.mem_append.mp h2 with h | h
    · exact absurd h nA
    · rcases List.mem_cons.mp h with h | h
      · omega
      · exact h
  obtain ⟨h, r, er⟩ : ∃ h r, tl l p = h :: r := by
    cases q : tl l p with
    | nil => rw [q] at hm; cases hm
    | cons h r => exact ⟨h, r, rfl⟩
  rw [er] at hm q1 q2
  have eh : h = p + 1 := by
    have := (q1 h (by simp)).1
    rcases List.mem_cons.mp hm with z | z
    · exact z.symm
    · have := ((List.pairwise_cons.mp q2).1 _ z).1
      omega
  subst eh
  have e' : l = hd l p ++ p :: (p + 1) :: r := by rw [← er]; exact e
  obtain ⟨t1, t2, _, _⟩ := tl_tl e' nA0 nA (by omega)
  exact ⟨hd l p, r, e', rfl, t2⟩

theorem relf {x y : Int} : rel false x y ↔ x ≤ y := rel_f
theorem keyR {a b c : Int} (h : rel fa b c) (d : (b < a ∧ a ≤ c) ∨ (c < a ∧ a ≤ b)) : rel fa a c ∧ (∀ t, rel fa a t → rel fa b t) ∧ (∀ h, rel fa h b → rel fa h a) ∧ ¬ rel fa a b := by
  cases fa
  · simp only [rel_f] at *
    refine ⟨by omega, fun t ht => by omega, fun t ht => by omega, by omega⟩
  · simp only [rel_t] at *
    refine ⟨by omega, fun t ht => by omega, fun t ht => by omega, by omega⟩
theorem keyL {a b c : Int} (h : rel fa a b) (d : (a ≤ c ∧ c < b) ∨ (b ≤ c ∧ c < a)) : rel fa a c ∧ (∀ h, rel fa h c → rel fa h b) ∧ (∀ t, rel fa b t → rel fa c t) ∧ ¬ rel fa b c := by
  cases fa
  · simp only [rel_f] at *
    refine ⟨by omega, fun t ht => by omega, fun t ht => by omega, by omega⟩
  · simp only [rel_t] at *
    refine ⟨by omega, fun t ht => by omega, fun t ht => by omega, by omega⟩

theorem carr_ok {m : Mov} (M : Mv w m w') (F : FamOk fa w fam) : FamOk fa w' (carr m fam) ∧ cov (carr m fam) = cov fam := by
  unfold carr
  simp only
  have s := M.s
  generalize hp : plc m = p at *
  have hlo := s.lo
  have hhi := s.hi
  cases h1 : lw fam p with
  | none =>
    have hn := lw_none h1
    exact ⟨map_sw_ok s F fun l hl h => hn l hl h.1, map_sw_cov⟩
  | some b =>
    obtain ⟨lb, hb, hpb⟩ := lw_some h1
    have eb : fam.getD b [] = lb := by rw [List.getD_eq_getElem?_getD, hb]; rfl
    simp only [eb]
    have hmb : lb ∈ fam := List.mem_of_getElem? hb
    by_cases h2 : p + 1 ∈ lb
    · rw [if_pos h2]
      have hpw := F.inc lb hmb
      obtain ⟨A, B, el, eA, eB⟩ := both_split hpw hpb h2
      rw [eA, eB]
      have hpw' := hpw
      rw [el, List.pairwise_append, List.pairwise_cons, List.pairwise_cons] at hpw'
      obtain ⟨pA, ⟨p1, p2, pB⟩, pAr⟩ := hpw'
      have r0 : rel fa (wat w p) (wat w (p + 1)) := (p1 (p + 1) (by simp)).2
      have memA : ∀ {x}, x ∈ A → x ∈ lb := fun h => by rw [el]; exact List.mem_append_left _ h
      have memB : ∀ {x}, x ∈ B → x ∈ lb := fun h => by rw [el]; exact List.mem_append_right _ (List.mem_cons_of_mem _ (List.mem_cons_of_mem _ h))
      have nA : ∀ {x}, x ∈ A → x < p := fun h => (pAr _ h p (by simp)).1
      have nB : ∀ {x}, x ∈ B → p + 1 < x := fun h => (p2 _ h).1
      have gA : ∀ {x}, x ∈ A → 0 ≤ x := fun h => (F.rg lb hmb _ (memA h)).1
      have gB : ∀ {x}, x ∈ B → 0 ≤ x := fun h => (F.rg lb hmb _ (memB h)).1
      have lA : ∀ {x}, x ∈ A → wat w' x = wat w x := fun {x} h => s.e3 x (gA h) (by have := nA h; omega) (by have := nA h; omega)
      have lB : ∀ {x}, x ∈ B → wat w' x = wat w x := fun {x} h => s.e3 x (gB h) (by have := nB h; omega) (by have := nB h; omega)
      have pA' : A.Pairwise (pr fa w') := pw_off s pA (fun _ h => gA h) (fun h => by have := nA h; omega) (fun h => by have := nA h; omega)
      have pB' : B.Pairwise (pr fa w') := pw_off s pB (fun _ h => gB h) (fun h => by have := nB h; omega) (fun h => by have := nB h; omega)
      have rA0 : ∀ {x}, x ∈ A → rel fa (wat w x) (wat w p) := fun h => (pAr _ h p (by simp)).2
      have rA1 : ∀ {x}, x ∈ A → rel fa (wat w x) (wat w (p + 1)) := fun h => (pAr _ h (p + 1) (by simp)).2
      have rB1 : ∀ {x}, x ∈ B → rel fa (wat w (p + 1)) (wat w x) := fun h => (p2 _ h).2
      have rB0 : ∀ {x}, x ∈ B → rel fa (wat w p) (wat w x) := fun h => (p1 _ (List.mem_cons_of_mem _ h)).2
      have cl : ∀ x, lb.count x = A.count x + (if p = x then 1 else 0) + (if p + 1 = x then 1 else 0) + B.count x := fun x => by
        rw [el]
        simp only [List.count_append, List.count_cons, beq_iff_eq]
        omega
      by_cases hm : m.2 = true
      · rw [if_pos hm]
        obtain ⟨hq, hk⟩ := M.rt hm
        rw [hp] at hq hk
        obtain ⟨k1, k2, k3, k4⟩ := keyR r0 hk
        have eq1 : wat w' (p - 1) = wat w (p - 1) := s.e3 _ hq (by omega) (by omega)
        cases h3 : lw fam (p - 1) with
        | none =>
          have hn := lw_none h3
          refine set1_ok s F hb hpb h2 ?_ (fun x => ?_) (fun i hi => ?_) ?_
          · refine pw_mid pA' ?_ pB' ?_ ?_
            · refine List.pairwise_pair.mpr ⟨by omega, ?_⟩
              rw [eq1, s.e1]; exact k1
            · intro a ha c hc
              have na := nA ha
              have na1 : a ≠ p - 1 := fun e => hn lb hmb (e ▸ memA ha)
              simp only [List.mem_cons, List.not_mem_nil, or_false] at hc
              rcases hc with rfl | rfl
              · exact ⟨by omega, by rw [lA ha, eq1]; exact k3 _ (rA0 ha)⟩
              · exact ⟨by omega, by rw [lA ha, s.e1]; exact rA1 ha⟩
            · intro c hc a ha
              have na := nB ha
              simp only [List.mem_cons, List.not_mem_nil, or_false] at hc
              rcases hc with rfl | rfl
              · exact ⟨by omega, by rw [lB ha, eq1]; exact rel_trans k1 (rB1 ha)⟩
              · exact ⟨by omega, by rw [lB ha, s.e1]; exact rB1 ha⟩
          · by_cases e : x = p - 1
            · right
              intro hx
              obtain ⟨l, hl, hxl⟩ := List.mem_flatten.mp hx
              exact hn l hl (e ▸ hxl)
            · left
              rw [cl]
              simp only [List.count_append, List.count_cons, List.count_nil, beq_iff_eq]
              rw [if_neg (show ¬ p - 1 = x from fun z => e z.symm)]
              split <;> split <;> omega
          · simp only [List.mem_append, List.mem_cons, List.not_mem_nil, or_false] at hi
            rcases hi with (hi | hi | hi) | hi
            · exact F.rg lb hmb i (memA hi)
            · omega
            · omega
            · exact F.rg lb hmb i (memB hi)
          · rw [el]; simp
        | some o =>
          obtain ⟨lo, ho, hpo⟩ := lw_some h3
          have eo : fam.getD o [] = lo := by rw [List.getD_eq_getElem?_getD, ho]; rfl
          simp only [eo]
          have ne : o ≠ b := fun e => by
            subst e
            rw [ho] at hb
            cases hb
            rw [el] at hpo
            rcases List.mem_append.mp hpo with z | z
            · exact k4 (rA0 z)
            · rcases List.mem_cons.mp z with z | z
              · omega
              · rcases List.mem_cons.mp z with z | z
                · omega
                · have := nB z; omega
          have hmo : lo ∈ fam := List.mem_of_getElem? ho
          have n1 : p ∉ lo := other_off F hb hpb ho ne
          have n2 : p + 1 ∉ lo := other_off F hb h2 ho ne
          have es := split_at hpo
          generalize hd lo (p - 1) = C at *
          generalize tl lo (p - 1) = Dd at *
          have hpo2 := F.inc lo hmo
          rw [es, List.pairwise_append, List.pairwise_cons] at hpo2
          obtain ⟨pC, ⟨pd, pD⟩, pCr⟩ := hpo2
          have memC : ∀ {x}, x ∈ C → x ∈ lo := fun h => by rw [es]; exact List.mem_append_left _ h
          have memD : ∀ {x}, x ∈ Dd → x ∈ lo := fun h => by rw [es]; exact List.mem_append_right _ (List.mem_cons_of_mem _ h)
          have gC : ∀ {x}, x ∈ C → 0 ≤ x := fun h => (F.rg lo hmo _ (memC h)).1
          have gD : ∀ {x}, x ∈ Dd → 0 ≤ x := fun h => (F.rg lo hmo _ (memD h)).1
          have nC : ∀ {x}, x ∈ C → x < p - 1 := fun h => (pCr _ h (p - 1) (by simp)).1
          have nD : ∀ {x}, x ∈ Dd → p + 1 < x := fun {x} h => by
            have a1 := (pd _ h).1
            have a2 : x ≠ p := fun e => n1 (e ▸ memD h)
            have a3 : x ≠ p + 1 := fun e => n2 (e ▸ memD h)
            omega
          have lC : ∀ {x}, x ∈ C → wat w' x = wat w x := fun {x} h => s.e3 x (gC h) (by have := nC h; omega) (by have := nC h; omega)
          have lD : ∀ {x}, x ∈ Dd → wat w' x = wat w x := fun {x} h => s.e3 x (gD h) (by have := nD h; omega) (by have := nD h; omega)
          have pC' : C.Pairwise (pr fa w') := pw_off s pC (fun _ h => gC h) (fun h => by have := nC h; omega) (fun h => by have := nC h; omega)
          have pD' : Dd.Pairwise (pr fa w') := pw_off s pD (fun _ h => gD h) (fun h => by have := nD h; omega) (fun h => by have := nD h; omega)
          refine set2_ok s F hb ho ne hpb h2 ?_ ?_ (fun x => ?_)
          · refine pw_mid pC' ?_ pB' ?_ ?_
            · refine List.pairwise_pair.mpr ⟨by omega, ?_⟩
              rw [eq1, s.e1]; exact k1
            · intro a ha c hc
              have na := nC ha
              have ra := (pCr _ ha (p - 1) (by simp)).2
              simp only [List.mem_cons, List.not_mem_nil, or_false] at hc
              rcases hc with rfl | rfl
              · exact ⟨by omega, by rw [lC ha, eq1]; exact ra⟩
              · exact ⟨by omega, by rw [lC ha, s.e1]; exact rel_trans ra k1⟩
            · intro c hc a ha
              have na := nB ha
              simp only [List.mem_cons, List.not_mem_nil, or_false] at hc
              rcases hc with rfl | rfl
              · exact ⟨by omega, by rw [lB ha, eq1]; exact rel_trans k1 (rB1 ha)⟩
              · exact ⟨by omega, by rw [lB ha, s.e1]; exact rB1 ha⟩
          · refine pw_mid pA' (List.pairwise_singleton _ _) pD' ?_ ?_
            · intro a ha c hc
              have na := nA ha
              simp only [List.mem_cons, List.not_mem_nil, or_false] at hc
              subst hc
              exact ⟨by omega, by rw [lA ha, s.e2]; exact rA0 ha⟩
            · intro c hc a ha
              have na := nD ha
              simp only [List.mem_cons, List.not_mem_nil, or_false] at hc
              subst hc
              exact ⟨by omega, by rw [lD ha, s.e2]; exact k2 _ (pd _ ha).2⟩
          · rw [cl, es]
            simp only [List.count_append, List.count_cons, List.count_nil, beq_iff_eq]
            omega
      · rw [if_neg hm]
        obtain ⟨hq, hk⟩ := M.lf (by simpa using hm)
        rw [hp] at hq hk
        obtain ⟨k1, k2, k3, k4⟩ := keyL r0 hk
        have eq1 : wat w' (p + 2) = wat w (p + 2) := s.e3 _ (by omega) (by omega) (by omega)
        cases h3 : lw fam (p + 2) with
        | none =>
          have hn := lw_none h3
          refine set1_ok s F hb hpb h2 ?_ (fun x => ?_) (fun i hi => ?_) ?_
          · refine pw_mid pA' ?_ pB' ?_ ?_
            · refine List.pairwise_pair.mpr ⟨by omega, ?_⟩
              rw [eq1, s.e2]; exact k1
            · intro a ha c hc
              have na := nA ha
              simp only [List.mem_cons, List.not_mem_nil, or_false] at hc
              rcases hc with rfl | rfl
              · exact ⟨by omega, by rw [lA ha, s.e2]; exact rA0 ha⟩
              · exact ⟨by omega, by rw [lA ha, eq1]; exact rel_trans (rA0 ha) k1⟩
            · intro c hc a ha
              have na := nB ha
              have na2 : a ≠ p + 2 := fun e => hn lb hmb (e ▸ memB ha)
              simp only [List.mem_cons, List.not_mem_nil, or_false] at hc
              rcases hc with rfl | rfl
              · exact ⟨by omega, by rw [lB ha, s.e2]; exact rB0 ha⟩
              · exact ⟨by omega, by rw [lB ha, eq1]; exact k3 _ (rB1 ha)⟩
          · by_cases e : x = p + 2
            · right
              intro hx
              obtain ⟨l, hl, hxl⟩ := List.mem_flatten.mp hx
              exact hn l hl (e ▸ hxl)
            · left
              rw [cl]
              simp only [List.count_append, List.count_cons, List.count_nil, beq_iff_eq]
              rw [if_neg (show ¬ p + 2 = x from fun z => e z.symm)]
              split <;> split <;> omega
          · simp only [List.mem_append, List.mem_cons, List.not_mem_nil, or_false] at hi
            rcases hi with (hi | hi | hi) | hi
            · exact F.rg lb hmb i (memA hi)
            · omega
            · omega
            · exact F.rg lb hmb i (memB hi)
          · rw [el]; simp
        | some o =>
          obtain ⟨lo, ho, hpo⟩ := lw_some h3
          have eo : fam.getD o [] = lo := by rw [List.getD_eq_getElem?_getD, ho]; rfl
          simp only [eo]
          have ne : o ≠ b := fun e => by
            subst e
            rw [ho] at hb
            cases hb
            rw [el] at hpo
            rcases List.mem_append.mp hpo with z | z
            · have := nA z; omega
            · rcases List.mem_cons.mp z with z | z
              · omega
              · rcases List.mem_cons.mp z with z | z
                · omega
                · exact k4 (rB1 z)
          have hmo : lo ∈ fam := List.mem_of_getElem? ho
          have n1 : p ∉ lo := other_off F hb hpb ho ne
          have n2 : p + 1 ∉ lo := other_off F hb h2 ho ne
          have es := split_at hpo
          generalize hd lo (p + 2) = C at *
          generalize tl lo (p + 2) = Dd at *
          have hpo2 := F.inc lo hmo
          rw [es, List.pairwise_append, List.pairwise_cons] at hpo2
          obtain ⟨pC, ⟨pd, pD⟩, pCr⟩ := hpo2
          have memC : ∀ {x}, x ∈ C → x ∈ lo := fun h => by rw [es]; exact List.mem_append_left _ h
          have memD : ∀ {x}, x ∈ Dd → x ∈ lo := fun h => by rw [es]; exact List.mem_append_right _ (List.mem_cons_of_mem _ h)
          have gC : ∀ {x}, x ∈ C → 0 ≤ x := fun h => (F.rg lo hmo _ (memC h)).1
          have gD : ∀ {x}, x ∈ Dd → 0 ≤ x := fun h => (F.rg lo hmo _ (memD h)).1
          have nC : ∀ {x}, x ∈ C → x < p := fun {x} h => by
            have a1 := (pCr _ h (p + 2) (by simp)).1
            have a2 : x ≠ p := fun e => n1 (e ▸ memC h)
            have a3 : x ≠ p + 1 := fun e => n2 (e ▸ memC h)
            omega
          have nD : ∀ {x}, x ∈ Dd → p + 2 < x := fun {x} h => (pd _ h).1
          have lC : ∀ {x}, x ∈ C → wat w' x = wat w x := fun {x} h => s.e3 x (gC h) (by have := nC h; omega) (by have := nC h; omega)
          have lD : ∀ {x}, x ∈ Dd → wat w' x = wat w x := fun {x} h => s.e3 x (gD h) (by have := nD h; omega) (by have := nD h; omega)
          have pC' : C.Pairwise (pr fa w') := pw_off s pC (fun _ h => gC h) (fun h => by have := nC h; omega) (fun h => by have := nC h; omega)
          have pD' : Dd.Pairwise (pr fa w') := pw_off s pD (fun _ h => gD h) (fun h => by have := nD h; omega) (fun h => by have := nD h; omega)
          refine set2_ok s F hb ho ne hpb h2 ?_ ?_ (fun x => ?_)
          · refine pw_mid pC' (List.pairwise_singleton _ _) pB' ?_ ?_
            · intro a ha c hc
              have na := nC ha
              have ra := (pCr _ ha (p + 2) (by simp)).2
              simp only [List.mem_cons, List.not_mem_nil, or_false] at hc
              subst hc
              exact ⟨by omega, by rw [lC ha, s.e1]; exact k2 _ ra⟩
            · intro c hc a ha
              have na := nB ha
              simp only [List.mem_cons, List.not_mem_nil, or_false] at hc
              subst hc
              exact ⟨by omega, by rw [lB ha, s.e1]; exact rB1 ha⟩
          · refine pw_mid pA' ?_ pD' ?_ ?_
            · refine List.pairwise_pair.mpr ⟨by omega, ?_⟩
              rw [eq1, s.e2]; exact k1
            · intro a ha c hc
              have na := nA ha
              simp only [List.mem_cons, List.not_mem_nil, or_false] at hc
              rcases hc with rfl | rfl
              · exact ⟨by omega, by rw [lA ha, s.e2]; exact rA0 ha⟩
              · exact ⟨by omega, by rw [lA ha, eq1]; exact rel_trans (rA0 ha) k1⟩
            · intro c hc a ha
              have na := nD ha
              simp only [List.mem_cons, List.not_mem_nil, or_false] at hc
              rcases hc with rfl | rfl
              · exact ⟨by omega, by rw [lD ha, s.e2]; exact rel_trans k1 (pd _ ha).2⟩
              · exact ⟨by omega, by rw [lD ha, eq1]; exact (pd _ ha).2⟩
          · rw [cl, es]
            simp only [List.count_append, List.count_cons, List.count_nil, beq_iff_eq]
            omega
    · rw [if_neg h2]
      refine ⟨map_sw_ok s F fun l hl h => ?_, map_sw_cov⟩
      obtain ⟨i, hi⟩ := List.getElem?_of_mem hl
      by_cases e : i = b
      · subst e
        rw [hb] at hi
        cases hi
        exact h2 h.2
      · exact other_off F hb hpb hi e h.1
end
end Km

namespace Km
/-! ### moves on words -/
inductive St : List Int → Mov → List Int → Prop
  | rt (u v : List Int) (a b c : Int) (h : (b < a ∧ a ≤ c) ∨ (c < a ∧ a ≤ b)) : St (u ++ a :: b :: c :: v) ((u.length : Int), true) (u ++ a :: c :: b :: v)
  | lf (u v : List Int) (a b c : Int) (h : (a ≤ c ∧ c < b) ∨ (b ≤ c ∧ c < a)) : St (u ++ a :: b :: c :: v) ((u.length : Int), false) (u ++ b :: a :: c :: v)
theorem St.symm {w w' : List Int} {m : Mov} (h : St w m w') : St w' m w := by
  cases h with
  | rt u v a b c h => exact .rt u v a c b (by omega)
  | lf u v a b c h => exact .lf u v b a c (by omega)
theorem wat_at (u r : List Int) (k : Int) (h : 0 ≤ k) : wat (u ++ r) (u.length + k) = wat r k := by
  rw [wat_right (by omega)]
  congr 1
  omega
theorem wat0 (a : Int) (r : List Int) : wat (a :: r) 0 = a := rfl
theorem wat1 (a b : Int) (r : List Int) : wat (a :: b :: r) 1 = b := rfl
theorem wat2 (a b c : Int) (r : List Int) : wat (a :: b :: c :: r) 2 = c := rfl
theorem wat3 (a b c : Int) (r : List Int) {k : Int} (h : 3 ≤ k) : wat (a :: b :: c :: r) k = wat r (k - 3) := by
  rw [wat_consS (by omega), wat_consS (by omega), wat_consS (by omega)]
  congr 1
  omega
theorem Swp.of {u v : List Int} {a b c a' b' c' : Int} {p : Int} (hp : (p = u.length ∧ a' = b ∧ b' = a ∧ c' = c) ∨ (p = u.length + 1 ∧ a' = a ∧ b' = c ∧ c' = b)) : Swp (u ++ a :: b :: c :: v) p (u ++ a' :: b' :: c' :: v) := by
  have at0 : ∀ x y z, wat (u ++ x :: y :: z :: v) (u.length : Int) = x := fun x y z => by
    have := wat_at u (x :: y :: z :: v) 0 (by omega)
    rw [wat0] at this
    simpa using this
  have at1 : ∀ x y z, wat (u ++ x :: y :: z :: v) ((u.length : Int) + 1) = y := fun x y z => wat_at u (x :: y :: z :: v) 1 (by omega)
  have at2 : ∀ x y z, wat (u ++ x :: y :: z :: v) ((u.length : Int) + 1 + 1) = z := fun x y z => by
    rw [show (u.length : Int) + 1 + 1 = (u.length : Int) + 2 by omega]
    exact wat_at u (x :: y :: z :: v) 2 (by omega)
  have far : ∀ x y z x' y' z' (i : Int), 0 ≤ i → (i < u.length ∨ (u.length : Int) + 3 ≤ i) → wat (u ++ x :: y :: z :: v) i = wat (u ++ x' :: y' :: z' :: v) i := fun x y z x' y' z' i h0 h => by
    rcases h with h | h
    · rw [wat_left h0 h, wat_left h0 h]
    · rw [wat_right (by omega), wat_right (by omega), wat3 _ _ _ _ (by omega), wat3 _ _ _ _ (by omega)]
  rcases hp with ⟨rfl, rfl, rfl, rfl⟩ | ⟨rfl, rfl, rfl, rfl⟩
  · refine ⟨by simp, by omega, by simp; omega, by rw [at0, at1], by rw [at1, at0], fun i h0 h1 h2 => ?_⟩
    by_cases e : i = (u.length : Int) + 1 + 1
    · rw [e, at2, at2]
    · exact far _ _ _ _ _ _ i h0 (by omega)
  · refine ⟨by simp, by omega, by simp; omega, by rw [at1, at2], by rw [at2, at1], fun i h0 h1 h2 => ?_⟩
    by_cases e : i = (u.length : Int)
    · rw [e, at0, at0]
    · exact far _ _ _ _ _ _ i h0 (by omega)
theorem St.mv {w w' : List Int} {m : Mov} (h : St w m w') : Mv w m w' := by
  cases h with
  | rt u v a b c h =>
    refine ⟨Swp.of (.inr ⟨rfl, rfl, rfl, rfl⟩), fun _ => ⟨?_, ?_⟩, fun z => by cases z⟩
    · show 0 ≤ (u.length : Int) + 1 - 1
      omega
    · have e0 : wat (u ++ a :: b :: c :: v) ((u.length : Int) + 1 - 1) = a := by
        rw [show (u.length : Int) + 1 - 1 = u.length + 0 by omega]
        exact wat_at u _ 0 (by omega)
      have e1 : wat (u ++ a :: b :: c :: v) ((u.length : Int) + 1) = b := wat_at u _ 1 (by omega)
      have e2 : wat (u ++ a :: b :: c :: v) ((u.length : Int) + 1 + 1) = c := by
        rw [show (u.length : Int) + 1 + 1 = u.length + 2 by omega]
        exact wat_at u _ 2 (by omega)
      show (wat _ ((u.length : Int) + 1) < wat _ ((u.length : Int) + 1 - 1) ∧ wat _ ((u.length : Int) + 1 - 1) ≤ wat _ ((u.length : Int) + 1 + 1)) ∨ (wat _ ((u.length : Int) + 1 + 1) < wat _ ((u.length : Int) + 1 - 1) ∧ wat _ ((u.length : Int) + 1 - 1) ≤ wat _ ((u.length : Int) + 1))
      rw [e0, e1, e2]
      exact h
  | lf u v a b c h =>
    refine ⟨Swp.of (.inl ⟨rfl, rfl, rfl, rfl⟩), fun z => by simp at z, fun _ => ⟨?_, ?_⟩⟩
    · show (u.length : Int) + 2 < _
      simp
      omega
    · have e0 : wat (u ++ a :: b :: c :: v) (u.length : Int) = a := by
        rw [show (u.length : Int) = u.length + 0 by omega]
        exact wat_at u _ 0 (by omega)
      have e1 : wat (u ++ a :: b :: c :: v) ((u.length : Int) + 1) = b := wat_at u _ 1 (by omega)
      have e2 : wat (u ++ a :: b :: c :: v) ((u.length : Int) + 2) = c := wat_at u _ 2 (by omega)
      show (wat _ (u.length : Int) ≤ wat _ ((u.length : Int) + 2) ∧ wat _ ((u.length : Int) + 2) < wat _ ((u.length : Int) + 1)) ∨ (wat _ ((u.length : Int) + 1) ≤ wat _ ((u.length : Int) + 2) ∧ wat _ ((u.length : Int) + 2) < wat _ (u.length : Int))
      rw [e0, e1, e2]
      exact h
def shf (k : Int) (m : Mov) : Mov := (k + m.1, m.2)
theorem St.right {w w' : List Int} {m : Mov} (z : List Int) (h : St w m w') : St (w ++ z) m (w' ++ z) := by
  cases h with
  | rt u v a b c h =>
    have := St.rt u (v ++ z) a b c h
    simpa using this
  | lf u v a b c h =>
    have := St.lf u (v ++ z) a b c h
    simpa using this
theorem St.left {w w' : List Int} {m : Mov} (z : List Int) (h : St w m w') : St (z ++ w) (shf z.length m) (z ++ w') := by
  cases h with
  | rt u v a b c h =>
    have := St.rt (z ++ u) v a b c h
    simpa [shf] using this
  | lf u v a b c h =>
    have := St.lf (z ++ u) v a b c h
    simpa [shf] using this
inductive Pa : List Int → List Mov → List Int → Prop
  | nil (w : List Int) : Pa w [] w
  | cons {w w1 w2 : List Int} {m : Mov} {ms : List Mov} : St w m w1 → Pa w1 ms w2 → Pa w (m :: ms) w2
theorem Pa.app {w w1 w2 : List Int} {ms ks : List Mov} (a : Pa w ms w1) (b : Pa w1 ks w2) : Pa w (ms ++ ks) w2 := by
  induction a with
  | nil w => exact b
  | cons s _ ih => exact .cons s (ih b)
theorem Pa.one {w w1 : List Int} {m : Mov} (s : St w m w1) : Pa w [m] w1 := .cons s (.nil _)
theorem Pa.rev {w w1 : List Int} {ms : List Mov} (a : Pa w ms w1) : Pa w1 ms.reverse w := by
  induction a with
  | nil w => exact .nil w
  | cons s _ ih =>
    rw [List.reverse_cons]
    exact ih.app (.one s.symm)
theorem Pa.right {w w1 : List Int} {ms : List Mov} (z : List Int) (a : Pa w ms w1) : Pa (w ++ z) ms (w1 ++ z) := by
  induction a with
  | nil w => exact .nil _
  | cons s _ ih => exact .cons (s.right z) ih
theorem Pa.left {w w1 : List Int} {ms : List Mov} (z : List Int) (a : Pa w ms w1) : Pa (z ++ w) (ms.map (shf z.length)) (z ++ w1) := by
  induction a with
  | nil w => exact .nil _
  | cons s _ ih => exact .cons (s.left z) ih
theorem Pa.fam {fa : Bool} {w w1 : List Int} {ms : List Mov} (a : Pa w ms w1) : ∀ {fam : List (List Int)}, FamOk fa w fam → FamOk fa w1 (ms.foldl (fun f m => carr m f) fam) ∧ cov (ms.foldl (fun f m => carr m f) fam) = cov fam ∧ (ms.foldl (fun f m => carr m f) fam).length = fam.length := by
  induction a with
  | nil w => exact fun F => ⟨F, rfl, rfl⟩
  | cons s _ ih =>
    intro fam F
    obtain ⟨F1, c1⟩ := carr_ok s.mv F
    obtain ⟨F2, c2, l2⟩ := ih F1
    exact ⟨F2, c2.trans c1, l2.trans (carr_len _ _)⟩
theorem Pa.len {w w1 : List Int} {ms : List Mov} (a : Pa w ms w1) : w1.length = w.length := by
  induction a with
  | nil w => rfl
  | cons s _ ih => exact ih.trans s.mv.s.len

/-! ### rows -/
def Srt (r : List Int) : Prop := r.Pairwise (· ≤ ·)
/-- the place of the first greater letter -/
def cnt (r : List Int) (x : Int) : Nat := r.countP fun a => decide (a ≤ x)
theorem cnt_le (r : List Int) (x : Int) : cnt r x ≤ r.length := List.countP_le_length
theorem cnt_split : ∀ {r : List Int} {x : Int}, Srt r → (∀ a ∈ r.take (cnt r x), a ≤ x) ∧ (∀ b ∈ r.drop (cnt r x), x < b)
  | [], _, _ => ⟨fun _ h => by simp at h, fun _ h => by simp at h⟩
  | a :: r, x, h => by
    have h2 := List.pairwise_cons.mp h
    obtain ⟨i1, i2⟩ := cnt_split (x := x) h2.2
    by_cases e : a ≤ x
    · have ec : cnt (a :: r) x = cnt r x + 1 := by unfold cnt; rw [List.countP_cons_of_pos (by simpa using e)]
      rw [ec, List.take_succ_cons, List.drop_succ_cons]
      refine ⟨fun b hb => ?_, i2⟩
      rcases List.mem_cons.mp hb with z | z
      · omega
      · exact i1 b z
    · have e0 : cnt (a :: r) x = 0 := by
        unfold cnt
        rw [List.countP_eq_zero]
        intro b hb
        rcases List.mem_cons.mp hb with z | z
        · subst z; simpa using e
        · have := h2.1 b z
          simp
          omega
      rw [e0]
      refine ⟨fun b hb => by simp at hb, fun b hb => ?_⟩
      rcases List.mem_cons.mp hb with z | z
      · omega
      · have := h2.1 b z
        omega
/-- a sorted row at the place where a letter is pushed out -/
theorem cnt_mid {r : List Int} {x : Int} (h : Srt r) (hp : cnt r x < r.length) : ∃ A y B, r = A ++ y :: B ∧ A.length = cnt r x ∧ (∀ a ∈ A, a ≤ x) ∧ x < y ∧ (∀ b ∈ B, y ≤ b) ∧ r.set (cnt r x) x = A ++ x :: B ∧ r.getD (cnt r x) 0 = y := by
  obtain ⟨h1, h2⟩ := cnt_split (x := x) h
  have e := List.drop_eq_getElem_cons hp
  have e2 : r = r.take (cnt r x) ++ r[cnt r x] :: r.drop (cnt r x + 1) := by rw [← e, List.take_append_drop]
  have hl : (r.take (cnt r x)).length = cnt r x := by rw [List.length_take]; omega
  refine ⟨r.take (cnt r x), r[cnt r x], r.drop (cnt r x + 1), e2, hl, h1, h2 _ (by rw [e]; exact List.mem_cons_self), fun b hb => ?_, ?_, ?_⟩
  · have h' := h
    unfold Srt at h'
    rw [e2, List.pairwise_append, List.pairwise_cons] at h'
    exact h'.2.1.1 b hb
  · rw [List.set_eq_take_append_cons_drop, if_pos hp]
  · rw [List.getD_eq_getElem?_getD, List.getElem?_eq_getElem hp]; rfl
theorem srt_set {r : List Int} {x : Int} (h : Srt r) (hp : cnt r x < r.length) : Srt (r.set (cnt r x) x) := by
  obtain ⟨A, y, B, e, _, h1, h2, h3, e4, _⟩ := cnt_mid h hp
  rw [e4]
  have h' := h
  unfold Srt at *
  rw [e, List.pairwise_append, List.pairwise_cons] at h'
  rw [List.pairwise_append, List.pairwise_cons]
  refine ⟨h'.1, ⟨fun b hb => ?_, h'.2.1.2⟩, fun a ha b hb => ?_⟩
  · have := h3 b hb
    omega
  · rcases List.mem_cons.mp hb with z | z
    · have := h1 a ha
      omega
    · have := h1 a ha
      have := h3 b z
      omega
theorem srt_app {r : List Int} {x : Int} (h : Srt r) (hp : cnt r x = r.length) : Srt (r ++ [x]) := by
  obtain ⟨h1, _⟩ := cnt_split (x := x) h
  rw [hp, List.take_length] at h1
  unfold Srt at *
  rw [List.pairwise_append]
  exact ⟨h, List.pairwise_singleton _ _, fun a ha b hb => by
    have e : b = x := by simpa using hb
    rw [e]
    exact h1 a ha⟩
def rmv (s : Int) (n : Nat) : List Mov := ((List.range n).map fun j : Nat => (s + (j : Int), true)).reverse
def lmv (s : Int) (n : Nat) : List Mov := ((List.range n).map fun j : Nat => (s + (j : Int), false)).reverse
theorem range_map_succ {α : Type} (f : Nat → α) (n : Nat) : (List.range (n + 1)).map f = f 0 :: (List.range n).map fun j => f (j + 1) := by
  rw [List.range_succ_eq_map, List.map_cons, List.map_map]
  rfl
theorem rmv_succ (s : Int) (n : Nat) : rmv s (n + 1) = rmv (s + 1) n ++ [(s, true)] := by
  unfold rmv
  rw [range_map_succ, List.reverse_cons]
  congr 1
  · congr 1
    exact List.map_congr_left fun j _ => by congr 1; omega
  · simp
theorem lmv_succ (s : Int) (n : Nat) : lmv s (n + 1) = lmv (s + 1) n ++ [(s, false)] := by
  unfold lmv
  rw [range_map_succ, List.reverse_cons]
  congr 1
  · congr 1
    exact List.map_congr_left fun j _ => by congr 1; omega
  · simp
theorem rmv_shf (k s : Int) (n : Nat) : (rmv s n).map (shf k) = rmv (k + s) n := by
  unfold rmv
  rw [List.map_reverse, List.map_map]
  congr 1
  exact List.map_congr_left fun j _ => by show (k + (s + (j : Int)), true) = _; congr 1; omega
theorem lmv_shf (k s : Int) (n : Nat) : (lmv s n).map (shf k) = lmv (k + s) n := by
  unfold lmv
  rw [List.map_reverse, List.map_map]
  congr 1
  exact List.map_congr_left fun j _ => by show (k + (s + (j : Int)), false) = _; congr 1; omega
theorem pa_r {x : Int} : ∀ (B : List Int) (y : Int), x < y → (y :: B).Pairwise (· ≤ ·) → Pa (y :: (B ++ [x])) (rmv 0 B.length) (y :: x :: B)
  | [], y, _, _ => .nil _
  | b :: B, y, h, hs => by
    have hyb : y ≤ b := (List.pairwise_cons.mp hs).1 b (by simp)
    have ih := (pa_r (x := x) B b (by omega) (List.pairwise_cons.mp hs).2).left [y]
    rw [rmv_shf] at ih
    rw [List.length_cons, rmv_succ]
    exact Pa.app ih (.one (St.rt [] B y b x (by omega)))
theorem pa_l {x y : Int} (hxy : x < y) (B : List Int) : ∀ (A : List Int), A.Pairwise (· ≤ ·) → (∀ a ∈ A, a ≤ x) → Pa (A ++ y :: x :: B) (lmv 0 A.length) (y :: (A ++ x :: B))
  | [], _, _ => .nil _
  | a :: A, hs, hx => by
    have h2 := List.pairwise_cons.mp hs
    have ih := (pa_l hxy B A h2.2 fun a ha => hx a (List.mem_cons_of_mem _ ha)).left [a]
    rw [lmv_shf] at ih
    rw [List.length_cons, lmv_succ]
    refine Pa.app ih (.one ?_)
    have hax := hx a (by simp)
    cases A with
    | nil => exact St.lf [] B a y x (by omega)
    | cons c A =>
      have h3 := h2.1 c (by simp)
      have h4 := hx c (by simp)
      exact St.lf [] (A ++ x :: B) a y c (by omega)
/-- a letter inserted behind a row, the pushed letter comes out in front -/
theorem pa_row {r : List Int} {x : Int} (h : Srt r) (hp : cnt r x < r.length) : Pa (r ++ [x]) (rmv (cnt r x) (r.length - 1 - cnt r x) ++ lmv 0 (cnt r x)) (r.getD (cnt r x) 0 :: r.set (cnt r x) x) := by
  obtain ⟨A, y, B, e, el, h1, h2, h3, e4, e5⟩ := cnt_mid h hp
  rw [e4, e5]
  have hB : r.length - 1 - cnt r x = B.length := by rw [← el, e]; simp
  rw [hB, ← el]
  have h' := h
  unfold Srt at h'
  rw [e, List.pairwise_append] at h'
  have a := (pa_r B y h2 h'.2.1).left A
  rw [rmv_shf] at a
  have b := pa_l h2 B A h'.1 h1
  have ea : A ++ y :: (B ++ [x]) = r ++ [x] := by rw [e]; simp
  rw [ea, Int.add_zero] at a
  exact a.app b

/-! ### tables -/
def ins : List (List Int) → Int → List (List Int)
  | [], x => [[x]]
  | r :: rs, x => if cnt r x = r.length then (r ++ [x]) :: rs else r.set (cnt r x) x :: ins rs (r.getD (cnt r x) 0)
def rwd : List (List Int) → List Int
  | [] => []
  | r :: rs => rwd rs ++ r
def imv : List (List Int) → Int → List Mov
  | [], _ => []
  | r :: rs, x => if cnt r x = r.length then [] else (rmv ((rwd rs).length + cnt r x) (r.length - 1 - cnt r x) ++ lmv (rwd rs).length (cnt r x)) ++ imv rs (r.getD (cnt r x) 0)
theorem pa_ins : ∀ {T : List (List Int)} {x : Int}, (∀ r ∈ T, Srt r) → Pa (rwd T ++ [x]) (imv T x) (rwd (ins T x))
  | [], x, _ => .nil _
  | r :: rs, x, h => by
    have hr := h r (by simp)
    unfold imv ins
    by_cases e : cnt r x = r.length
    · rw [if_pos e, if_pos e]
      show Pa ((rwd rs ++ r) ++ [x]) [] (rwd rs ++ (r ++ [x]))
      rw [List.append_assoc]
      exact .nil _
    · rw [if_neg e, if_neg e]
      have hp : cnt r x < r.length := by have := cnt_le r x; omega
      show Pa ((rwd rs ++ r) ++ [x]) _ (rwd (ins rs (r.getD (cnt r x) 0)) ++ r.set (cnt r x) x)
      have a := (pa_row hr hp).left (rwd rs)
      rw [List.map_append, rmv_shf, lmv_shf, Int.add_zero] at a
      rw [List.append_assoc]
      refine Pa.app a ?_
      have b := (pa_ins (T := rs) (x := r.getD (cnt r x) 0) fun q hq => h q (List.mem_cons_of_mem _ hq)).right (r.set (cnt r x) x)
      rw [List.append_assoc] at b
      exact b
theorem srt_ins : ∀ {T : List (List Int)} {x : Int}, (∀ r ∈ T, Srt r) → ∀ r ∈ ins T x, Srt r
  | [], x, _, r, hr => by
    have e : r = [x] := by simpa [ins] using hr
    rw [e]
    exact List.pairwise_singleton _ _
  | q :: rs, x, h, r, hr => by
    unfold ins at hr
    have hq := h q (by simp)
    split at hr
    · rename_i e
      rcases List.mem_cons.mp hr with z | z
      · rw [z]; exact srt_app hq e
      · exact h r (List.mem_cons_of_mem _ z)
    · rename_i e
      rcases List.mem_cons.mp hr with z | z
      · rw [z]; exact srt_set hq (by have := cnt_le q x; omega)
      · exact srt_ins (fun r hr => h r (List.mem_cons_of_mem _ hr)) r z
def tabl (w : List Int) : List (List Int) := w.foldl ins []
def ptm : List (List Int) → List Int → List Mov
  | _, [] => []
  | T, x :: xs => imv T x ++ ptm (ins T x) xs
theorem pa_tab : ∀ (w : List Int) (T : List (List Int)), (∀ r ∈ T, Srt r) → Pa (rwd T ++ w) (ptm T w) (rwd (w.foldl ins T))
  | [], T, _ => by rw [List.append_nil]; exact .nil _
  | x :: xs, T, h => by
    have a := (pa_ins (x := x) h).right xs
    rw [List.append_assoc] at a
    exact Pa.app a (pa_tab xs (ins T x) (srt_ins h))
theorem pa_word (w : List Int) : Pa w (ptm [] w) (rwd (tabl w)) := pa_tab w [] fun r h => by simp at h
theorem srt_tab : ∀ (w : List Int) (T : List (List Int)), (∀ r ∈ T, Srt r) → ∀ r ∈ w.foldl ins T, Srt r
  | [], T, h => h
  | x :: xs, T, h => srt_tab xs (ins T x) (srt_ins h)
end Km

namespace Km
/-! ### restriction to the letters up to a bound -/
def upto (g : Int) (w : List Int) : List Int := w.filter fun a => decide (a ≤ g)
theorem upto_app (g : Int) (u v : List Int) : upto g (u ++ v) = upto g u ++ upto g v := List.filter_append ..
theorem upto_yes {g a : Int} (h : a ≤ g) (v : List Int) : upto g (a :: v) = a :: upto g v := List.filter_cons_of_pos (by simpa using h)
theorem upto_no {g a : Int} (h : ¬ a ≤ g) (v : List Int) : upto g (a :: v) = upto g v := List.filter_cons_of_neg (by simpa using h)
theorem St.upto {w w' : List Int} {m : Mov} (g : Int) (s : St w m w') : upto g w = upto g w' ∨ ∃ k, St (upto g w) k (upto g w') := by
  cases s with
  | rt u v a b c h =>
    rw [upto_app, upto_app]
    by_cases h1 : a ≤ g <;> by_cases h2 : b ≤ g <;> by_cases h3 : c ≤ g
    · right
      rw [upto_yes h1, upto_yes h2, upto_yes h3, upto_yes h1, upto_yes h3, upto_yes h2]
      exact ⟨_, .rt _ _ a b c h⟩
    · left; rw [upto_yes h1, upto_yes h2, upto_no h3, upto_yes h1, upto_no h3, upto_yes h2]
    · left; rw [upto_yes h1, upto_no h2, upto_yes h3, upto_yes h1, upto_yes h3, upto_no h2]
    · left; rw [upto_yes h1, upto_no h2, upto_no h3, upto_yes h1, upto_no h3, upto_no h2]
    · omega
    · left; rw [upto_no h1, upto_yes h2, upto_no h3, upto_no h1, upto_no h3, upto_yes h2]
    · left; rw [upto_no h1, upto_no h2, upto_yes h3, upto_no h1, upto_yes h3, upto_no h2]
    · left; rw [upto_no h1, upto_no h2, upto_no h3, upto_no h1, upto_no h3, upto_no h2]
  | lf u v a b c h =>
    rw [upto_app, upto_app]
    by_cases h1 : a ≤ g <;> by_cases h2 : b ≤ g <;> by_cases h3 : c ≤ g
    · right
      rw [upto_yes h1, upto_yes h2, upto_yes h3, upto_yes h2, upto_yes h1, upto_yes h3]
      exact ⟨_, .lf _ _ a b c h⟩
    · omega
    · left; rw [upto_yes h1, upto_no h2, upto_yes h3, upto_no h2, upto_yes h1, upto_yes h3]
    · left; rw [upto_yes h1, upto_no h2, upto_no h3, upto_no h2, upto_yes h1, upto_no h3]
    · left; rw [upto_no h1, upto_yes h2, upto_yes h3, upto_yes h2, upto_no h1, upto_yes h3]
    · left; rw [upto_no h1, upto_yes h2, upto_no h3, upto_yes h2, upto_no h1, upto_no h3]
    · left; rw [upto_no h1, upto_no h2, upto_yes h3, upto_no h2, upto_no h1, upto_yes h3]
    · left; rw [upto_no h1, upto_no h2, upto_no h3, upto_no h2, upto_no h1, upto_no h3]
theorem Pa.upto {w w' : List Int} {ms : List Mov} (g : Int) (p : Pa w ms w') : ∃ ks, Pa (Km.upto g w) ks (Km.upto g w') := by
  induction p with
  | nil w => exact ⟨[], .nil _⟩
  | cons s _ ih =>
    obtain ⟨ks, h⟩ := ih
    rcases s.upto g with e | ⟨k, e⟩
    · exact ⟨ks, by rw [e]; exact h⟩
    · exact ⟨k :: ks, .cons e h⟩

/-! ### no paper and greater cover -/
theorem nodup_bound : ∀ (n : Nat) (l : List Int), l.Nodup → (∀ i ∈ l, 0 ≤ i ∧ i < (n : Int)) → l.length ≤ n
  | 0, [], _, _ => Nat.le_refl _
  | 0, a :: l, _, h => by have := h a (by simp); omega
  | n + 1, l, nd, h => by
    have h1 : (l.filter fun i => decide (i ≠ (n : Int))).length ≤ n := nodup_bound n _ (nd.filter _) fun i hi => by
      have := List.mem_filter.mp hi
      have := h i this.1
      have : i ≠ (n : Int) := by simpa using (List.mem_filter.mp hi).2
      omega
    have h2 : l.length = (l.filter fun i => decide (i ≠ (n : Int))).length + l.count (n : Int) := by
      have e := List.length_eq_countP_add_countP (fun i : Int => decide (i ≠ (n : Int))) (l := l)
      rw [e, List.countP_eq_length_filter]
      congr 1
      unfold List.count
      exact List.countP_congr fun x _ => by simp
    have h3 := List.nodup_iff_count.mp nd (n : Int)
    omega
theorem meet_one {w : List Int} {l k : List Int} (h1 : l.Pairwise (pr false w)) (h2 : k.Pairwise (pr true w)) : (l.filter fun i => decide (i ∈ k)).length ≤ 1 := by
  have p : (l.filter fun i => decide (i ∈ k)).Pairwise (pr false w) := h1.sublist List.filter_sublist
  have hm : ∀ i ∈ l.filter (fun i => decide (i ∈ k)), i ∈ k := fun i hi => by simpa using (List.mem_filter.mp hi).2
  match e : l.filter fun i => decide (i ∈ k) with
  | [] => simp
  | [_] => simp
  | a :: b :: r =>
    rw [e] at p hm
    have hab := (List.pairwise_cons.mp p).1 b (by simp)
    have ha := hm a (by simp)
    have hb := hm b (by simp)
    have h3 : pr true w a b := by
      have h4 : ∀ x ∈ k, ∀ y ∈ k, x < y → pr true w x y := by
        intro x hx y hy hxy
        obtain ⟨i, hi⟩ := List.getElem?_of_mem hx
        obtain ⟨j, hj⟩ := List.getElem?_of_mem hy
        obtain ⟨hi1, hi2⟩ := List.getElem?_eq_some_iff.mp hi
        obtain ⟨hj1, hj2⟩ := List.getElem?_eq_some_iff.mp hj
        rcases Nat.lt_trichotomy i j with z | z | z
        · have := List.pairwise_iff_getElem.mp h2 i j hi1 hj1 z
          rw [hi2, hj2] at this
          exact this
        · subst z; rw [hi2] at hj2; omega
        · have := List.pairwise_iff_getElem.mp h2 j i hj1 hi1 z
          rw [hi2, hj2] at this
          have := this.1
          omega
      exact h4 a ha b hb hab.1
    have q1 := hab.2
    have q2 := h3.2
    rw [rel_f] at q1
    rw [rel_t] at q2
    omega
theorem filter_or_le (l : List Int) (p q : Int → Bool) : (l.filter fun i => p i || q i).length ≤ (l.filter p).length + (l.filter q).length := by
  induction l with
  | nil => simp
  | cons a l ih =>
    simp only [List.filter_cons]
    cases p a <;> cases q a <;> simp <;> omega
theorem meet_row {w : List Int} {l : List Int} (h1 : l.Pairwise (pr false w)) : ∀ (fal : List (List Int)), (∀ k ∈ fal, k.Pairwise (pr true w)) → (l.filter fun i => decide (i ∈ fal.flatten)).length ≤ fal.length
  | [], _ => by simp
  | k :: fal, h => by
    have e : (l.filter fun i => decide (i ∈ (k :: fal).flatten)) = l.filter fun i => decide (i ∈ k) || decide (i ∈ fal.flatten) := List.filter_congr fun x _ => by
      rw [← Bool.decide_or]
      exact decide_eq_decide.mpr (by rw [List.flatten_cons, List.mem_append])
    rw [e]
    have a := filter_or_le l (fun i => decide (i ∈ k)) fun i => decide (i ∈ fal.flatten)
    have b := meet_one h1 (h k (by simp))
    have c := meet_row h1 fal fun q hq => h q (List.mem_cons_of_mem _ hq)
    rw [List.length_cons]
    omega
theorem meet_all {w : List Int} {fal : List (List Int)} (h : ∀ k ∈ fal, k.Pairwise (pr true w)) : ∀ (ris : List (List Int)), (∀ l ∈ ris, l.Pairwise (pr false w)) → (ris.flatten.filter fun i => decide (i ∈ fal.flatten)).length ≤ ris.length * fal.length
  | [], _ => by simp
  | l :: ris, hr => by
    rw [List.flatten_cons, List.filter_append, List.length_append, List.length_cons, Nat.succ_mul]
    have a := meet_row (hr l (by simp)) fal h
    have b := meet_all h ris fun q hq => hr q (List.mem_cons_of_mem _ hq)
    omega
theorem dual {w : List Int} {ris fal : List (List Int)} (R : FamOk false w ris) (F : FamOk true w fal) : cov ris + cov fal ≤ w.length + ris.length * fal.length := by
  rw [cov_flat, cov_flat]
  have a := meet_all F.inc ris R.inc
  have e : ris.flatten.length = (ris.flatten.filter fun i => decide (i ∈ fal.flatten)).length + (ris.flatten.filter fun i => !decide (i ∈ fal.flatten)).length := by
    have e := List.length_eq_countP_add_countP (fun i : Int => decide (i ∈ fal.flatten)) (l := ris.flatten)
    rw [List.countP_eq_length_filter, List.countP_eq_length_filter] at e
    rw [e]
    congr 2
    exact List.filter_congr fun x _ => by simp only [decide_eq_true_eq, decide_not]
  have b : ((ris.flatten.filter fun i => !decide (i ∈ fal.flatten)) ++ fal.flatten).length ≤ w.length := by
    refine nodup_bound _ _ ?_ fun i hi => ?_
    · rw [List.nodup_append]
      refine ⟨R.nd.filter _, F.nd, fun x hx y hy e => ?_⟩
      subst e
      have := (List.mem_filter.mp hx).2
      simp at this
      obtain ⟨l, hl, hxl⟩ := List.mem_flatten.mp hy
      exact this l hl hxl
    · rcases List.mem_append.mp hi with z | z
      · exact R.flat_rg i (List.mem_filter.mp z).1
      · exact F.flat_rg i z
  rw [List.length_append] at b
  omega

/-- THE PLAIN LAW: a cover note that is taken parts the tables -/
theorem note_parts {first second : List Int} (g : Int) {fam ris fal : List (List Int)} (ht : tabl first = tabl second) (h1 : FamOk false (upto g first) fam) (h2 : FamOk false (upto g second) ris) (h3 : FamOk true (upto g second) fal)
    (he : cov ris + cov fal = (upto g second).length + ris.length * fal.length) (hl : fam.length = ris.length) (hc : cov ris < cov fam) : False := by
  have p := (pa_word first).app (by rw [ht]; exact (pa_word second).rev)
  obtain ⟨ks, pk⟩ := p.upto g
  obtain ⟨F, c, l⟩ := pk.fam h1
  have d := dual F h3
  rw [c, l, hl] at d
  omega
theorem perm_of_st {w w' : List Int} {m : Mov} (s : St w m w') : w.Perm w' := by
  rw [List.perm_iff_count]
  intro x
  cases s <;> simp only [List.count_append, List.count_cons] <;> omega
theorem perm_of_pa {w w' : List Int} {ms : List Mov} (p : Pa w ms w') : w.Perm w' := by
  induction p with
  | nil w => exact List.Perm.refl _
  | cons s _ ih => exact (perm_of_st s).trans ih
theorem tab_perm {first second : List Int} (ht : tabl first = tabl second) : first.Perm second :=
  perm_of_pa ((pa_word first).app (by rw [ht]; exact (pa_word second).rev))
end Km

namespace Km
def gd (r : List Int) (j : Nat) : Int := r.getD j 0
theorem gd_set {r : List Int} {p j : Nat} {x : Int} (h : p < r.length) : gd (r.set p x) j = if j = p then x else gd r j := by
  unfold gd
  rw [List.getD_eq_getElem?_getD, List.getD_eq_getElem?_getD, List.getElem?_set]
  by_cases e : p = j
  · subst e
    simp [h]
  · rw [if_neg e, if_neg (fun z => e z.symm)]
theorem gd_app {r : List Int} {j : Nat} {x : Int} (h : j ≤ r.length) : gd (r ++ [x]) j = if j = r.length then x else gd r j := by
  unfold gd
  rw [List.getD_eq_getElem?_getD, List.getD_eq_getElem?_getD]
  by_cases e : j = r.length
  · subst e
    simp
  · rw [if_neg e, List.getElem?_append_left (by omega)]
theorem gd_lt {r : List Int} {x : Int} {j : Nat} (h : Srt r) (hj : j < cnt r x) : gd r j ≤ x := by
  have hl := cnt_le r x
  have h1 := (cnt_split (x := x) h).1
  refine h1 _ ?_
  unfold gd
  rw [List.getD_eq_getElem?_getD, List.getElem?_eq_getElem (by omega)]
  refine List.mem_iff_getElem.mpr ⟨j, by rw [List.length_take]; omega, ?_⟩
  simp
theorem gd_ge {r : List Int} {x : Int} {j : Nat} (h : Srt r) (hj : cnt r x ≤ j) (hl : j < r.length) : x < gd r j := by
  have h1 := (cnt_split (x := x) h).2
  refine h1 _ ?_
  unfold gd
  rw [List.getD_eq_getElem?_getD, List.getElem?_eq_getElem hl]
  refine List.mem_iff_getElem.mpr ⟨j - cnt r x, by rw [List.length_drop]; omega, ?_⟩
  rw [List.getElem_drop]
  simp [show cnt r x + (j - cnt r x) = j by omega]
/-- a row below another one -/
structure Bel (r q : List Int) : Prop where
  le : q.length ≤ r.length
  lt : ∀ j, j < q.length → gd r j < gd q j
def ColOk : List (List Int) → Prop
  | [] => True
  | [_] => True
  | r :: q :: T => Bel r q ∧ ColOk (q :: T)
theorem ColOk.tail {r : List Int} {T : List (List Int)} (h : ColOk (r :: T)) : ColOk T := by
  cases T with
  | nil => trivial
  | cons q T => exact h.2
/-- what comes under a row in which x took the place of y -/
theorem bel_ins {r : List Int} {x : Int} (hr : Srt r) (hp : cnt r x < r.length) : ∀ {T : List (List Int)}, ColOk (r :: T) → (∀ q ∈ T, Srt q) → ∀ q rest, ins T (r.getD (cnt r x) 0) = q :: rest → Bel (r.set (cnt r x) x) q
  | [], _, _, q, rest, e => by
    have e' : [gd r (cnt r x)] = q := (List.cons.inj e).1
    subst e'
    refine ⟨by simp; omega, fun j hj => ?_⟩
    have j0 : j = 0 := by simp at hj; exact hj
    subst j0
    rw [gd_set hp]
    have hy := gd_ge hr (Nat.le_refl _) hp
    show _ < gd r (cnt r x)
    split
    · exact hy
    · have := gd_lt (x := x) (j := 0) hr (by omega)
      omega
  | q :: T, hc, hq, q', rest, e => by
    have hb := hc.1
    have sq := hq q (by simp)
    have hy := gd_ge hr (Nat.le_refl _) hp
    have yd : r.getD (cnt r x) 0 = gd r (cnt r x) := rfl
    rw [yd] at e
    generalize hyy : gd r (cnt r x) = y at *
    have hle := cnt_le q y
    have hqp : cnt q y ≤ cnt r x := by
      refine Nat.le_of_not_lt fun h => ?_
      have a := gd_lt (x := y) (j := cnt r x) sq h
      have b := hb.lt (cnt r x) (by omega)
      omega
    unfold ins at e
    split at e
    · rename_i ec
      have e' := (List.cons.inj e).1
      subst e'
      refine ⟨by simp; omega, fun j hj => ?_⟩
      simp at hj
      rw [gd_app (by omega), gd_set hp]
      by_cases e1 : j = q.length
      · rw [if_pos e1]
        split
        · exact hy
        · have := gd_lt (x := x) (j := j) hr (by omega)
          omega
      · rw [if_neg e1]
        have b := hb.lt j (by omega)
        split
        · rename_i e2; subst e2; omega
        · exact b
    · rename_i ec
      have e' := (List.cons.inj e).1
      subst e'
      have hlt : cnt q y < q.length := by omega
      have h5 := hb.le
      refine ⟨by simp; exact h5, fun j hj => ?_⟩
      simp at hj
      rw [gd_set hlt, gd_set hp]
      have b := hb.lt j hj
      by_cases e1 : j = cnt q y
      · rw [if_pos e1]
        split
        · exact hy
        · have := gd_lt (x := x) (j := j) hr (by omega)
          omega
      · rw [if_neg e1]
        split
        · rename_i e2; subst e2; omega
        · exact b
theorem col_ins : ∀ {T : List (List Int)} {x : Int}, ColOk T → (∀ q ∈ T, Srt q) → ColOk (ins T x)
  | [], x, _, _ => trivial
  | r :: T, x, hc, hs => by
    have hr := hs r (by simp)
    by_cases e : cnt r x = r.length
    · have ei : ins (r :: T) x = (r ++ [x]) :: T := by unfold ins; rw [if_pos e]
      rw [ei]
      cases T with
      | nil => trivial
      | cons q T =>
        refine ⟨⟨?_, fun j hj => ?_⟩, hc.2⟩
        · have := hc.1.le
          simp; omega
        · have h1 := hc.1.le
          rw [gd_app (by omega), if_neg (by omega)]
          exact hc.1.lt j hj
    · have ei : ins (r :: T) x = r.set (cnt r x) x :: ins T (r.getD (cnt r x) 0) := by conv => lhs; unfold ins; rw [if_neg e]
      rw [ei]
      have hp : cnt r x < r.length := by have := cnt_le r x; omega
      have hb := bel_ins hr hp hc fun q hq => hs q (List.mem_cons_of_mem _ hq)
      have ht := col_ins (x := r.getD (cnt r x) 0) hc.tail fun q hq => hs q (List.mem_cons_of_mem _ hq)
      generalize ins T (r.getD (cnt r x) 0) = I at *
      cases I with
      | nil => trivial
      | cons q rest => exact ⟨hb q rest rfl, ht⟩
theorem col_tab : ∀ (w : List Int) (T : List (List Int)), ColOk T → (∀ r ∈ T, Srt r) → ColOk (w.foldl ins T)
  | [], _, h, _ => h
  | x :: xs, T, h, hs => col_tab xs (ins T x) (col_ins h hs) (srt_ins hs)

/-! ### the rows and the columns as lists of indexes of the reading word -/
def seg (s n : Nat) : List Int := (List.range n).map fun j : Nat => (s : Int) + (j : Int)
def rowS : List Nat → Nat → List (List Int)
  | _, 0 => []
  | [], k + 1 => [] :: rowS [] k
  | n :: ns, k + 1 => seg ns.sum n :: rowS ns k
def colS : List Nat → Nat → List Int
  | [], _ => []
  | n :: ns, c => colS ns c ++ (if c < n then [(ns.sum : Int) + (c : Int)] else [])
def shp (T : List (List Int)) : List Nat := T.map List.length
theorem rwd_len : ∀ T : List (List Int), (rwd T).length = (shp T).sum
  | [] => rfl
  | r :: T => by
    show (rwd T ++ r).length = r.length + (shp T).sum
    rw [List.length_append, rwd_len T]
    omega
theorem pr_left {fa : Bool} {u r : List Int} {i j : Int} (h : pr fa u i j) (h0 : 0 ≤ i) (hj : j < u.length) : pr fa (u ++ r) i j := by
  have := h.1
  exact ⟨h.1, by rw [wat_left h0 (by omega), wat_left (by omega) hj]; exact h.2⟩
theorem mem_seg {s n : Nat} {i : Int} : i ∈ seg s n ↔ (s : Int) ≤ i ∧ i < s + n := by
  unfold seg
  rw [List.mem_map]
  constructor
  · rintro ⟨j, hj, rfl⟩
    have := List.mem_range.mp hj
    omega
  · intro h
    exact ⟨(i - s).toNat, List.mem_range.mpr (by omega), by omega⟩
theorem rowS_rg : ∀ (ns : List Nat) (k : Nat), ∀ l ∈ rowS ns k, ∀ i ∈ l, 0 ≤ i ∧ i < (ns.sum : Int)
  | _, 0, l, hl, _, _ => by simp [rowS] at hl
  | [], k + 1, l, hl, i, hi => by
    simp only [rowS] at hl
    rcases List.mem_cons.mp hl with z | z
    · subst z; simp at hi
    · exact rowS_rg [] k l z i hi
  | n :: ns, k + 1, l, hl, i, hi => by
    simp only [rowS] at hl
    rw [List.sum_cons]
    rcases List.mem_cons.mp hl with z | z
    · subst z
      have := mem_seg.mp hi
      omega
    · have := rowS_rg ns k l z i hi
      omega
theorem rowS_ok : ∀ {T : List (List Int)} (k : Nat), (∀ r ∈ T, Srt r) → FamOk false (rwd T) (rowS (shp T) k)
  | _, 0, _ => by
    unfold rowS
    exact ⟨fun l h => by simp at h, by simp, fun l h => by simp at h⟩
  | [], k + 1, h => by
    have ih := rowS_ok (T := []) k h
    show FamOk false (rwd []) ([] :: rowS [] k)
    refine famOk_of (fun l hl => ?_) ?_ fun i hi => ?_
    · rcases List.mem_cons.mp hl with z | z
      · subst z; exact List.Pairwise.nil
      · exact ih.inc l z
    · exact ih.nd
    · exact ih.flat_rg i hi
  | r :: T, k + 1, h => by
    have ih := rowS_ok (T := T) k fun q hq => h q (List.mem_cons_of_mem _ hq)
    have hr := h r (by simp)
    have hl := rwd_len T
    show FamOk false (rwd T ++ r) (seg (shp T).sum r.length :: rowS (shp T) k)
    rw [← hl]
    refine famOk_of (fun l hm => ?_) ?_ fun i hi => ?_
    · rcases List.mem_cons.mp hm with z | z
      · subst z
        unfold seg
        rw [List.pairwise_map]
        refine List.Pairwise.imp_of_mem (fun {i j} hi hj hij => ?_) List.pairwise_lt_range
        have hi := List.mem_range.mp hi
        have hj := List.mem_range.mp hj
        refine ⟨by omega, ?_⟩
        rw [wat_at _ _ _ (by omega), wat_at _ _ _ (by omega), rel_f, wat_nat, wat_nat]
        have := List.pairwise_iff_getElem.mp hr i j hi hj hij
        rw [List.getD_eq_getElem?_getD, List.getD_eq_getElem?_getD, List.getElem?_eq_getElem hi, List.getElem?_eq_getElem hj]
        exact this
      · refine List.Pairwise.imp_of_mem (fun {i j} hi hj hij => ?_) (ih.inc l z)
        exact pr_left hij (ih.rg l z i hi).1 (ih.rg l z j hj).2
    · rw [List.flatten_cons, List.nodup_append]
      refine ⟨?_, ih.nd, fun a ha b hb e => ?_⟩
      · unfold seg
        show List.Pairwise (· ≠ ·) _
        rw [List.pairwise_map]
        exact List.Pairwise.imp (fun h e => by omega) List.pairwise_lt_range
      · have h1 := mem_seg.mp ha
        have h2 := ih.flat_rg b hb
        omega
    · rw [List.length_append]
      rw [List.flatten_cons] at hi
      rcases List.mem_append.mp hi with z | z
      · have := mem_seg.mp z
        omega
      · have := ih.flat_rg i z
        omega
theorem colS_rg : ∀ (ns : List Nat) (c : Nat), ∀ i ∈ colS ns c, 0 ≤ i ∧ i < (ns.sum : Int)
  | [], c, i, hi => by simp [colS] at hi
  | n :: ns, c, i, hi => by
    simp only [colS] at hi
    rw [List.sum_cons]
    rcases List.mem_append.mp hi with z | z
    · have := colS_rg ns c i z
      omega
    · split at z
      · have : i = (ns.sum : Int) + (c : Int) := by simpa using z
        omega
      · simp at z
theorem colS_inj : ∀ (ns : List Nat) (c d : Nat) (i : Int), i ∈ colS ns c → i ∈ colS ns d → c = d
  | [], c, d, i, h, _ => by simp [colS] at h
  | n :: ns, c, d, i, h1, h2 => by
    simp only [colS] at h1 h2
    rcases List.mem_append.mp h1 with a | a <;> rcases List.mem_append.mp h2 with b | b
    · exact colS_inj ns c d i a b
    · have := colS_rg ns c i a
      split at b
      · have : i = (ns.sum : Int) + (d : Int) := by simpa using b
        omega
      · simp at b
    · have := colS_rg ns d i b
      split at a
      · have : i = (ns.sum : Int) + (c : Int) := by simpa using a
        omega
      · simp at a
    · split at a
      · split at b
        · have : i = (ns.sum : Int) + (c : Int) := by simpa using a
          have : i = (ns.sum : Int) + (d : Int) := by simpa using b
          omega
        · simp at b
      · simp at a
theorem colS_nil : ∀ {T : List (List Int)} {q : List Int} {c : Nat}, ColOk (q :: T) → q.length ≤ c → colS (shp (q :: T)) c = []
  | [], q, c, _, h => by
    show [] ++ (if c < q.length then _ else []) = []
    rw [if_neg (by omega)]
    rfl
  | q2 :: T, q, c, hc, h => by
    show colS (shp (q2 :: T)) c ++ (if c < q.length then _ else []) = []
    rw [if_neg (by omega), colS_nil hc.2 (by have := hc.1.le; omega)]
    rfl
theorem colS_gt : ∀ {T : List (List Int)} {r : List Int} {c : Nat}, ColOk (r :: T) → ∀ i ∈ colS (shp T) c, gd r c < wat (rwd T) i
  | [], r, c, _, i, hi => by simp [shp, colS] at hi
  | q :: T, r, c, hc, i, hi => by
    by_cases hq : c < q.length
    · have b := hc.1.lt c hq
      have hi' : i ∈ colS (shp T) c ++ (if c < q.length then [((shp T).sum : Int) + (c : Int)] else []) := hi
      rw [if_pos hq] at hi'
      show gd r c < wat (rwd T ++ q) i
      rcases List.mem_append.mp hi' with z | z
      · have g := colS_gt hc.2 i z
        have rg := colS_rg _ _ i z
        rw [wat_left rg.1 (by rw [rwd_len]; exact rg.2)]
        omega
      · have e : i = ((shp T).sum : Int) + (c : Int) := by simpa using z
        rw [e, ← rwd_len, wat_at _ _ _ (by omega), wat_nat]
        exact b
    · rw [colS_nil hc.2 (by omega)] at hi
      simp at hi
theorem colS_pw : ∀ {T : List (List Int)} (c : Nat), ColOk T → (colS (shp T) c).Pairwise (pr true (rwd T))
  | [], c, _ => List.Pairwise.nil
  | r :: T, c, hc => by
    have ih := colS_pw c hc.tail
    show (colS (shp T) c ++ (if c < r.length then [((shp T).sum : Int) + (c : Int)] else [])).Pairwise (pr true (rwd T ++ r))
    have i1 : (colS (shp T) c).Pairwise (pr true (rwd T ++ r)) := List.Pairwise.imp_of_mem (fun {i j} hi hj h => pr_left h (colS_rg _ _ i hi).1 (by rw [rwd_len]; exact (colS_rg _ _ j hj).2)) ih
    split
    · rw [List.pairwise_append]
      refine ⟨i1, List.pairwise_singleton _ _, fun a ha b hb => ?_⟩
      have e : b = ((shp T).sum : Int) + (c : Int) := by simpa using hb
      have rg := colS_rg _ _ a ha
      refine ⟨by omega, ?_⟩
      rw [e, ← rwd_len, wat_at _ _ _ (by omega), wat_nat, rel_t, wat_left rg.1 (by rw [rwd_len]; exact rg.2)]
      exact colS_gt hc a ha
    · rw [List.append_nil]
      exact i1
theorem colS_ok {T : List (List Int)} (k : Nat) (hc : ColOk T) : FamOk true (rwd T) ((List.range k).map fun c => colS (shp T) c) := by
  refine famOk_of (fun l hl => ?_) ?_ fun i hi => ?_
  · obtain ⟨c, _, rfl⟩ := List.mem_map.mp hl
    exact colS_pw c hc
  · show List.Pairwise (· ≠ ·) _
    rw [List.pairwise_flatten]
    refine ⟨fun l hl => ?_, ?_⟩
    · obtain ⟨c, _, rfl⟩ := List.mem_map.mp hl
      exact pw_nodup (colS_pw c hc)
    · rw [List.pairwise_map]
      refine List.Pairwise.imp (fun {c d} h x hx y hy e => ?_) List.pairwise_lt_range
      subst e
      have := colS_inj _ _ _ x hx hy
      omega
  · obtain ⟨l, hl, hi⟩ := List.mem_flatten.mp hi
    obtain ⟨c, _, rfl⟩ := List.mem_map.mp hl
    rw [rwd_len]
    exact colS_rg _ _ i hi
/-- what rising_paper hands back -/
def papR (w : List Int) (k : Nat) : List (List Int) := (ptm [] w).reverse.foldl (fun f m => carr m f) (rowS (shp (tabl w)) k)
def papF (w : List Int) (k : Nat) : List (List Int) := (ptm [] w).reverse.foldl (fun f m => carr m f) ((List.range k).map fun c => colS (shp (tabl w)) c)
theorem tab_srt (w : List Int) : ∀ r ∈ tabl w, Srt r := srt_tab w [] fun r h => by simp at h
theorem tab_col (w : List Int) : ColOk (tabl w) := col_tab w [] trivial fun r h => by simp at h
theorem rowS_len : ∀ (ns : List Nat) (k : Nat), (rowS ns k).length = k
  | _, 0 => rfl
  | [], k + 1 => by simp [rowS, rowS_len [] k]
  | n :: ns, k + 1 => by simp [rowS, rowS_len ns k]
theorem papR_ok (w : List Int) (k : Nat) : FamOk false w (papR w k) ∧ (papR w k).length = k := by
  obtain ⟨a, _, c⟩ := (pa_word w).rev.fam (rowS_ok (T := tabl w) k (tab_srt w))
  exact ⟨a, c.trans (rowS_len _ _)⟩
theorem papF_ok (w : List Int) (k : Nat) : FamOk true w (papF w k) ∧ (papF w k).length = k := by
  obtain ⟨a, _, c⟩ := (pa_word w).rev.fam (colS_ok (T := tabl w) k (tab_col w))
  exact ⟨a, c.trans (by simp)⟩
theorem FamOk.small {fa : Bool} {w : List Int} {fam : List (List Int)} (F : FamOk fa w fam) : cov fam ≤ w.length := by
  rw [cov_flat]
  exact nodup_bound _ _ F.nd F.flat_rg
theorem rwd_tab_len (w : List Int) : (shp (tabl w)).sum = w.length := by
  rw [← rwd_len]
  exact (pa_word w).len
end Km

/-! Families told one index at a time. Plain Lean. -/
namespace Km
structure GF (R : Int → Int → Prop) (n : Nat) (fam : List (List Int)) : Prop where
  inc : ∀ l ∈ fam, l.Pairwise R
  nd : fam.flatten.Nodup
  rg : ∀ i ∈ fam.flatten, 0 ≤ i ∧ i < n
theorem gf_iff {fa : Bool} {w : List Int} {fam : List (List Int)} : GF (pr fa w) w.length fam ↔ FamOk fa w fam :=
  ⟨fun h => famOk_of h.inc h.nd h.rg, fun h => ⟨h.inc, h.nd, h.flat_rg⟩⟩
theorem GF.zero {R : Int → Int → Prop} {n : Nat} : GF R n [] := ⟨fun l h => by simp at h, by simp, fun i h => by simp at h⟩
theorem GF.open_ {R : Int → Int → Prop} {n : Nat} {F : List (List Int)} (h : GF R n F) : GF R n (F ++ [[]]) := by
  have e : (F ++ [[]]).flatten = F.flatten := by simp
  refine ⟨fun l hl => ?_, by rw [e]; exact h.nd, by rw [e]; exact h.rg⟩
  rcases List.mem_append.mp hl with z | z
  · exact h.inc l z
  · rw [List.mem_singleton.mp z]; exact .nil
theorem GF.step {R : Int → Int → Prop} (tr : ∀ a b c, R a b → R b c → R a c) {n : Nat} {F : List (List Int)} {p : List Int} {x : Int} (h : GF R n (F ++ [p])) (h0 : 0 ≤ x ∧ x < n) (h1 : x ∉ F.flatten ++ p) (h2 : ∀ y, p.getLast? = some y → R y x) : GF R n (F ++ [p ++ [x]]) := by
  have e : ∀ q : List Int, (F ++ [q]).flatten = F.flatten ++ q := fun q => by simp
  have nd := h.nd
  have rg := h.rg
  rw [e] at nd rg
  refine ⟨fun l hl => ?_, ?_, ?_⟩
  · rcases List.mem_append.mp hl with z | z
    · exact h.inc l (List.mem_append_left _ z)
    · rw [List.mem_singleton.mp z]
      have hp : p.Pairwise R := h.inc p (by simp)
      rw [List.pairwise_append]
      refine ⟨hp, by simp, fun a ha b hb => ?_⟩
      rw [List.mem_singleton.mp hb]
      rcases List.eq_nil_or_concat p with z | ⟨u, y, z⟩
      · rw [z] at ha; simp at ha
      · rw [z] at ha h2 hp
        have hy := h2 y (by simp)
        rcases List.mem_append.mp (by simpa using ha : a ∈ u ++ [y]) with q | q
        · rw [List.concat_eq_append, List.pairwise_append] at hp
          exact tr _ _ _ (hp.2.2 a q y (by simp)) hy
        · rw [List.mem_singleton.mp q]; exact hy
  · rw [e, ← List.append_assoc, List.nodup_append]
    refine ⟨nd, by simp, fun a ha b hb z => ?_⟩
    rw [List.mem_singleton.mp hb] at z
    rw [z] at ha
    exact h1 ha
  · rw [e, ← List.append_assoc]
    intro i hi
    rcases List.mem_append.mp hi with z | z
    · exact rg i z
    · rw [List.mem_singleton.mp z]; exact h0
theorem GF.at_ {R : Int → Int → Prop} {n : Nat} {fam : List (List Int)} (h : GF R n fam) {i j : Nat} {l : List Int} {x : Int} (e1 : fam[i]? = some l) (e2 : l[j]? = some x) :
    (0 ≤ x ∧ x < n) ∧ x ∉ (fam.take i).flatten ++ l.take j ∧ ∀ y, (l.take j).getLast? = some y → R y x := by
  obtain ⟨hi, rfl⟩ := List.getElem?_eq_some_iff.mp e1
  obtain ⟨hj, rfl⟩ := List.getElem?_eq_some_iff.mp e2
  have hm : fam[i][j] ∈ fam.flatten := List.mem_flatten.mpr ⟨fam[i], List.getElem_mem hi, List.getElem_mem hj⟩
  refine ⟨h.rg _ hm, fun z => ?_, fun y hy => ?_⟩
  · have nd := h.nd
    have ef : fam.flatten = ((fam.take i).flatten ++ fam[i].take j) ++ (fam[i][j] :: (fam[i].drop (j + 1) ++ (fam.drop (i + 1)).flatten)) := by
      conv => lhs; rw [← List.take_append_drop i fam, List.drop_eq_getElem_cons hi]
      rw [List.flatten_append, List.flatten_cons]
      have e3 : fam[i] = fam[i].take j ++ fam[i][j] :: fam[i].drop (j + 1) := by rw [← List.drop_eq_getElem_cons hj, List.take_append_drop]
      generalize fam[i][j] = x at *
      generalize fam[i].take j = p at *
      generalize fam[i].drop (j + 1) = q at *
      rw [e3]
      simp
    rw [ef, List.nodup_append] at nd
    exact nd.2.2 _ z _ (List.mem_cons_self) rfl
  · have hp := h.inc _ (List.getElem_mem hi)
    have hy2 := List.mem_of_getLast? hy
    rw [← List.take_append_drop j fam[i], List.drop_eq_getElem_cons hj, List.pairwise_append] at hp
    exact hp.2.2 y hy2 _ List.mem_cons_self
theorem pw_adj {R : Int → Int → Prop} (tr : ∀ a b c, R a b → R b c → R a c) : ∀ l : List Int, (∀ (j : Nat) y x, l[j]? = some y → l[j + 1]? = some x → R y x) → l.Pairwise R
  | [], _ => .nil
  | a :: l, h => by
    have ih := pw_adj tr l fun j y x e1 e2 => h (j + 1) y x (by simpa using e1) (by simpa using e2)
    refine .cons (fun b hb => ?_) ih
    cases l with
    | nil => simp at hb
    | cons c l =>
      have hc : R a c := h 0 a c (by simp) (by simp)
      rcases List.mem_cons.mp hb with z | z
      · rw [z]; exact hc
      · exact tr _ _ _ hc ((List.pairwise_cons.mp ih).1 b z)
theorem adj_pw {R : Int → Int → Prop} {l : List Int} (h : l.Pairwise R) {j : Nat} {y x : Int} (e1 : l[j]? = some y) (e2 : l[j + 1]? = some x) : R y x := by
  obtain ⟨h1, rfl⟩ := List.getElem?_eq_some_iff.mp e1
  obtain ⟨h2, rfl⟩ := List.getElem?_eq_some_iff.mp e2
  exact List.pairwise_iff_getElem.mp h j (j + 1) h1 h2 (by omega)
theorem gf_adj {fa : Bool} {w : List Int} {fam : List (List Int)} (h : GF (· < ·) w.length fam) (a : ∀ l ∈ fam, ∀ (j : Nat) y x, l[j]? = some y → l[j + 1]? = some x → rel fa (wat w y) (wat w x)) : FamOk fa w fam :=
  famOk_of (fun l hl => pw_adj (R := pr fa w) (fun _ _ _ a b => pr_trans a b) l fun j y x e1 e2 => ⟨adj_pw (h.inc l hl) e1 e2, a l hl j y x e1 e2⟩) h.nd h.rg
theorem FamOk.gf {fa : Bool} {w : List Int} {fam : List (List Int)} (h : FamOk fa w fam) : GF (· < ·) w.length fam :=
  ⟨fun l hl => (h.inc l hl).imp fun p => p.1, h.nd, h.flat_rg⟩
theorem last_take {l : List Int} {j : Nat} (h0 : 0 < j) (h : j ≤ l.length) : (l.take j).getLast? = l[j - 1]? := by
  rw [List.getLast?_eq_getElem?, List.getElem?_take, List.length_take, Nat.min_eq_left h, if_pos (by omega)]
theorem flat_len {fam : List (List Int)} {a b : Nat} (h1 : fam.length ≤ a) (h2 : ∀ l ∈ fam, l.length ≤ b) : fam.flatten.length ≤ a * b := by
  induction fam generalizing a with
  | nil => simp
  | cons l fam ih =>
    rw [List.flatten_cons, List.length_append]
    rw [List.length_cons] at h1
    obtain ⟨c, rfl⟩ : ∃ c, a = c + 1 := ⟨a - 1, by omega⟩
    have x := ih (a := c) (by omega) fun k hk => h2 k (List.mem_cons_of_mem _ hk)
    have y := h2 l List.mem_cons_self
    rw [Nat.add_mul]
    omega
end Km

set_option maxHeartbeats 4000000
namespace Kw
open PySem PySem.Spec PyProof.Rows L2
section

/-! ### the stream: a list of three whole numbers, told as such and no more -/
def phiS (a : Addr) : Heap → Prop := fun h => ∃ (x0 x1 x2 : Int) (t0 t1 t2 : Tok) (n : Nat), h.get? a = some { cls := .type "list", data := .seq #[.int x0 t0, .int x1 t1, .int x2 t2] n }
def Strm (H : Hp) (a : Addr) : Prop := H a = some (.ext (phiS a))
theorem upd_back {H : Hp} {a : Addr} {o o' : HO} (h : H a = some o) : upd (upd H a o') a o = H := by
  funext b
  unfold upd
  by_cases e : b = a
  · rw [if_pos e, e, h]
  · rw [if_neg e, if_neg e]
section
variable {X : Cx} {pins : List (Addr × Obj)} {σ : L2.St} {H : Hp} {s : Shared}
/-- the same heap, another telling of the object at a -/
theorem retell {a : Addr} {o o' : HO} (I : Inv X pins σ H s) (h : H a = some o) (m : Mut (some o)) (m' : Mut (some o')) (hn : ObjOk X.prog X.w (upd H a o') s.heap a o') : Inv X pins σ (upd H a o') s := by
  have hh : ∀ b, H b = none → (upd H a o') b = none := fun b e => by
    rw [upd_ne (Ne.symm (ne_of_none h e))]
    exact e
  have notup : ∀ b xs, H b = some (.tup xs) → b ≠ a := fun b xs e z => by
    subst z; rw [h] at e; cases e; exact m
  have nofrz : ∀ b ob xs, H b = some (.frz ob xs) → b ≠ a := fun b ob xs e z => by
    subst z; rw [h] at e; cases e; exact m
  have notbl : ∀ b ps, H b = some (.tbl ps) → b ≠ a := fun b ps e z => by
    subst z; rw [h] at e; cases e; exact m
  have noown : ∀ b x, H b = some (.own x) → b ≠ a := fun b x e z => by
    subst z; rw [h] at e; cases e; exact m
  obtain ⟨kp, sl, fr, th, tu, fz, tb⟩ := I.base
  refine ⟨I.ok, I.os, I.bare, ⟨kp, sl, fun b ob e n hx => hh b (fr b ob e n hx), th, fun b xs e => ?_, fun b ob xs e => ?_, fun b ps e => ?_⟩, I.loc, I.cell, hh _ I.free, fun x c e => hh c (I.freeC x c e), fun p hp => ?_, fun b u e => ?_, I.len⟩
  · have q := tu b xs e
    rw [upd_ne (notup b xs q)]
    exact q
  · have q := fz b ob xs e
    rw [upd_ne (nofrz b ob xs q)]
    exact q
  · obtain ⟨more, q⟩ := tb b ps e
    exact ⟨more, by rw [upd_ne (notbl b _ q)]; exact q⟩
  · obtain ⟨e1, e2, e3, e4, e5⟩ := I.pin p hp
    exact ⟨e1, hh _ e2, e3, e4, e5⟩
  · by_cases hb : b = a
    · subst hb
      rw [upd_same] at e
      cases e
      exact hn
    · rw [upd_ne hb] at e
      exact (I.hok b u e).stay (fun _ _ _ q => q) (fun c q => by rw [upd_ne (noown c b q)]; exact q) (fun c xs q => by rw [upd_ne (notup c xs q)]; exact q)
theorem strm_show {a : Addr} (I : Inv X pins σ H s) (h : Strm H a) : ∃ x0 x1 x2 : Int, Inv X pins σ (upd H a (.lst [.int x0, .int x1, .int x2])) s := by
  obtain ⟨⟨x0, x1, x2, t0, t1, t2, n, e⟩, _, _⟩ := I.hok a _ h
  refine ⟨x0, x1, x2, retell I h trivial trivial ⟨(by show 3 ≤ sizeLine; decide), [.int x0 t0, .int x1 t1, .int x2 t2], n, ?_, e⟩⟩
  exact .cons ⟨t0, rfl⟩ (.cons ⟨t1, rfl⟩ (.cons ⟨t2, rfl⟩ .nil))
theorem strm_hide {a : Addr} {x0 x1 x2 : Int} (I : Inv X pins σ H s) (h : H a = some (.lst [.int x0, .int x1, .int x2])) : Inv X pins σ (upd H a (.ext (phiS a))) s := by
  obtain ⟨_, its, n, r, e⟩ := I.hok a _ h
  refine retell I h trivial trivial ⟨?_, ⟨_, e⟩, fun h1 h2 => ?_⟩
  · cases r with
    | cons r0 r =>
      cases r with
      | cons r1 r =>
        cases r with
        | cons r2 r =>
          cases r
          obtain ⟨t0, rfl⟩ := r0
          obtain ⟨t1, rfl⟩ := r1
          obtain ⟨t2, rfl⟩ := r2
          exact ⟨x0, x1, x2, t0, t1, t2, n, e⟩
  · rintro ⟨y0, y1, y2, u0, u1, u2, m, e1⟩ k
    exact ⟨y0, y1, y2, u0, u1, u2, m, k _ e1⟩
/-- reading the stream at 0, 1 or 2 -/
def rIxM : R2 := fun x y H Q => ∃ (a : Addr) (i : Int), x = .ref a ∧ y = .int i ∧ (i = 0 ∨ i = 1 ∨ i = 2) ∧ Strm H a ∧ ∀ z : Int, Q (.int z) H
theorem ix_strm : IxR X rIxM := by
  intro value slice pins s σ H x y v u Q I rx ry h hs
  obtain ⟨a, i, rfl, rfl, hi, hS, q⟩ := h
  obtain ⟨x0, x1, x2, J⟩ := strm_show I hS
  have back : ∀ {w' : Value} {s' : Shared}, EP X pins σ (fun z H' => H' = upd H a (.lst [.int x0, .int x1, .int x2]) ∧ ∃ n, z = .int n) w' s' → EP X pins σ Q w' s' := by
    rintro w' s' ⟨z, H', I', r', rfl, n, rfl⟩
    have I2 := strm_hide I' upd_same
    rw [upd_back hS] at I2
    exact ⟨.int n, H, I2, r', q n⟩
  refine thn (ix_list value slice pins s σ _ (.ref a) (.int i) v u (fun z H' => H' = upd H a (.lst [.int x0, .int x1, .int x2]) ∧ ∃ n, z = .int n) J rx ry ?_ hs) fun w' s' h => back h
  rcases hi with rfl | rfl | rfl
  · exact ⟨a, _, 0, .int x0, rfl, rfl, SqL.of upd_same, rfl, rfl, _, rfl⟩
  · exact ⟨a, _, 1, .int x1, rfl, rfl, SqL.of upd_same, rfl, rfl, _, rfl⟩
  · exact ⟨a, _, 2, .int x2, rfl, rfl, SqL.of upd_same, rfl, rfl, _, rfl⟩
/-- storing into it -/
def rSetM : V → V → V → Hp → (Hp → Prop) → Prop := fun o i v H Q => ∃ (a : Addr) (k z : Int), o = .ref a ∧ i = .int k ∧ v = .int z ∧ (k = 0 ∨ k = 1 ∨ k = 2) ∧ Strm H a ∧ Q H
theorem set_strm : PSet X rSetM := by
  intro pins s σ H o i v ov iv u Q I ro ri rv h
  obtain ⟨a, k, z, rfl, rfl, rfl, hk, hS, q⟩ := h
  obtain ⟨x0, x1, x2, J⟩ := strm_show I hS
  refine thn (set_list pins s σ _ (.ref a) (.int k) (.int z) ov iv u (fun H' => ∃ y0 y1 y2 : Int, H' = upd H a (.lst [.int y0, .int y1, .int y2])) J ro ri rv ?_) fun _ s' h => ?_
  · rcases hk with rfl | rfl | rfl
    · exact ⟨a, _, 0, 0, rfl, rfl, upd_same, rfl, z, x1, x2, upd_upd⟩
    · exact ⟨a, _, 1, 1, rfl, rfl, upd_same, rfl, x0, z, x2, upd_upd⟩
    · exact ⟨a, _, 2, 2, rfl, rfl, upd_same, rfl, x0, x1, z, upd_upd⟩
  · obtain ⟨H', I', y0, y1, y2, rfl⟩ := h
    have I2 := strm_hide I' upd_same
    rw [upd_back hS] at I2
    exact ⟨H, I2, q⟩
/-- a list of three numbers just made, from here on a stream -/
def tHide (te : TE) : TE := fun σ H Q => te σ H fun v H1 => ∃ (a : Addr) (x0 x1 x2 : Int), v = .ref a ∧ H1 a = some (.lst [.int x0, .int x1, .int x2]) ∧ Q v (upd H1 a (.ext (phiS a)))
theorem pe_hide {e : Expr} {te : TE} (h : PE X e te) : PE X e (tHide te) := by
  refine ⟨fun pins s σ H Q I hw => thn (h.run pins s σ H _ I hw) fun v s1 ⟨x, H1, I1, r, q⟩ => ?_⟩
  obtain ⟨a, x0, x1, x2, rfl, e, q⟩ := q
  exact ⟨.ref a, _, strm_hide I1 e, r, q⟩

/-! ### repr of data, sum of a tuple -/
def rRepr (K : PySem.W.Frag) : List V → Hp → VK → Prop := fun xs H Q => ∃ (a : Addr) (d : PyData), xs = [.ref a] ∧ Dp K H (.ref a) d ∧ d.showable = true ∧ d.hasDict = false ∧ d.depth < 50 ∧ d.shown.length ≤ sizeLine ∧ Q (.str d.shown) H
theorem call_reprD (hg : X.A.guards = some []) (hu : X.A.units + 64 < cLine) : CallR X (.builtin "repr") (rRepr X.K) := by
  intro pins s σ H vs us Q I r h
  obtain ⟨a, d, rfl, hd, h1, h2, h3, h4, q⟩ := h
  rw [Vals.ref1 r]
  obtain ⟨as, rd⟩ := Dp.reads I d (.ref a) (.ref a) hd rfl
  refine repr_of_reads' rd h1 (fun e => by rw [h2] at e; cases e) hg (by omega) (fun _ _ e => e) (fun h' u tk hk => ?_) h4
  exact ⟨.str d.shown, H, I.kept hk, ⟨_, rfl⟩, q⟩
def rSumT (K : PySem.W.Frag) : List V → Hp → VK → Prop := fun vs H Q => ∃ (a : Addr) (ns : List Int), vs = [V.ref a] ∧ SqT K H a (ns.map V.int) ∧ Q (.int ns.sum) H
theorem cr_sumT (hc : X.calm = true) : CallR X (.builtin "sum") (rSumT X.K) := by
  intro pins s σ H vs us Q I r h
  obtain ⟨a, ns, rfl, hs, q⟩ := h
  obtain ⟨its, rv, hl, _⟩ := I.tuple hs
  rw [Vals.ref1 r]
  have hi := rv.ints
  obtain ⟨xs, hx⟩ := hi.allInts.items
  have hn : numsOf its.toArray.toList = ns := by rw [show its.toArray.toList = its from rfl, hi.numsOf]
  rw [hx] at hl hn
  rw [nums_intItems] at hn
  refine PySem.W.ktm_sumG (I.ok.hd hc) hl fun h' tk t' hk => ?_
  rw [preSum_eq, List.take_of_length_le (by simp), hn]
  exact ⟨.int _, H, I.kept hk, ⟨_, rfl⟩, q⟩
end
end
section

/-! ### a def with its promise -/
structure Kd (P : Program) (w : World) (K : PySem.W.Frag) (mg : Str → Option Value) (base : Heap) (x : Str) (ps : List Str) (k : Nat) (sp : Sp) : Prop where
  ex : ∃ (f : Addr) (fd : FuncData), FnOk P w K mg base CX0 k f fd ps sp ∧ mg x = some (.ref f) ∧ PySem.W.keepIn K (.ref f) = true ∧ Binds K fd ps []
/-- where a def of the text stands -/
structure Df (K : PySem.W.Frag) (mg : Str → Option Value) (x : Str) (st : Stmt) (ps : List Str) : Prop where
  ex : ∃ (f : Addr) (fd : FuncData), Fun K x x st f fd ∧ mg x = some (.ref f) ∧ Binds K fd ps []
section
variable {P : Program} {w : World} {K : PySem.W.Frag} {mg : Str → Option Value} {base : Heap}
theorem Kd.mono {x : Str} {ps : List Str} {k j : Nat} {sp : Sp} (D : Kd P w K mg base x ps k sp) (h : k ≤ j) : Kd P w K mg base x ps j sp := by
  obtain ⟨f, fd, F, g, kp, b⟩ := D.ex
  exact ⟨f, fd, F.mono h, g, kp, b⟩
theorem kd_of {x : Str} {st : Stmt} {N ps : List Str} {k : Nat} {sp : Sp} (D : Df K mg x st ps) (S : FnScope N ps (defScope st)) (len : ∀ vs H Q E, sp vs H Q E → vs.length = ps.length)
    (hbody : ∀ (f : Addr) (cdv : Value) (A : Around) (outer : List Env) (s : Shared) (H : Hp) (vs : List V) (Q : VK) (E : XK), Room k (A.deeper (envOfC x (defScope st) s.heap.objs.size f cdv)) → sp vs H Q E →
      ∃ t, PSs (cxOf CX0 P w K mg base N x (defScope st) f cdv A outer s H E).nox (defBody st) t ∧ t { nx := fun _ H' => Q .non H', rt := Q } (start N vs) H) : Kd P w K mg base x ps (k + 1) sp := by
  obtain ⟨f, fd, F, g, b⟩ := D.ex
  exact ⟨f, fd, F.ok S len (hbody f), g, F.kp, b⟩
end
section
variable {X : Cx} {k : Nat} {ps : List Str} {sp : Sp} {x : Str} {p pos : Pos} {e : Expr} {es : List Expr} {t : TA}
theorem pe_kd (D : Kd X.prog X.w X.K X.mg X.base x ps k sp) (hr : Room k X.A) (hg : Gl X x) (ha : PA X (e :: es) t) (hdb : (x == ("__debug__" : Str)) = false := by decide)
    (he : starEach (e :: es) X.env = (false, eval e X.env) :: starEach es X.env := by rfl) (hpl : (backTo pos (starEach es X.env)).any (·.1) = false := by rfl) : PE X (.Call (.Name x p) (e :: es) [] pos) (tCall sp [] E0 t) := by
  obtain ⟨f, fd, F, g, kp, b⟩ := D.ex
  exact pe_call F hr hg g kp b .nil pass0 ha hdb he hpl
end

/-! ### named readings -/
section
variable {X : Cx}
def rLenQ (K : PySem.W.Frag) : List V → Hp → VK → Prop := fun xs H Q => ∃ p ys, xs = [.ref p] ∧ (SqL K H p ys ∨ SqT K H p ys) ∧ Q (.int ys.length) H
theorem n_len : CallR X (.builtin "len") (rLenQ X.K) := call_len_seq
def rInt1 : List V → Hp → VK → Prop := fun xs H Q => (∃ i, xs = [.int i] ∧ Q (.int i) H) ∨ ∃ k, xs = [.bl k] ∧ Q (.int (if k then 1 else 0)) H
theorem n_int : CallR X (.type "int") rInt1 := call_int1
def rMin2 : List V → Hp → VK → Prop := fun xs H Q => ∃ i j, xs = [.int i, .int j] ∧ Q (.int (if j < i then j else i)) H
theorem n_min2 (hc : X.calm = true) : CallR X (.builtin "min") rMin2 := call_min2 hc
def rMax2 : List V → Hp → VK → Prop := fun xs H Q => ∃ i j, xs = [.int i, .int j] ∧ Q (.int (if j > i then j else i)) H
theorem n_max2 (hc : X.calm = true) : CallR X (.builtin "max") rMax2 := call_max2 hc
def rListOf (K : PySem.W.Frag) : List V → Hp → VK → Prop := fun xs H Q => ∃ p ys, xs = [.ref p] ∧ (SqL K H p ys ∨ SqT K H p ys) ∧ ∀ l, H l = none → Q (.ref l) (upd H l (.lst ys))
theorem n_list_of : CallR X (.type "list") (rListOf X.K) := call_list_of
def rTupOf (K : PySem.W.Frag) : List V → Hp → VK → Prop := fun xs H Q => ∃ p ys, xs = [.ref p] ∧ ((SqL K H p ys ∧ ∀ l, H l = none → Q (.ref l) (upd H l (.tup ys))) ∨ (SqT K H p ys ∧ Q (.ref p) H))
theorem n_tup_of : CallR X (.type "tuple") (rTupOf X.K) := call_tuple_of
theorem n_lenK {K : PySem.W.Frag} (h : X.K = K) : CallR X (.builtin "len") (rLenQ K) := h ▸ n_len
theorem n_list_ofK {K : PySem.W.Frag} (h : X.K = K) : CallR X (.type "list") (rListOf K) := h ▸ n_list_of
theorem n_tup_ofK {K : PySem.W.Frag} (h : X.K = K) : CallR X (.type "tuple") (rTupOf K) := h ▸ n_tup_of
theorem ix_listK {K : PySem.W.Frag} (h : X.K = K) : IxR X (rIxL K) := h ▸ ix_list
theorem ix_tupK {K : PySem.W.Frag} (h : X.K = K) : IxR X (rIxT K) := h ▸ ix_tup
theorem pi_listK {K : PySem.W.Frag} (h : X.K = K) {tg l : Expr} {tl : TE} (hl : PE X l tl) : PI X tg l (iList K tl) := h ▸ pi_list hl
theorem pi_tupK {K : PySem.W.Frag} (h : X.K = K) {tg l : Expr} {tl : TE} (hl : PE X l tl) : PI X tg l (iTup K tl) := h ▸ pi_tup hl
theorem op_in_seqK {K : PySem.W.Frag} (h : X.K = K) : OpR X (compareOp .In) (rIn K false) := h ▸ op_in_seq
theorem op_notIn_seqK {K : PySem.W.Frag} (h : X.K = K) : OpR X (compareOp .NotIn) (rIn K true) := h ▸ op_notIn_seq
theorem sl_listK {K : PySem.W.Frag} (h : X.K = K) : SlR X (rSlL K) := h ▸ sl_list
theorem sl_tupAK {K : PySem.W.Frag} (h : X.K = K) : SlR X (rSlA K) := h ▸ sl_tupA
theorem op_catAK {K : PySem.W.Frag} (h : X.K = K) : OpR X (binaryOp .Add) (rCatA K) := h ▸ op_catA
theorem op_eqDK {K : PySem.W.Frag} (h : X.K = K) (hu : X.A.units + 64 < cLine) : OpR X (compareOp .Eq) (rEqD K) := h ▸ op_eqD hu
theorem op_neDK {K : PySem.W.Frag} (h : X.K = K) (hu : X.A.units + 64 < cLine) : OpR X (compareOp .NotEq) (rNeD K) := h ▸ op_neD hu
theorem cr_sumK {K : PySem.W.Frag} (h : X.K = K) (hc : X.calm = true) : CallR X (.builtin "sum") (rSum K) := h ▸ cr_sum hc
theorem cr_sumTK {K : PySem.W.Frag} (h : X.K = K) (hc : X.calm = true) : CallR X (.builtin "sum") (rSumT K) := h ▸ cr_sumT hc
theorem cr_sortedK {K : PySem.W.Frag} (h : X.K = K) : CallR X (.builtin "sorted") (rSorted K) := h ▸ cr_sorted
theorem mt_indexK {K : PySem.W.Frag} (h : X.K = K) : MtR X "list.index" (rIndex K) := h ▸ mt_index
theorem call_isiK2 {K : PySem.W.Frag} (h : X.K = K) : CallR X (.builtin "isinstance") (rIsi K) := h ▸ call_isi
theorem pg_tupK {K : PySem.W.Frag} (h : X.K = K) {pos : Pos} {es : List Expr} {k : Nat} {t : TGs} {n : Nat} (hc : X.calm = true) (g : PGs X es t)
    (hn : (assignEach es X.env).length = n := by rfl) (hst : (assignEach es X.env).findIdx? (·.1) = none := by rfl) : PG X (.Tuple es k pos) (gTup K n t) := h ▸ pg_tup hc g hn hst
theorem pg_unlK {K : PySem.W.Frag} (h : X.K = K) {pos : Pos} {es : List Expr} {k : Nat} {t : TGs} {n : Nat} (hc : X.calm = true) (g : PGs X es t)
    (hn : (assignEach es X.env).length = n := by rfl) (hst : (assignEach es X.env).findIdx? (·.1) = none := by rfl) : PG X (.Tuple es k pos) (gUnl K n t) := h ▸ pg_unl hc g hn hst
theorem pe_revLK {K : PySem.W.Frag} (h : X.K = K) {e : Expr} {te : TE} {k : Nat} {p1 p2 p3 pos : Pos} (he : PE X e te) : PE X (.Subscript e (.Slice none none (some (.UnaryOp .USub (.Constant (.int 1) k p1) p2)) p3) pos) (tRevL K te) := h ▸ pe_revL he
theorem pe_bmK {K : PySem.W.Frag} (h : X.K = K) {T : String} {name : Str} {r : V → List V → Hp → VK → Prop} {o e : Expr} {es : List Expr} {to : TE} {t : TA} {pos apos : Pos} (b : PE X (.Call (.Attribute o name apos) (e :: es) [] pos) (tBM X.K T r to t)) : PE X (.Call (.Attribute o name apos) (e :: es) [] pos) (tBM K T r to t) := h ▸ b
theorem pe_bm0K {K : PySem.W.Frag} (h : X.K = K) {T : String} {name : Str} {r : V → List V → Hp → VK → Prop} {o : Expr} {to : TE} {pos apos : Pos} (b : PE X (.Call (.Attribute o name apos) [] [] pos) (tBM0 X.K T r to)) : PE X (.Call (.Attribute o name apos) [] [] pos) (tBM0 K T r to) := h ▸ b
def rIsNn : R2 := fun x y H Q => y = .non ∧ Q (.bl (decide (x = .non))) H
theorem n_isN : OpR X (compareOp .Is) rIsNn := op_isN
end

/-! ### heaps -/
theorem Same.lk {H H' : Hp} {a : Addr} {o : HO} (s : Same H H') (h : H a = some o) : H' a = some o := s a o h
theorem same_new {H : Hp} {p : Addr} {o : HO} (h : H p = none) : Same H (upd H p o) := fun b u e => by
  rw [upd_ne (ne_of_none e h)]
  exact e
/-- an object that S does not know may change -/
theorem same_mut {S H : Hp} {p : Addr} {o : HO} (s : Same S H) (h : S p = none) : Same S (upd H p o) := fun b u e => by
  rw [upd_ne (ne_of_none e h)]
  exact s b u e
theorem fresh_of {H H' : Hp} {p : Addr} (s : Same H H') (h : H' p = none) : H p = none := s.free h
/-- what stands still grows: all that is new in H' beside what S knows -/
theorem grow {S H H' : Hp} (s : Same S H) (h : Same H H') : ∃ S', Same S S' ∧ Same S' H' ∧ (∀ q o, H q = none → H' q = some o → S' q = some o) ∧ ∀ l o, S l = none → H l = some o → S' l = none := by
  refine ⟨fun a => if S a = none ∧ H a ≠ none then none else H' a, fun b o e => ?_, fun b o e => ?_, fun q o e1 e2 => ?_, fun l o e1 e2 => ?_⟩
  · show (if S b = none ∧ H b ≠ none then none else H' b) = some o
    rw [if_neg (fun z => by rw [e] at z; cases z.1)]
    exact h b o (s b o e)
  · have e' : (if S b = none ∧ H b ≠ none then none else H' b) = some o := e
    split at e'
    · cases e'
    · exact e'
  · show (if S q = none ∧ H q ≠ none then none else H' q) = some o
    rw [if_neg (fun z => z.2 e1)]
    exact e2
  · show (if S l = none ∧ H l ≠ none then none else H' l) = none
    rw [if_pos ⟨e1, by rw [e2]; simp⟩]

/-! ### arguments, weakened -/
def mA (t : TA) : TA := fun σ H Q => ∃ Q' : List V → Hp → Prop, t σ H Q' ∧ ∀ xs H, Q' xs H → Q xs H
theorem pa_m {X : Cx} {es : List Expr} {t : TA} (h : PA X es t) : PA X es (mA t) := by
  refine ⟨fun pos pins s σ H Q I hw => ?_⟩
  obtain ⟨Q', hw, m⟩ := hw
  exact thn (h.run pos pins s σ H Q' I hw) fun us s1 ⟨vs, H1, I1, r, q⟩ => ⟨vs, H1, I1, r, m vs H1 q⟩

/-! ### steps of a reading -/
section
variable {K : PySem.W.Frag} {σ : L2.St} {H : Hp} {Q : VK} {D : Ends} {ta tb te : TE} {tr : TA} {v x y : V} {i : Nat} {r : R2} {t u : TS} {c : TT}
theorem x_var (h : σ[i]? = some (some v)) (k : Q v H) : tVar i σ H Q := ⟨v, h, k⟩
theorem x_c (k : Q v H) : tC v σ H Q := k
theorem x_op (k : ta σ H fun x H1 => tb σ H1 fun y H2 => r x y H2 Q) : tOp r ta tb σ H Q := k
theorem x_un {ru : V → Hp → VK → Prop} (k : ta σ H fun x H1 => ru x H1 Q) : tUn ru ta σ H Q := k
theorem x_nil {Q : List V → Hp → Prop} (k : Q [] H) : tNil σ H Q := k
theorem x_cons {Q : List V → Hp → Prop} (k : ta σ H fun x H1 => tr σ H1 fun xs H2 => Q (x :: xs) H2) : tCons ta tr σ H Q := k
theorem x_cb {rc : List V → Hp → VK → Prop} (k : tr σ H fun vs H1 => rc vs H1 Q) : tCB rc tr σ H Q := k
theorem x_call {sp : Sp} (k : tr σ H fun vs H1 => sp vs H1 Q E0) : tCall sp [] E0 tr σ H Q := by
  show tr σ H fun vs H1 => sp (vs ++ []) H1 Q E0
  simp only [List.append_nil]
  exact k
theorem x_tup (k : tr σ H fun xs H1 => xs.length ≤ sizeLine ∧ ∀ p H', H1 p = none → Same H1 H' → H' p = some (.tup xs) → Q (.ref p) H') : tTup (mA tr) σ H Q := ⟨_, k, fun xs H1 h => ⟨h.1, fun p hp => h.2 p _ hp (same_new hp) upd_same⟩⟩
theorem x_lst (k : tr σ H fun xs H1 => xs.length ≤ sizeLine ∧ ∀ p H', H1 p = none → Same H1 H' → H' p = some (.lst xs) → Q (.ref p) H') : tLst (mA tr) σ H Q := ⟨_, k, fun xs H1 h => ⟨h.1, fun p hp => h.2 p _ hp (same_new hp) upd_same⟩⟩
theorem x_seq (k : t { D with nx := u D } σ H) : tSeq t u D σ H := k
theorem x_asg {g : TG} (k : te σ H fun x H1 => g x σ H1 D.nx) : tAsg te g D σ H := k
theorem x_name {Q : L2.St → Hp → Prop} (k : Q (σ.set i (some v)) H) : gName i v σ H Q := k
theorem x_name2 {σ' : L2.St} {Q : L2.St → Hp → Prop} (e : σ.set i (some v) = σ') (k : Q σ' H) : gName i v σ H Q := by
  subst e
  exact k
theorem set0 {α : Type} {a x : α} {as : List α} : (a :: as).set 0 x = x :: as := rfl
theorem setS {α : Type} {a x : α} {n : Nat} {as as' : List α} (h : as.set n x = as') : (a :: as).set (n + 1) x = a :: as' := by
  subst h
  rfl
theorem st_lit {σ' : L2.St} (e : σ = σ') (k : t D σ' H) : t D σ H := by
  subst e
  exact k
theorem x_par {i j : Nat} {ta : TA} {D : Ends} {σ : L2.St} {H : Hp} (k : ta σ H fun vs H1 => ∃ v w, vs = [v, w] ∧ D.nx ((σ.set i (some v)).set j (some w)) H1) : tPar i j ta D σ H := k
theorem x_gtup {K : PySem.W.Frag} {H : Hp} {n : Nat} {t : TGs} {σ : L2.St} {a : Addr} {xs : List V} {Q : L2.St → Hp → Prop} (h : H a = some (.tup xs)) (hl : xs.length = n) (k : t xs σ H Q) : gTup K n t (.ref a) σ H Q := ⟨a, xs, rfl, SqT.of h, hl, k⟩
theorem x_gcons {t : TG} {u : TGs} {v : V} {r : List V} {σ : L2.St} {H : Hp} {Q : L2.St → Hp → Prop} (k : t v σ H fun σ' H' => u r σ' H' Q) : gCons t u (v :: r) σ H Q := ⟨v, r, rfl, k⟩
theorem x_gnil {σ : L2.St} {H : Hp} {Q : L2.St → Hp → Prop} (k : Q σ H) : gNil [] σ H Q := ⟨rfl, k⟩
theorem x_ret (k : te σ H D.rt) : tRet te D σ H := k
theorem x_retN (k : D.rt .non H) : tRetN D σ H := k
theorem x_next (k : D.nx σ H) : tNext D σ H := k
theorem x_if (k : c σ H fun b H1 => if b = true then t D σ H1 else u D σ H1) : tIfS c t u D σ H := k
theorem x_drop (k : te σ H fun _ H1 => D.nx σ H1) : tDrop te D σ H := k
theorem x_test {Q : Bool → Hp → Prop} (k : te σ H fun x H1 => ∃ b, x = .bl b ∧ Q b H1) : tTest te σ H Q := k
theorem x_tB {Q : Bool → Hp → Prop} (k : te σ H fun x H1 => ∃ b, x = .bl b ∧ Q b H1) : tB te σ H Q := k
theorem x_bl {b : Bool} {R : Bool → Prop} (k : R b) : ∃ d, V.bl b = .bl d ∧ R d := ⟨b, rfl, k⟩
theorem x_notT {Q : Bool → Hp → Prop} (k : c σ H fun b H1 => Q (!b) H1) : tNot c σ H Q := k
theorem x_and {c d : TT} {Q : Bool → Hp → Prop} (k : c σ H fun b H1 => if b = true then d σ H1 Q else Q false H1) : tAnd c d σ H Q := k
theorem x_or {c d : TT} {Q : Bool → Hp → Prop} (k : c σ H fun b H1 => if b = true then Q true H1 else d σ H1 Q) : tOr c d σ H Q := k
theorem x_rI0 {g : Int → Int → V} {i j : Int} (k : Q (g i j) H) : rI0 g (.int i) (.int j) H Q := ⟨i, j, rfl, rfl, k⟩
theorem x_rI {C : Int → Int → Prop} {g : Int → Int → V} {i j : Int} (hc : C i j) (k : Q (g i j) H) : rI C g (.int i) (.int j) H Q := ⟨i, j, rfl, rfl, hc, k⟩
theorem x_rU {g : Int → V} {i : Int} (k : Q (g i) H) : rU g (.int i) H Q := ⟨i, rfl, k⟩
theorem x_eq (h : scal x y = true) (k : Q (.bl (decide (x = y))) H) : rEq x y H Q := ⟨h, k⟩
theorem x_ne (h : scal x y = true) (k : Q (.bl (!decide (x = y))) H) : rNe x y H Q := ⟨h, k⟩
theorem x_isN (k : Q (.bl (decide (x = .non))) H) : rIsNn x .non H Q := ⟨rfl, k⟩
theorem x_ixL {p : Addr} {xs : List V} {i : Int} (h : H p = some (.lst xs)) (ha : atI xs i = some v) (k : Q v H) : rIxL K (.ref p) (.int i) H Q := ⟨p, xs, i, v, rfl, rfl, SqL.of h, ha, k⟩
theorem x_ixT {p : Addr} {xs : List V} {i : Int} (h : H p = some (.tup xs)) (ha : atI xs i = some v) (k : Q v H) : rIxT K (.ref p) (.int i) H Q := ⟨p, xs, i, v, rfl, rfl, SqT.of h, ha, k⟩
theorem x_ixM {p : Addr} {i : Int} (h : Strm H p) (hi : i = 0 ∨ i = 1 ∨ i = 2) (k : ∀ z : Int, Q (.int z) H) : rIxM (.ref p) (.int i) H Q := ⟨p, i, rfl, rfl, hi, h, k⟩
theorem x_lenL {p : Addr} {xs : List V} (h : H p = some (.lst xs)) (k : Q (.int xs.length) H) : rLenQ K [.ref p] H Q := ⟨p, xs, rfl, .inl (SqL.of h), k⟩
theorem x_lenT {p : Addr} {xs : List V} (h : H p = some (.tup xs)) (k : Q (.int xs.length) H) : rLenQ K [.ref p] H Q := ⟨p, xs, rfl, .inr (SqT.of h), k⟩
theorem x_int {i : Int} (k : Q (.int i) H) : rInt1 [.int i] H Q := .inl ⟨i, rfl, k⟩
theorem x_intB {b : Bool} (k : Q (.int (if b then 1 else 0)) H) : rInt1 [.bl b] H Q := .inr ⟨b, rfl, k⟩
theorem x_min {i j : Int} (k : Q (.int (if j < i then j else i)) H) : rMin2 [.int i, .int j] H Q := ⟨i, j, rfl, k⟩
theorem x_max {i j : Int} (k : Q (.int (if j > i then j else i)) H) : rMax2 [.int i, .int j] H Q := ⟨i, j, rfl, k⟩
theorem x_listL {p : Addr} {xs : List V} (h : H p = some (.lst xs)) (k : ∀ l H', H l = none → Same H H' → H' l = some (.lst xs) → Q (.ref l) H') : rListOf K [.ref p] H Q := ⟨p, xs, rfl, .inl (SqL.of h), fun l hl => k l _ hl (same_new hl) upd_same⟩
theorem x_tupL {p : Addr} {xs : List V} (h : H p = some (.lst xs)) (k : ∀ l H', H l = none → Same H H' → H' l = some (.tup xs) → Q (.ref l) H') : rTupOf K [.ref p] H Q := ⟨p, xs, rfl, .inl ⟨SqL.of h, fun l hl => k l _ hl (same_new hl) upd_same⟩⟩
theorem x_setL {p : Addr} {xs : List V} {k : Int} {j : Nat} {Q : Hp → Prop} (h : H p = some (.lst xs)) (hj : ixN xs.length k = some j) (q : Q (upd H p (.lst (xs.set j v)))) : rSetL (.ref p) (.int k) v H Q := ⟨p, xs, k, j, rfl, rfl, h, hj, q⟩
theorem x_setM {p : Addr} {k z : Int} {Q : Hp → Prop} (h : Strm H p) (hk : k = 0 ∨ k = 1 ∨ k = 2) (q : Q H) : rSetM (.ref p) (.int k) (.int z) H Q := ⟨p, k, z, rfl, rfl, rfl, hk, h, q⟩
theorem x_sub {to ti : TE} {ts : TSet} {Q : L2.St → Hp → Prop} (k : to σ H fun o H1 => ti σ H1 fun i H2 => ts o i v H2 fun H3 => Q σ H3) : gSub to ti ts v σ H Q := k
theorem x_cat {p q : Addr} {xs zs : List V} (h1 : H p = some (.lst xs)) (h2 : H q = some (.lst zs)) (hl : xs.length + zs.length ≤ sizeLine) (k : ∀ l H', H l = none → Same H H' → H' l = some (.lst (xs ++ zs)) → Q (.ref l) H') : rCat (.ref p) (.ref q) H Q :=
  ⟨p, q, xs, zs, rfl, rfl, h1, h2, hl, fun l hl => k l _ hl (same_new hl) upd_same⟩
/-- tuples joined: the value is a tuple that holds both -/
theorem x_catA {p q : Addr} {xs zs : List V} (h1 : H p = some (.tup xs)) (h2 : H q = some (.tup zs)) (hl : xs.length + zs.length ≤ sizeLine) (k : ∀ l H', Same H H' → (∀ a, H' a = H a ∨ (H a = none ∧ a = l)) → H' l = some (.tup (xs ++ zs)) → Q (.ref l) H') : rCatA K (.ref p) (.ref q) H Q := by
  refine ⟨p, q, xs, zs, rfl, rfl, SqT.of h1, SqT.of h2, hl, fun e => ?_, fun _ e => ?_, fun _ _ l hn => ?_⟩
  · subst e
    exact k q H (Same.refl H) (fun _ => .inl rfl) (by rw [List.nil_append]; exact h2)
  · subst e
    exact k p H (Same.refl H) (fun _ => .inl rfl) (by rw [List.append_nil]; exact h1)
  · refine k l _ (same_new hn) (fun a => ?_) upd_same
    by_cases e : a = l
    · exact .inr ⟨by rw [e]; exact hn, e⟩
    · exact .inl (upd_ne e)
theorem x_slL {p : Addr} {xs : List V} {lo hi : Option Int} (h : H p = some (.lst xs)) (k : ∀ l H', H l = none → Same H H' → H' l = some (.lst (cutV xs lo hi)) → Q (.ref l) H') : rSlL K (.ref p) lo hi H Q := ⟨p, xs, rfl, SqL.of h, fun l hl => k l _ hl (same_new hl) upd_same⟩
theorem x_slA {p : Addr} {xs : List V} {lo hi : Option Int} (h : H p = some (.tup xs)) (k : ∀ l H', Same H H' → (∀ a, H' a = H a ∨ (H a = none ∧ a = l)) → H' l = some (.tup (cutV xs lo hi)) → Q (.ref l) H') : rSlA K (.ref p) lo hi H Q := by
  refine ⟨p, xs, rfl, SqT.of h, fun e => ?_, fun _ l hn => ?_⟩
  · refine k p H (Same.refl H) (fun _ => .inl rfl) ?_
    have : cutV xs lo hi = xs := by
      unfold cutV
      rw [e.1, e.2]
      simp
    rw [this]
    exact h
  · refine k l _ (same_new hn) (fun a => ?_) upd_same
    by_cases e : a = l
    · exact .inr ⟨by rw [e]; exact hn, e⟩
    · exact .inl (upd_ne e)
theorem x_sl {rs : V → Option Int → Option Int → Hp → VK → Prop} {tl th : TO} (k : te σ H fun x H1 => tl σ H1 fun l H2 => th σ H2 fun u H3 => rs x l u H3 Q) : tSl rs te tl th σ H Q := k
theorem x_noP {Q : Option Int → Hp → Prop} (k : Q none H) : tNoPart σ H Q := k
theorem x_part {Q : Option Int → Hp → Prop} (k : te σ H fun x H1 => ∃ i, x = .int i ∧ Q (some i) H1) : tPart te σ H Q := k
theorem x_pi {i : Int} {R : Int → Prop} (k : R i) : ∃ j, V.int i = .int j ∧ R j := ⟨i, rfl, k⟩
theorem x_bm {T : String} {rm : V → List V → Hp → VK → Prop} {to : TE} (k : to σ H fun x H1 => tyV K T x H1 ∧ tr σ H1 fun xs H2 => rm x xs H2 Q) : tBM K T rm to tr σ H Q := k
theorem x_tyL {p : Addr} {xs : List V} {R : Prop} (h : H p = some (.lst xs)) (k : R) : tyV K "list" (.ref p) H ∧ R := ⟨.inl ⟨rfl, _, SqL.of h⟩, k⟩
theorem x_app {p : Addr} {xs : List V} (h : H p = some (.lst xs)) (hl : xs.length < sizeLine) (k : Q .non (upd H p (.lst (xs ++ [y])))) : rAppend (.ref p) [y] H Q := ⟨p, xs, y, rfl, rfl, h, hl, k⟩
theorem x_ext {p q : Addr} {xs zs : List V} (h : H p = some (.lst xs)) (h2 : H q = some (.lst zs)) (hl : xs.length + zs.length ≤ sizeLine) (k : Q .non (upd H p (.lst (xs ++ zs)))) : rExtend (.ref p) [.ref q] H Q := ⟨p, q, xs, zs, rfl, rfl, h, h2, hl, k⟩
theorem x_yes {Q : Bool → Hp → Prop} (k : Q true H) : tYes σ H Q := k
theorem x_ite {A B : Prop} {p : Prop} [Decidable p] (h1 : p → A) (h2 : ¬ p → B) : if decide p = true then A else B := by
  by_cases h : p
  · rw [if_pos (decide_eq_true h)]
    exact h1 h
  · rw [if_neg (by simpa using h)]
    exact h2 h
theorem x_iteN {A B : Prop} {p : Prop} [Decidable p] (h1 : ¬ p → A) (h2 : p → B) : if (!decide p) = true then A else B := by
  by_cases h : p
  · rw [if_neg (by simpa using h)]
    exact h2 h
  · rw [if_pos (by simpa using h)]
    exact h1 h
theorem x_T {A B : Prop} (h : A) : if true = true then A else B := by rw [if_pos rfl]; exact h
theorem x_F {A B : Prop} (h : B) : if false = true then A else B := by rw [if_neg Bool.false_ne_true]; exact h
theorem x_nT {A B : Prop} (h : B) : if (!true) = true then A else B := x_F h
theorem x_nF {A B : Prop} (h : A) : if (!false) = true then A else B := x_T h
theorem x_b {A B : Prop} {b : Bool} (h1 : b = true → A) (h2 : b = false → B) : if b = true then A else B := by
  cases b
  · exact x_F (h2 rfl)
  · exact x_T (h1 rfl)
end
end
section
/-! ### the text by places -/
def topS (i : Nat) : Stmt := PySem.Challenge.pw_coverpapers_k21_whole_notes_are_judged.main.body.getD i (.Pass ⟨0, 0, 0, 0⟩)
abbrev s_place_of : Stmt := topS 4
theorem sc_place_of : FnScope ["move"] ["move"] (defScope s_place_of) := ⟨rfl, rfl, rfl, by decide +kernel, rfl, by decide +kernel, by decide +kernel⟩
abbrev s_list_with : Stmt := topS 6
theorem sc_list_with : FnScope ["family", "index", "number"] ["family", "index"] (defScope s_list_with) := ⟨rfl, rfl, rfl, by decide +kernel, rfl, by decide +kernel, by decide +kernel⟩
abbrev s_exchanged : Stmt := topS 7
theorem sc_exchanged : FnScope ["indexes", "place", "result", "index"] ["indexes", "place"] (defScope s_exchanged) := ⟨rfl, rfl, rfl, by decide +kernel, rfl, by decide +kernel, by decide +kernel⟩
abbrev s_tail_from : Stmt := topS 8
theorem sc_tail_from : FnScope ["indexes", "index"] ["indexes", "index"] (defScope s_tail_from) := ⟨rfl, rfl, rfl, by decide +kernel, rfl, by decide +kernel, by decide +kernel⟩
abbrev s_head_before : Stmt := topS 9
theorem sc_head_before : FnScope ["indexes", "index"] ["indexes", "index"] (defScope s_head_before) := ⟨rfl, rfl, rfl, by decide +kernel, rfl, by decide +kernel, by decide +kernel⟩
abbrev s_carried : Stmt := topS 10
theorem sc_carried : FnScope ["move", "family", "place", "both", "result", "head", "tail", "witness", "middle", "other", "other_head", "other_tail", "indexes"] ["move", "family"] (defScope s_carried) := ⟨rfl, rfl, rfl, by decide +kernel, rfl, by decide +kernel, by decide +kernel⟩
abbrev s_shape_of : Stmt := topS 12
theorem sc_shape_of : FnScope ["table", "row"] ["table"] (defScope s_shape_of) := ⟨rfl, rfl, rfl, by decide +kernel, rfl, by decide +kernel, by decide +kernel⟩
abbrev s_row_length : Stmt := topS 13
theorem sc_row_length : FnScope ["shape", "row"] ["shape", "row"] (defScope s_row_length) := ⟨rfl, rfl, rfl, by decide +kernel, rfl, by decide +kernel, by decide +kernel⟩
abbrev s_with_letter : Stmt := topS 14
theorem sc_with_letter : FnScope ["table", "cell", "letter", "row"] ["table", "cell", "letter"] (defScope s_with_letter) := ⟨rfl, rfl, rfl, by decide +kernel, rfl, by decide +kernel, by decide +kernel⟩
abbrev s_first_greater : Stmt := topS 16
theorem sc_first_greater : FnScope ["row", "letter", "low", "high", "middle"] ["row", "letter"] (defScope s_first_greater) := ⟨rfl, rfl, rfl, by decide +kernel, rfl, by decide +kernel, by decide +kernel⟩
abbrev s_insert_into_row : Stmt := topS 17
theorem sc_insert_into_row : FnScope ["row", "letter", "index"] ["row", "letter"] (defScope s_insert_into_row) := ⟨rfl, rfl, rfl, by decide +kernel, rfl, by decide +kernel, by decide +kernel⟩
abbrev s_insert_by_rows : Stmt := topS 18
theorem sc_insert_by_rows : FnScope ["table", "letter", "rows", "index", "row"] ["table", "letter"] (defScope s_insert_by_rows) := ⟨rfl, rfl, rfl, by decide +kernel, rfl, by decide +kernel, by decide +kernel⟩
abbrev s_pair_of : Stmt := topS 20
theorem sc_pair_of : FnScope ["word", "table", "record", "index", "cell"] ["word"] (defScope s_pair_of) := ⟨rfl, rfl, rfl, by decide +kernel, rfl, by decide +kernel, by decide +kernel⟩
abbrev s_table_of : Stmt := topS 21
theorem sc_table_of : FnScope ["word"] ["word"] (defScope s_table_of) := ⟨rfl, rfl, rfl, by decide +kernel, rfl, by decide +kernel, by decide +kernel⟩
abbrev s_insertion_moves : Stmt := topS 23
theorem sc_insertion_moves : FnScope ["table", "letter", "count", "path", "start", "row", "place", "index"] ["table", "letter", "count"] (defScope s_insertion_moves) := ⟨rfl, rfl, rfl, by decide +kernel, rfl, by decide +kernel, by decide +kernel⟩
abbrev s_path_to_table : Stmt := topS 24
theorem sc_path_to_table : FnScope ["word", "path", "table", "index"] ["word"] (defScope s_path_to_table) := ⟨rfl, rfl, rfl, by decide +kernel, rfl, by decide +kernel, by decide +kernel⟩
abbrev s_check_count : Stmt := topS 26
theorem sc_check_count : FnScope ["count"] ["count"] (defScope s_check_count) := ⟨rfl, rfl, rfl, by decide +kernel, rfl, by decide +kernel, by decide +kernel⟩
abbrev s_rises : Stmt := topS 27
theorem sc_rises : FnScope ["word"] ["word"] (defScope s_rises) := ⟨rfl, rfl, rfl, by decide +kernel, rfl, by decide +kernel, by decide +kernel⟩
abbrev s_row_lists : Stmt := topS 28
theorem sc_row_lists : FnScope ["shape", "count", "lists", "start", "row", "many"] ["shape", "count"] (defScope s_row_lists) := ⟨rfl, rfl, rfl, by decide +kernel, rfl, by decide +kernel, by decide +kernel⟩
abbrev s_column_lists : Stmt := topS 29
theorem sc_column_lists : FnScope ["shape", "count", "starts", "start", "many", "lists", "column", "rows", "row"] ["shape", "count"] (defScope s_column_lists) := ⟨rfl, rfl, rfl, by decide +kernel, rfl, by decide +kernel, by decide +kernel⟩
abbrev s_paper : Stmt := topS 30
theorem sc_paper : FnScope ["word", "rising_count", "falling_count", "shape", "rising", "falling", "move"] ["word", "rising_count", "falling_count"] (defScope s_paper) := ⟨rfl, rfl, rfl, by decide +kernel, rfl, by decide +kernel, by decide +kernel⟩
abbrev s_rising_paper : Stmt := topS 31
theorem sc_rising_paper : FnScope ["word", "count"] ["word", "count"] (defScope s_rising_paper) := ⟨rfl, rfl, rfl, by decide +kernel, rfl, by decide +kernel, by decide +kernel⟩
abbrev s_is_index_family : Stmt := topS 33
theorem sc_is_index_family : FnScope ["word", "family", "used", "indexes", "place", "index"] ["word", "family"] (defScope s_is_index_family) := ⟨rfl, rfl, rfl, by decide +kernel, rfl, by decide +kernel, by decide +kernel⟩
abbrev s_is_rising_family : Stmt := topS 34
theorem sc_is_rising_family : FnScope ["word", "family", "indexes", "place"] ["word", "family"] (defScope s_is_rising_family) := ⟨rfl, rfl, rfl, by decide +kernel, rfl, by decide +kernel, by decide +kernel⟩
abbrev s_is_falling_family : Stmt := topS 35
theorem sc_is_falling_family : FnScope ["word", "family", "indexes", "place"] ["word", "family"] (defScope s_is_falling_family) := ⟨rfl, rfl, rfl, by decide +kernel, rfl, by decide +kernel, by decide +kernel⟩
abbrev s_cover : Stmt := topS 36
theorem sc_cover : FnScope ["family", "indexes"] ["family"] (defScope s_cover) := ⟨rfl, rfl, rfl, by decide +kernel, rfl, by decide +kernel, by decide +kernel⟩
abbrev s_judge : Stmt := topS 37
theorem sc_judge : FnScope ["word", "rising", "falling"] ["word", "rising", "falling"] (defScope s_judge) := ⟨rfl, rfl, rfl, by decide +kernel, rfl, by decide +kernel, by decide +kernel⟩
abbrev s_letters_up_to : Stmt := topS 39
theorem sc_letters_up_to : FnScope ["word", "bound", "letter"] ["word", "bound"] (defScope s_letters_up_to) := ⟨rfl, rfl, rfl, by decide +kernel, rfl, by decide +kernel, by decide +kernel⟩
abbrev s_judge_note : Stmt := topS 41
theorem sc_judge_note : FnScope ["first", "second", "told", "_", "greatest", "family", "paper", "swapped", "one", "two", "rising", "falling"] ["first", "second", "told"] (defScope s_judge_note) := ⟨rfl, rfl, rfl, by decide +kernel, rfl, by decide +kernel, by decide +kernel⟩
abbrev s__law_cell : Stmt := topS 43
theorem sc__law_cell : FnScope ["_law_script", "_law_k"] ["_law_script", "_law_k"] (defScope s__law_cell) := ⟨rfl, rfl, rfl, by decide +kernel, rfl, by decide +kernel, by decide +kernel⟩
abbrev s__law_stream : Stmt := topS 44
theorem sc__law_stream : FnScope ["_law_cell_here"] ["_law_cell_here"] (defScope s__law_stream) := ⟨rfl, rfl, rfl, by decide +kernel, rfl, by decide +kernel, by decide +kernel⟩
abbrev s__law_next : Stmt := topS 45
theorem sc__law_next : FnScope ["_law_stream_here", "_law_size", "_law_drawn", "_law_mixed"] ["_law_stream_here", "_law_size"] (defScope s__law_next) := ⟨rfl, rfl, rfl, by decide +kernel, rfl, by decide +kernel, by decide +kernel⟩
abbrev s__law_is_integer : Stmt := topS 46
theorem sc__law_is_integer : FnScope ["_law_actual"] ["_law_actual"] (defScope s__law_is_integer) := ⟨rfl, rfl, rfl, by decide +kernel, rfl, by decide +kernel, by decide +kernel⟩
abbrev s__law_word : Stmt := topS 47
theorem sc__law_word : FnScope ["_law_stream_here", "_law_most", "_law_count", "_law_kind", "_law_size", "_law_low", "_law_word_here", "_law_k"] ["_law_stream_here", "_law_most"] (defScope s__law_word) := ⟨rfl, rfl, rfl, by decide +kernel, rfl, by decide +kernel, by decide +kernel⟩
abbrev s__law_insert : Stmt := topS 48
theorem sc__law_insert : FnScope ["_law_rows", "_law_letter", "_law_row", "_law_place", "_law_told"] ["_law_rows", "_law_letter"] (defScope s__law_insert) := ⟨rfl, rfl, rfl, by decide +kernel, rfl, by decide +kernel, by decide +kernel⟩
abbrev s__law_table : Stmt := topS 49
theorem sc__law_table : FnScope ["_law_word_here", "_law_rows", "_law_letter", "_law_row"] ["_law_word_here"] (defScope s__law_table) := ⟨rfl, rfl, rfl, by decide +kernel, rfl, by decide +kernel, by decide +kernel⟩
abbrev s__law_is_allowed : Stmt := topS 51
theorem sc__law_is_allowed : FnScope ["_law_word_here", "_law_index", "_law_side", "_law_a", "_law_b", "_law_c"] ["_law_word_here", "_law_index", "_law_side"] (defScope s__law_is_allowed) := ⟨rfl, rfl, rfl, by decide +kernel, rfl, by decide +kernel, by decide +kernel⟩
abbrev s__law_allowed : Stmt := topS 52
theorem sc__law_allowed : FnScope ["_law_word_here", "_law_found", "_law_index", "_law_side"] ["_law_word_here"] (defScope s__law_allowed) := ⟨rfl, rfl, rfl, by decide +kernel, rfl, by decide +kernel, by decide +kernel⟩
abbrev s__law_moved : Stmt := topS 53
theorem sc__law_moved : FnScope ["_law_word_here", "_law_move", "_law_place", "_law_told"] ["_law_word_here", "_law_move"] (defScope s__law_moved) := ⟨rfl, rfl, rfl, by decide +kernel, rfl, by decide +kernel, by decide +kernel⟩
abbrev s__law_is_family : Stmt := topS 54
theorem sc__law_is_family : FnScope ["_law_word_here", "_law_family", "_law_falls", "_law_used", "_law_told", "_law_k"] ["_law_word_here", "_law_family", "_law_falls"] (defScope s__law_is_family) := ⟨rfl, rfl, rfl, by decide +kernel, rfl, by decide +kernel, by decide +kernel⟩
abbrev s__law_cover : Stmt := topS 55
theorem sc__law_cover : FnScope ["_law_family", "_law_told"] ["_law_family"] (defScope s__law_cover) := ⟨rfl, rfl, rfl, by decide +kernel, rfl, by decide +kernel, by decide +kernel⟩
abbrev s__law_drawn_family : Stmt := topS 56
theorem sc__law_drawn_family : FnScope ["_law_stream_here", "_law_word_here", "_law_falls", "_law_most", "_law_family", "_law_index", "_law_place", "_law_told", "_law_fits", "_law_k"] ["_law_stream_here", "_law_word_here", "_law_falls", "_law_most"] (defScope s__law_drawn_family) := ⟨rfl, rfl, rfl, by decide +kernel, rfl, by decide +kernel, by decide +kernel⟩
abbrev s__law_is_note : Stmt := topS 57
theorem sc__law_is_note : FnScope ["_law_first", "_law_second", "_law_told", "_law_one", "_law_two", "_law_rising", "_law_falling", "_law_letter"] ["_law_first", "_law_second", "_law_told"] (defScope s__law_is_note) := ⟨rfl, rfl, rfl, by decide +kernel, rfl, by decide +kernel, by decide +kernel⟩
abbrev s__law_order : Stmt := topS 58
theorem sc__law_order : FnScope ["_law_stream_here", "_law_word_here", "_law_rest", "_law_order_here"] ["_law_stream_here", "_law_word_here"] (defScope s__law_order) := ⟨rfl, rfl, rfl, by decide +kernel, rfl, by decide +kernel, by decide +kernel⟩
abbrev s__law_spoilt : Stmt := topS 59
theorem sc__law_spoilt : FnScope ["_law_stream_here", "_law_word_here", "_law_family", "_law_told", "_law_kind", "_law_full", "_law_indexes"] ["_law_stream_here", "_law_word_here", "_law_family"] (defScope s__law_spoilt) := ⟨rfl, rfl, rfl, by decide +kernel, rfl, by decide +kernel, by decide +kernel⟩
abbrev s__law_longer : Stmt := topS 60
theorem sc__law_longer : FnScope ["_law_stream_here", "_law_word_here", "_law_place"] ["_law_stream_here", "_law_word_here"] (defScope s__law_longer) := ⟨rfl, rfl, rfl, by decide +kernel, rfl, by decide +kernel, by decide +kernel⟩
abbrev s__law_made : Stmt := topS 61
theorem sc__law_made : FnScope ["_law_stream_here", "_law_first", "_law_second", "_law_greatest", "_law_swapped", "_law_one", "_law_two", "_law_count", "_law_family", "_law_paper", "_law_kind", "_law_more", "_law_letter", "_law_index"] ["_law_stream_here", "_law_first", "_law_second"] (defScope s__law_made) := ⟨rfl, rfl, rfl, by decide +kernel, rfl, by decide +kernel, by decide +kernel⟩
abbrev s_law : Stmt := topS 62
theorem sc_law : FnScope ["_law_script", "_law_stream_here", "_law_first", "_law_second", "_law_k", "_law_allowed_here", "_law_told", "_law_due", "_law_before", "_law_handed", "_law_actual"] ["_law_script"] (defScope s_law) := ⟨rfl, rfl, rfl, by decide +kernel, rfl, by decide +kernel, by decide +kernel⟩
/-- what the top has left -/
structure Txt (K : PySem.W.Frag) (mg : Str → Option Value) : Prop where
  d_place_of : Df K mg "place_of" s_place_of ["move"]
  d_list_with : Df K mg "list_with" s_list_with ["family", "index"]
  d_exchanged : Df K mg "exchanged" s_exchanged ["indexes", "place"]
  d_tail_from : Df K mg "tail_from" s_tail_from ["indexes", "index"]
  d_head_before : Df K mg "head_before" s_head_before ["indexes", "index"]
  d_carried : Df K mg "carried" s_carried ["move", "family"]
  d_shape_of : Df K mg "shape_of" s_shape_of ["table"]
  d_row_length : Df K mg "row_length" s_row_length ["shape", "row"]
  d_with_letter : Df K mg "with_letter" s_with_letter ["table", "cell", "letter"]
  d_first_greater : Df K mg "first_greater" s_first_greater ["row", "letter"]
  d_insert_into_row : Df K mg "insert_into_row" s_insert_into_row ["row", "letter"]
  d_insert_by_rows : Df K mg "insert_by_rows" s_insert_by_rows ["table", "letter"]
  d_pair_of : Df K mg "pair_of" s_pair_of ["word"]
  d_table_of : Df K mg "table_of" s_table_of ["word"]
  d_insertion_moves : Df K mg "insertion_moves" s_insertion_moves ["table", "letter", "count"]
  d_path_to_table : Df K mg "path_to_table" s_path_to_table ["word"]
  d_check_count : Df K mg "check_count" s_check_count ["count"]
  d_rises : Df K mg "rises" s_rises ["word"]
  d_row_lists : Df K mg "row_lists" s_row_lists ["shape", "count"]
  d_column_lists : Df K mg "column_lists" s_column_lists ["shape", "count"]
  d_paper : Df K mg "paper" s_paper ["word", "rising_count", "falling_count"]
  d_rising_paper : Df K mg "rising_paper" s_rising_paper ["word", "count"]
  d_is_index_family : Df K mg "is_index_family" s_is_index_family ["word", "family"]
  d_is_rising_family : Df K mg "is_rising_family" s_is_rising_family ["word", "family"]
  d_is_falling_family : Df K mg "is_falling_family" s_is_falling_family ["word", "family"]
  d_cover : Df K mg "cover" s_cover ["family"]
  d_judge : Df K mg "judge" s_judge ["word", "rising", "falling"]
  d_letters_up_to : Df K mg "letters_up_to" s_letters_up_to ["word", "bound"]
  d_judge_note : Df K mg "judge_note" s_judge_note ["first", "second", "told"]
  d__law_cell : Df K mg "_law_cell" s__law_cell ["_law_script", "_law_k"]
  d__law_stream : Df K mg "_law_stream" s__law_stream ["_law_cell_here"]
  d__law_next : Df K mg "_law_next" s__law_next ["_law_stream_here", "_law_size"]
  d__law_is_integer : Df K mg "_law_is_integer" s__law_is_integer ["_law_actual"]
  d__law_word : Df K mg "_law_word" s__law_word ["_law_stream_here", "_law_most"]
  d__law_insert : Df K mg "_law_insert" s__law_insert ["_law_rows", "_law_letter"]
  d__law_table : Df K mg "_law_table" s__law_table ["_law_word_here"]
  d__law_is_allowed : Df K mg "_law_is_allowed" s__law_is_allowed ["_law_word_here", "_law_index", "_law_side"]
  d__law_allowed : Df K mg "_law_allowed" s__law_allowed ["_law_word_here"]
  d__law_moved : Df K mg "_law_moved" s__law_moved ["_law_word_here", "_law_move"]
  d__law_is_family : Df K mg "_law_is_family" s__law_is_family ["_law_word_here", "_law_family", "_law_falls"]
  d__law_cover : Df K mg "_law_cover" s__law_cover ["_law_family"]
  d__law_drawn_family : Df K mg "_law_drawn_family" s__law_drawn_family ["_law_stream_here", "_law_word_here", "_law_falls", "_law_most"]
  d__law_is_note : Df K mg "_law_is_note" s__law_is_note ["_law_first", "_law_second", "_law_told"]
  d__law_order : Df K mg "_law_order" s__law_order ["_law_stream_here", "_law_word_here"]
  d__law_spoilt : Df K mg "_law_spoilt" s__law_spoilt ["_law_stream_here", "_law_word_here", "_law_family"]
  d__law_longer : Df K mg "_law_longer" s__law_longer ["_law_stream_here", "_law_word_here"]
  d__law_made : Df K mg "_law_made" s__law_made ["_law_stream_here", "_law_first", "_law_second"]
  n_len : mg "len" = none
  n_range : mg "range" = none
  n_sum : mg "sum" = none
  n_sorted : mg "sorted" = none
  n_min : mg "min" = none
  n_max : mg "max" = none
  n_repr : mg "repr" = none
  n_isinstance : mg "isinstance" = none
  n_int : mg "int" = none
  n_bool : mg "bool" = none
  n_list : mg "list" = none
  n_tuple : mg "tuple" = none
end
local macro_rules | `(tactic| walk_at "set") => `(tactic| first | (with_reducible exact set0) | (apply setS; walk_at "set"))
local macro_rules | `(tactic| walk_at "h") => `(tactic| first | assumption | (refine Same.lk (by assumption) ?_; walk_at "h"))
local macro_rules | `(tactic| walk_at "x1") => `(tactic| first
  | ((with_reducible show tVar _ _ _ _); refine x_var rfl ?_)
  | ((with_reducible show tC _ _ _ _); refine x_c ?_)
  | ((with_reducible show tOp _ _ _ _ _ _); refine x_op ?_)
  | ((with_reducible show tSeq _ _ _ _ _); refine x_seq ?_)
  | ((with_reducible show tAsg _ _ _ _ _); refine x_asg ?_)
  | ((with_reducible show gName _ _ _ _ _); refine x_name2 (by walk_at "set") ?_)
  | ((with_reducible show tCons _ _ _ _ _); refine x_cons ?_)
  | ((with_reducible show tNil _ _ _); refine x_nil ?_)
  | ((with_reducible show rI0 _ (V.int _) (V.int _) _ _); refine x_rI0 ?_)
  | ((with_reducible show tCB _ _ _ _ _); refine x_cb ?_)
  | ((with_reducible show tCall _ [] E0 _ _ _ _); refine x_call ?_)
  | ((with_reducible show rIxT _ _ _ _ _); refine x_ixT (by walk_at "h") (by rfl) ?_)
  | ((with_reducible show rLenQ _ _ _ _); refine x_lenL (by walk_at "h") ?_)
  | ((with_reducible show rLenQ _ _ _ _); refine x_lenT (by walk_at "h") ?_)
  | ((with_reducible show tIfS _ _ _ _ _ _); refine x_if ?_)
  | ((with_reducible show tTest _ _ _ _); refine x_test ?_)
  | ((with_reducible show tB _ _ _ _); refine x_tB ?_)
  | ((with_reducible show tYes _ _ _); refine x_yes ?_)
  | ((with_reducible show gTup _ _ _ (V.ref _) _ _ _); refine x_gtup (by walk_at "h") (by rfl) ?_)
  | ((with_reducible show gCons _ _ (_ :: _) _ _ _); refine x_gcons ?_)
  | ((with_reducible show gNil [] _ _ _); refine x_gnil ?_)
  | ((with_reducible show tPar _ _ _ _ _ _); refine x_par ?_)
  | ((with_reducible show Ends.nx _ _ _); dsimp only)
  | (with_reducible refine x_bl ?_)
  | (with_reducible refine x_T ?_)
  | (with_reducible refine x_nT ?_)
  | (with_reducible refine x_nF ?_)
  | (with_reducible refine x_F ?_)
  | ((with_reducible show rEq _ _ _ _); refine x_eq rfl ?_)
  | ((with_reducible show rNe _ _ _ _); refine x_ne rfl ?_)
  | ((with_reducible show rIsNn _ _ _ _); refine x_isN ?_)
  | ((with_reducible show tRet _ _ _ _); refine x_ret ?_)
  | ((with_reducible show tNext _ _ _); refine x_next ?_)
  | ((with_reducible show tRetN _ _ _); refine x_retN ?_)
  | ((with_reducible show tDrop _ _ _ _); refine x_drop ?_)
  | ((with_reducible show tTup _ _ _ _); refine x_tup ?_)
  | ((with_reducible show tLst _ _ _ _); refine x_lst ?_)
  | ((with_reducible show tUn _ _ _ _ _); refine x_un ?_)
  | ((with_reducible show rU _ (V.int _) _ _); refine x_rU ?_)
  | ((with_reducible show tNot _ _ _ _); refine x_notT ?_)
  | ((with_reducible show tAnd _ _ _ _ _); refine x_and ?_)
  | ((with_reducible show tOr _ _ _ _ _); refine x_or ?_)
  | ((with_reducible show tSl _ _ _ _ _ _ _); refine x_sl ?_)
  | ((with_reducible show tNoPart _ _ _); refine x_noP ?_)
  | ((with_reducible show tPart _ _ _ _); refine x_part ?_)
  | (with_reducible refine x_pi ?_)
  | ((with_reducible show tBM _ _ _ _ _ _ _ _); refine x_bm ?_)
  | ((with_reducible show tyV _ "list" _ _ ∧ _); refine x_tyL (by walk_at "h") ?_)
  | ((with_reducible show gSub _ _ _ _ _ _ _); refine x_sub ?_)
  | ((with_reducible show rInt1 [V.int _] _ _); refine x_int ?_)
  | ((with_reducible show rInt1 [V.bl _] _ _); refine x_intB ?_)
  | ((with_reducible show rMin2 _ _ _); refine x_min ?_)
  | ((with_reducible show rMax2 _ _ _); refine x_max ?_))
local macro_rules | `(tactic| walk_at "x") => `(tactic| (repeat walk_at "x1"))
section
local macro_rules | `(tactic| walk_at "set") => `(tactic| first | exact set0 | (apply setS; walk_at "set"))
local macro_rules | `(tactic| walk_at "h") => `(tactic| first | assumption | (refine Same.lk (by assumption) ?_; walk_at "h"))
local macro_rules | `(tactic| walk_at "x1") => `(tactic| first
  | ((with_reducible show tVar _ _ _ _); refine x_var rfl ?_)
  | ((with_reducible show tC _ _ _ _); refine x_c ?_)
  | ((with_reducible show tOp _ _ _ _ _ _); refine x_op ?_)
  | ((with_reducible show tSeq _ _ _ _ _); refine x_seq ?_)
  | ((with_reducible show tAsg _ _ _ _ _); refine x_asg ?_)
  | ((with_reducible show gName _ _ _ _ _); refine x_name2 (by walk_at "set") ?_)
  | ((with_reducible show tCons _ _ _ _ _); refine x_cons ?_)
  | ((with_reducible show tNil _ _ _); refine x_nil ?_)
  | ((with_reducible show rI0 _ (V.int _) (V.int _) _ _); refine x_rI0 ?_)
  | ((with_reducible show tCB _ _ _ _ _); refine x_cb ?_)
  | ((with_reducible show tCall _ [] E0 _ _ _ _); refine x_call ?_)
  | ((with_reducible show rIxT _ _ _ _ _); refine x_ixT (by walk_at "h") (by rfl) ?_)
  | ((with_reducible show rLenQ _ _ _ _); refine x_lenL (by walk_at "h") ?_)
  | ((with_reducible show rLenQ _ _ _ _); refine x_lenT (by walk_at "h") ?_)
  | ((with_reducible show tIfS _ _ _ _ _ _); refine x_if ?_)
  | ((with_reducible show tTest _ _ _ _); refine x_test ?_)
  | ((with_reducible show tB _ _ _ _); refine x_tB ?_)
  | ((with_reducible show tYes _ _ _); refine x_yes ?_)
  | ((with_reducible show gTup _ _ _ (V.ref _) _ _ _); refine x_gtup (by walk_at "h") (by rfl) ?_)
  | ((with_reducible show gCons _ _ (_ :: _) _ _ _); refine x_gcons ?_)
  | ((with_reducible show gNil [] _ _ _); refine x_gnil ?_)
  | ((with_reducible show tPar _ _ _ _ _ _); refine x_par ?_)
  | (with_reducible refine x_bl ?_)
  | (with_reducible refine x_T ?_)
  | (with_reducible refine x_nT ?_)
  | (with_reducible refine x_nF ?_)
  | (with_reducible refine x_F ?_)
  | ((with_reducible show rEq _ _ _ _); refine x_eq rfl ?_)
  | ((with_reducible show rNe _ _ _ _); refine x_ne rfl ?_)
  | ((with_reducible show rIsNn _ _ _ _); refine x_isN ?_)
  | ((with_reducible show tRet _ _ _ _); refine x_ret ?_)
  | ((with_reducible show tNext _ _ _); refine x_next ?_)
  | ((with_reducible show tRetN _ _ _); refine x_retN ?_)
  | ((with_reducible show tDrop _ _ _ _); refine x_drop ?_)
  | ((with_reducible show tTup _ _ _ _); refine x_tup ?_)
  | ((with_reducible show tLst _ _ _ _); refine x_lst ?_)
  | ((with_reducible show tUn _ _ _ _ _); refine x_un ?_)
  | ((with_reducible show rU _ (V.int _) _ _); refine x_rU ?_)
  | ((with_reducible show tNot _ _ _ _); refine x_notT ?_)
  | ((with_reducible show tAnd _ _ _ _ _); refine x_and ?_)
  | ((with_reducible show tOr _ _ _ _ _); refine x_or ?_)
  | ((with_reducible show tSl _ _ _ _ _ _ _); refine x_sl ?_)
  | ((with_reducible show tNoPart _ _ _); refine x_noP ?_)
  | ((with_reducible show tPart _ _ _ _); refine x_part ?_)
  | (with_reducible refine x_pi ?_)
  | ((with_reducible show tBM _ _ _ _ _ _ _ _); refine x_bm ?_)
  | ((with_reducible show tyV _ "list" _ _ ∧ _); refine x_tyL (by walk_at "h") ?_)
  | ((with_reducible show gSub _ _ _ _ _ _ _); refine x_sub ?_)
  | ((with_reducible show rInt1 [V.int _] _ _); refine x_int ?_)
  | ((with_reducible show rInt1 [V.bl _] _ _); refine x_intB ?_)
  | ((with_reducible show rMin2 _ _ _); refine x_min ?_)
  | ((with_reducible show rMax2 _ _ _); refine x_max ?_))
local macro_rules | `(tactic| walk_at "x") => `(tactic| (repeat walk_at "x1"))
/-! ### data in the heap -/
def LiAt (H : Hp) (a : Addr) (l : List Int) : Prop := H a = some (.lst (l.map V.int))
def TiAt (H : Hp) (a : Addr) (l : List Int) : Prop := H a = some (.tup (l.map V.int))
theorem LiAt.mono {H H' : Hp} {a : Addr} {l : List Int} (s : Same H H') (h : LiAt H a l) : LiAt H' a l := s _ _ h
theorem TiAt.mono {H H' : Hp} {a : Addr} {l : List Int} (s : Same H H') (h : TiAt H a l) : TiAt H' a l := s _ _ h
/-- addresses that bear data -/
structure All {α : Type} (R : Addr → α → Prop) (as : List Addr) (xs : List α) : Prop where
  len : as.length = xs.length
  at_ : ∀ (i : Nat) (p : Addr) (l : α), as[i]? = some p → xs[i]? = some l → R p l
theorem All.imp {α : Type} {R R' : Addr → α → Prop} {as : List Addr} {xs : List α} (h : All R as xs) (f : ∀ p l, R p l → R' p l) : All R' as xs := ⟨h.len, fun i p l a b => f p l (h.at_ i p l a b)⟩
theorem All.nil {α : Type} {R : Addr → α → Prop} : All R [] [] := ⟨rfl, fun i p l h => by simp at h⟩
theorem All.snoc {α : Type} {R : Addr → α → Prop} {as : List Addr} {xs : List α} {p : Addr} {l : α} (h : All R as xs) (r : R p l) : All R (as ++ [p]) (xs ++ [l]) := by
  refine ⟨by simp [h.len], fun i q k a b => ?_⟩
  by_cases e : i < as.length
  · rw [List.getElem?_append_left e] at a
    rw [List.getElem?_append_left (by rw [← h.len]; exact e)] at b
    exact h.at_ i q k a b
  · rw [List.getElem?_append_right (by omega)] at a
    rw [List.getElem?_append_right (by rw [← h.len]; omega), ← h.len] at b
    have e0 : i - as.length = 0 := by
      cases q2 : i - as.length with
      | zero => rfl
      | succ n => rw [q2] at a; simp at a
    rw [e0] at a b
    have e1 : p = q := by simpa using a
    have e2 : l = k := by simpa using b
    subst e1; subst e2
    exact r
theorem All.get {α : Type} {R : Addr → α → Prop} {as : List Addr} {xs : List α} (h : All R as xs) {i : Nat} {l : α} (e : xs[i]? = some l) : ∃ p, as[i]? = some p ∧ R p l := by
  have hi := (List.getElem?_eq_some_iff.mp e).1
  have hi2 : i < as.length := by rw [h.len]; exact hi
  exact ⟨as[i], List.getElem?_eq_getElem hi2, h.at_ i _ l (List.getElem?_eq_getElem hi2) e⟩
theorem All.get' {α : Type} {R : Addr → α → Prop} {as : List Addr} {xs : List α} (h : All R as xs) {i : Nat} {p : Addr} (e : as[i]? = some p) : ∃ l, xs[i]? = some l ∧ R p l := by
  have hi := (List.getElem?_eq_some_iff.mp e).1
  have hi2 : i < xs.length := by rw [← h.len]; exact hi
  exact ⟨xs[i], List.getElem?_eq_getElem hi2, h.at_ i p _ e (List.getElem?_eq_getElem hi2)⟩
theorem All.set {α : Type} {R : Addr → α → Prop} {as : List Addr} {xs : List α} {i : Nat} {p : Addr} {l : α} (h : All R as xs) (r : R p l) : All R (as.set i p) (xs.set i l) := by
  refine ⟨by simp [h.len], fun j q k a b => ?_⟩
  rw [List.getElem?_set] at a b
  by_cases e : i = j
  · subst e
    rw [if_pos rfl] at a b
    split at a
    · split at b
      · cases a; cases b; exact r
      · cases b
    · cases a
  · rw [if_neg e] at a b
    exact h.at_ j q k a b
theorem All.take {α : Type} {R : Addr → α → Prop} {as : List Addr} {xs : List α} (n : Nat) (h : All R as xs) : All R (as.take n) (xs.take n) := by
  refine ⟨by simp [h.len], fun j q k a b => ?_⟩
  rw [List.getElem?_take] at a b
  split at a
  · rename_i hj
    rw [if_pos hj] at b
    exact h.at_ j q k a b
  · cases a
theorem All.drop {α : Type} {R : Addr → α → Prop} {as : List Addr} {xs : List α} (n : Nat) (h : All R as xs) : All R (as.drop n) (xs.drop n) := by
  refine ⟨by simp [h.len], fun j q k a b => ?_⟩
  rw [List.getElem?_drop] at a b
  exact h.at_ _ q k a b
theorem All.app {α : Type} {R : Addr → α → Prop} {as bs : List Addr} {xs ys : List α} (h : All R as xs) (g : All R bs ys) : All R (as ++ bs) (xs ++ ys) := by
  refine ⟨by simp [h.len, g.len], fun i q k a b => ?_⟩
  by_cases e : i < as.length
  · rw [List.getElem?_append_left e] at a
    rw [List.getElem?_append_left (by rw [← h.len]; exact e)] at b
    exact h.at_ i q k a b
  · rw [List.getElem?_append_right (by omega)] at a
    rw [List.getElem?_append_right (by rw [← h.len]; omega), ← h.len] at b
    exact g.at_ _ q k a b
theorem All.cons {α : Type} {R : Addr → α → Prop} {as : List Addr} {xs : List α} {p : Addr} {l : α} (r : R p l) (h : All R as xs) : All R (p :: as) (l :: xs) := by
  refine ⟨by simp [h.len], fun i q k a b => ?_⟩
  cases i with
  | zero =>
    have e1 : p = q := by simpa using a
    have e2 : l = k := by simpa using b
    subst e1; subst e2
    exact r
  | succ n => exact h.at_ n q k (by simpa using a) (by simpa using b)
/-- a family of lists, a table of tuples -/
def refs (as : List Addr) : List V := as.map V.ref
def FamAt (H : Hp) (a : Addr) (fam : List (List Int)) : Prop := ∃ as, H a = some (.lst (refs as)) ∧ All (LiAt H) as fam
def TabAt (H : Hp) (a : Addr) (T : List (List Int)) : Prop := ∃ as, H a = some (.tup (refs as)) ∧ All (TiAt H) as T
theorem FamAt.mono {H H' : Hp} {a : Addr} {fam : List (List Int)} (s : Same H H') (h : FamAt H a fam) : FamAt H' a fam := by
  obtain ⟨as, e, h⟩ := h
  exact ⟨as, s _ _ e, h.imp fun _ _ r => r.mono s⟩
theorem TabAt.mono {H H' : Hp} {a : Addr} {fam : List (List Int)} (s : Same H H') (h : TabAt H a fam) : TabAt H' a fam := by
  obtain ⟨as, e, h⟩ := h
  exact ⟨as, s _ _ e, h.imp fun _ _ r => r.mono s⟩
theorem refs_get {as : List Addr} {i : Nat} {p : Addr} (h : as[i]? = some p) : (refs as)[i]? = some (.ref p) := by
  unfold refs
  rw [List.getElem?_map, h]
  rfl
theorem refs_get' {as : List Addr} {i : Nat} {v : V} (h : (refs as)[i]? = some v) : ∃ p, v = .ref p ∧ as[i]? = some p := by
  unfold refs at h
  rw [List.getElem?_map] at h
  cases e : as[i]? with
  | none => rw [e] at h; cases h
  | some p => rw [e] at h; exact ⟨p, (Option.some.inj h).symm, rfl⟩
theorem refs_len (as : List Addr) : (refs as).length = as.length := by unfold refs; simp
theorem ints_get {l : List Int} {i : Nat} {x : Int} (h : l[i]? = some x) : (l.map V.int)[i]? = some (.int x) := by rw [List.getElem?_map, h]; rfl
theorem ints_get' {l : List Int} {i : Nat} {v : V} (h : (l.map V.int)[i]? = some v) : ∃ x, v = .int x ∧ l[i]? = some x := by
  rw [List.getElem?_map] at h
  cases e : l[i]? with
  | none => rw [e] at h; cases h
  | some p => rw [e] at h; exact ⟨p, (Option.some.inj h).symm, rfl⟩
theorem ints_len (l : List Int) : (l.map V.int).length = l.length := by simp
theorem ints_flat (l : List Int) : (l.map V.int).all flatV = true := by
  rw [List.all_eq_true]
  intro v hv
  obtain ⟨x, _, rfl⟩ := List.mem_map.mp hv
  rfl
theorem inV_int (x : Int) (l : List Int) : inV (.int x) (l.map V.int) = decide (x ∈ l) := by
  unfold inV
  induction l with
  | nil => simp
  | cons a l ih =>
    rw [List.map_cons, List.any_cons, ih]
    have : eqV (.int a) (.int x) = decide (a = x) := by
      show (a == x) = decide (a = x)
      exact Bool.beq_eq_decide_eq a x
    rw [this, ← Bool.decide_or]
    refine decide_eq_decide.mpr ?_
    rw [List.mem_cons]
    exact ⟨fun h => h.elim (fun e => .inl e.symm) .inr, fun h => h.elim (fun e => .inl e.symm) .inr⟩
theorem small {n : Nat} (h : n ≤ 100000) : n ≤ sizeLine := Nat.le_trans h (by decide)
theorem smallL {n : Nat} (h : n < 100000) : n < sizeLine := Nat.lt_of_lt_of_le h (by decide)

/-! ### S stands still, H is the heap -/
structure Go (S H S' H' : Hp) : Prop where
  ss : Same S S'
  sh : Same S' H'
  hh : Same H H'
  fr : ∀ l o, S l = none → H l = some o → S' l = none
theorem Go.refl {S H : Hp} (s : Same S H) : Go S H S H := ⟨Same.refl _, s, Same.refl _, fun _ _ h _ => h⟩
theorem Go.trans {S H S1 H1 S2 H2 : Hp} (a : Go S H S1 H1) (b : Go S1 H1 S2 H2) : Go S H S2 H2 := ⟨a.ss.trans b.ss, b.sh, a.hh.trans b.hh, fun l o e1 e2 => b.fr l o (a.fr l o e1 e2) (a.hh l o e2)⟩
/-- all that is new stands still from here on -/
theorem Go.grow {S H H' : Hp} (s : Same S H) (h : Same H H') : ∃ S', Go S H S' H' ∧ ∀ q o, H q = none → H' q = some o → S' q = some o := by
  obtain ⟨S', a, b, c, d⟩ := Kw.grow s h
  exact ⟨S', ⟨a, b, h, d⟩, c⟩
/-- a local list has changed -/
theorem Go.mut {S H S' H' : Hp} {l : Addr} {o : HO} (g : Go S H S' H') (h1 : H l = none) (h2 : S' l = none) : Go S H S' (upd H' l o) :=
  ⟨g.ss, same_mut g.sh h2, same_mut g.hh h1, g.fr⟩
/-- one new thing -/
theorem Go.one {S H H' : Hp} {p : Addr} {o : HO} (s : Same S H) (h : Same H H') (hp : H p = none) (e : H' p = some o) : ∃ S', Go S H S' H' ∧ S' p = some o := by
  obtain ⟨S', g, f⟩ := Go.grow s h
  exact ⟨S', g, f p o hp e⟩
theorem Go.seal {S H S' H' : Hp} {D : Addr} {o : HO} (g : Go S H S' H') (h1 : H D = none) (h2 : S' D = none) (e : H' D = some o) : ∃ S'', Go S H S'' H' ∧ Same S' S'' ∧ S'' D = some o := by
  refine ⟨upd S' D o, ⟨g.ss.trans (same_new h2), fun b u q => ?_, g.hh, fun l u e1 e2 => ?_⟩, same_new h2, upd_same⟩
  · by_cases hb : b = D
    · subst hb
      rw [upd_same] at q
      cases q
      exact e
    · rw [upd_ne hb] at q
      exact g.sh _ _ q
  · rw [upd_ne (ne_of_none e2 h1)]
    exact g.fr l u e1 e2
theorem refs_snoc (as : List Addr) (p : Addr) : refs as ++ [.ref p] = refs (as ++ [p]) := by unfold refs; simp
theorem All.mono {S S' : Hp} {as : List Addr} {xs : List (List Int)} (s : Same S S') (h : All (LiAt S) as xs) : All (LiAt S') as xs := h.imp fun _ _ r => r.mono s
theorem All.monoT {S S' : Hp} {as : List Addr} {xs : List (List Int)} (s : Same S S') (h : All (TiAt S) as xs) : All (TiAt S') as xs := h.imp fun _ _ r => r.mono s
theorem ints_append (a b : List Int) : a.map V.int ++ b.map V.int = (a ++ b).map V.int := by simp
theorem refs_set (as : List Addr) (i : Nat) (p : Addr) : (refs as).set i (.ref p) = refs (as.set i p) := by unfold refs; rw [List.map_set]
/-- a + b + c of lists of whole numbers -/
theorem x_cat3 {H : Hp} {Q : VK} {p q : Addr} {l k : List Int} (h1 : LiAt H p l) (h2 : LiAt H q k) (hl : l.length ≤ 5000) (hk : k.length ≤ 5000) (f : ∀ c H', H c = none → Same H H' → LiAt H' c (l ++ k) → Q (.ref c) H') : rCat (.ref p) (.ref q) H Q :=
  x_cat h1 h2 (by rw [ints_len, ints_len]; exact small (by omega)) fun c H' hc s e => f c H' hc s (by rw [ints_append] at e; exact e)
theorem ixN_nat {n j : Nat} (h : j < n) : ixN n (j : Int) = some j := by
  unfold ixN
  rw [if_pos (by omega), if_pos (by omega)]
  simp
end
section
local macro_rules | `(tactic| walk_at "set") => `(tactic| first | exact set0 | (apply setS; walk_at "set"))
local macro_rules | `(tactic| walk_at "h") => `(tactic| first | assumption | (refine Same.lk (by assumption) ?_; walk_at "h"))
local macro_rules | `(tactic| walk_at "x1") => `(tactic| first
  | ((with_reducible show tVar _ _ _ _); refine x_var rfl ?_)
  | ((with_reducible show tC _ _ _ _); refine x_c ?_)
  | ((with_reducible show tOp _ _ _ _ _ _); refine x_op ?_)
  | ((with_reducible show tSeq _ _ _ _ _); refine x_seq ?_)
  | ((with_reducible show tAsg _ _ _ _ _); refine x_asg ?_)
  | ((with_reducible show gName _ _ _ _ _); refine x_name2 (by walk_at "set") ?_)
  | ((with_reducible show tCons _ _ _ _ _); refine x_cons ?_)
  | ((with_reducible show tNil _ _ _); refine x_nil ?_)
  | ((with_reducible show rI0 _ (V.int _) (V.int _) _ _); refine x_rI0 ?_)
  | ((with_reducible show tCB _ _ _ _ _); refine x_cb ?_)
  | ((with_reducible show tCall _ [] E0 _ _ _ _); refine x_call ?_)
  | ((with_reducible show rIxT _ _ _ _ _); refine x_ixT (by walk_at "h") (by rfl) ?_)
  | ((with_reducible show rLenQ _ _ _ _); refine x_lenL (by walk_at "h") ?_)
  | ((with_reducible show rLenQ _ _ _ _); refine x_lenT (by walk_at "h") ?_)
  | ((with_reducible show tIfS _ _ _ _ _ _); refine x_if ?_)
  | ((with_reducible show tTest _ _ _ _); refine x_test ?_)
  | ((with_reducible show tB _ _ _ _); refine x_tB ?_)
  | ((with_reducible show tYes _ _ _); refine x_yes ?_)
  | ((with_reducible show gTup _ _ _ (V.ref _) _ _ _); refine x_gtup (by walk_at "h") (by rfl) ?_)
  | ((with_reducible show gCons _ _ (_ :: _) _ _ _); refine x_gcons ?_)
  | ((with_reducible show gNil [] _ _ _); refine x_gnil ?_)
  | ((with_reducible show tPar _ _ _ _ _ _); refine x_par ?_)
  | (with_reducible refine x_bl ?_)
  | (with_reducible refine x_T ?_)
  | (with_reducible refine x_nT ?_)
  | (with_reducible refine x_nF ?_)
  | (with_reducible refine x_F ?_)
  | ((with_reducible show rEq _ _ _ _); refine x_eq rfl ?_)
  | ((with_reducible show rNe _ _ _ _); refine x_ne rfl ?_)
  | ((with_reducible show rIsNn _ _ _ _); refine x_isN ?_)
  | ((with_reducible show tRet _ _ _ _); refine x_ret ?_)
  | ((with_reducible show tNext _ _ _); refine x_next ?_)
  | ((with_reducible show tRetN _ _ _); refine x_retN ?_)
  | ((with_reducible show tDrop _ _ _ _); refine x_drop ?_)
  | ((with_reducible show tTup _ _ _ _); refine x_tup ?_)
  | ((with_reducible show tLst _ _ _ _); refine x_lst ?_)
  | ((with_reducible show tUn _ _ _ _ _); refine x_un ?_)
  | ((with_reducible show rU _ (V.int _) _ _); refine x_rU ?_)
  | ((with_reducible show tNot _ _ _ _); refine x_notT ?_)
  | ((with_reducible show tAnd _ _ _ _ _); refine x_and ?_)
  | ((with_reducible show tOr _ _ _ _ _); refine x_or ?_)
  | ((with_reducible show tSl _ _ _ _ _ _ _); refine x_sl ?_)
  | ((with_reducible show tNoPart _ _ _); refine x_noP ?_)
  | ((with_reducible show tPart _ _ _ _); refine x_part ?_)
  | (with_reducible refine x_pi ?_)
  | ((with_reducible show tBM _ _ _ _ _ _ _ _); refine x_bm ?_)
  | ((with_reducible show tyV _ "list" _ _ ∧ _); refine x_tyL (by walk_at "h") ?_)
  | ((with_reducible show gSub _ _ _ _ _ _ _); refine x_sub ?_)
  | ((with_reducible show rInt1 [V.int _] _ _); refine x_int ?_)
  | ((with_reducible show rInt1 [V.bl _] _ _); refine x_intB ?_)
  | ((with_reducible show rMin2 _ _ _); refine x_min ?_)
  | ((with_reducible show rMax2 _ _ _); refine x_max ?_))
local macro_rules | `(tactic| walk_at "x") => `(tactic| (repeat walk_at "x1"))
variable {P : Program} {w : World} {K : PySem.W.Frag} {mg : Str → Option Value} {base : Heap}
def side (r : Bool) : Str := if r then "right" else "left"
theorem side_dec (r : Bool) : decide (V.str (side r) = V.str "right") = r := by cases r <;> decide +kernel
def MovAt (H : Hp) (a : Addr) (m : Km.Mov) : Prop := H a = some (.tup [.int m.1, .str (side m.2)])
def spPlace : Sp := fun vs H Q _ => ∃ (a : Addr) (m : Km.Mov), vs = [.ref a] ∧ MovAt H a m ∧ Q (.int (Km.plc m)) H
theorem ok_place_of (T : Txt K mg) : Kd P w K mg base "place_of" ["move"] 1 spPlace := by
  refine kd_of T.d_place_of sc_place_of (fun vs H Q E h => ?_) (fun f cdv A outer s H vs Q E hr h => ?_)
  · obtain ⟨a, m, rfl, _⟩ := h
    rfl
  · obtain ⟨a, ⟨i, r⟩, rfl, ha, q⟩ := h
    have hm : H a = some (.tup [.int i, .str (side r)]) := ha
    refine ⟨_, (pss_cons (ps_if (pt_cmpR op_eq (pe_ix (ix_tupK (K := K) rfl) (pv 0) pe_int (fun _ _ => rfl)) pe_str (nomark _))
(pss_one (ps_ret (pe_op op_add (pe_ix (ix_tupK (K := K) rfl) (pv 0) pe_int (fun _ _ => rfl)) pe_int)))
pss_nil)
(pss_one (ps_ret (pe_ix (ix_tupK (K := K) rfl) (pv 0) pe_int (fun _ _ => rfl))))), ?_⟩
    refine st_lit (σ' := [some (V.ref a)]) rfl ?_
    walk_at "x"
    rw [side_dec]
    cases r
    · walk_at "x"
      exact q
    · walk_at "x"
      exact q
/-- the number of the first list that has the index, or None -/
def optV (o : Option Nat) : V := match o with | some n => .int n | none => .non
def spLw : Sp := fun vs H Q _ => ∃ (a : Addr) (fam : List (List Int)) (x : Int), vs = [.ref a, .int x] ∧ FamAt H a fam ∧ fam.length ≤ 100000 ∧ Q (optV (Km.lw fam x)) H
theorem lw_at {fam : List (List Int)} {x : Int} {i : Nat} {l : List Int} (h : ∀ j k, j < i → fam[j]? = some k → x ∉ k) (e : fam[i]? = some l) (hx : x ∈ l) : Km.lw fam x = some i := by
  unfold Km.lw
  rw [List.findIdx?_eq_some_iff_getElem]
  obtain ⟨hi, e2⟩ := List.getElem?_eq_some_iff.mp e
  refine ⟨hi, by rw [e2]; simpa using hx, fun j hj => ?_⟩
  have := h j fam[j] hj (List.getElem?_eq_getElem (by omega))
  simpa using this
theorem lw_no {fam : List (List Int)} {x : Int} (h : ∀ (j : Nat) k, fam[j]? = some k → x ∉ k) : Km.lw fam x = none := by
  unfold Km.lw
  rw [List.findIdx?_eq_none_iff]
  intro l hl
  obtain ⟨j, e⟩ := List.getElem?_of_mem hl
  simpa using h j l e
theorem x_in {K : PySem.W.Frag} {H : Hp} {Q : VK} {p : Addr} {x : Int} {l : List Int} (h : LiAt H p l) (k : Q (.bl (decide (x ∈ l))) H) : rIn K false (.int x) (.ref p) H Q :=
  ⟨p, _, rfl, .inl (SqL.of h), rfl, ints_flat l, by rw [inV_int]; exact k⟩
theorem x_nin {K : PySem.W.Frag} {H : Hp} {Q : VK} {p : Addr} {x : Int} {l : List Int} (h : LiAt H p l) (k : Q (.bl (!decide (x ∈ l))) H) : rIn K true (.int x) (.ref p) H Q :=
  ⟨p, _, rfl, .inl (SqL.of h), rfl, ints_flat l, by rw [inV_int]; exact k⟩
theorem x_r1 {σ : L2.St} {H : Hp} {R : It → Hp → Prop} {ta : TA} (k : ta σ H fun vs H1 => ∃ j : Int, vs = [.int j] ∧ -(2 ^ 62) ≤ j ∧ j < 2 ^ 62 ∧ R (Itr 0 j.toNat) H1) : iRng1 ta σ H R := k
theorem x_r1n {n : Nat} {R : Int → Prop} (h : n ≤ 100000) (k : R n) : ∃ j : Int, [V.int (n : Int)] = [.int j] ∧ -(2 ^ 62) ≤ j ∧ j < 2 ^ 62 ∧ R j := ⟨n, rfl, by omega, by omega, k⟩
theorem x_for {wi : TI} {g : TG} {tb : TS} {D : Ends} {σ : L2.St} {H : Hp} (k : wi σ H fun J H1 => ∃ W : Nat → Nat → L2.St → Hp → Prop, (∃ m, W 0 m σ H1) ∧ ∀ i m σ H, W i m σ H →
  (J.stop i H ∧ D.nx σ H) ∨ (J.go i H ∧ ∃ N : L2.St → Hp → Prop, (∀ σ' H', N σ' H' → ∃ m', m' < m ∧ W (i + 1) m' σ' H') ∧ ∀ x H', J.yld i H x H' → g x σ H' fun σ2 H2 => tb { D with nx := N, ct := N, bk := D.nx } σ2 H2)) : tFor wi g tb D σ H := k
theorem atI_refs {as : List Addr} {i : Nat} {p : Addr} (h : as[i]? = some p) : atI (refs as) (i : Int) = some (.ref p) := atI_nat (refs_get h)
theorem atI_ints {l : List Int} {i : Nat} {x : Int} (h : l[i]? = some x) : atI (l.map V.int) (i : Int) = some (.int x) := atI_nat (ints_get h)
theorem ok_list_with (T : Txt K mg) : Kd P w K mg base "list_with" ["family", "index"] 1 spLw := by
  refine kd_of T.d_list_with sc_list_with (fun vs H Q E h => ?_) (fun f cdv A outer s H vs Q E hr h => ?_)
  · obtain ⟨a, m, x, rfl, _⟩ := h
    rfl
  · obtain ⟨a, fam, x, rfl, ⟨as, ha, hf⟩, hl, q⟩ := h
    refine ⟨_, (pss_cons (ps_for PassesOwn.never rfl (pi_range1 (by rfl) T.n_range (pa_cons (pe_callB (n_lenK (K := K) rfl) (by rfl) T.n_len PySem.boot_len (pa_cons (pv 0) pa_nil)) pa_nil)) (pg_name (i := 2) sc_list_with.nd rfl (.inl rfl))
(pss_one (ps_if (pt_cmpR (op_in_seqK (K := K) rfl) (pv 1) (pe_ix (ix_listK (K := K) rfl) (pv 0) (pv 2) (fun _ _ => rfl)) (by rfl))
(pss_one (ps_ret (pv 2)))
pss_nil)))
(pss_one (ps_ret pe_non))), ?_⟩
    refine st_lit (σ' := [some (V.ref a), some (V.int x), none]) rfl ?_
    walk_at "x"
    refine x_for (x_r1 ?_)
    walk_at "x"
    rw [refs_len]
    refine x_r1n (n := as.length) (by rw [hf.len]; exact hl) ?_
    rw [Int.toNat_natCast]
    refine for_range (fun i σ H' => H' = H ∧ (∀ j k, j < i → fam[j]? = some k → x ∉ k) ∧ ∃ v, σ = [some (.ref a), some (.int x), v]) ⟨rfl, fun j k h => by omega, none, rfl⟩ ?_ ?_
    · rintro i σ H' hi ⟨rfl, hn, v, rfl⟩
      obtain ⟨l, e2, r⟩ := hf.get' (List.getElem?_eq_getElem hi)
      rw [Int.zero_add]
      walk_at "x"
      refine x_ixL ha (atI_refs (List.getElem?_eq_getElem hi)) ?_
      refine x_in r ?_
      walk_at "x"
      refine x_ite (fun hx => ?_) (fun hx => ?_)
      · walk_at "x"
        rw [lw_at hn e2 hx] at q
        exact q
      · walk_at "x"
        refine ⟨rfl, fun j k hj e => ?_, _, rfl⟩
        by_cases ej : j = i
        · subst ej
          rw [e2] at e
          cases e
          exact hx
        · exact hn j k (by omega) e
    · rintro σ H' ⟨rfl, hn, v, rfl⟩
      walk_at "x"
      rw [lw_no (fun j k e => hn j k (by rw [hf.len]; exact (List.getElem?_eq_some_iff.mp e).1) e)] at q
      exact q
end
section
local macro_rules | `(tactic| walk_at "set") => `(tactic| first | exact set0 | (apply setS; walk_at "set"))
local macro_rules | `(tactic| walk_at "h") => `(tactic| first | assumption | (refine Same.lk (by assumption) ?_; walk_at "h"))
local macro_rules | `(tactic| walk_at "x1") => `(tactic| first
  | ((with_reducible show tVar _ _ _ _); refine x_var rfl ?_)
  | ((with_reducible show tC _ _ _ _); refine x_c ?_)
  | ((with_reducible show tOp _ _ _ _ _ _); refine x_op ?_)
  | ((with_reducible show tSeq _ _ _ _ _); refine x_seq ?_)
  | ((with_reducible show tAsg _ _ _ _ _); refine x_asg ?_)
  | ((with_reducible show gName _ _ _ _ _); refine x_name2 (by walk_at "set") ?_)
  | ((with_reducible show tCons _ _ _ _ _); refine x_cons ?_)
  | ((with_reducible show tNil _ _ _); refine x_nil ?_)
  | ((with_reducible show rI0 _ (V.int _) (V.int _) _ _); refine x_rI0 ?_)
  | ((with_reducible show tCB _ _ _ _ _); refine x_cb ?_)
  | ((with_reducible show tCall _ [] E0 _ _ _ _); refine x_call ?_)
  | ((with_reducible show rIxT _ _ _ _ _); refine x_ixT (by walk_at "h") (by rfl) ?_)
  | ((with_reducible show rLenQ _ _ _ _); refine x_lenL (by walk_at "h") ?_)
  | ((with_reducible show rLenQ _ _ _ _); refine x_lenT (by walk_at "h") ?_)
  | ((with_reducible show tIfS _ _ _ _ _ _); refine x_if ?_)
  | ((with_reducible show tTest _ _ _ _); refine x_test ?_)
  | ((with_reducible show tB _ _ _ _); refine x_tB ?_)
  | ((with_reducible show tYes _ _ _); refine x_yes ?_)
  | ((with_reducible show gTup _ _ _ (V.ref _) _ _ _); refine x_gtup (by walk_at "h") (by rfl) ?_)
  | ((with_reducible show gCons _ _ (_ :: _) _ _ _); refine x_gcons ?_)
  | ((with_reducible show gNil [] _ _ _); refine x_gnil ?_)
  | ((with_reducible show tPar _ _ _ _ _ _); refine x_par ?_)
  | (with_reducible refine x_bl ?_)
  | (with_reducible refine x_T ?_)
  | (with_reducible refine x_nT ?_)
  | (with_reducible refine x_nF ?_)
  | (with_reducible refine x_F ?_)
  | ((with_reducible show rEq _ _ _ _); refine x_eq rfl ?_)
  | ((with_reducible show rNe _ _ _ _); refine x_ne rfl ?_)
  | ((with_reducible show rIsNn _ _ _ _); refine x_isN ?_)
  | ((with_reducible show tRet _ _ _ _); refine x_ret ?_)
  | ((with_reducible show tNext _ _ _); refine x_next ?_)
  | ((with_reducible show tRetN _ _ _); refine x_retN ?_)
  | ((with_reducible show tDrop _ _ _ _); refine x_drop ?_)
  | ((with_reducible show tTup _ _ _ _); refine x_tup ?_)
  | ((with_reducible show tLst _ _ _ _); refine x_lst ?_)
  | ((with_reducible show tUn _ _ _ _ _); refine x_un ?_)
  | ((with_reducible show rU _ (V.int _) _ _); refine x_rU ?_)
  | ((with_reducible show tNot _ _ _ _); refine x_notT ?_)
  | ((with_reducible show tAnd _ _ _ _ _); refine x_and ?_)
  | ((with_reducible show tOr _ _ _ _ _); refine x_or ?_)
  | ((with_reducible show tSl _ _ _ _ _ _ _); refine x_sl ?_)
  | ((with_reducible show tNoPart _ _ _); refine x_noP ?_)
  | ((with_reducible show tPart _ _ _ _); refine x_part ?_)
  | (with_reducible refine x_pi ?_)
  | ((with_reducible show tBM _ _ _ _ _ _ _ _); refine x_bm ?_)
  | ((with_reducible show tyV _ "list" _ _ ∧ _); refine x_tyL (by walk_at "h") ?_)
  | ((with_reducible show gSub _ _ _ _ _ _ _); refine x_sub ?_)
  | ((with_reducible show rInt1 [V.int _] _ _); refine x_int ?_)
  | ((with_reducible show rInt1 [V.bl _] _ _); refine x_intB ?_)
  | ((with_reducible show rMin2 _ _ _); refine x_min ?_)
  | ((with_reducible show rMax2 _ _ _); refine x_max ?_))
local macro_rules | `(tactic| walk_at "x") => `(tactic| (repeat walk_at "x1"))
variable {P : Program} {w : World} {K : PySem.W.Frag} {mg : Str → Option Value} {base : Heap}
theorem x_pl {K : PySem.W.Frag} {σ : L2.St} {H : Hp} {R : It → Hp → Prop} {tl : TE} (k : tl σ H fun x H1 => ∃ a, x = .ref a ∧ (∃ xs, SqL K H1 a xs) ∧ R (Itl K a) H1) : iList K tl σ H R := k
theorem x_pln {K : PySem.W.Frag} {H : Hp} {R : Addr → Prop} {a : Addr} {xs : List V} (h : H a = some (.lst xs)) (k : R a) : ∃ b, V.ref a = .ref b ∧ (∃ xs, SqL K H b xs) ∧ R b := ⟨a, rfl, ⟨xs, SqL.of h⟩, k⟩
theorem sw_if (p x : Int) : Km.sw p x = if x = p then p + 1 else if x = p + 1 then p else x := rfl
theorem dec_vint (a b : Int) : decide (V.int a = V.int b) = decide (a = b) := decide_eq_decide.mpr ⟨fun e => V.int.inj e, fun e => by rw [e]⟩
theorem take_snoc {α : Type} {l : List α} {i : Nat} {x : α} (h : l[i]? = some x) : l.take (i + 1) = l.take i ++ [x] := by rw [List.take_add_one, h]; rfl
/-- a flat list handed back -/
def spXch : Sp := fun vs H Q _ => ∃ (a : Addr) (l : List Int) (p : Int), vs = [.ref a, .int p] ∧ LiAt H a l ∧ l.length ≤ 1000 ∧ ∀ q H', H q = none → Same H H' → LiAt H' q (l.map (Km.sw p)) → Q (.ref q) H'
theorem ok_exchanged (T : Txt K mg) : Kd P w K mg base "exchanged" ["indexes", "place"] 1 spXch := by
  refine kd_of T.d_exchanged sc_exchanged (fun vs H Q E h => ?_) (fun f cdv A outer s H vs Q E hr h => ?_)
  · obtain ⟨a, l, p, rfl, _⟩ := h
    rfl
  · obtain ⟨a, l, p, rfl, ha, hl, q⟩ := h
    refine ⟨_, (pss_cons (ps_set (i := 2) sc_exchanged.nd rfl (.inl rfl) (pe_lst (pa_m pa_nil)))
(pss_cons (ps_for PassesOwn.never rfl (pi_listK (K := K) rfl (pv 0)) (pg_name (i := 3) sc_exchanged.nd rfl (.inl rfl))
(pss_one (ps_if (pt_cmpR op_eq (pv 3) (pv 1) (nomark _))
(pss_one (ps_expr (pe_bmK (K := K) rfl (pe_bm PySem.F.plainAttrs_list PySem.F.slot_list_append PySem.F.type_list_append mt_append (pv 2) (pa_cons (pe_op op_add (pv 1) pe_int) pa_nil)))))
(pss_one (ps_if (pt_cmpR op_eq (pv 3) (pe_op op_add (pv 1) pe_int) (nomark _))
(pss_one (ps_expr (pe_bmK (K := K) rfl (pe_bm PySem.F.plainAttrs_list PySem.F.slot_list_append PySem.F.type_list_append mt_append (pv 2) (pa_cons (pv 1) pa_nil)))))
(pss_one (ps_expr (pe_bmK (K := K) rfl (pe_bm PySem.F.plainAttrs_list PySem.F.slot_list_append PySem.F.type_list_append mt_append (pv 2) (pa_cons (pv 3) pa_nil))))))))))
(pss_one (ps_ret (pv 2))))), ?_⟩
    refine st_lit (σ' := [some (V.ref a), some (V.int p), none, none]) rfl ?_
    walk_at "x"
    refine ⟨by decide, fun c H1 hc s1 e1 => ?_⟩
    walk_at "x"
    refine x_for (x_pl ?_)
    walk_at "x"
    refine x_pln (ha.mono s1) ?_
    refine for_list (K := _) (a := a) (xs := l.map V.int) (fun i σ H' => Same H H' ∧ H' c = some (.lst ((l.take i).map (fun x => V.int (Km.sw p x)))) ∧ ∃ v, σ = [some (.ref a), some (.int p), some (.ref c), v]) ⟨s1, e1, none, rfl⟩ (fun i σ H' _ h => SqL.of (ha.mono h.1)) ?_ ?_
    · rintro i x σ H' hi ⟨s2, e2, v, rfl⟩
      obtain ⟨y, rfl, hy⟩ := ints_get' hi
      have hil : i < l.length := (List.getElem?_eq_some_iff.mp hy).1
      have fin : ∀ z : Int, z = Km.sw p y → H' c = some (.lst ((l.take i).map (fun x => V.int (Km.sw p x)))) → Same H (upd H' c (.lst ((l.take i).map (fun x => V.int (Km.sw p x)) ++ [.int z]))) ∧ upd H' c (.lst ((l.take i).map (fun x => V.int (Km.sw p x)) ++ [.int z])) c = some (.lst ((l.take (i + 1)).map (fun x => V.int (Km.sw p x)))) := fun z ez _ => by
        refine ⟨same_mut s2 hc, ?_⟩
        rw [upd_same, take_snoc hy, List.map_append, ez]
        rfl
      have hz : ((l.take i).map (fun x => V.int (Km.sw p x))).length < sizeLine := smallL (by rw [List.length_map, List.length_take]; omega)
      walk_at "x"
      rw [dec_vint]
      refine x_ite (fun h => ?_) (fun h => ?_)
      · walk_at "x"
        refine x_app e2 hz ?_
        obtain ⟨f1, f2⟩ := fin (p + 1) (by rw [sw_if, if_pos h]) e2
        exact ⟨f1, f2, _, rfl⟩
      · walk_at "x"
        rw [dec_vint]
        refine x_ite (fun h2 => ?_) (fun h2 => ?_)
        · walk_at "x"
          refine x_app e2 hz ?_
          obtain ⟨f1, f2⟩ := fin p (by rw [sw_if, if_neg h, if_pos h2]) e2
          exact ⟨f1, f2, _, rfl⟩
        · walk_at "x"
          refine x_app e2 hz ?_
          obtain ⟨f1, f2⟩ := fin y (by rw [sw_if, if_neg h, if_neg h2]) e2
          exact ⟨f1, f2, _, rfl⟩
    · rintro σ H' ⟨s2, e2, v, rfl⟩
      walk_at "x"
      refine q c H' hc s2 ?_
      rw [ints_len, List.take_length] at e2
      show H' c = some (.lst ((l.map (Km.sw p)).map V.int))
      rw [List.map_map]
      exact e2
theorem x_index {K : PySem.W.Frag} {H : Hp} {Q : VK} {a : Addr} {l : List Int} {x : Int} (h : LiAt H a l) (hx : x ∈ l) (k : Q (.int (l.idxOf x : Nat)) H) : rIndex K (.ref a) [.int x] H Q := by
  have hlt : l.idxOf x < l.length := List.idxOf_lt_length_of_mem hx
  have e : l[l.idxOf x] = x := List.getElem_idxOf hlt
  refine ⟨a, _, .int x, l.idxOf x, .int x, rfl, rfl, SqL.of h, rfl, ints_flat l, ints_get (by rw [List.getElem?_eq_getElem hlt, e]), by show (x == x) = true; simp, fun m z' hm hz => ?_, k⟩
  obtain ⟨y, rfl, hy⟩ := ints_get' hz
  show (y == x) = false
  obtain ⟨hy1, hy2⟩ := List.getElem?_eq_some_iff.mp hy
  have := List.not_of_lt_findIdx (show m < l.findIdx (· == x) from hm)
  rw [hy2] at this
  simpa using this
theorem cut_drop (l : List Int) (n : Nat) : cutV (l.map V.int) (some (n : Int)) none = (l.drop n).map V.int := by
  unfold cutV
  rw [HT.sIx_nat, HT.sIx_none, ints_len, ← List.map_drop, ← List.map_take]
  congr 1
  by_cases h : n ≤ l.length
  · rw [Nat.min_eq_left h, List.take_of_length_le (by simp)]
  · rw [Nat.min_eq_right (by omega), List.drop_of_length_le (Nat.le_refl _), List.drop_of_length_le (by omega)]
    simp
theorem cut_take (l : List Int) (n : Nat) : cutV (l.map V.int) none (some (n : Int)) = (l.take n).map V.int := by
  unfold cutV
  rw [HT.sIx_nat, HT.sIx_none, ints_len, List.drop_zero, Nat.sub_zero, ← List.map_take]
  congr 1
  by_cases h : n ≤ l.length
  · rw [Nat.min_eq_left h]
  · rw [Nat.min_eq_right (by omega), List.take_length, List.take_of_length_le (by omega)]
def spTl : Sp := fun vs H Q _ => ∃ (a : Addr) (l : List Int) (x : Int), vs = [.ref a, .int x] ∧ LiAt H a l ∧ x ∈ l ∧ ∀ q H', H q = none → Same H H' → LiAt H' q (Km.tl l x) → Q (.ref q) H'
def spHd : Sp := fun vs H Q _ => ∃ (a : Addr) (l : List Int) (x : Int), vs = [.ref a, .int x] ∧ LiAt H a l ∧ x ∈ l ∧ ∀ q H', H q = none → Same H H' → LiAt H' q (Km.hd l x) → Q (.ref q) H'
theorem ok_tail_from (T : Txt K mg) : Kd P w K mg base "tail_from" ["indexes", "index"] 1 spTl := by
  refine kd_of T.d_tail_from sc_tail_from (fun vs H Q E h => ?_) (fun f cdv A outer s H vs Q E hr h => ?_)
  · obtain ⟨a, l, p, rfl, _⟩ := h
    rfl
  · obtain ⟨a, l, x, rfl, ha, hx, q⟩ := h
    have ha' : H a = some (.lst (l.map V.int)) := ha
    refine ⟨_, (pss_one (ps_ret (pe_slice (sl_listK (K := K) rfl) (pv 0) (po_some (pe_op op_add (pe_bmK (K := K) rfl (pe_bm PySem.F.plainAttrs_list PySem.F.slot_list_index PySem.F.type_list_index (mt_indexK (K := K) rfl) (pv 0) (pa_cons (pv 1) pa_nil))) pe_int)) po_none))), ?_⟩
    refine st_lit (σ' := [some (V.ref a), some (V.int x)]) rfl ?_
    walk_at "x"
    refine x_index ha hx ?_
    walk_at "x"
    refine x_slL ha' (fun c H1 hc s1 e1 => q c H1 hc s1 ?_)
    rw [show ((l.idxOf x : Nat) : Int) + 1 = ((l.idxOf x + 1 : Nat) : Int) by omega, cut_drop] at e1
    exact e1
theorem ok_head_before (T : Txt K mg) : Kd P w K mg base "head_before" ["indexes", "index"] 1 spHd := by
  refine kd_of T.d_head_before sc_head_before (fun vs H Q E h => ?_) (fun f cdv A outer s H vs Q E hr h => ?_)
  · obtain ⟨a, l, p, rfl, _⟩ := h
    rfl
  · obtain ⟨a, l, x, rfl, ha, hx, q⟩ := h
    have ha' : H a = some (.lst (l.map V.int)) := ha
    refine ⟨_, (pss_one (ps_ret (pe_slice (sl_listK (K := K) rfl) (pv 0) po_none (po_some (pe_bmK (K := K) rfl (pe_bm PySem.F.plainAttrs_list PySem.F.slot_list_index PySem.F.type_list_index (mt_indexK (K := K) rfl) (pv 0) (pa_cons (pv 1) pa_nil))))))), ?_⟩
    refine st_lit (σ' := [some (V.ref a), some (V.int x)]) rfl ?_
    walk_at "x"
    refine x_index ha hx ?_
    walk_at "x"
    refine x_slL ha' (fun c H1 hc s1 e1 => q c H1 hc s1 ?_)
    rw [cut_take] at e1
    exact e1
end
section
variable {P : Program} {w : World} {K : PySem.W.Frag} {mg : Str → Option Value} {base : Heap}
/-- [f(x) for x in family], a new list of new lists -/
theorem lc_fam {K : PySem.W.Frag} {σ : L2.St} {S H : Hp} {Q : VK} {b : Addr} {ib j : Nat} {fam : List (List Int)} {f : List Int → List Int} {te : TE} (sh : Same S H) (hb : FamAt S b fam) (hz : fam.length ≤ 1000) (hi : σ[ib]? = some (some (.ref b)))
    (hw : ∀ x, wipe ((wipe σ [j]).set j (some x)) [j] = wipe σ [j])
    (he : ∀ (i : Nat) (l : List Int) (p : Addr) (S1 H1 : Hp) (R : VK), fam[i]? = some l → LiAt S1 p l → Same S1 H1 → (∀ q H2, H1 q = none → Same H1 H2 → LiAt H2 q (f l) → R (.ref q) H2) → te ((wipe σ [j]).set j (some (.ref p))) H1 R)
    (k : ∀ D S' H' as, Go S H S' H' → H D = none → S' D = none → H' D = some (.lst (refs as)) → All (LiAt S') as (fam.map f) → Q (.ref D) H') : tLc (iList K (tVar ib)) (gName j) tYes te [j] σ H Q := by
  obtain ⟨as0, eb, hf⟩ := hb
  refine ⟨.ref b, hi, b, rfl, ⟨_, SqL.of (sh _ _ eb)⟩, fun D hD => ?_⟩
  refine lc_list (K := K) (a := b) (xs := refs as0) (fun i H' => ∃ S' as, Go S H S' H' ∧ S' D = none ∧ H' D = some (.lst (refs as)) ∧ All (LiAt S') as ((fam.take i).map f)) ?_ ?_ ?_ ?_
  · exact ⟨S, [], (Go.refl sh).mut hD (sh.free hD), sh.free hD, upd_same, by simpa using All.nil⟩
  · rintro i H' _ ⟨S', as, g, _, _, _⟩
    exact SqL.of (g.sh _ _ (g.ss _ _ eb))
  · rintro i x H' hx ⟨S', as, g, hS, hD', ha⟩
    obtain ⟨p, rfl, hp⟩ := refs_get' hx
    obtain ⟨l, hl, r⟩ := hf.get' hp
    refine ⟨hw _, ?_⟩
    refine x_yes ?_
    refine x_T ?_
    refine he i l p S' H' _ hl (r.mono g.ss) g.sh fun q H2 hq s2 r2 => ?_
    obtain ⟨S2, g2, e2⟩ := Go.one g.sh s2 hq r2
    have hil : i < fam.length := (List.getElem?_eq_some_iff.mp hl).1
    refine ⟨refs as, s2 _ _ hD', smallL ?_, S2, as ++ [q], (g.trans g2).mut hD (g2.fr D _ hS hD'), g2.fr D _ hS hD', ?_, ?_⟩
    · rw [refs_len, ha.len, List.length_map, List.length_take]
      omega
    · rw [upd_same, refs_snoc]
    · rw [take_snoc hl, List.map_append]
      exact (ha.mono g2.ss).snoc e2
  · rintro H' ⟨S', as, g, hS, hD', ha⟩
    refine k D S' H' as g hD hS hD' ?_
    rw [refs_len, hf.len, List.take_length] at ha
    exact ha
def spCarr : Sp := fun vs H Q _ => ∃ (S : Hp) (a b : Addr) (m : Km.Mov) (fam : List (List Int)), vs = [.ref a, .ref b] ∧ Same S H ∧ MovAt S a m ∧ FamAt S b fam ∧ fam.length ≤ 1000 ∧ (∀ l ∈ fam, l.length ≤ 1000) ∧ ∀ v S' H', Go S H S' H' → H v = none → FamAt S' v (Km.carr m fam) → Q (.ref v) H'
theorem x_lc2 {K : PySem.W.Frag} {σ : L2.St} {H : Hp} {D : Ends} {te : TE} {j i : Nat} {wi : TI} (k : tLc wi (gName j) tYes te [j] σ H (fun x H1 => D.nx (σ.set i (some x)) H1)) : tAsg (tLc wi (gName j) tYes te [j]) (gName i) D σ H := k
theorem optV_non (o : Option Nat) : decide (optV o = .non) = o.isNone := by cases o <;> rfl
theorem hd_len (l : List Int) (x : Int) : (Km.hd l x).length ≤ l.length := by unfold Km.hd; rw [List.length_take]; omega
theorem tl_len (l : List Int) (x : Int) : (Km.tl l x).length ≤ l.length := by unfold Km.tl; rw [List.length_drop]; omega
theorem ok_carried (T : Txt K mg) : Kd P w K mg base "carried" ["move", "family"] 2 spCarr := by
  refine kd_of T.d_carried sc_carried (fun vs H Q E h => ?_) (fun f cdv A outer s H vs Q E hr h => ?_)
  · obtain ⟨S, a, b, m, fam, rfl, _⟩ := h
    rfl
  · obtain ⟨S, a, b, ⟨mi, mr⟩, fam, rfl, sh, ha, hb, hl, hll, q⟩ := h
    obtain ⟨as, eb, hf⟩ := id hb
    have ea : H a = some (.tup [.int mi, .str (side mr)]) := sh _ _ ha
    have eb' : H b = some (.lst (refs as)) := sh _ _ eb
    have hbH : FamAt H b fam := hb.mono sh
    generalize hp : Km.plc (mi, mr) = p at *
    refine ⟨_, (pss_cons (ps_set (i := 2) sc_carried.nd rfl (.inr rfl) (pe_kd (ok_place_of T) (hr.mono (by decide)) (by rfl) (pa_cons (pv 0) pa_nil)))
(pss_cons (ps_set (i := 3) sc_carried.nd rfl (.inl rfl) (pe_kd (ok_list_with T) (hr.mono (by decide)) (by rfl) (pa_cons (pv 1) (pa_cons (pv 2) pa_nil))))
(pss_cons (ps_if (PW.pt (pw_or (pt_cmpR n_isN (pv 3) pe_non (nomark _)) (pw_or1 (pt_cmpR (op_notIn_seqK (K := K) rfl) (pe_op op_add (pv 2) pe_int) (pe_ix (ix_listK (K := K) rfl) (pv 1) (pv 3) (fun _ _ => rfl)) (by rfl)))))
(pss_one (ps_ret (pe_lc (own := [("indexes", 12)]) (g := gName 12) (tt := tYes) rfl sc_carried.nd (pi_listK (K := K) rfl (pv 1)) (blkOk_by (own := [("indexes", 12)]) (N := ["move", "family", "place", "both", "result", "head", "tail", "witness", "middle", "other", "other_head", "other_tail", "indexes"]) (sc := defScope s_carried) (by decide +kernel)) (fun _ _ _ _ _ => pg_name (i := 12) sc_carried.nd rfl (Or.inl rfl)) (fun _ _ _ _ _ => pts_nil) (fun _ _ _ _ _ => (pe_kd (ok_exchanged T) (hr.mono (by decide)) (by rfl) (pa_cons (pv 12) (pa_cons (pv 2) pa_nil)))))))
pss_nil)
(pss_cons (ps_setLc (i := 4) (own := [("indexes", 12)]) (g := gName 12) (tt := tYes) rfl sc_carried.nd rfl rfl (sw_true rfl rfl rfl (by decide +kernel)) (pi_listK (K := K) rfl (pv 1)) (blkOk_by (own := [("indexes", 12)]) (N := ["move", "family", "place", "both", "result", "head", "tail", "witness", "middle", "other", "other_head", "other_tail", "indexes"]) (sc := defScope s_carried) (by decide +kernel)) (fun _ _ _ _ _ => pg_name (i := 12) sc_carried.nd rfl (Or.inl rfl)) (fun _ _ _ _ _ => pts_nil) (fun _ _ _ _ _ => (pe_callTy (n_list_ofK (K := K) rfl) (by rfl) T.n_list (by decide +kernel) (pa_cons (pv 12) pa_nil))))
(pss_cons (ps_set (i := 5) sc_carried.nd rfl (.inl rfl) (pe_kd (ok_head_before T) (hr.mono (by decide)) (by rfl) (pa_cons (pe_ix (ix_listK (K := K) rfl) (pv 1) (pv 3) (fun _ _ => rfl)) (pa_cons (pv 2) pa_nil))))
(pss_cons (ps_set (i := 6) sc_carried.nd rfl (.inl rfl) (pe_kd (ok_tail_from T) (hr.mono (by decide)) (by rfl) (pa_cons (pe_ix (ix_listK (K := K) rfl) (pv 1) (pv 3) (fun _ _ => rfl)) (pa_cons (pe_op op_add (pv 2) pe_int) pa_nil))))
(pss_cons (ps_set (i := 7) sc_carried.nd rfl (.inl rfl) (pe_op op_add (pv 2) pe_int))
(pss_cons (ps_set (i := 8) sc_carried.nd rfl (.inl rfl) (pe_lst (pa_m (pa_cons (pe_op op_add (pv 2) pe_int) (pa_cons (pv 7) pa_nil)))))
(pss_cons (ps_if (pt_cmpR op_eq (pe_ix (ix_tupK (K := K) rfl) (pv 0) pe_int (fun _ _ => rfl)) pe_str (nomark _))
(pss_cons (ps_set (i := 7) sc_carried.nd rfl (.inl rfl) (pe_op op_sub (pv 2) pe_int))
(pss_one (ps_set (i := 8) sc_carried.nd rfl (.inl rfl) (pe_lst (pa_m (pa_cons (pv 7) (pa_cons (pv 2) pa_nil)))))))
pss_nil)
(pss_cons (ps_set (i := 9) sc_carried.nd rfl (.inl rfl) (pe_kd (ok_list_with T) (hr.mono (by decide)) (by rfl) (pa_cons (pv 1) (pa_cons (pv 7) pa_nil))))
(pss_cons (ps_if (pt_cmpR n_isN (pv 9) pe_non (nomark _))
(pss_cons (ps_asg (pe_op op_cat (pe_op op_cat (pv 5) (pv 8)) (pv 6)) (pg_sub (pv 4) (pv 3) set_list))
(pss_one (ps_ret (pv 4))))
pss_nil)
(pss_cons (ps_set (i := 10) sc_carried.nd rfl (.inl rfl) (pe_kd (ok_head_before T) (hr.mono (by decide)) (by rfl) (pa_cons (pe_ix (ix_listK (K := K) rfl) (pv 1) (pv 9) (fun _ _ => rfl)) (pa_cons (pv 7) pa_nil))))
(pss_cons (ps_set (i := 11) sc_carried.nd rfl (.inl rfl) (pe_kd (ok_tail_from T) (hr.mono (by decide)) (by rfl) (pa_cons (pe_ix (ix_listK (K := K) rfl) (pv 1) (pv 9) (fun _ _ => rfl)) (pa_cons (pv 7) pa_nil))))
(pss_cons (ps_if (pt_cmpR op_eq (pe_ix (ix_tupK (K := K) rfl) (pv 0) pe_int (fun _ _ => rfl)) pe_str (nomark _))
(pss_cons (ps_asg (pe_op op_cat (pe_op op_cat (pv 10) (pv 8)) (pv 6)) (pg_sub (pv 4) (pv 9) set_list))
(pss_one (ps_asg (pe_op op_cat (pe_op op_cat (pv 5) (pe_lst (pa_m (pa_cons (pe_op op_add (pv 2) pe_int) pa_nil)))) (pv 11)) (pg_sub (pv 4) (pv 3) set_list))))
(pss_cons (ps_asg (pe_op op_cat (pe_op op_cat (pv 10) (pe_lst (pa_m (pa_cons (pv 2) pa_nil)))) (pv 6)) (pg_sub (pv 4) (pv 9) set_list))
(pss_one (ps_asg (pe_op op_cat (pe_op op_cat (pv 5) (pv 8)) (pv 11)) (pg_sub (pv 4) (pv 3) set_list)))))
(pss_one (ps_ret (pv 4))))))))))))))))), ?_⟩
    refine st_lit (σ' := [some (V.ref a), some (V.ref b), none, none, none, none, none, none, none, none, none, none, none]) rfl ?_
    walk_at "x"
    refine ⟨a, (mi, mr), rfl, ea, ?_⟩
    rw [hp]
    walk_at "x"
    refine ⟨b, fam, p, rfl, hbH, by omega, ?_⟩
    walk_at "x"
    rw [optV_non]
    cases h1 : Km.lw fam p with
    | none =>
      have ec : Km.carr (mi, mr) fam = fam.map fun l => l.map (Km.sw p) := by
        unfold Km.carr
        simp only [hp, h1]
      rw [ec] at q
      dsimp only [Option.isNone]
      walk_at "x"
      refine lc_fam (f := fun l => l.map (Km.sw p)) sh hb hl rfl (fun x => rfl) (fun i l c S1 H1 R e1 e2 s1 k => ?_) (fun D S' H' as2 g h1 h2 h3 h4 => ?_)
      · walk_at "x"
        exact ⟨c, l, p, rfl, e2.mono s1, hll l (List.mem_of_getElem? e1), k⟩
      · obtain ⟨S2, g2, s2, e2⟩ := g.seal h1 h2 h3
        exact q D S2 H' g2 h1 ⟨as2, e2, h4.mono s2⟩
    | some n =>
      obtain ⟨lb, hlb, hpb⟩ := Km.lw_some h1
      obtain ⟨pb, hpb1, rb⟩ := hf.get hlb
      have eb0 : fam.getD n [] = lb := by rw [List.getD_eq_getElem?_getD, hlb]; rfl
      have rbH : LiAt H pb lb := rb.mono sh
      have hlb1 : lb.length ≤ 1000 := hll lb (List.mem_of_getElem? hlb)
      have hnl : n < fam.length := (List.getElem?_eq_some_iff.mp hlb).1
      dsimp only [optV, Option.isNone]
      walk_at "x"
      refine x_ixL eb' (atI_refs hpb1) ?_
      refine x_nin rbH ?_
      walk_at "x"
      by_cases h2 : p + 1 ∈ lb
      · rw [decide_eq_true h2]
        walk_at "x"
        refine lc_fam (f := fun l => l) sh hb hl rfl (fun x => rfl) (fun i l c S1 H1 R e1 e2 s1 k => ?_) (fun D S1 H1 as1 g1 hD hS1 hD1 hA1 => ?_)
        · walk_at "x"
          exact x_listL (e2.mono s1) k
        rw [List.map_id'] at hA1
        have s0 := g1.hh
        walk_at "x"
        refine x_ixL (s0 _ _ eb') (atI_refs hpb1) ?_
        walk_at "x"
        refine ⟨pb, lb, p, rfl, rbH.mono s0, hpb, fun c1 H2 n1 s1 e1 => ?_⟩
        obtain ⟨S2, g2, e1'⟩ := Go.one g1.sh s1 n1 e1
        walk_at "x"
        refine x_ixL (s1 _ _ (s0 _ _ eb')) (atI_refs hpb1) ?_
        walk_at "x"
        refine ⟨pb, lb, p + 1, rfl, (rbH.mono s0).mono s1, h2, fun c2 H3 n2 s2 e2 => ?_⟩
        obtain ⟨S3, g3, e2'⟩ := Go.one g2.sh s2 n2 e2
        walk_at "x"
        refine ⟨small (by simp), fun c3 H4 n3 s3 e3 => ?_⟩
        obtain ⟨S4, g4, e3'⟩ := Go.one g3.sh s3 n3 e3
        have hS2 := g2.fr D _ hS1 hD1
        have hD2 := s1 _ _ hD1
        have hS3 := g3.fr D _ hS2 hD2
        have hD3 := s2 _ _ hD2
        have hS4 := g4.fr D _ hS3 hD3
        have hD4 := s3 _ _ hD3
        have b1 : (Km.hd lb p).length ≤ 1000 := by have := hd_len lb p; omega
        have b2 : (Km.tl lb (p + 1)).length ≤ 1000 := by have := tl_len lb (p + 1); omega
        have len1 : as1.length = fam.length := hA1.len
        walk_at "x"
        rw [side_dec]
        cases mr
        · walk_at "x"
          refine ⟨b, fam, p + 2, rfl, (((hbH.mono s0).mono s1).mono s2).mono s3, by omega, ?_⟩
          walk_at "x"
          rw [optV_non]
          cases h3 : Km.lw fam (p + 2) with
          | none =>
            have ec : Km.carr (mi, false) fam = fam.set n (Km.hd lb p ++ [p + 1, p + 2] ++ Km.tl lb (p + 1)) := by
              unfold Km.carr
              simp only [hp, h1, eb0, if_pos h2, h3]
              rfl
            rw [ec] at q
            dsimp only [optV, Option.isNone]
            walk_at "x"
            refine x_cat3 (l := Km.hd lb p) (k := [p + 1, p + 2]) (s3 _ _ (s2 _ _ e1)) e3 (by omega) (by simp) (fun c4 H5 n4 s4 e4 => ?_)
            obtain ⟨S5, g5, e4'⟩ := Go.one g4.sh s4 n4 e4
            walk_at "x"
            refine x_cat3 (l := Km.hd lb p ++ [p + 1, p + 2]) (k := Km.tl lb (p + 1)) e4 (s4 _ _ (s3 _ _ e2)) (by simp; omega) (by omega) (fun c5 H6 n5 s5 e5 => ?_)
            obtain ⟨S6, g6, e5'⟩ := Go.one g5.sh s5 n5 e5
            have hS5 := g5.fr D _ hS4 hD4
            have hD5 := s4 _ _ hD4
            have hS6 := g6.fr D _ hS5 hD5
            have hD6 := s5 _ _ hD5
            walk_at "x"
            refine x_setL hD6 (ixN_nat (by rw [refs_len]; omega)) ?_
            walk_at "x"
            rw [refs_set]
            have G := ((((((g1.trans g2).trans g3).trans g4).trans g5).trans g6).mut (o := .lst (refs (as1.set n c5))) hD hS6)
            obtain ⟨S7, g7, s7, e7⟩ := G.seal hD hS6 upd_same
            exact q D S7 _ g7 hD ⟨_, e7, ((((((hA1.mono g2.ss).mono g3.ss).mono g4.ss).mono g5.ss).mono g6.ss).set e5').mono s7⟩
          | some o =>
            obtain ⟨lo, hlo, hpo⟩ := Km.lw_some h3
            obtain ⟨po, hpo1, ro⟩ := hf.get hlo
            have eo0 : fam.getD o [] = lo := by rw [List.getD_eq_getElem?_getD, hlo]; rfl
            have ec : Km.carr (mi, false) fam = (fam.set o (Km.hd lo (p + 2) ++ [p] ++ Km.tl lb (p + 1))).set n (Km.hd lb p ++ [p + 1, p + 2] ++ Km.tl lo (p + 2)) := by
              unfold Km.carr
              simp only [hp, h1, eb0, if_pos h2, h3, eo0]
              rfl
            rw [ec] at q
            have hlo1 : lo.length ≤ 1000 := hll lo (List.mem_of_getElem? hlo)
            have hol : o < fam.length := (List.getElem?_eq_some_iff.mp hlo).1
            have b3 : (Km.hd lo (p + 2)).length ≤ 1000 := by have := hd_len lo (p + 2); omega
            have b4 : (Km.tl lo (p + 2)).length ≤ 1000 := by have := tl_len lo (p + 2); omega
            dsimp only [optV, Option.isNone]
            walk_at "x"
            have sH4 : Same H H4 := s0.trans (s1.trans (s2.trans s3))
            refine x_ixL (sH4 _ _ eb') (atI_refs hpo1) ?_
            walk_at "x"
            refine ⟨po, lo, p + 2, rfl, (ro.mono sh).mono sH4, hpo, fun c4 H5 n4 s4 e4 => ?_⟩
            obtain ⟨S5, g5, e4'⟩ := Go.one g4.sh s4 n4 e4
            walk_at "x"
            refine x_ixL (s4 _ _ (sH4 _ _ eb')) (atI_refs hpo1) ?_
            walk_at "x"
            refine ⟨po, lo, p + 2, rfl, ((ro.mono sh).mono sH4).mono s4, hpo, fun c5 H6 n5 s5 e5 => ?_⟩
            obtain ⟨S6, g6, e5'⟩ := Go.one g5.sh s5 n5 e5
            have hS6 := g6.fr D _ (g5.fr D _ hS4 hD4) (s4 _ _ hD4)
            have hD6 := s5 _ _ (s4 _ _ hD4)
            walk_at "x"
            rw [side_dec]
            walk_at "x"
            refine ⟨small (by simp), fun c6 H7 n6 s6 e6 => ?_⟩
            obtain ⟨S7, g7, e6'⟩ := Go.one g6.sh s6 n6 e6
            walk_at "x"
            refine x_cat3 (l := Km.hd lo (p + 2)) (k := [p]) (s6 _ _ (s5 _ _ e4)) e6 (by omega) (by simp) (fun c7 H8 n7 s7 e7 => ?_)
            obtain ⟨S8, g8, e7'⟩ := Go.one g7.sh s7 n7 e7
            walk_at "x"
            refine x_cat3 (l := Km.hd lo (p + 2) ++ [p]) (k := Km.tl lb (p + 1)) e7 (s7 _ _ (s6 _ _ (s5 _ _ (s4 _ _ (s3 _ _ e2))))) (by simp; omega) (by omega) (fun c8 H9 n8 s8 e8 => ?_)
            obtain ⟨S9, g9, e8'⟩ := Go.one g8.sh s8 n8 e8
            have hS9 := g9.fr D _ (g8.fr D _ (g7.fr D _ hS6 hD6) (s6 _ _ hD6)) (s7 _ _ (s6 _ _ hD6))
            have hD9 := s8 _ _ (s7 _ _ (s6 _ _ hD6))
            walk_at "x"
            refine x_setL hD9 (ixN_nat (by rw [refs_len]; omega)) ?_
            rw [refs_set]
            have G := (((((((((g1.trans g2).trans g3).trans g4).trans g5).trans g6).trans g7).trans g8).trans g9).mut (o := .lst (refs (as1.set o c8))) hD hS9)
            have t5 : Same S5 S9 := g6.ss.trans (g7.ss.trans (g8.ss.trans g9.ss))
            have t4 : Same S4 S9 := g5.ss.trans t5
            have t2 : Same S2 S9 := g3.ss.trans (g4.ss.trans t4)
            have hA9 : All (LiAt S9) (as1.set o c8) (fam.set o (Km.hd lo (p + 2) ++ [p] ++ Km.tl lb (p + 1))) := (((hA1.mono g2.ss).mono t2).set e8')
            generalize eH : upd H9 D (.lst (refs (as1.set o c8))) = H10 at *
            have hD10 : H10 D = some (.lst (refs (as1.set o c8))) := by rw [← eH]; exact upd_same
            walk_at "x"
            refine x_cat3 (l := Km.hd lb p) (k := [p + 1, p + 2]) (G.sh _ _ (t2 _ _ e1')) (G.sh _ _ (t4 _ _ e3')) (by omega) (by simp) (fun c9 H11 n9 s9 e9 => ?_)
            obtain ⟨S11, g11, e9'⟩ := Go.one G.sh s9 n9 e9
            walk_at "x"
            refine x_cat3 (l := Km.hd lb p ++ [p + 1, p + 2]) (k := Km.tl lo (p + 2)) e9 (g11.sh _ _ (g11.ss _ _ ((g7.ss.trans (g8.ss.trans g9.ss)) _ _ e5'))) (by simp; omega) (by omega) (fun c10 H12 n10 s10 e10 => ?_)
            obtain ⟨S12, g12, e10'⟩ := Go.one g11.sh s10 n10 e10
            have hS12 := g12.fr D _ (g11.fr D _ hS9 hD10) (s9 _ _ hD10)
            have hD12 := s10 _ _ (s9 _ _ hD10)
            walk_at "x"
            refine x_setL hD12 (ixN_nat (by rw [refs_len, List.length_set]; omega)) ?_
            walk_at "x"
            rw [refs_set]
            have G2 := ((G.trans g11).trans g12).mut (o := .lst (refs ((as1.set o c8).set n c10))) hD hS12
            obtain ⟨S13, g13, s13, e13⟩ := G2.seal hD hS12 upd_same
            exact q D S13 _ g13 hD ⟨_, e13, (((hA9.mono g11.ss).mono g12.ss).set e10').mono s13⟩
        · walk_at "x"
          refine ⟨small (by simp), fun c3b H4b n3b s3b e3b => ?_⟩
          obtain ⟨S4b, g4b, e3b'⟩ := Go.one g4.sh s3b n3b e3b
          have hS4b := g4b.fr D _ hS4 hD4
          have hD4b := s3b _ _ hD4
          have sH4 : Same H H4b := s0.trans (s1.trans (s2.trans (s3.trans s3b)))
          walk_at "x"
          refine ⟨b, fam, p - 1, rfl, hbH.mono sH4, by omega, ?_⟩
          walk_at "x"
          rw [optV_non]
          cases h3 : Km.lw fam (p - 1) with
          | none =>
            have ec : Km.carr (mi, true) fam = fam.set n (Km.hd lb p ++ [p - 1, p] ++ Km.tl lb (p + 1)) := by
              unfold Km.carr
              simp only [hp, h1, eb0, if_pos h2, h3]
              rfl
            rw [ec] at q
            dsimp only [optV, Option.isNone]
            walk_at "x"
            refine x_cat3 (l := Km.hd lb p) (k := [p - 1, p]) (s3b _ _ (s3 _ _ (s2 _ _ e1))) e3b (by omega) (by simp) (fun c4 H5 n4 s4 e4 => ?_)
            obtain ⟨S5, g5, e4'⟩ := Go.one g4b.sh s4 n4 e4
            walk_at "x"
            refine x_cat3 (l := Km.hd lb p ++ [p - 1, p]) (k := Km.tl lb (p + 1)) e4 (s4 _ _ (s3b _ _ (s3 _ _ e2))) (by simp; omega) (by omega) (fun c5 H6 n5 s5 e5 => ?_)
            obtain ⟨S6, g6, e5'⟩ := Go.one g5.sh s5 n5 e5
            have hS5 := g5.fr D _ hS4b hD4b
            have hD5 := s4 _ _ hD4b
            have hS6 := g6.fr D _ hS5 hD5
            have hD6 := s5 _ _ hD5
            walk_at "x"
            refine x_setL hD6 (ixN_nat (by rw [refs_len]; omega)) ?_
            walk_at "x"
            rw [refs_set]
            have G := (((((((g1.trans g2).trans g3).trans g4).trans g4b).trans g5).trans g6).mut (o := .lst (refs (as1.set n c5))) hD hS6)
            obtain ⟨S7, g7, s7, e7⟩ := G.seal hD hS6 upd_same
            exact q D S7 _ g7 hD ⟨_, e7, (((((((hA1.mono g2.ss).mono g3.ss).mono g4.ss).mono g4b.ss).mono g5.ss).mono g6.ss).set e5').mono s7⟩
          | some o =>
            obtain ⟨lo, hlo, hpo⟩ := Km.lw_some h3
            obtain ⟨po, hpo1, ro⟩ := hf.get hlo
            have eo0 : fam.getD o [] = lo := by rw [List.getD_eq_getElem?_getD, hlo]; rfl
            have ec : Km.carr (mi, true) fam = (fam.set o (Km.hd lo (p - 1) ++ [p - 1, p] ++ Km.tl lb (p + 1))).set n (Km.hd lb p ++ [p + 1] ++ Km.tl lo (p - 1)) := by
              unfold Km.carr
              simp only [hp, h1, eb0, if_pos h2, h3, eo0]
              rfl
            rw [ec] at q
            have hlo1 : lo.length ≤ 1000 := hll lo (List.mem_of_getElem? hlo)
            have hol : o < fam.length := (List.getElem?_eq_some_iff.mp hlo).1
            have b3 : (Km.hd lo (p - 1)).length ≤ 1000 := by have := hd_len lo (p - 1); omega
            have b4 : (Km.tl lo (p - 1)).length ≤ 1000 := by have := tl_len lo (p - 1); omega
            dsimp only [optV, Option.isNone]
            walk_at "x"
            refine x_ixL (sH4 _ _ eb') (atI_refs hpo1) ?_
            walk_at "x"
            refine ⟨po, lo, p - 1, rfl, (ro.mono sh).mono sH4, hpo, fun c4 H5 n4 s4 e4 => ?_⟩
            obtain ⟨S5, g5, e4'⟩ := Go.one g4b.sh s4 n4 e4
            walk_at "x"
            refine x_ixL (s4 _ _ (sH4 _ _ eb')) (atI_refs hpo1) ?_
            walk_at "x"
            refine ⟨po, lo, p - 1, rfl, ((ro.mono sh).mono sH4).mono s4, hpo, fun c5 H6 n5 s5 e5 => ?_⟩
            obtain ⟨S6, g6, e5'⟩ := Go.one g5.sh s5 n5 e5
            have hS6 := g6.fr D _ (g5.fr D _ hS4b hD4b) (s4 _ _ hD4b)
            have hD6 := s5 _ _ (s4 _ _ hD4b)
            walk_at "x"
            rw [side_dec]
            walk_at "x"
            refine x_cat3 (l := Km.hd lo (p - 1)) (k := [p - 1, p]) (s5 _ _ e4) (s5 _ _ (s4 _ _ e3b)) (by omega) (by simp) (fun c7 H8 n7 s7 e7 => ?_)
            obtain ⟨S8, g8, e7'⟩ := Go.one g6.sh s7 n7 e7
            walk_at "x"
            refine x_cat3 (l := Km.hd lo (p - 1) ++ [p - 1, p]) (k := Km.tl lb (p + 1)) e7 (s7 _ _ (s5 _ _ (s4 _ _ (s3b _ _ (s3 _ _ e2))))) (by simp; omega) (by omega) (fun c8 H9 n8 s8 e8 => ?_)
            obtain ⟨S9, g9, e8'⟩ := Go.one g8.sh s8 n8 e8
            have hS9 := g9.fr D _ (g8.fr D _ hS6 hD6) (s7 _ _ hD6)
            have hD9 := s8 _ _ (s7 _ _ hD6)
            walk_at "x"
            refine x_setL hD9 (ixN_nat (by rw [refs_len]; omega)) ?_
            rw [refs_set]
            have G := (((((((((g1.trans g2).trans g3).trans g4).trans g4b).trans g5).trans g6).trans g8).trans g9).mut (o := .lst (refs (as1.set o c8))) hD hS9)
            have t5 : Same S5 S9 := g6.ss.trans (g8.ss.trans g9.ss)
            have t2 : Same S2 S9 := g3.ss.trans (g4.ss.trans (g4b.ss.trans (g5.ss.trans t5)))
            have hA9 : All (LiAt S9) (as1.set o c8) (fam.set o (Km.hd lo (p - 1) ++ [p - 1, p] ++ Km.tl lb (p + 1))) := (((hA1.mono g2.ss).mono t2).set e8')
            generalize eH : upd H9 D (.lst (refs (as1.set o c8))) = H10 at *
            have hD10 : H10 D = some (.lst (refs (as1.set o c8))) := by rw [← eH]; exact upd_same
            walk_at "x"
            refine ⟨small (by simp), fun c6 H10b n6 s6 e6 => ?_⟩
            obtain ⟨S10b, g10b, e6'⟩ := Go.one G.sh s6 n6 e6
            have hS10b := g10b.fr D _ hS9 hD10
            have hD10b := s6 _ _ hD10
            walk_at "x"
            refine x_cat3 (l := Km.hd lb p) (k := [p + 1]) (s6 _ _ (G.sh _ _ (t2 _ _ e1'))) e6 (by omega) (by simp) (fun c9 H11 n9 s9 e9 => ?_)
            obtain ⟨S11, g11, e9'⟩ := Go.one g10b.sh s9 n9 e9
            walk_at "x"
            refine x_cat3 (l := Km.hd lb p ++ [p + 1]) (k := Km.tl lo (p - 1)) e9 (g11.sh _ _ (g11.ss _ _ (g10b.ss _ _ ((g8.ss.trans g9.ss) _ _ e5')))) (by simp; omega) (by omega) (fun c10 H12 n10 s10 e10 => ?_)
            obtain ⟨S12, g12, e10'⟩ := Go.one g11.sh s10 n10 e10
            have hS12 := g12.fr D _ (g11.fr D _ hS10b hD10b) (s9 _ _ hD10b)
            have hD12 := s10 _ _ (s9 _ _ hD10b)
            walk_at "x"
            refine x_setL hD12 (ixN_nat (by rw [refs_len, List.length_set]; omega)) ?_
            walk_at "x"
            rw [refs_set]
            have G2 := (((G.trans g10b).trans g11).trans g12).mut (o := .lst (refs ((as1.set o c8).set n c10))) hD hS12
            obtain ⟨S13, g13, s13, e13⟩ := G2.seal hD hS12 upd_same
            exact q D S13 _ g13 hD ⟨_, e13, ((((hA9.mono g10b.ss).mono g11.ss).mono g12.ss).set e10').mono s13⟩
      · have ec : Km.carr (mi, mr) fam = fam.map fun l => l.map (Km.sw p) := by
          unfold Km.carr
          simp only [hp, h1, eb0, if_neg h2]
        rw [ec] at q
        rw [decide_eq_false h2]
        walk_at "x"
        refine lc_fam (f := fun l => l.map (Km.sw p)) sh hb hl rfl (fun x => rfl) (fun i l c S1 H1 R e1 e2 s1 k => ?_) (fun D S' H' as2 g h1 h2 h3 h4 => ?_)
        · walk_at "x"
          exact ⟨c, l, p, rfl, e2.mono s1, hll l (List.mem_of_getElem? e1), k⟩
        · obtain ⟨S2, g2, s2, e2⟩ := g.seal h1 h2 h3
          exact q D S2 H' g2 h1 ⟨as2, e2, h4.mono s2⟩
end
section
local macro_rules | `(tactic| walk_at "set") => `(tactic| first | exact set0 | (apply setS; walk_at "set"))
local macro_rules | `(tactic| walk_at "h") => `(tactic| first | assumption | (refine Same.lk (by assumption) ?_; walk_at "h"))
local macro_rules | `(tactic| walk_at "x1") => `(tactic| first
  | ((with_reducible show tVar _ _ _ _); refine x_var rfl ?_)
  | ((with_reducible show tC _ _ _ _); refine x_c ?_)
  | ((with_reducible show tOp _ _ _ _ _ _); refine x_op ?_)
  | ((with_reducible show tSeq _ _ _ _ _); refine x_seq ?_)
  | ((with_reducible show tAsg _ _ _ _ _); refine x_asg ?_)
  | ((with_reducible show gName _ _ _ _ _); refine x_name2 (by walk_at "set") ?_)
  | ((with_reducible show tCons _ _ _ _ _); refine x_cons ?_)
  | ((with_reducible show tNil _ _ _); refine x_nil ?_)
  | ((with_reducible show rI0 _ (V.int _) (V.int _) _ _); refine x_rI0 ?_)
  | ((with_reducible show tCB _ _ _ _ _); refine x_cb ?_)
  | ((with_reducible show tCall _ [] E0 _ _ _ _); refine x_call ?_)
  | ((with_reducible show rIxT _ _ _ _ _); refine x_ixT (by walk_at "h") (by rfl) ?_)
  | ((with_reducible show rLenQ _ _ _ _); refine x_lenL (by walk_at "h") ?_)
  | ((with_reducible show rLenQ _ _ _ _); refine x_lenT (by walk_at "h") ?_)
  | ((with_reducible show tIfS _ _ _ _ _ _); refine x_if ?_)
  | ((with_reducible show tTest _ _ _ _); refine x_test ?_)
  | ((with_reducible show tB _ _ _ _); refine x_tB ?_)
  | ((with_reducible show tYes _ _ _); refine x_yes ?_)
  | ((with_reducible show gTup _ _ _ (V.ref _) _ _ _); refine x_gtup (by walk_at "h") (by rfl) ?_)
  | ((with_reducible show gCons _ _ (_ :: _) _ _ _); refine x_gcons ?_)
  | ((with_reducible show gNil [] _ _ _); refine x_gnil ?_)
  | ((with_reducible show tPar _ _ _ _ _ _); refine x_par ?_)
  | (with_reducible refine x_bl ?_)
  | (with_reducible refine x_T ?_)
  | (with_reducible refine x_nT ?_)
  | (with_reducible refine x_nF ?_)
  | (with_reducible refine x_F ?_)
  | ((with_reducible show rEq _ _ _ _); refine x_eq rfl ?_)
  | ((with_reducible show rNe _ _ _ _); refine x_ne rfl ?_)
  | ((with_reducible show rIsNn _ _ _ _); refine x_isN ?_)
  | ((with_reducible show tRet _ _ _ _); refine x_ret ?_)
  | ((with_reducible show tNext _ _ _); refine x_next ?_)
  | ((with_reducible show tRetN _ _ _); refine x_retN ?_)
  | ((with_reducible show tDrop _ _ _ _); refine x_drop ?_)
  | ((with_reducible show tTup _ _ _ _); refine x_tup ?_)
  | ((with_reducible show tLst _ _ _ _); refine x_lst ?_)
  | ((with_reducible show tUn _ _ _ _ _); refine x_un ?_)
  | ((with_reducible show rU _ (V.int _) _ _); refine x_rU ?_)
  | ((with_reducible show tNot _ _ _ _); refine x_notT ?_)
  | ((with_reducible show tAnd _ _ _ _ _); refine x_and ?_)
  | ((with_reducible show tOr _ _ _ _ _); refine x_or ?_)
  | ((with_reducible show tSl _ _ _ _ _ _ _); refine x_sl ?_)
  | ((with_reducible show tNoPart _ _ _); refine x_noP ?_)
  | ((with_reducible show tPart _ _ _ _); refine x_part ?_)
  | (with_reducible refine x_pi ?_)
  | ((with_reducible show tBM _ _ _ _ _ _ _ _); refine x_bm ?_)
  | ((with_reducible show tyV _ "list" _ _ ∧ _); refine x_tyL (by walk_at "h") ?_)
  | ((with_reducible show gSub _ _ _ _ _ _ _); refine x_sub ?_)
  | ((with_reducible show rInt1 [V.int _] _ _); refine x_int ?_)
  | ((with_reducible show rInt1 [V.bl _] _ _); refine x_intB ?_)
  | ((with_reducible show rMin2 _ _ _); refine x_min ?_)
  | ((with_reducible show rMax2 _ _ _); refine x_max ?_))
local macro_rules | `(tactic| walk_at "x") => `(tactic| (repeat walk_at "x1"))
variable {P : Program} {w : World} {K : PySem.W.Frag} {mg : Str → Option Value} {base : Heap}
def ni (l : List Nat) : List Int := l.map fun n : Nat => (n : Int)
/-! ### comprehensions whose element changes nothing -/
theorem filter_snoc {α : Type} {l : List α} {i : Nat} {x : α} (p : α → Bool) (h : l[i]? = some x) : (l.take (i + 1)).filter p = (l.take i).filter p ++ (if p x = true then [x] else []) := by
  rw [take_snoc h, List.filter_append, List.filter_cons, List.filter_nil]
theorem pure_turn {H H' : Hp} {D : Addr} {xs : List V} {i : Nat} {x : V} {t : V → Bool} {v : V → V} {tt : TT} {te : TE} {σ2 : L2.St} (hx : xs[i]? = some x) (hz : xs.length ≤ 10000) (s : Same H H') (hD : H D = none) (e : H' D = some (.lst (((xs.take i).filter t).map v)))
    (ht : ∀ (R : Bool → Hp → Prop), R (t x) H' → tt σ2 H' R) (he : t x = true → ∀ (R : VK), R (v x) H' → te σ2 H' R) :
    tt σ2 H' fun b H3 => if b = true then te σ2 H3 fun y H4 => ∃ acc, H4 D = some (.lst acc) ∧ acc.length < sizeLine ∧ (fun i H' => Same H H' ∧ H' D = some (.lst (((xs.take i).filter t).map v))) (i + 1) (upd H4 D (.lst (acc ++ [y]))) else (fun i H' => Same H H' ∧ H' D = some (.lst (((xs.take i).filter t).map v))) (i + 1) H3 := by
  refine ht _ ?_
  cases hb : t x with
  | true =>
    refine x_T (he hb _ ?_)
    refine ⟨_, e, smallL ?_, same_mut s hD, ?_⟩
    · rw [List.length_map]
      have := List.length_filter_le t (xs.take i)
      rw [List.length_take] at this
      omega
    · show upd H' D _ D = _
      rw [upd_same, filter_snoc t hx, if_pos hb, List.map_append]
      rfl
  | false =>
    refine x_F ⟨s, ?_⟩
    show H' D = _
    rw [filter_snoc t hx, hb, if_neg Bool.false_ne_true, List.append_nil]
    exact e
theorem lc_pureL {σ : L2.St} {H : Hp} {Q : VK} {a : Addr} {xs : List V} {j : Nat} {tl : TE} {tt : TT} {te : TE} (t : V → Bool) (v : V → V) (h : H a = some (.lst xs)) (hz : xs.length ≤ 10000) (hl : ∀ R : VK, R (.ref a) H → tl σ H R)
    (hw : ∀ x, wipe ((wipe σ [j]).set j (some x)) [j] = wipe σ [j])
    (ht : ∀ (i : Nat) (x : V) (H1 : Hp) (R : Bool → Hp → Prop), xs[i]? = some x → Same H H1 → R (t x) H1 → tt ((wipe σ [j]).set j (some x)) H1 R)
    (he : ∀ (i : Nat) (x : V) (H1 : Hp) (R : VK), xs[i]? = some x → t x = true → Same H H1 → R (v x) H1 → te ((wipe σ [j]).set j (some x)) H1 R)
    (k : ∀ D H', H D = none → Same H H' → H' D = some (.lst ((xs.filter t).map v)) → Q (.ref D) H') : tLc (iList K tl) (gName j) tt te [j] σ H Q := by
  refine hl _ ⟨a, rfl, ⟨_, SqL.of h⟩, fun D hD => ?_⟩
  refine lc_list (K := K) (a := a) (xs := xs) (fun i H' => Same H H' ∧ H' D = some (.lst (((xs.take i).filter t).map v))) ⟨same_new hD, upd_same⟩ (fun i H' _ p => SqL.of (p.1 _ _ h)) (fun i x H' hx p => ⟨hw x, ?_⟩) fun H' p => ?_
  · exact pure_turn hx hz p.1 hD p.2 (fun R r => ht i x H' R hx p.1 r) fun hb R r => he i x H' R hx hb p.1 r
  · have e := p.2
    rw [List.take_length] at e
    exact k D H' hD p.1 e
theorem lc_pureT {σ : L2.St} {H : Hp} {Q : VK} {a : Addr} {xs : List V} {j : Nat} {tl : TE} {tt : TT} {te : TE} (t : V → Bool) (v : V → V) (h : H a = some (.tup xs)) (hz : xs.length ≤ 10000) (hl : ∀ R : VK, R (.ref a) H → tl σ H R)
    (hw : ∀ x, wipe ((wipe σ [j]).set j (some x)) [j] = wipe σ [j])
    (ht : ∀ (i : Nat) (x : V) (H1 : Hp) (R : Bool → Hp → Prop), xs[i]? = some x → Same H H1 → R (t x) H1 → tt ((wipe σ [j]).set j (some x)) H1 R)
    (he : ∀ (i : Nat) (x : V) (H1 : Hp) (R : VK), xs[i]? = some x → t x = true → Same H H1 → R (v x) H1 → te ((wipe σ [j]).set j (some x)) H1 R)
    (k : ∀ D H', H D = none → Same H H' → H' D = some (.lst ((xs.filter t).map v)) → Q (.ref D) H') : tLc (iTup K tl) (gName j) tt te [j] σ H Q := by
  refine hl _ ⟨a, rfl, ⟨_, SqT.of h⟩, fun D hD => ?_⟩
  refine lc_tup (K := K) (a := a) (xs := xs) (fun i H' => Same H H' ∧ H' D = some (.lst (((xs.take i).filter t).map v))) ⟨same_new hD, upd_same⟩ (fun i H' _ p => SqT.of (p.1 _ _ h)) (fun i x H' hx p => ⟨hw x, ?_⟩) fun H' p => ?_
  · exact pure_turn hx hz p.1 hD p.2 (fun R r => ht i x H' R hx p.1 r) fun hb R r => he i x H' R hx hb p.1 r
  · have e := p.2
    rw [List.take_length] at e
    exact k D H' hD p.1 e
def rngV (n : Nat) : List V := (List.range n).map fun i : Nat => V.int (i : Int)
theorem rngV_get {n i : Nat} (h : i < n) : (rngV n)[i]? = some (.int (i : Int)) := by
  unfold rngV
  rw [List.getElem?_map, List.getElem?_range h]
  rfl
theorem rngV_len (n : Nat) : (rngV n).length = n := by unfold rngV; simp
theorem lc_pureR {σ : L2.St} {H : Hp} {Q : VK} {n j : Nat} {ta : TA} {tt : TT} {te : TE} (t : V → Bool) (v : V → V) (hz : n ≤ 10000) (hl : ∀ R : List V → Hp → Prop, R [.int (n : Int)] H → ta σ H R)
    (hw : ∀ x, wipe ((wipe σ [j]).set j (some x)) [j] = wipe σ [j])
    (ht : ∀ (i : Nat) (H1 : Hp) (R : Bool → Hp → Prop), i < n → Same H H1 → R (t (.int i)) H1 → tt ((wipe σ [j]).set j (some (.int i))) H1 R)
    (he : ∀ (i : Nat) (H1 : Hp) (R : VK), i < n → t (.int i) = true → Same H H1 → R (v (.int i)) H1 → te ((wipe σ [j]).set j (some (.int i))) H1 R)
    (k : ∀ D H', H D = none → Same H H' → H' D = some (.lst (((rngV n).filter t).map v)) → Q (.ref D) H') : tLc (iRng1 ta) (gName j) tt te [j] σ H Q := by
  refine hl _ ⟨n, rfl, by omega, by omega, fun D hD => ?_⟩
  rw [Int.toNat_natCast]
  refine lc_range (lo := 0) (n := n) (fun i H' => Same H H' ∧ H' D = some (.lst ((((rngV n).take i).filter t).map v))) ⟨same_new hD, upd_same⟩ (fun i H' hi p => ⟨hw _, ?_⟩) fun H' p => ?_
  · rw [Int.zero_add]
    exact pure_turn (rngV_get hi) (by rw [rngV_len]; exact hz) p.1 hD p.2 (fun R r => ht i H' R hi p.1 r) fun hb R r => he i H' R hi hb p.1 r
  · have e := p.2
    rw [List.take_of_length_le (by rw [rngV_len]; exact Nat.le_refl _)] at e
    exact k D H' hD p.1 e
/-! ### tables -/
def spShape : Sp := fun vs H Q _ => ∃ (a : Addr) (T : List (List Int)), vs = [.ref a] ∧ TabAt H a T ∧ T.length ≤ 1000 ∧ ∀ p H', H p = none → Same H H' → TiAt H' p (ni (Km.shp T)) → Q (.ref p) H'
theorem vmap_len {as : List Addr} {T : List (List Int)} {H : Hp} (h : All (TiAt H) as T) {v : V → V} (hv : ∀ (i : Nat) (p : Addr) (l : List Int), as[i]? = some p → T[i]? = some l → v (V.ref p) = V.int (l.length : Int)) : (refs as).map v = (ni (Km.shp T)).map V.int := by
  refine List.ext_getElem? fun i => ?_
  rw [List.getElem?_map]
  unfold refs ni Km.shp
  simp only [List.getElem?_map]
  cases e : as[i]? with
  | none =>
    have : T[i]? = none := by rw [List.getElem?_eq_none_iff] at e ⊢; rw [← h.len]; exact e
    rw [this]
    rfl
  | some p =>
    obtain ⟨l, hl, _⟩ := h.get' e
    rw [hl]
    simp only [Option.map_some]
    rw [hv i p l e hl]
theorem lenOf_ex {H : Hp} {as : List Addr} {T : List (List Int)} {R : Hp → Addr → List Int → Prop} (h : All (R H) as T) (inj : ∀ p l k, R H p l → R H p k → l = k) : ∃ v : V → V, ∀ (i : Nat) (p : Addr) (l : List Int), as[i]? = some p → T[i]? = some l → v (V.ref p) = V.int (l.length : Int) := by
  classical
  refine ⟨fun x => match x with
    | .ref p => if hp : ∃ l, R H p l then .int ((Classical.choose hp).length : Int) else .non
    | _ => .non, fun i p l e1 e2 => ?_⟩
  have r := h.at_ i p l e1 e2
  have hp : ∃ l, R H p l := ⟨l, r⟩
  show (if hp : ∃ l, R H p l then V.int ((Classical.choose hp).length : Int) else V.non) = _
  rw [dif_pos hp, inj p _ l (Classical.choose_spec hp) r]
theorem map_int_inj {l k : List Int} (h : l.map V.int = k.map V.int) : l = k := (List.map_inj_right fun a b e => V.int.inj e).mp h
theorem tiAt_inj {H : Hp} {p : Addr} {l k : List Int} (a : TiAt H p l) (b : TiAt H p k) : l = k := by
  have : some (HO.tup (l.map V.int)) = some (.tup (k.map V.int)) := a.symm.trans b
  injection this with e
  injection e with e
  exact map_int_inj e
theorem liAt_inj {H : Hp} {p : Addr} {l k : List Int} (a : LiAt H p l) (b : LiAt H p k) : l = k := by
  have : some (HO.lst (l.map V.int)) = some (.lst (k.map V.int)) := a.symm.trans b
  injection this with e
  injection e with e
  exact map_int_inj e
theorem ok_shape_of (T : Txt K mg) : Kd P w K mg base "shape_of" ["table"] 1 spShape := by
  refine kd_of T.d_shape_of sc_shape_of (fun vs H Q E h => ?_) (fun f cdv A outer s H vs Q E hr h => ?_)
  · obtain ⟨a, T, rfl, _⟩ := h
    rfl
  · obtain ⟨a, tb, rfl, ⟨as, ea, hf⟩, hl, q⟩ := h
    refine ⟨_, (pss_one (ps_ret (pe_callTy (n_tup_ofK (K := K) rfl) (by rfl) T.n_tuple (by decide +kernel) (pa_cons (pe_lc (own := [("row", 1)]) (g := gName 1) (tt := tYes) rfl sc_shape_of.nd (pi_tupK (K := K) rfl (pv 0)) (blkOk_by (own := [("row", 1)]) (N := ["table", "row"]) (sc := defScope s_shape_of) (by decide +kernel)) (fun _ _ _ _ _ => pg_name (i := 1) sc_shape_of.nd rfl (Or.inl rfl)) (fun _ _ _ _ _ => pts_nil) (fun _ _ _ _ _ => (pe_callB (n_lenK (K := K) rfl) (by rfl) T.n_len PySem.boot_len (pa_cons (pv 1) pa_nil)))) pa_nil)))), ?_⟩
    refine st_lit (σ' := [some (V.ref a), none]) rfl ?_
    obtain ⟨v, hv⟩ := lenOf_ex (R := TiAt) hf fun p l k => tiAt_inj
    walk_at "x"
    refine lc_pureT (fun _ => true) v ea (by rw [refs_len, hf.len]; omega) (fun R r => ⟨_, rfl, r⟩) (fun x => rfl) (fun i x H1 R _ _ r => r) (fun i x H1 R hx _ s1 r => ?_) (fun D H1 hD s1 e1 => ?_)
    · obtain ⟨p, rfl, hp⟩ := refs_get' hx
      obtain ⟨l, hl, rl⟩ := hf.get' hp
      have rl1 : H1 p = some (.tup (l.map V.int)) := rl.mono s1
      walk_at "x"
      rw [hv i p l hp hl] at r
      rw [ints_len]
      exact r
    · rw [List.filter_eq_self.mpr (fun _ _ => rfl), vmap_len hf hv] at e1
      walk_at "x"
      refine x_tupL e1 fun p H2 hp s2 e2 => q p H2 (fresh_of s1 hp) (s1.trans s2) e2
def spRl : Sp := fun vs H Q _ => ∃ (a : Addr) (l : List Int) (i : Nat), vs = [.ref a, .int i] ∧ TiAt H a l ∧ Q (.int (l.getD i 0)) H
theorem ok_row_length (T : Txt K mg) : Kd P w K mg base "row_length" ["shape", "row"] 1 spRl := by
  refine kd_of T.d_row_length sc_row_length (fun vs H Q E h => ?_) (fun f cdv A outer s H vs Q E hr h => ?_)
  · obtain ⟨a, T, i, rfl, _⟩ := h
    rfl
  · obtain ⟨a, l, i, rfl, ha, q⟩ := h
    have ha' : H a = some (.tup (l.map V.int)) := ha
    refine ⟨_, (pss_cons (ps_if (pt_cmpR op_lt (pv 1) (pe_callB (n_lenK (K := K) rfl) (by rfl) T.n_len PySem.boot_len (pa_cons (pv 0) pa_nil)) (nomark _))
(pss_one (ps_ret (pe_ix (ix_tupK (K := K) rfl) (pv 0) (pv 1) (fun _ _ => rfl))))
pss_nil)
(pss_one (ps_ret pe_int))), ?_⟩
    refine st_lit (σ' := [some (V.ref a), some (V.int i)]) rfl ?_
    walk_at "x"
    rw [ints_len]
    refine x_ite (fun h => ?_) (fun h => ?_)
    · walk_at "x"
      refine x_ixT ha' (atI_ints (List.getElem?_eq_getElem (by omega : i < l.length))) ?_
      rw [List.getD_eq_getElem?_getD, List.getElem?_eq_getElem (by omega : i < l.length)] at q
      exact q
    · walk_at "x"
      rw [List.getD_eq_getElem?_getD, List.getElem?_eq_none (by omega)] at q
      exact q
end
section
local macro_rules | `(tactic| walk_at "set") => `(tactic| first | exact set0 | (apply setS; walk_at "set"))
local macro_rules | `(tactic| walk_at "h") => `(tactic| first | assumption | (refine Same.lk (by assumption) ?_; walk_at "h"))
local macro_rules | `(tactic| walk_at "x1") => `(tactic| first
  | ((with_reducible show tVar _ _ _ _); refine x_var rfl ?_)
  | ((with_reducible show tC _ _ _ _); refine x_c ?_)
  | ((with_reducible show tOp _ _ _ _ _ _); refine x_op ?_)
  | ((with_reducible show tSeq _ _ _ _ _); refine x_seq ?_)
  | ((with_reducible show tAsg _ _ _ _ _); refine x_asg ?_)
  | ((with_reducible show gName _ _ _ _ _); refine x_name2 (by walk_at "set") ?_)
  | ((with_reducible show tCons _ _ _ _ _); refine x_cons ?_)
  | ((with_reducible show tNil _ _ _); refine x_nil ?_)
  | ((with_reducible show rI0 _ (V.int _) (V.int _) _ _); refine x_rI0 ?_)
  | ((with_reducible show tCB _ _ _ _ _); refine x_cb ?_)
  | ((with_reducible show tCall _ [] E0 _ _ _ _); refine x_call ?_)
  | ((with_reducible show rIxT _ _ _ _ _); refine x_ixT (by walk_at "h") (by rfl) ?_)
  | ((with_reducible show rLenQ _ _ _ _); refine x_lenL (by walk_at "h") ?_)
  | ((with_reducible show rLenQ _ _ _ _); refine x_lenT (by walk_at "h") ?_)
  | ((with_reducible show tIfS _ _ _ _ _ _); refine x_if ?_)
  | ((with_reducible show tTest _ _ _ _); refine x_test ?_)
  | ((with_reducible show tB _ _ _ _); refine x_tB ?_)
  | ((with_reducible show tYes _ _ _); refine x_yes ?_)
  | ((with_reducible show gTup _ _ _ (V.ref _) _ _ _); refine x_gtup (by walk_at "h") (by rfl) ?_)
  | ((with_reducible show gCons _ _ (_ :: _) _ _ _); refine x_gcons ?_)
  | ((with_reducible show gNil [] _ _ _); refine x_gnil ?_)
  | ((with_reducible show tPar _ _ _ _ _ _); refine x_par ?_)
  | (with_reducible refine x_bl ?_)
  | (with_reducible refine x_T ?_)
  | (with_reducible refine x_nT ?_)
  | (with_reducible refine x_nF ?_)
  | (with_reducible refine x_F ?_)
  | ((with_reducible show rEq _ _ _ _); refine x_eq rfl ?_)
  | ((with_reducible show rNe _ _ _ _); refine x_ne rfl ?_)
  | ((with_reducible show rIsNn _ _ _ _); refine x_isN ?_)
  | ((with_reducible show tRet _ _ _ _); refine x_ret ?_)
  | ((with_reducible show tNext _ _ _); refine x_next ?_)
  | ((with_reducible show tRetN _ _ _); refine x_retN ?_)
  | ((with_reducible show tDrop _ _ _ _); refine x_drop ?_)
  | ((with_reducible show tTup _ _ _ _); refine x_tup ?_)
  | ((with_reducible show tLst _ _ _ _); refine x_lst ?_)
  | ((with_reducible show tUn _ _ _ _ _); refine x_un ?_)
  | ((with_reducible show rU _ (V.int _) _ _); refine x_rU ?_)
  | ((with_reducible show tNot _ _ _ _); refine x_notT ?_)
  | ((with_reducible show tAnd _ _ _ _ _); refine x_and ?_)
  | ((with_reducible show tOr _ _ _ _ _); refine x_or ?_)
  | ((with_reducible show tSl _ _ _ _ _ _ _); refine x_sl ?_)
  | ((with_reducible show tNoPart _ _ _); refine x_noP ?_)
  | ((with_reducible show tPart _ _ _ _); refine x_part ?_)
  | (with_reducible refine x_pi ?_)
  | ((with_reducible show tBM _ _ _ _ _ _ _ _); refine x_bm ?_)
  | ((with_reducible show tyV _ "list" _ _ ∧ _); refine x_tyL (by walk_at "h") ?_)
  | ((with_reducible show gSub _ _ _ _ _ _ _); refine x_sub ?_)
  | ((with_reducible show rInt1 [V.int _] _ _); refine x_int ?_)
  | ((with_reducible show rInt1 [V.bl _] _ _); refine x_intB ?_)
  | ((with_reducible show rMin2 _ _ _); refine x_min ?_)
  | ((with_reducible show rMax2 _ _ _); refine x_max ?_))
local macro_rules | `(tactic| walk_at "x") => `(tactic| (repeat walk_at "x1"))
variable {P : Program} {w : World} {K : PySem.W.Frag} {mg : Str → Option Value} {base : Heap}
/-! ### tuples joined and cut, told in what stands still -/
theorem go_tup {S H H' : Hp} {l : Addr} {xs : List V} (s : Same S H) (h : Same H H') (d : ∀ a, H' a = H a ∨ (H a = none ∧ a = l)) (e : H' l = some (.tup xs)) (hl : S l = none → H l = none) : ∃ S', Go S H S' H' ∧ S' l = some (.tup xs) := by
  cases q : S l with
  | none =>
    refine ⟨upd S l (.tup xs), ⟨same_new q, fun b u z => ?_, h, fun m o e1 e2 => ?_⟩, upd_same⟩
    · by_cases hb : b = l
      · subst hb
        rw [upd_same] at z
        cases z
        exact e
      · rw [upd_ne hb] at z
        exact h _ _ (s _ _ z)
    · rw [upd_ne (ne_of_none e2 (hl q))]
      exact e1
  | some o =>
    refine ⟨S, ⟨Same.refl _, s.trans h, h, fun _ _ e1 _ => e1⟩, ?_⟩
    have := h _ _ (s _ _ q)
    rw [e] at this
    rw [q, ← this]
theorem x_catS {S H : Hp} {Q : VK} {p q : Addr} {xs zs : List V} (s : Same S H) (h1 : S p = some (.tup xs)) (h2 : S q = some (.tup zs)) (hl : xs.length + zs.length ≤ sizeLine) (k : ∀ l S' H', Go S H S' H' → S' l = some (.tup (xs ++ zs)) → Q (.ref l) H') : rCatA K (.ref p) (.ref q) H Q := by
  refine ⟨p, q, xs, zs, rfl, rfl, SqT.of (s _ _ h1), SqT.of (s _ _ h2), hl, fun e => ?_, fun _ e => ?_, fun _ _ l hn => ?_⟩
  · subst e
    exact k q S H (Go.refl s) (by rw [List.nil_append]; exact h2)
  · subst e
    exact k p S H (Go.refl s) (by rw [List.append_nil]; exact h1)
  · obtain ⟨S', g, e⟩ := Go.one s (same_new hn) hn (upd_same (o := .tup (xs ++ zs)))
    exact k l S' _ g e
theorem x_slS {S H : Hp} {Q : VK} {p : Addr} {xs : List V} {lo hi : Option Int} (s : Same S H) (h : S p = some (.tup xs)) (k : ∀ l S' H', Go S H S' H' → S' l = some (.tup (cutV xs lo hi)) → Q (.ref l) H') : rSlA K (.ref p) lo hi H Q := by
  refine ⟨p, xs, rfl, SqT.of (s _ _ h), fun e => ?_, fun _ l hn => ?_⟩
  · refine k p S H (Go.refl s) ?_
    have : cutV xs lo hi = xs := by
      unfold cutV
      rw [e.1, e.2]
      simp
    rw [this]
    exact h
  · obtain ⟨S', g, e⟩ := Go.one s (same_new hn) hn (upd_same (o := .tup (cutV xs lo hi)))
    exact k l S' _ g e
theorem cutV_drop (xs : List V) (n : Nat) : cutV xs (some (n : Int)) none = xs.drop n := by
  unfold cutV
  rw [HT.sIx_nat, HT.sIx_none]
  by_cases h : n ≤ xs.length
  · rw [Nat.min_eq_left h, List.take_of_length_le (by simp)]
  · rw [Nat.min_eq_right (by omega), List.drop_of_length_le (Nat.le_refl _), List.drop_of_length_le (by omega)]
    simp
theorem cutV_take (xs : List V) (n : Nat) : cutV xs none (some (n : Int)) = xs.take n := by
  unfold cutV
  rw [HT.sIx_nat, HT.sIx_none, List.drop_zero, Nat.sub_zero]
  by_cases h : n ≤ xs.length
  · rw [Nat.min_eq_left h]
  · rw [Nat.min_eq_right (by omega), List.take_length, List.take_of_length_le (by omega)]
theorem refs_app (as bs : List Addr) : refs as ++ refs bs = refs (as ++ bs) := by unfold refs; simp
theorem refs_take (as : List Addr) (n : Nat) : (refs as).take n = refs (as.take n) := by unfold refs; simp
theorem refs_drop (as : List Addr) (n : Nat) : (refs as).drop n = refs (as.drop n) := by unfold refs; simp
theorem All.one {α : Type} {R : Addr → α → Prop} {p : Addr} {l : α} (r : R p l) : All R [p] [l] := All.cons r All.nil
/-- with_letter -/
def wl (R : List (List Int)) (r : Nat) (x : Int) : List (List Int) := if r = R.length then R ++ [[x]] else R.take r ++ [R.getD r [] ++ [x]] ++ R.drop (r + 1)
def spWl : Sp := fun vs H Q _ => ∃ (S : Hp) (a c : Addr) (R : List (List Int)) (r : Nat) (cc x : Int), vs = [.ref a, .ref c, .int x] ∧ Same S H ∧ TabAt S a R ∧ S c = some (.tup [.int r, .int cc]) ∧ r ≤ R.length ∧ R.length ≤ 1000 ∧ (∀ l ∈ R, l.length ≤ 1000) ∧
  ∀ v S' H', Go S H S' H' → TabAt S' v (wl R r x) → Q (.ref v) H'
theorem ok_with_letter (T : Txt K mg) : Kd P w K mg base "with_letter" ["table", "cell", "letter"] 1 spWl := by
  refine kd_of T.d_with_letter sc_with_letter (fun vs H Q E h => ?_) (fun f cdv A outer s H vs Q E hr h => ?_)
  · obtain ⟨S, a, c, R, r, cc, x, rfl, _⟩ := h
    rfl
  · obtain ⟨S, a, c, R, r, cc, x, rfl, sh, ⟨as, ea, hf⟩, ec, hr1, hl, hll, q⟩ := h
    have ea' := sh _ _ ea
    have ec' := sh _ _ ec
    refine ⟨_, (pss_cons (ps_set (i := 3) sc_with_letter.nd rfl (.inl rfl) (pe_ix (ix_tupK (K := K) rfl) (pv 1) pe_int (fun _ _ => rfl)))
(pss_cons (ps_if (pt_cmpR op_eq (pv 3) (pe_callB (n_lenK (K := K) rfl) (by rfl) T.n_len PySem.boot_len (pa_cons (pv 0) pa_nil)) (nomark _))
(pss_one (ps_ret (pe_op (op_catAK (K := K) rfl) (pv 0) (pe_tup (pa_m (pa_cons (pe_tup (pa_m (pa_cons (pv 2) pa_nil))) pa_nil))))))
pss_nil)
(pss_one (ps_ret (pe_op (op_catAK (K := K) rfl) (pe_op (op_catAK (K := K) rfl) (pe_slice (sl_tupAK (K := K) rfl) (pv 0) po_none (po_some (pv 3))) (pe_tup (pa_m (pa_cons (pe_op (op_catAK (K := K) rfl) (pe_ix (ix_tupK (K := K) rfl) (pv 0) (pv 3) (fun _ _ => rfl)) (pe_tup (pa_m (pa_cons (pv 2) pa_nil)))) pa_nil)))) (pe_slice (sl_tupAK (K := K) rfl) (pv 0) (po_some (pe_op op_add (pv 3) pe_int)) po_none)))))), ?_⟩
    refine st_lit (σ' := [some (V.ref a), some (V.ref c), some (V.int x), none]) rfl ?_
    walk_at "x"
    rw [refs_len, dec_vint]
    have hlen := hf.len
    refine x_ite (fun e => ?_) (fun e => ?_)
    · have e' : r = R.length := by omega
      walk_at "x"
      refine ⟨small (by simp), fun c1 H1 n1 s1 e1 => ?_⟩
      obtain ⟨S1, g1, e1'⟩ := Go.one sh s1 n1 e1
      walk_at "x"
      refine ⟨small (by simp), fun c2 H2 n2 s2 e2 => ?_⟩
      obtain ⟨S2, g2, e2'⟩ := Go.one g1.sh s2 n2 e2
      refine x_catS g2.sh (g2.ss _ _ (g1.ss _ _ ea)) e2' (small (by rw [refs_len]; simp; omega)) (fun l S3 H3 g3 e3 => ?_)
      refine q l S3 H3 ((g1.trans g2).trans g3) ⟨as ++ [c1], by rw [e3, show [V.ref c1] = refs [c1] from rfl, refs_app], ?_⟩
      have ew : wl R r x = R ++ [[x]] := by unfold wl; rw [if_pos e']
      rw [ew]
      exact (((hf.monoT g1.ss).monoT g2.ss).monoT g3.ss).snoc (TiAt.mono (l := [x]) (g2.ss.trans g3.ss) e1')
    · have e' : r ≠ R.length := by omega
      have hrl : r < R.length := by omega
      obtain ⟨p, hp, rp⟩ := hf.get (List.getElem?_eq_getElem hrl)
      walk_at "x"
      refine x_slS sh ea (fun l0 S0 H0 g0 e0 => ?_)
      rw [cutV_take, refs_take] at e0
      walk_at "x"
      refine x_ixT (g0.hh _ _ ea') (atI_refs hp) ?_
      walk_at "x"
      refine ⟨small (by simp), fun c1 H1 n1 s1 e1 => ?_⟩
      obtain ⟨S1, g1, e1'⟩ := Go.one g0.sh s1 n1 e1
      refine x_catS g1.sh (g1.ss _ _ (g0.ss _ _ rp)) e1' (small (by simp; have := hll _ (List.getElem_mem hrl); omega)) (fun l2 S2 H2 g2 e2 => ?_)
      walk_at "x"
      refine ⟨small (by simp), fun c3 H3 n3 s3 e3 => ?_⟩
      obtain ⟨S3, g3, e3'⟩ := Go.one g2.sh s3 n3 e3
      refine x_catS g3.sh (g3.ss _ _ (g2.ss _ _ (g1.ss _ _ e0))) e3' (small (by rw [refs_len, List.length_take]; simp; omega)) (fun l4 S4 H4 g4 e4 => ?_)
      have G4 := (((g0.trans g1).trans g2).trans g3).trans g4
      walk_at "x"
      refine x_slS G4.sh (G4.ss _ _ ea) (fun l5 S5 H5 g5 e5 => ?_)
      rw [show ((r : Int) + 1) = ((r + 1 : Nat) : Int) by omega, cutV_drop, refs_drop] at e5
      refine x_catS g5.sh (g5.ss _ _ e4) e5 (small (by simp [refs_len]; omega)) (fun l6 S6 H6 g6 e6 => ?_)
      refine q l6 S6 H6 ((G4.trans g5).trans g6) ⟨as.take r ++ [l2] ++ as.drop (r + 1), by rw [e6, show [V.ref l2] = refs [l2] from rfl, refs_app, refs_app], ?_⟩
      have ew : wl R r x = R.take r ++ [R[r] ++ [x]] ++ R.drop (r + 1) := by
        unfold wl
        rw [if_neg e', List.getD_eq_getElem?_getD, List.getElem?_eq_getElem hrl]
        rfl
      rw [ew]
      have T6 := (G4.trans g5).trans g6
      have h6 := hf.monoT T6.ss
      have t2 : TiAt S6 l2 (R[r] ++ [x]) := by
        have z : S2 l2 = some (.tup ((R[r] ++ [x]).map V.int)) := by rw [e2]; simp
        exact g6.ss _ _ (g5.ss _ _ (g4.ss _ _ (g3.ss _ _ z)))
      exact ((h6.take r).snoc t2).app (h6.drop (r + 1))
/-- first_greater -/
def spFg : Sp := fun vs H Q _ => ∃ (a : Addr) (l : List Int) (x : Int), vs = [.ref a, .int x] ∧ TiAt H a l ∧ Km.Srt l ∧ Q (.int (Km.cnt l x : Nat)) H
theorem x_while {c : TT} {tb : TS} {D : Ends} {σ : L2.St} {H : Hp} (W : Nat → L2.St → Hp → Prop) (m : Nat) (h0 : W m σ H)
    (h : ∀ m σ H, W m σ H → c σ H fun b H1 => if b = true then ∃ N : L2.St → Hp → Prop, (∀ σ' H', N σ' H' → ∃ m', m' < m ∧ W m' σ' H') ∧ tb { D with nx := N, ct := N, bk := D.nx } σ H1 else D.nx σ H1) : tWhile c tb D σ H := ⟨W, ⟨m, h0⟩, h⟩
theorem ok_first_greater (T : Txt K mg) : Kd P w K mg base "first_greater" ["row", "letter"] 1 spFg := by
  refine kd_of T.d_first_greater sc_first_greater (fun vs H Q E h => ?_) (fun f cdv A outer s H vs Q E hr h => ?_)
  · obtain ⟨a, l, x, rfl, _⟩ := h
    rfl
  · obtain ⟨a, l, x, rfl, ha, hs, q⟩ := h
    have ha' : H a = some (.tup (l.map V.int)) := ha
    have hc := Km.cnt_le l x
    refine ⟨_, (pss_cons (ps_set (i := 2) sc_first_greater.nd rfl (.inl rfl) pe_int)
(pss_cons (ps_set (i := 3) sc_first_greater.nd rfl (.inl rfl) (pe_callB (n_lenK (K := K) rfl) (by rfl) T.n_len PySem.boot_len (pa_cons (pv 0) pa_nil)))
(pss_cons (ps_while PassesOwn.never (pt_cmpR op_lt (pv 2) (pv 3) (nomark _))
(pss_cons (ps_set (i := 4) sc_first_greater.nd rfl (.inl rfl) (pe_op op_fdivW (pe_op op_add (pv 2) (pv 3)) pe_int))
(pss_one (ps_if (pt_cmpR op_gt (pe_ix (ix_tupK (K := K) rfl) (pv 0) (pv 4) (fun _ _ => rfl)) (pv 1) (nomark _))
(pss_one (ps_set (i := 3) sc_first_greater.nd rfl (.inl rfl) (pv 4)))
(pss_one (ps_set (i := 2) sc_first_greater.nd rfl (.inl rfl) (pe_op op_add (pv 4) pe_int)))))))
(pss_one (ps_ret (pv 2)))))), ?_⟩
    refine st_lit (σ' := [some (V.ref a), some (V.int x), none, none, none]) rfl ?_
    walk_at "x"
    rw [ints_len]
    refine x_while (fun m σ H' => H' = H ∧ ∃ (lo hi : Nat) (v : Option V), σ = [some (.ref a), some (.int x), some (.int lo), some (.int hi), v] ∧ lo ≤ Km.cnt l x ∧ Km.cnt l x ≤ hi ∧ hi ≤ l.length ∧ m = hi - lo) (l.length - 0) ⟨rfl, 0, l.length, none, rfl, Nat.zero_le _, hc, Nat.le_refl _, rfl⟩ ?_
    rintro m σ H' ⟨rfl, lo, hi, v, rfl, h1, h2, h3, rfl⟩
    walk_at "x"
    refine x_ite (fun e => ?_) (fun e => ?_)
    · have hlt : lo < hi := by omega
      refine ⟨fun σ' H' => ∃ m', m' < hi - lo ∧ (H' = _ ∧ ∃ (lo hi : Nat) (v : Option V), σ' = [some (.ref a), some (.int x), some (.int lo), some (.int hi), v] ∧ lo ≤ Km.cnt l x ∧ Km.cnt l x ≤ hi ∧ hi ≤ l.length ∧ m' = hi - lo), fun σ' H' h => h, ?_⟩
      walk_at "x"
      refine x_rI ⟨by omega, by decide⟩ ?_
      have em : ((lo : Int) + (hi : Int)) / 2 = (((lo + hi) / 2 : Nat) : Int) := by omega
      rw [em]
      generalize hm : (lo + hi) / 2 = mid
      have b1 : lo ≤ mid := by omega
      have b2 : mid < hi := by omega
      have b3 : mid < l.length := by omega
      walk_at "x"
      refine x_ixT ha' (atI_ints (List.getElem?_eq_getElem b3)) ?_
      walk_at "x"
      have eg : Km.gd l mid = l[mid] := by unfold Km.gd; rw [List.getD_eq_getElem?_getD, List.getElem?_eq_getElem b3]; rfl
      refine x_ite (fun e2 => ?_) (fun e2 => ?_)
      · walk_at "x"
        refine ⟨mid - lo, by omega, rfl, lo, mid, _, rfl, h1, ?_, by omega, rfl⟩
        refine Nat.le_of_not_lt fun z => ?_
        have := Km.gd_lt (x := x) hs z
        rw [eg] at this
        omega
      · walk_at "x"
        refine ⟨hi - (mid + 1), by omega, rfl, mid + 1, hi, _, by rw [show ((mid : Int) + 1) = ((mid + 1 : Nat) : Int) by omega], ?_, h2, h3, rfl⟩
        refine Nat.lt_of_not_le fun z => ?_
        have := Km.gd_ge (x := x) hs z b3
        rw [eg] at this
        omega
    · have e3 : lo = Km.cnt l x := by omega
      walk_at "x"
      rw [e3]
      exact q
end
section
local macro_rules | `(tactic| walk_at "set") => `(tactic| first | exact set0 | (apply setS; walk_at "set"))
local macro_rules | `(tactic| walk_at "h") => `(tactic| first | assumption | (refine Same.lk (by assumption) ?_; walk_at "h"))
local macro_rules | `(tactic| walk_at "x1") => `(tactic| first
  | ((with_reducible show tVar _ _ _ _); refine x_var rfl ?_)
  | ((with_reducible show tC _ _ _ _); refine x_c ?_)
  | ((with_reducible show tOp _ _ _ _ _ _); refine x_op ?_)
  | ((with_reducible show tSeq _ _ _ _ _); refine x_seq ?_)
  | ((with_reducible show tAsg _ _ _ _ _); refine x_asg ?_)
  | ((with_reducible show gName _ _ _ _ _); refine x_name2 (by walk_at "set") ?_)
  | ((with_reducible show tCons _ _ _ _ _); refine x_cons ?_)
  | ((with_reducible show tNil _ _ _); refine x_nil ?_)
  | ((with_reducible show rI0 _ (V.int _) (V.int _) _ _); refine x_rI0 ?_)
  | ((with_reducible show tCB _ _ _ _ _); refine x_cb ?_)
  | ((with_reducible show tCall _ [] E0 _ _ _ _); refine x_call ?_)
  | ((with_reducible show rIxT _ _ _ _ _); refine x_ixT (by walk_at "h") (by rfl) ?_)
  | ((with_reducible show rLenQ _ _ _ _); refine x_lenL (by walk_at "h") ?_)
  | ((with_reducible show rLenQ _ _ _ _); refine x_lenT (by walk_at "h") ?_)
  | ((with_reducible show tIfS _ _ _ _ _ _); refine x_if ?_)
  | ((with_reducible show tTest _ _ _ _); refine x_test ?_)
  | ((with_reducible show tB _ _ _ _); refine x_tB ?_)
  | ((with_reducible show tYes _ _ _); refine x_yes ?_)
  | ((with_reducible show gTup _ _ _ (V.ref _) _ _ _); refine x_gtup (by walk_at "h") (by rfl) ?_)
  | ((with_reducible show gCons _ _ (_ :: _) _ _ _); refine x_gcons ?_)
  | ((with_reducible show gNil [] _ _ _); refine x_gnil ?_)
  | ((with_reducible show tPar _ _ _ _ _ _); refine x_par ?_)
  | (with_reducible refine x_bl ?_)
  | (with_reducible refine x_T ?_)
  | (with_reducible refine x_nT ?_)
  | (with_reducible refine x_nF ?_)
  | (with_reducible refine x_F ?_)
  | ((with_reducible show rEq _ _ _ _); refine x_eq rfl ?_)
  | ((with_reducible show rNe _ _ _ _); refine x_ne rfl ?_)
  | ((with_reducible show rIsNn _ _ _ _); refine x_isN ?_)
  | ((with_reducible show tRet _ _ _ _); refine x_ret ?_)
  | ((with_reducible show tNext _ _ _); refine x_next ?_)
  | ((with_reducible show tRetN _ _ _); refine x_retN ?_)
  | ((with_reducible show tDrop _ _ _ _); refine x_drop ?_)
  | ((with_reducible show tTup _ _ _ _); refine x_tup ?_)
  | ((with_reducible show tLst _ _ _ _); refine x_lst ?_)
  | ((with_reducible show tUn _ _ _ _ _); refine x_un ?_)
  | ((with_reducible show rU _ (V.int _) _ _); refine x_rU ?_)
  | ((with_reducible show tNot _ _ _ _); refine x_notT ?_)
  | ((with_reducible show tAnd _ _ _ _ _); refine x_and ?_)
  | ((with_reducible show tOr _ _ _ _ _); refine x_or ?_)
  | ((with_reducible show tSl _ _ _ _ _ _ _); refine x_sl ?_)
  | ((with_reducible show tNoPart _ _ _); refine x_noP ?_)
  | ((with_reducible show tPart _ _ _ _); refine x_part ?_)
  | (with_reducible refine x_pi ?_)
  | ((with_reducible show tBM _ _ _ _ _ _ _ _); refine x_bm ?_)
  | ((with_reducible show tyV _ "list" _ _ ∧ _); refine x_tyL (by walk_at "h") ?_)
  | ((with_reducible show gSub _ _ _ _ _ _ _); refine x_sub ?_)
  | ((with_reducible show rInt1 [V.int _] _ _); refine x_int ?_)
  | ((with_reducible show rInt1 [V.bl _] _ _); refine x_intB ?_)
  | ((with_reducible show rMin2 _ _ _); refine x_min ?_)
  | ((with_reducible show rMax2 _ _ _); refine x_max ?_))
local macro_rules | `(tactic| walk_at "x") => `(tactic| (repeat walk_at "x1"))
variable {P : Program} {w : World} {K : PySem.W.Frag} {mg : Str → Option Value} {base : Heap}
/-- insert_into_row: the row, what is pushed out -/
def rin (l : List Int) (x : Int) : List Int := if Km.cnt l x = l.length then l ++ [x] else l.set (Km.cnt l x) x
def rout (l : List Int) (x : Int) : Option Int := if Km.cnt l x = l.length then none else some (l.getD (Km.cnt l x) 0)
def optI (o : Option Int) : V := match o with | some n => .int n | none => .non
theorem optI_non (o : Option Int) : decide (optI o = .non) = o.isNone := by cases o <;> rfl
theorem rin_len (l : List Int) (x : Int) : (rin l x).length ≤ l.length + 1 := by unfold rin; split <;> simp
theorem srt_rin {l : List Int} {x : Int} (h : Km.Srt l) : Km.Srt (rin l x) := by
  unfold rin
  split
  · exact Km.srt_app h (by assumption)
  · exact Km.srt_set h (by have := Km.cnt_le l x; omega)
def spIir : Sp := fun vs H Q _ => ∃ (S : Hp) (a : Addr) (l : List Int) (x : Int), vs = [.ref a, .int x] ∧ Same S H ∧ TiAt S a l ∧ Km.Srt l ∧ l.length ≤ 1000 ∧
  ∀ v p S' H', Go S H S' H' → S' v = some (.tup [.ref p, optI (rout l x)]) → TiAt S' p (rin l x) → Q (.ref v) H'
theorem ok_insert_into_row (T : Txt K mg) : Kd P w K mg base "insert_into_row" ["row", "letter"] 2 spIir := by
  refine kd_of T.d_insert_into_row sc_insert_into_row (fun vs H Q E h => ?_) (fun f cdv A outer s H vs Q E hr h => ?_)
  · obtain ⟨S, a, l, x, rfl, _⟩ := h
    rfl
  · obtain ⟨S, a, l, x, rfl, sh, ha, hs, hl, q⟩ := h
    have ha0 : S a = some (.tup (l.map V.int)) := ha
    have ha' : H a = some (.tup (l.map V.int)) := sh _ _ ha
    have hc := Km.cnt_le l x
    refine ⟨_, (pss_cons (ps_set (i := 2) sc_insert_into_row.nd rfl (.inl rfl) (pe_kd (ok_first_greater T) (hr.mono (by decide)) (by rfl) (pa_cons (pv 0) (pa_cons (pv 1) pa_nil))))
(pss_cons (ps_if (pt_cmpR op_eq (pv 2) (pe_callB (n_lenK (K := K) rfl) (by rfl) T.n_len PySem.boot_len (pa_cons (pv 0) pa_nil)) (nomark _))
(pss_one (ps_ret (pe_tup (pa_m (pa_cons (pe_op (op_catAK (K := K) rfl) (pv 0) (pe_tup (pa_m (pa_cons (pv 1) pa_nil)))) (pa_cons pe_non pa_nil))))))
pss_nil)
(pss_one (ps_ret (pe_tup (pa_m (pa_cons (pe_op (op_catAK (K := K) rfl) (pe_op (op_catAK (K := K) rfl) (pe_slice (sl_tupAK (K := K) rfl) (pv 0) po_none (po_some (pv 2))) (pe_tup (pa_m (pa_cons (pv 1) pa_nil)))) (pe_slice (sl_tupAK (K := K) rfl) (pv 0) (po_some (pe_op op_add (pv 2) pe_int)) po_none)) (pa_cons (pe_ix (ix_tupK (K := K) rfl) (pv 0) (pv 2) (fun _ _ => rfl)) pa_nil)))))))), ?_⟩
    refine st_lit (σ' := [some (V.ref a), some (V.int x), none]) rfl ?_
    walk_at "x"
    refine ⟨a, l, x, rfl, ha', hs, ?_⟩
    walk_at "x"
    rw [ints_len, dec_vint]
    refine x_ite (fun e => ?_) (fun e => ?_)
    · have e' : Km.cnt l x = l.length := by omega
      walk_at "x"
      refine ⟨small (by simp), fun c1 H1 n1 s1 e1 => ?_⟩
      obtain ⟨S1, g1, e1'⟩ := Go.one sh s1 n1 e1
      refine x_catS g1.sh (g1.ss _ _ ha0) e1' (small (by simp; omega)) (fun l2 S2 H2 g2 e2 => ?_)
      walk_at "x"
      refine ⟨small (by simp), fun c3 H3 n3 s3 e3 => ?_⟩
      obtain ⟨S3, g3, e3'⟩ := Go.one g2.sh s3 n3 e3
      have er : rout l x = none := by unfold rout; rw [if_pos e']
      have ei : rin l x = l ++ [x] := by unfold rin; rw [if_pos e']
      rw [er, ei] at q
      exact q c3 l2 S3 H3 ((g1.trans g2).trans g3) e3' (g3.ss _ _ (by rw [e2]; simp))
    · have e' : ¬ Km.cnt l x = l.length := by omega
      have hp : Km.cnt l x < l.length := by omega
      walk_at "x"
      refine x_slS sh ha0 (fun l0 S0 H0 g0 e0 => ?_)
      rw [cutV_take] at e0
      walk_at "x"
      refine ⟨small (by simp), fun c1 H1 n1 s1 e1 => ?_⟩
      obtain ⟨S1, g1, e1'⟩ := Go.one g0.sh s1 n1 e1
      refine x_catS g1.sh (g1.ss _ _ e0) e1' (small (by simp; omega)) (fun l2 S2 H2 g2 e2 => ?_)
      walk_at "x"
      have G2 := (g0.trans g1).trans g2
      refine x_slS G2.sh (G2.ss _ _ ha0) (fun l3 S3 H3 g3 e3 => ?_)
      rw [show ((Km.cnt l x : Nat) : Int) + 1 = ((Km.cnt l x + 1 : Nat) : Int) by omega, cutV_drop] at e3
      refine x_catS g3.sh (g3.ss _ _ e2) e3 (small (by simp; omega)) (fun l4 S4 H4 g4 e4 => ?_)
      have G4 := (G2.trans g3).trans g4
      walk_at "x"
      refine x_ixT (G4.hh _ _ ha') (atI_ints (List.getElem?_eq_getElem hp)) ?_
      walk_at "x"
      refine ⟨small (by simp), fun c5 H5 n5 s5 e5 => ?_⟩
      obtain ⟨S5, g5, e5'⟩ := Go.one G4.sh s5 n5 e5
      have er : rout l x = some l[Km.cnt l x] := by
        unfold rout
        rw [if_neg e', List.getD_eq_getElem?_getD, List.getElem?_eq_getElem hp]
        rfl
      have ei : rin l x = l.take (Km.cnt l x) ++ [x] ++ l.drop (Km.cnt l x + 1) := by
        unfold rin
        rw [if_neg e', List.set_eq_take_append_cons_drop, if_pos hp]
        simp
      rw [er, ei] at q
      exact q c5 l4 S5 H5 (G4.trans g5) e5' (g5.ss _ _ (by rw [e4]; simp))
theorem ins_cons (r : List Int) (rs : List (List Int)) (x : Int) : Km.ins (r :: rs) x = rin r x :: (match rout r x with | none => rs | some y => Km.ins rs y) := by
  conv => lhs; unfold Km.ins
  unfold rin rout
  by_cases e : Km.cnt r x = r.length
  · rw [if_pos e, if_pos e, if_pos e]
  · rw [if_neg e, if_neg e, if_neg e]
def spIbr : Sp := fun vs H Q _ => ∃ (S : Hp) (a : Addr) (tb : List (List Int)) (x : Int), vs = [.ref a, .int x] ∧ Same S H ∧ TabAt S a tb ∧ (∀ r ∈ tb, Km.Srt r) ∧ tb.length ≤ 500 ∧ (∀ r ∈ tb, r.length ≤ 500) ∧
  ∀ v p c r cc S' H', Go S H S' H' → S' v = some (.tup [.ref p, .ref c]) → TabAt S' p (Km.ins tb x) → S' c = some (.tup [.int (r : Nat), .int cc]) → ((r = tb.length ∧ (Km.ins tb x).length = tb.length + 1) ∨ (r < tb.length ∧ (Km.ins tb x).length = tb.length)) → Q (.ref v) H'
theorem ok_insert_by_rows (T : Txt K mg) : Kd P w K mg base "insert_by_rows" ["table", "letter"] 3 spIbr := by
  refine kd_of T.d_insert_by_rows sc_insert_by_rows (fun vs H Q E h => ?_) (fun f cdv A outer s H vs Q E hr h => ?_)
  · obtain ⟨S, a, tb, x, rfl, _⟩ := h
    rfl
  · obtain ⟨S, a, tb, x, rfl, sh, ⟨as, ea, hf⟩, hs, hl, hll, q⟩ := h
    have hlen := hf.len
    refine ⟨_, (pss_cons (ps_set (i := 2) sc_insert_by_rows.nd rfl (.inl rfl) (pe_lst (pa_m pa_nil)))
(pss_cons (ps_for PassesOwn.never rfl (pi_range1 (by rfl) T.n_range (pa_cons (pe_callB (n_lenK (K := K) rfl) (by rfl) T.n_len PySem.boot_len (pa_cons (pv 0) pa_nil)) pa_nil)) (pg_name (i := 3) sc_insert_by_rows.nd rfl (.inl rfl))
(pss_cons (ps_asg (pe_kd (ok_insert_into_row T) (hr.mono (by decide)) (by rfl) (pa_cons (pe_ix (ix_tupK (K := K) rfl) (pv 0) (pv 3) (fun _ _ => rfl)) (pa_cons (pv 1) pa_nil))) (pg_tupK (K := K) rfl rfl (pgs_cons (pg_name (i := 4) sc_insert_by_rows.nd rfl (.inl rfl)) (pgs_cons (pg_name (i := 1) sc_insert_by_rows.nd rfl (.inl rfl)) pgs_nil))))
(pss_cons (ps_expr (pe_bmK (K := K) rfl (pe_bm PySem.F.plainAttrs_list PySem.F.slot_list_append PySem.F.type_list_append mt_append (pv 2) (pa_cons (pv 4) pa_nil))))
(pss_one (ps_if (pt_cmpR n_isN (pv 1) pe_non (nomark _))
(pss_one (ps_ret (pe_tup (pa_m (pa_cons (pe_op (op_catAK (K := K) rfl) (pe_callTy (n_tup_ofK (K := K) rfl) (by rfl) T.n_tuple (by decide +kernel) (pa_cons (pv 2) pa_nil)) (pe_slice (sl_tupAK (K := K) rfl) (pv 0) (po_some (pe_op op_add (pv 3) pe_int)) po_none)) (pa_cons (pe_tup (pa_m (pa_cons (pv 3) (pa_cons (pe_op op_sub (pe_callB (n_lenK (K := K) rfl) (by rfl) T.n_len PySem.boot_len (pa_cons (pv 4) pa_nil)) pe_int) pa_nil)))) pa_nil))))))
pss_nil)))))
(pss_one (ps_ret (pe_tup (pa_m (pa_cons (pe_op (op_catAK (K := K) rfl) (pe_callTy (n_tup_ofK (K := K) rfl) (by rfl) T.n_tuple (by decide +kernel) (pa_cons (pv 2) pa_nil)) (pe_tup (pa_m (pa_cons (pe_tup (pa_m (pa_cons (pv 1) pa_nil))) pa_nil)))) (pa_cons (pe_tup (pa_m (pa_cons (pe_callB (n_lenK (K := K) rfl) (by rfl) T.n_len PySem.boot_len (pa_cons (pv 0) pa_nil)) (pa_cons pe_int pa_nil)))) pa_nil)))))))), ?_⟩
    refine st_lit (σ' := [some (V.ref a), some (V.int x), none, none, none]) rfl ?_
    walk_at "x"
    refine ⟨by decide, fun c1 H1 n1 s1 e1 => ?_⟩
    have ea' := sh _ _ ea
    walk_at "x"
    refine x_for (x_r1 ?_)
    walk_at "x"
    rw [refs_len]
    refine x_r1n (n := as.length) (by omega) ?_
    rw [Int.toNat_natCast]
    refine for_range (fun i σ H' => ∃ (S' : Hp) (bs : List Addr) (N : List (List Int)) (y : Int) (v4 v5 : Option V), σ = [some (.ref a), some (.int y), some (.ref c1), v4, v5] ∧ Go S H S' H' ∧ S' c1 = none ∧ H' c1 = some (.lst (refs bs)) ∧ All (TiAt S') bs N ∧ N.length = i ∧ Km.ins tb x = N ++ Km.ins (tb.drop i) y ∧ (∀ r ∈ N, r.length ≤ 501))
      ⟨S, [], [], x, none, none, rfl, ⟨Same.refl _, sh.trans s1, s1, fun _ _ e _ => e⟩, sh.free n1, e1, All.nil, rfl, by simp, fun r hr => by simp at hr⟩ ?_ ?_
    · rintro i σ H' hi ⟨S', bs, N, y, v4, v5, rfl, g, hS, hc, hN, hNl, hins, hNr⟩
      have hib : i < tb.length := by omega
      obtain ⟨p, hp, rp⟩ := hf.get (List.getElem?_eq_getElem hib)
      have hbl := hN.len
      have srt_i := hs _ (List.getElem_mem hib)
      have len_i := hll _ (List.getElem_mem hib)
      rw [Int.zero_add]
      walk_at "x"
      refine x_ixT (g.hh _ _ ea') (atI_refs hp) ?_
      walk_at "x"
      refine ⟨S', p, tb[i], y, rfl, g.sh, g.ss _ _ rp, srt_i, by omega, fun v p2 S2 H2 g2 e2 r2 => ?_⟩
      have e2' := g2.sh _ _ e2
      walk_at "x"
      have hc2 := g2.hh _ _ hc
      have hS2 := g2.fr c1 _ hS hc
      walk_at "x"
      refine x_app hc2 (smallL (by rw [refs_len]; omega)) ?_
      rw [refs_snoc]
      have G := (g.trans g2).mut (o := .lst (refs (bs ++ [p2]))) n1 hS2
      have hN2 := (hN.monoT g2.ss).snoc r2
      have hcons : Km.ins (tb.drop i) y = rin tb[i] y :: (match rout tb[i] y with | none => tb.drop (i + 1) | some z => Km.ins (tb.drop (i + 1)) z) := by
        rw [List.drop_eq_getElem_cons hib, ins_cons]
      have hrl := rin_len tb[i] y
      generalize eH : upd H2 c1 (.lst (refs (bs ++ [p2]))) = H3 at *
      have hc3 : H3 c1 = some (.lst (refs (bs ++ [p2]))) := by rw [← eH]; exact upd_same
      walk_at "x"
      rw [optI_non]
      cases ho : rout tb[i] y with
      | none =>
        rw [ho] at hcons
        dsimp only [Option.isNone]
        walk_at "x"
        refine x_tupL hc3 fun c4 H4 n4 s4 e4 => ?_
        obtain ⟨S4, g4, e4'⟩ := Go.one G.sh s4 n4 e4
        have G4 := G.trans g4
        walk_at "x"
        refine x_slS G4.sh (G4.ss _ _ ea) (fun l5 S5 H5 g5 e5 => ?_)
        rw [show ((i : Nat) : Int) + 1 = ((i + 1 : Nat) : Int) by omega, cutV_drop, refs_drop] at e5
        refine x_catS g5.sh (g5.ss _ _ e4') e5 (small (by simp [refs_len]; omega)) (fun l6 S6 H6 g6 e6 => ?_)
        rw [refs_app] at e6
        have G6 := (G4.trans g5).trans g6
        walk_at "x"
        have rp2 : H6 p2 = some (.tup ((rin tb[i] y).map V.int)) := G6.sh _ _ (g6.ss _ _ (g5.ss _ _ (g4.ss _ _ r2)))
        walk_at "x"
        refine ⟨small (by simp), fun c7 H7 n7 s7 e7 => ?_⟩
        obtain ⟨S7, g7, e7'⟩ := Go.one G6.sh s7 n7 e7
        walk_at "x"
        refine ⟨small (by simp), fun c8 H8 n8 s8 e8 => ?_⟩
        obtain ⟨S8, g8, e8'⟩ := Go.one g7.sh s8 n8 e8
        have hend : Km.ins tb x = N ++ [rin tb[i] y] ++ tb.drop (i + 1) := by rw [hins, hcons]; simp
        have T8 : Same S2 S8 := g4.ss.trans (g5.ss.trans (g6.ss.trans (g7.ss.trans g8.ss)))
        have hlast : All (TiAt S8) (bs ++ [p2] ++ as.drop (i + 1)) (N ++ [rin tb[i] y] ++ tb.drop (i + 1)) := (hN2.monoT T8).app ((hf.monoT ((G6.trans g7).trans g8).ss).drop (i + 1))
        refine q c8 l6 c7 i _ S8 H8 ((G6.trans g7).trans g8) e8' ?_ (g8.ss _ _ e7') (.inr ⟨hib, ?_⟩)
        · rw [hend]
          exact ⟨_, g8.ss _ _ (g7.ss _ _ e6), hlast⟩
        · rw [hend]
          simp
          omega
      | some z =>
        rw [ho] at hcons
        dsimp only [Option.isNone]
        walk_at "x"
        refine ⟨S2, bs ++ [p2], N ++ [rin tb[i] y], z, _, _, rfl, G, hS2, hc3, hN2, by simp; exact hNl, by rw [hins, hcons]; simp, fun r hr => ?_⟩
        rcases List.mem_append.mp hr with h | h
        · exact hNr r h
        · have e : r = rin tb[i] y := by simpa using h
          rw [e]
          omega
    · rintro σ H' ⟨S', bs, N, y, v4, v5, rfl, g, hS, hc, hN, hNl, hins, hNr⟩
      rw [hlen, List.drop_length] at hins
      have hbl := hN.len
      walk_at "x"
      refine x_tupL hc fun c4 H4 n4 s4 e4 => ?_
      obtain ⟨S4, g4, e4'⟩ := Go.one g.sh s4 n4 e4
      walk_at "x"
      refine ⟨small (by simp), fun c5 H5 n5 s5 e5 => ?_⟩
      obtain ⟨S5, g5, e5'⟩ := Go.one g4.sh s5 n5 e5
      walk_at "x"
      refine ⟨small (by simp), fun c6 H6 n6 s6 e6 => ?_⟩
      obtain ⟨S6, g6, e6'⟩ := Go.one g5.sh s6 n6 e6
      refine x_catS g6.sh (g6.ss _ _ (g5.ss _ _ e4')) e6' (small (by simp [refs_len]; omega)) (fun l7 S7 H7 g7 e7 => ?_)
      rw [show [V.ref c5] = refs [c5] from rfl, refs_app] at e7
      have G7 := (((g.trans g4).trans g5).trans g6).trans g7
      have ea7 := G7.hh _ _ ea'
      walk_at "x"
      refine ⟨small (by simp), fun c8 H8 n8 s8 e8 => ?_⟩
      obtain ⟨S8, g8, e8'⟩ := Go.one G7.sh s8 n8 e8
      walk_at "x"
      refine ⟨small (by simp), fun c9 H9 n9 s9 e9 => ?_⟩
      obtain ⟨S9, g9, e9'⟩ := Go.one g8.sh s9 n9 e9
      have hend : Km.ins tb x = N ++ [[y]] := hins
      rw [refs_len, hlen] at e8'
      refine q c9 l7 c8 tb.length 0 S9 H9 ((G7.trans g8).trans g9) e9' ?_ (g9.ss _ _ e8') (.inl ⟨rfl, ?_⟩)
      · rw [hend]
        have t5 : TiAt S5 c5 [y] := e5'
        exact ⟨_, g9.ss _ _ (g8.ss _ _ e7), (hN.monoT (g4.ss.trans (g5.ss.trans (g6.ss.trans (g7.ss.trans (g8.ss.trans g9.ss)))))).snoc (t5.mono (g6.ss.trans (g7.ss.trans (g8.ss.trans g9.ss))))⟩
      · rw [hend]
        simp
        omega
end
section
local macro_rules | `(tactic| walk_at "set") => `(tactic| first | exact set0 | (apply setS; walk_at "set"))
local macro_rules | `(tactic| walk_at "h") => `(tactic| first | assumption | (refine Same.lk (by assumption) ?_; walk_at "h"))
local macro_rules | `(tactic| walk_at "x1") => `(tactic| first
  | ((with_reducible show tVar _ _ _ _); refine x_var rfl ?_)
  | ((with_reducible show tC _ _ _ _); refine x_c ?_)
  | ((with_reducible show tOp _ _ _ _ _ _); refine x_op ?_)
  | ((with_reducible show tSeq _ _ _ _ _); refine x_seq ?_)
  | ((with_reducible show tAsg _ _ _ _ _); refine x_asg ?_)
  | ((with_reducible show gName _ _ _ _ _); refine x_name2 (by walk_at "set") ?_)
  | ((with_reducible show tCons _ _ _ _ _); refine x_cons ?_)
  | ((with_reducible show tNil _ _ _); refine x_nil ?_)
  | ((with_reducible show rI0 _ (V.int _) (V.int _) _ _); refine x_rI0 ?_)
  | ((with_reducible show tCB _ _ _ _ _); refine x_cb ?_)
  | ((with_reducible show tCall _ [] E0 _ _ _ _); refine x_call ?_)
  | ((with_reducible show rIxT _ _ _ _ _); refine x_ixT (by walk_at "h") (by rfl) ?_)
  | ((with_reducible show rLenQ _ _ _ _); refine x_lenL (by walk_at "h") ?_)
  | ((with_reducible show rLenQ _ _ _ _); refine x_lenT (by walk_at "h") ?_)
  | ((with_reducible show tIfS _ _ _ _ _ _); refine x_if ?_)
  | ((with_reducible show tTest _ _ _ _); refine x_test ?_)
  | ((with_reducible show tB _ _ _ _); refine x_tB ?_)
  | ((with_reducible show tYes _ _ _); refine x_yes ?_)
  | ((with_reducible show gTup _ _ _ (V.ref _) _ _ _); refine x_gtup (by walk_at "h") (by rfl) ?_)
  | ((with_reducible show gCons _ _ (_ :: _) _ _ _); refine x_gcons ?_)
  | ((with_reducible show gNil [] _ _ _); refine x_gnil ?_)
  | ((with_reducible show tPar _ _ _ _ _ _); refine x_par ?_)
  | (with_reducible refine x_bl ?_)
  | (with_reducible refine x_T ?_)
  | (with_reducible refine x_nT ?_)
  | (with_reducible refine x_nF ?_)
  | (with_reducible refine x_F ?_)
  | ((with_reducible show rEq _ _ _ _); refine x_eq rfl ?_)
  | ((with_reducible show rNe _ _ _ _); refine x_ne rfl ?_)
  | ((with_reducible show rIsNn _ _ _ _); refine x_isN ?_)
  | ((with_reducible show tRet _ _ _ _); refine x_ret ?_)
  | ((with_reducible show tNext _ _ _); refine x_next ?_)
  | ((with_reducible show tRetN _ _ _); refine x_retN ?_)
  | ((with_reducible show tDrop _ _ _ _); refine x_drop ?_)
  | ((with_reducible show tTup _ _ _ _); refine x_tup ?_)
  | ((with_reducible show tLst _ _ _ _); refine x_lst ?_)
  | ((with_reducible show tUn _ _ _ _ _); refine x_un ?_)
  | ((with_reducible show rU _ (V.int _) _ _); refine x_rU ?_)
  | ((with_reducible show tNot _ _ _ _); refine x_notT ?_)
  | ((with_reducible show tAnd _ _ _ _ _); refine x_and ?_)
  | ((with_reducible show tOr _ _ _ _ _); refine x_or ?_)
  | ((with_reducible show tSl _ _ _ _ _ _ _); refine x_sl ?_)
  | ((with_reducible show tNoPart _ _ _); refine x_noP ?_)
  | ((with_reducible show tPart _ _ _ _); refine x_part ?_)
  | (with_reducible refine x_pi ?_)
  | ((with_reducible show tBM _ _ _ _ _ _ _ _); refine x_bm ?_)
  | ((with_reducible show tyV _ "list" _ _ ∧ _); refine x_tyL (by walk_at "h") ?_)
  | ((with_reducible show gSub _ _ _ _ _ _ _); refine x_sub ?_)
  | ((with_reducible show rInt1 [V.int _] _ _); refine x_int ?_)
  | ((with_reducible show rInt1 [V.bl _] _ _); refine x_intB ?_)
  | ((with_reducible show rMin2 _ _ _); refine x_min ?_)
  | ((with_reducible show rMax2 _ _ _); refine x_max ?_))
local macro_rules | `(tactic| walk_at "x") => `(tactic| (repeat walk_at "x1"))
variable {P : Program} {w : World} {K : PySem.W.Frag} {mg : Str → Option Value} {base : Heap}
/-! ### sizes -/
theorem shp_le {tb : List (List Int)} {r : List Int} (h : r ∈ tb) : r.length ≤ (Km.shp tb).sum := by
  induction tb with
  | nil => simp at h
  | cons a tb ih =>
    show r.length ≤ a.length + (Km.shp tb).sum
    rcases List.mem_cons.mp h with e | e
    · rw [e]; omega
    · have := ih e; omega
theorem ins_rows (tb : List (List Int)) (x : Int) : (Km.ins tb x).length ≤ tb.length + 1 := by
  induction tb generalizing x with
  | nil => simp [Km.ins]
  | cons r tb ih =>
    rw [ins_cons]
    cases rout r x with
    | none => simp
    | some y => have := ih y; simp; omega
theorem fold_rows (u : List Int) : ∀ tb : List (List Int), (u.foldl Km.ins tb).length ≤ tb.length + u.length := by
  induction u with
  | nil => intro tb; simp
  | cons x u ih =>
    intro tb
    have a := ih (Km.ins tb x)
    have b := ins_rows tb x
    simp only [List.foldl_cons, List.length_cons]
    omega
theorem tabl_rows (u : List Int) : (Km.tabl u).length ≤ u.length := by have := fold_rows u []; simpa [Km.tabl] using this
theorem tabl_row {u r : List Int} (h : r ∈ Km.tabl u) : r.length ≤ u.length := by have := shp_le h; rw [Km.rwd_tab_len] at this; exact this
theorem tabl_snoc {w : List Int} {i : Nat} {x : Int} (h : w[i]? = some x) : Km.tabl (w.take (i + 1)) = Km.ins (Km.tabl (w.take i)) x := by
  unfold Km.tabl
  rw [take_snoc h, List.foldl_append]
  rfl
theorem wl_len {R : List (List Int)} {r : Nat} {x : Int} (h : r ≤ R.length) : (wl R r x).length = if r = R.length then R.length + 1 else R.length := by
  unfold wl
  by_cases e : r = R.length
  · rw [if_pos e, if_pos e]; simp
  · rw [if_neg e, if_neg e]; simp; omega
theorem wl_row {R : List (List Int)} {r : Nat} {x : Int} {m : Nat} (h : ∀ l ∈ R, l.length ≤ m) : ∀ l ∈ wl R r x, l.length ≤ m + 1 := by
  intro l hl
  unfold wl at hl
  split at hl
  · rcases List.mem_append.mp hl with z | z
    · have := h l z; omega
    · have e : l = [x] := by simpa using z
      rw [e]; simp
  · rcases List.mem_append.mp hl with z | z
    · rcases List.mem_append.mp z with z | z
      · have := h l (List.mem_of_mem_take z); omega
      · have e : l = R.getD r [] ++ [x] := by simpa using z
        rw [e, List.length_append]
        have : (R.getD r []).length ≤ m := by
          rw [List.getD_eq_getElem?_getD]
          cases q : R[r]? with
          | none => exact Nat.zero_le _
          | some k => exact h k (List.mem_of_getElem? q)
        rw [List.length_singleton]
        omega
    · have := h l (List.mem_of_mem_drop z); omega
def spPair : Sp := fun vs H Q _ => ∃ (S : Hp) (a : Addr) (l : List Int), vs = [.ref a] ∧ Same S H ∧ LiAt S a l ∧ l.length ≤ 50 ∧
  ∀ v p r S' H', Go S H S' H' → S' v = some (.tup [.ref p, .ref r]) → TabAt S' p (Km.tabl l) → Q (.ref v) H'
theorem ok_pair_of (T : Txt K mg) : Kd P w K mg base "pair_of" ["word"] 4 spPair := by
  refine kd_of T.d_pair_of sc_pair_of (fun vs H Q E h => ?_) (fun f cdv A outer s H vs Q E hr h => ?_)
  · obtain ⟨S, a, l, rfl, _⟩ := h
    rfl
  · obtain ⟨S, a, l, rfl, sh, ha, hl, q⟩ := h
    have ha' : H a = some (.lst (l.map V.int)) := sh _ _ ha
    refine ⟨_, (pss_cons (ps_set (i := 1) sc_pair_of.nd rfl (.inl rfl) (pe_tup (pa_m pa_nil)))
(pss_cons (ps_set (i := 2) sc_pair_of.nd rfl (.inl rfl) (pe_tup (pa_m pa_nil)))
(pss_cons (ps_for PassesOwn.never rfl (pi_range1 (by rfl) T.n_range (pa_cons (pe_callB (n_lenK (K := K) rfl) (by rfl) T.n_len PySem.boot_len (pa_cons (pv 0) pa_nil)) pa_nil)) (pg_name (i := 3) sc_pair_of.nd rfl (.inl rfl))
(pss_cons (ps_asg (pe_kd (ok_insert_by_rows T) (hr.mono (by decide)) (by rfl) (pa_cons (pv 1) (pa_cons (pe_ix (ix_listK (K := K) rfl) (pv 0) (pv 3) (fun _ _ => rfl)) pa_nil))) (pg_tupK (K := K) rfl rfl (pgs_cons (pg_name (i := 1) sc_pair_of.nd rfl (.inl rfl)) (pgs_cons (pg_name (i := 4) sc_pair_of.nd rfl (.inl rfl)) pgs_nil))))
(pss_one (ps_set (i := 2) sc_pair_of.nd rfl (.inl rfl) (pe_kd (ok_with_letter T) (hr.mono (by decide)) (by rfl) (pa_cons (pv 2) (pa_cons (pv 4) (pa_cons (pe_op op_add (pv 3) pe_int) pa_nil))))))))
(pss_one (ps_ret (pe_tup (pa_m (pa_cons (pv 1) (pa_cons (pv 2) pa_nil))))))))), ?_⟩
    refine st_lit (σ' := [some (V.ref a), none, none, none, none]) rfl ?_
    walk_at "x"
    refine ⟨by decide, fun c1 H1 n1 s1 e1 => ?_⟩
    obtain ⟨S1, g1, e1'⟩ := Go.one sh s1 n1 e1
    walk_at "x"
    refine ⟨by decide, fun c2 H2 n2 s2 e2 => ?_⟩
    obtain ⟨S2, g2, e2'⟩ := Go.one g1.sh s2 n2 e2
    walk_at "x"
    refine x_for (x_r1 ?_)
    walk_at "x"
    rw [ints_len]
    refine x_r1n (n := l.length) (by omega) ?_
    rw [Int.toNat_natCast]
    refine for_range (fun i σ H' => ∃ (S' : Hp) (t r : Addr) (R : List (List Int)) (v3 v4 : Option V), σ = [some (.ref a), some (.ref t), some (.ref r), v3, v4] ∧ Go S H S' H' ∧ TabAt S' t (Km.tabl (l.take i)) ∧ TabAt S' r R ∧ R.length = (Km.tabl (l.take i)).length ∧ ∀ k ∈ R, k.length ≤ i)
      ⟨S2, c1, c2, [], none, none, rfl, g1.trans g2, ⟨[], g2.ss _ _ e1', All.nil⟩, ⟨[], e2', All.nil⟩, rfl, fun k hk => by simp at hk⟩ ?_ ?_
    · rintro i σ H' hi ⟨S', t, r, R, v3, v4, rfl, g, ht, hR, hRl, hRr⟩
      have et := List.getElem?_eq_getElem hi
      have hts := Km.tab_srt (l.take i)
      have h1 := tabl_rows (l.take i)
      have h2 : ∀ k ∈ Km.tabl (l.take i), k.length ≤ i := fun k hk => by have := tabl_row hk; rw [List.length_take] at this; omega
      rw [List.length_take] at h1
      rw [Int.zero_add]
      walk_at "x"
      refine x_ixL (g.hh _ _ ha') (atI_ints et) ?_
      walk_at "x"
      refine ⟨S', t, _, l[i], rfl, g.sh, ht, hts, by omega, fun k hk => by have := h2 k hk; omega, fun v p c rr cc S3 H3 g3 e3 t3 ec hcase => ?_⟩
      have e3' := g3.sh _ _ e3
      walk_at "x"
      refine ⟨S3, r, c, R, rr, cc, (i : Int) + 1, rfl, g3.sh, hR.mono g3.ss, ec, by omega, by omega, fun k hk => by have := hRr k hk; omega, fun v5 S5 H5 g5 t5 => ?_⟩
      refine ⟨S5, p, v5, wl R rr ((i : Int) + 1), _, _, rfl, (g.trans g3).trans g5, ?_, t5, ?_, wl_row hRr⟩
      · rw [tabl_snoc et]
        exact t3.mono g5.ss
      · rw [tabl_snoc et, wl_len (by omega)]
        split <;> omega
    · rintro σ H' ⟨S', t, r, R, v3, v4, rfl, g, ht, hR, hRl, hRr⟩
      rw [List.take_length] at ht
      walk_at "x"
      refine ⟨small (by simp), fun c5 H5 n5 s5 e5 => ?_⟩
      obtain ⟨S5, g5, e5'⟩ := Go.one g.sh s5 n5 e5
      exact q c5 t r S5 H5 (g.trans g5) e5' (ht.mono g5.ss)
def spTab : Sp := fun vs H Q _ => ∃ (S : Hp) (a : Addr) (l : List Int), vs = [.ref a] ∧ Same S H ∧ LiAt S a l ∧ l.length ≤ 50 ∧ ∀ v S' H', Go S H S' H' → TabAt S' v (Km.tabl l) → Q (.ref v) H'
theorem ok_table_of (T : Txt K mg) : Kd P w K mg base "table_of" ["word"] 5 spTab := by
  refine kd_of T.d_table_of sc_table_of (fun vs H Q E h => ?_) (fun f cdv A outer s H vs Q E hr h => ?_)
  · obtain ⟨S, a, l, rfl, _⟩ := h
    rfl
  · obtain ⟨S, a, l, rfl, sh, ha, hl, q⟩ := h
    refine ⟨_, (pss_one (ps_ret (pe_ix (ix_tupK (K := K) rfl) (pe_kd (ok_pair_of T) (hr.mono (by decide)) (by rfl) (pa_cons (pv 0) pa_nil)) pe_int (fun _ _ => rfl)))), ?_⟩
    refine st_lit (σ' := [some (V.ref a)]) rfl ?_
    walk_at "x"
    refine ⟨S, a, l, rfl, sh, ha, hl, fun v p r S1 H1 g1 e1 t1 => ?_⟩
    have e1' := g1.sh _ _ e1
    walk_at "x"
    exact q p S1 H1 g1 t1
def spRises : Sp := fun vs H Q _ => ∃ (S : Hp) (a : Addr) (l : List Int), vs = [.ref a] ∧ Same S H ∧ LiAt S a l ∧ l.length ≤ 50 ∧ ∀ v S' H', Go S H S' H' → TiAt S' v (ni (Km.shp (Km.tabl l))) → Q (.ref v) H'
theorem ok_rises (T : Txt K mg) : Kd P w K mg base "rises" ["word"] 6 spRises := by
  refine kd_of T.d_rises sc_rises (fun vs H Q E h => ?_) (fun f cdv A outer s H vs Q E hr h => ?_)
  · obtain ⟨S, a, l, rfl, _⟩ := h
    rfl
  · obtain ⟨S, a, l, rfl, sh, ha, hl, q⟩ := h
    refine ⟨_, (pss_one (ps_ret (pe_kd (ok_shape_of T) (hr.mono (by decide)) (by rfl) (pa_cons (pe_kd (ok_table_of T) (hr.mono (by decide)) (by rfl) (pa_cons (pv 0) pa_nil)) pa_nil)))), ?_⟩
    refine st_lit (σ' := [some (V.ref a)]) rfl ?_
    walk_at "x"
    refine ⟨S, a, l, rfl, sh, ha, hl, fun v S1 H1 g1 t1 => ?_⟩
    walk_at "x"
    refine ⟨v, _, rfl, t1.mono g1.sh, by have := tabl_rows l; omega, fun p H2 n2 s2 e2 => ?_⟩
    obtain ⟨S2, g2, e2'⟩ := Go.one g1.sh s2 n2 e2
    exact q p S2 H2 (g1.trans g2) e2'
/-! ### paths -/
def MvsAt (H : Hp) (a : Addr) (ms : List Km.Mov) : Prop := ∃ as, H a = some (.lst (refs as)) ∧ All (MovAt H) as ms
theorem MovAt.mono {H H' : Hp} {a : Addr} {m : Km.Mov} (s : Same H H') (h : MovAt H a m) : MovAt H' a m := s _ _ h
theorem All.monoM {S S' : Hp} {as : List Addr} {xs : List Km.Mov} (s : Same S S') (h : All (MovAt S) as xs) : All (MovAt S') as xs := h.imp fun _ _ r => MovAt.mono s r
theorem rmv_get {s : Int} {n k : Nat} (h : k < n) : (Km.rmv s n)[k]? = some (s + ((n - 1 - k : Nat) : Int), true) := by
  unfold Km.rmv
  rw [List.getElem?_reverse (by simpa using h), List.getElem?_map]
  simp only [List.length_map, List.length_range]
  rw [List.getElem?_range (by omega)]
  rfl
theorem lmv_get {s : Int} {n k : Nat} (h : k < n) : (Km.lmv s n)[k]? = some (s + ((n - 1 - k : Nat) : Int), false) := by
  unfold Km.lmv
  rw [List.getElem?_reverse (by simpa using h), List.getElem?_map]
  simp only [List.length_map, List.length_range]
  rw [List.getElem?_range (by omega)]
  rfl
theorem rmv_len (s : Int) (n : Nat) : (Km.rmv s n).length = n := by unfold Km.rmv; simp
theorem lmv_len (s : Int) (n : Nat) : (Km.lmv s n).length = n := by unfold Km.lmv; simp
theorem x_r3 {σ : L2.St} {H : Hp} {R : It → Hp → Prop} {ta : TA} (k : ta σ H fun vs H1 => ∃ (i j c : Int) (n : Nat), vs = [.int i, .int j, .int c] ∧ RgC i j c n ∧ R (Itc i c n) H1) : iRng3 ta σ H R := k
theorem x_r3n {i j : Int} {n : Nat} {R : Int → Int → Nat → Prop} (h1 : -100000 ≤ i ∧ i ≤ 100000) (h2 : -100000 ≤ j ∧ j ≤ 100000) (hn : (i - j).toNat = n) (k : R i (-1) n) : ∃ (i' j' c : Int) (n : Nat), [V.int i, V.int j, V.int (-1)] = [.int i', .int j', .int c] ∧ RgC i' j' c n ∧ R i' c n :=
  ⟨i, j, -1, n, rfl, by rw [← hn]; exact RgC.neg (by omega) (by omega) (by omega) (by omega), k⟩
end
section
local macro_rules | `(tactic| walk_at "set") => `(tactic| first | exact set0 | (apply setS; walk_at "set"))
local macro_rules | `(tactic| walk_at "h") => `(tactic| first | assumption | (refine Same.lk (by assumption) ?_; walk_at "h"))
local macro_rules | `(tactic| walk_at "x1") => `(tactic| first
  | ((with_reducible show tVar _ _ _ _); refine x_var rfl ?_)
  | ((with_reducible show tC _ _ _ _); refine x_c ?_)
  | ((with_reducible show tOp _ _ _ _ _ _); refine x_op ?_)
  | ((with_reducible show tSeq _ _ _ _ _); refine x_seq ?_)
  | ((with_reducible show tAsg _ _ _ _ _); refine x_asg ?_)
  | ((with_reducible show gName _ _ _ _ _); refine x_name2 (by walk_at "set") ?_)
  | ((with_reducible show tCons _ _ _ _ _); refine x_cons ?_)
  | ((with_reducible show tNil _ _ _); refine x_nil ?_)
  | ((with_reducible show rI0 _ (V.int _) (V.int _) _ _); refine x_rI0 ?_)
  | ((with_reducible show tCB _ _ _ _ _); refine x_cb ?_)
  | ((with_reducible show tCall _ [] E0 _ _ _ _); refine x_call ?_)
  | ((with_reducible show rIxT _ _ _ _ _); refine x_ixT (by walk_at "h") (by rfl) ?_)
  | ((with_reducible show rLenQ _ _ _ _); refine x_lenL (by walk_at "h") ?_)
  | ((with_reducible show rLenQ _ _ _ _); refine x_lenT (by walk_at "h") ?_)
  | ((with_reducible show tIfS _ _ _ _ _ _); refine x_if ?_)
  | ((with_reducible show tTest _ _ _ _); refine x_test ?_)
  | ((with_reducible show tB _ _ _ _); refine x_tB ?_)
  | ((with_reducible show tYes _ _ _); refine x_yes ?_)
  | ((with_reducible show gTup _ _ _ (V.ref _) _ _ _); refine x_gtup (by walk_at "h") (by rfl) ?_)
  | ((with_reducible show gCons _ _ (_ :: _) _ _ _); refine x_gcons ?_)
  | ((with_reducible show gNil [] _ _ _); refine x_gnil ?_)
  | ((with_reducible show tPar _ _ _ _ _ _); refine x_par ?_)
  | ((with_reducible show Ends.nx _ _ _); dsimp only)
  | (with_reducible refine x_bl ?_)
  | (with_reducible refine x_T ?_)
  | (with_reducible refine x_nT ?_)
  | (with_reducible refine x_nF ?_)
  | (with_reducible refine x_F ?_)
  | ((with_reducible show rEq _ _ _ _); refine x_eq rfl ?_)
  | ((with_reducible show rNe _ _ _ _); refine x_ne rfl ?_)
  | ((with_reducible show rIsNn _ _ _ _); refine x_isN ?_)
  | ((with_reducible show tRet _ _ _ _); refine x_ret ?_)
  | ((with_reducible show tNext _ _ _); refine x_next ?_)
  | ((with_reducible show tRetN _ _ _); refine x_retN ?_)
  | ((with_reducible show tDrop _ _ _ _); refine x_drop ?_)
  | ((with_reducible show tTup _ _ _ _); refine x_tup ?_)
  | ((with_reducible show tLst _ _ _ _); refine x_lst ?_)
  | ((with_reducible show tUn _ _ _ _ _); refine x_un ?_)
  | ((with_reducible show rU _ (V.int _) _ _); refine x_rU ?_)
  | ((with_reducible show tNot _ _ _ _); refine x_notT ?_)
  | ((with_reducible show tAnd _ _ _ _ _); refine x_and ?_)
  | ((with_reducible show tOr _ _ _ _ _); refine x_or ?_)
  | ((with_reducible show tSl _ _ _ _ _ _ _); refine x_sl ?_)
  | ((with_reducible show tNoPart _ _ _); refine x_noP ?_)
  | ((with_reducible show tPart _ _ _ _); refine x_part ?_)
  | (with_reducible refine x_pi ?_)
  | ((with_reducible show tBM _ _ _ _ _ _ _ _); refine x_bm ?_)
  | ((with_reducible show tyV _ "list" _ _ ∧ _); refine x_tyL (by walk_at "h") ?_)
  | ((with_reducible show gSub _ _ _ _ _ _ _); refine x_sub ?_)
  | ((with_reducible show rInt1 [V.int _] _ _); refine x_int ?_)
  | ((with_reducible show rInt1 [V.bl _] _ _); refine x_intB ?_)
  | ((with_reducible show rMin2 _ _ _); refine x_min ?_)
  | ((with_reducible show rMax2 _ _ _); refine x_max ?_))
local macro_rules | `(tactic| walk_at "x") => `(tactic| (repeat walk_at "x1"))
variable {P : Program} {w : World} {K : PySem.W.Frag} {mg : Str → Option Value} {base : Heap}
def spImv : Sp := fun vs H Q _ => ∃ (S : Hp) (a : Addr) (tb : List (List Int)) (x : Int), vs = [.ref a, .int x, .int ((Km.rwd tb).length : Nat)] ∧ Same S H ∧ TabAt S a tb ∧ (∀ r ∈ tb, Km.Srt r) ∧ tb.length ≤ 50 ∧ (∀ r ∈ tb, r.length ≤ 50) ∧
  ∀ v S' H', Go S H S' H' → H v = none → MvsAt S' v (Km.imv tb x) → Q (.ref v) H'
theorem x_pt {σ : L2.St} {H : Hp} {R : It → Hp → Prop} {tl : TE} (k : tl σ H fun x H1 => ∃ a, x = .ref a ∧ (∃ xs, SqT K H1 a xs) ∧ R (Itt K a) H1) : iTup K tl σ H R := k
theorem x_ptn {H : Hp} {R : Addr → Prop} {a : Addr} {xs : List V} (h : H a = some (.tup xs)) (k : R a) : ∃ b, V.ref a = .ref b ∧ (∃ xs, SqT K H b xs) ∧ R b := ⟨a, rfl, ⟨xs, SqT.of h⟩, k⟩
theorem imv_cons (r : List Int) (rs : List (List Int)) (x : Int) : Km.imv (r :: rs) x = match rout r x with | none => [] | some y => (Km.rmv ((Km.rwd rs).length + Km.cnt r x) (r.length - 1 - Km.cnt r x) ++ Km.lmv (Km.rwd rs).length (Km.cnt r x)) ++ Km.imv rs y := by
  conv => lhs; unfold Km.imv
  unfold rout
  by_cases e : Km.cnt r x = r.length
  · rw [if_pos e, if_pos e]
  · rw [if_neg e, if_neg e]
/-- the inner loops: moves appended one by one -/
def MvInv (S H : Hp) (c1 : Addr) (N ms : List Km.Mov) (σ0 : V → L2.St) (k : Nat) (σ : L2.St) (H' : Hp) : Prop :=
  ∃ (S' : Hp) (bs : List Addr) (v : Option V), (∃ u, σ = (σ0 u).set 7 v) ∧ Go S H S' H' ∧ S' c1 = none ∧ H' c1 = some (.lst (refs bs)) ∧ All (MovAt S') bs (N ++ ms.take k)
theorem ok_insertion_moves (T : Txt K mg) : Kd P w K mg base "insertion_moves" ["table", "letter", "count"] 3 spImv := by
  refine kd_of T.d_insertion_moves sc_insertion_moves (fun vs H Q E h => ?_) (fun f cdv A outer s H vs Q E hr h => ?_)
  · obtain ⟨S, a, tb, x, rfl, _⟩ := h
    rfl
  · obtain ⟨S, a, tb, x, rfl, sh, ⟨as, ea, hf⟩, hs, hl, hll, q⟩ := h
    have hlen := hf.len
    have ea' := sh _ _ ea
    refine ⟨_, (pss_cons (ps_set (i := 3) sc_insertion_moves.nd rfl (.inl rfl) (pe_lst (pa_m pa_nil)))
(pss_cons (ps_set (i := 4) sc_insertion_moves.nd rfl (.inl rfl) (pv 2))
(pss_cons (ps_for PassesOwn.never rfl (pi_tupK (K := K) rfl (pv 0)) (pg_name (i := 5) sc_insertion_moves.nd rfl (.inl rfl))
(pss_cons (ps_set (i := 4) sc_insertion_moves.nd rfl (.inl rfl) (pe_op op_sub (pv 4) (pe_callB (n_lenK (K := K) rfl) (by rfl) T.n_len PySem.boot_len (pa_cons (pv 5) pa_nil))))
(pss_cons (ps_set (i := 6) sc_insertion_moves.nd rfl (.inl rfl) (pe_kd (ok_first_greater T) (hr.mono (by decide)) (by rfl) (pa_cons (pv 5) (pa_cons (pv 1) pa_nil))))
(pss_cons (ps_set (i := 1) sc_insertion_moves.nd rfl (.inl rfl) (pe_ix (ix_tupK (K := K) rfl) (pe_kd (ok_insert_into_row T) (hr.mono (by decide)) (by rfl) (pa_cons (pv 5) (pa_cons (pv 1) pa_nil))) pe_int (fun _ _ => rfl)))
(pss_cons (ps_if (pt_cmpR n_isN (pv 1) pe_non (nomark _))
(pss_one (ps_ret (pv 3)))
pss_nil)
(pss_cons (ps_for PassesOwn.never rfl (pi_range3 (by rfl) T.n_range (pa_cons (pe_op op_sub (pe_callB (n_lenK (K := K) rfl) (by rfl) T.n_len PySem.boot_len (pa_cons (pv 5) pa_nil)) pe_int) (pa_cons (pv 6) (pa_cons (pe_un un_neg pe_int) pa_nil)))) (pg_name (i := 7) sc_insertion_moves.nd rfl (.inl rfl))
(pss_one (ps_expr (pe_bmK (K := K) rfl (pe_bm PySem.F.plainAttrs_list PySem.F.slot_list_append PySem.F.type_list_append mt_append (pv 3) (pa_cons (pe_tup (pa_m (pa_cons (pe_op op_sub (pe_op op_add (pv 4) (pv 7)) pe_int) (pa_cons pe_str pa_nil)))) pa_nil))))))
(pss_one (ps_for PassesOwn.never rfl (pi_range3 (by rfl) T.n_range (pa_cons (pe_op op_sub (pv 6) pe_int) (pa_cons (pe_un un_neg pe_int) (pa_cons (pe_un un_neg pe_int) pa_nil)))) (pg_name (i := 7) sc_insertion_moves.nd rfl (.inl rfl))
(pss_one (ps_expr (pe_bmK (K := K) rfl (pe_bm PySem.F.plainAttrs_list PySem.F.slot_list_append PySem.F.type_list_append mt_append (pv 3) (pa_cons (pe_tup (pa_m (pa_cons (pe_op op_add (pv 4) (pv 7)) (pa_cons pe_str pa_nil)))) pa_nil)))))))))))))
(pss_one (ps_ret (pv 3)))))), ?_⟩
    refine st_lit (σ' := [some (V.ref a), some (V.int x), some (V.int ((Km.rwd tb).length : Nat)), none, none, none, none, none]) rfl ?_
    walk_at "x"
    refine ⟨by decide, fun c1 H1 n1 s1 e1 => ?_⟩
    walk_at "x"
    refine x_for (x_pt ?_)
    walk_at "x"
    refine x_ptn (s1 _ _ ea') ?_
    generalize hcc : V.int (((Km.rwd tb).length : Nat) : Int) = cc
    have hst : V.int (((Km.rwd tb).length : Nat) : Int) = .int ((Km.rwd (tb.drop 0)).length : Nat) := by rw [List.drop_zero]
    refine for_tup (K := K) (a := a) (xs := refs as) (fun i σ H' => ∃ (S' : Hp) (bs : List Addr) (N : List Km.Mov) (y : Int) (v5 v6 v7 : Option V), σ = [some (.ref a), some (.int y), some cc, some (.ref c1), some (.int ((Km.rwd (tb.drop i)).length : Nat)), v5, v6, v7] ∧ Go S H S' H' ∧ S' c1 = none ∧ H' c1 = some (.lst (refs bs)) ∧ All (MovAt S') bs N ∧ N.length ≤ 100 * i ∧ Km.imv tb x = N ++ Km.imv (tb.drop i) y)
      ⟨S, [], [], x, none, none, none, by rw [← hst, hcc], ⟨Same.refl _, sh.trans s1, s1, fun _ _ e _ => e⟩, sh.free n1, e1, All.nil, Nat.zero_le _, by simp⟩ (fun i σ H' _ h => by obtain ⟨S', bs, N, y, v5, v6, v7, _, g, _⟩ := h; exact SqT.of (g.hh _ _ ea')) ?_ ?_
    · rintro i xv σ H' hi ⟨S', bs, N, y, v5, v6, v7, rfl, g, hS, hc, hN, hNl, himv⟩
      obtain ⟨p, rfl, hp⟩ := refs_get' hi
      obtain ⟨r, hr1, rp⟩ := hf.get' hp
      have hib : i < tb.length := (List.getElem?_eq_some_iff.mp hr1).1
      have er : tb[i] = r := (List.getElem?_eq_some_iff.mp hr1).2
      have srt_i := hs r (List.mem_of_getElem? hr1)
      have len_i := hll r (List.mem_of_getElem? hr1)
      have hd : tb.drop i = r :: tb.drop (i + 1) := by rw [List.drop_eq_getElem_cons hib, er]
      have hbl := hN.len
      have hcnt := Km.cnt_le r y
      have rp' : H' p = some (.tup (r.map V.int)) := g.sh _ _ (g.ss _ _ rp)
      have hst2 : (((Km.rwd (tb.drop i)).length : Nat) : Int) - (r.length : Int) = ((Km.rwd (tb.drop (i + 1))).length : Nat) := by
        rw [hd]
        show (((Km.rwd (tb.drop (i + 1)) ++ r).length : Nat) : Int) - _ = _
        rw [List.length_append]
        omega
      have hst3 : (Km.rwd (tb.drop (i + 1))).length ≤ 2500 := by
        rw [Km.rwd_len]
        have z : ∀ (L : List (List Int)), (∀ k ∈ L, k.length ≤ 50) → (Km.shp L).sum ≤ 50 * L.length := by
          intro L
          induction L with
          | nil => intro _; simp [Km.shp]
          | cons b L ih =>
            intro h
            have a1 := h b (by simp)
            have a2 := ih fun k hk => h k (List.mem_cons_of_mem _ hk)
            show b.length + (Km.shp L).sum ≤ 50 * (L.length + 1)
            omega
        have := z (tb.drop (i + 1)) fun k hk => hll k (List.mem_of_mem_drop hk)
        rw [List.length_drop] at this
        omega
      walk_at "x"
      rw [ints_len, hst2]
      generalize hss : (Km.rwd (tb.drop (i + 1))).length = st at *
      walk_at "x"
      refine ⟨p, r, y, rfl, rp', srt_i, ?_⟩
      walk_at "x"
      refine ⟨S', p, r, y, rfl, g.sh, g.ss _ _ rp, srt_i, by omega, fun v p2 S2 H2 g2 e2 r2 => ?_⟩
      have e2' := g2.sh _ _ e2
      have hc2 := g2.hh _ _ hc
      have hS2 := g2.fr c1 _ hS hc
      have rp2 := g2.hh _ _ rp'
      have G := g.trans g2
      have hN2 := hN.monoM g2.ss
      walk_at "x"
      rw [optI_non]
      rw [hd, imv_cons] at himv
      cases ho : rout r y with
      | none =>
        rw [ho] at himv
        dsimp only [Option.isNone, optI]
        walk_at "x"
        have hend : Km.imv tb x = N := by rw [himv]; simp
        obtain ⟨S3, g3, s3, e3⟩ := G.seal n1 hS2 hc2
        exact q c1 S3 H2 g3 n1 (by rw [hend]; exact ⟨_, e3, hN2.monoM s3⟩)
      | some z =>
        rw [ho] at himv
        have hclt : Km.cnt r y < r.length := by
          have : ¬ Km.cnt r y = r.length := fun e => by unfold rout at ho; rw [if_pos e] at ho; cases ho
          omega
        dsimp only [Option.isNone, optI]
        walk_at "x"
        generalize hct : Km.cnt r y = ct at *
        -- the letter moves left past the greater ones
        refine x_for (x_r3 ?_)
        walk_at "x"
        rw [ints_len]
        refine x_r3n (n := r.length - 1 - ct) (by omega) (by omega) (by omega) ?_
        refine for_rangeC (fun k σ H' => ∃ (S' : Hp) (bs : List Addr) (v7 : Option V), σ = [some (.ref a), some (.int z), some cc, some (.ref c1), some (.int (st : Nat)), some (.ref p), some (.int (ct : Nat)), v7] ∧ Go S H S' H' ∧ S' c1 = none ∧ H' c1 = some (.lst (refs bs)) ∧ All (MovAt S') bs (N ++ (Km.rmv (st + ct) (r.length - 1 - ct)).take k))
          ⟨S2, bs, v7, rfl, G, hS2, hc2, by simpa using hN2⟩ ?_ ?_
        · rintro k σ H3 hk ⟨S3, bs3, v8, rfl, g3, hS3, hc3, hN3⟩
          have hbl3 := hN3.len
          walk_at "x"
          refine ⟨by show (2 : Nat) ≤ _; decide, fun c4 H4 n4 s4 e4 => ?_⟩
          obtain ⟨S4, g4, e4'⟩ := Go.one g3.sh s4 n4 e4
          have hc4 := s4 _ _ hc3
          have hS4 := g4.fr c1 _ hS3 hc3
          walk_at "x"
          refine x_app hc4 (smallL ?_) ?_
          · rw [refs_len, hbl3, List.length_append, List.length_take, rmv_len]
            omega
          · rw [refs_snoc]
            refine ⟨S4, bs3 ++ [c4], _, rfl, (g3.trans g4).mut n1 hS4, hS4, upd_same, ?_⟩
            rw [take_snoc (rmv_get hk), ← List.append_assoc]
            refine (hN3.monoM g4.ss).snoc ?_
            have ev : (st : Int) + ((r.length : Int) - 1 + (k : Nat) * -1) - 1 = (st : Int) + (ct : Int) + ((r.length - 1 - ct - 1 - k : Nat) : Int) := by omega
            rw [ev] at e4'
            exact e4'
        · rintro σ H3 ⟨S3, bs3, v8, rfl, g3, hS3, hc3, hN3⟩
          rw [List.take_of_length_le (by rw [rmv_len]; exact Nat.le_refl _)] at hN3
          generalize hN3' : N ++ Km.rmv (st + ct) (r.length - 1 - ct) = N3 at *
          have hN3l : N3.length ≤ 100 * i + 50 := by rw [← hN3', List.length_append, rmv_len]; omega
          walk_at "x"
          refine x_for (x_r3 ?_)
          walk_at "x"
          refine x_r3n (n := ct) (by omega) (by omega) (by omega) ?_
          refine for_rangeC (fun k σ H' => ∃ (S' : Hp) (bs : List Addr) (v7 : Option V), σ = [some (.ref a), some (.int z), some cc, some (.ref c1), some (.int (st : Nat)), some (.ref p), some (.int (ct : Nat)), v7] ∧ Go S H S' H' ∧ S' c1 = none ∧ H' c1 = some (.lst (refs bs)) ∧ All (MovAt S') bs (N3 ++ (Km.lmv st ct).take k))
            ⟨S3, bs3, v8, rfl, g3, hS3, hc3, by simpa using hN3⟩ ?_ ?_
          · rintro k σ H5 hk ⟨S5, bs5, v9, rfl, g5, hS5, hc5, hN5⟩
            have hbl5 := hN5.len
            walk_at "x"
            refine ⟨by show (2 : Nat) ≤ _; decide, fun c6 H6 n6 s6 e6 => ?_⟩
            obtain ⟨S6, g6, e6'⟩ := Go.one g5.sh s6 n6 e6
            have hc6 := s6 _ _ hc5
            have hS6 := g6.fr c1 _ hS5 hc5
            walk_at "x"
            refine x_app hc6 (smallL ?_) ?_
            · rw [refs_len, hbl5, List.length_append, List.length_take, lmv_len]
              omega
            · rw [refs_snoc]
              refine ⟨S6, bs5 ++ [c6], _, rfl, (g5.trans g6).mut n1 hS6, hS6, upd_same, ?_⟩
              rw [take_snoc (lmv_get hk), ← List.append_assoc]
              refine (hN5.monoM g6.ss).snoc ?_
              have ev : (st : Int) + ((ct : Int) - 1 + (k : Nat) * -1) = (st : Int) + ((ct - 1 - k : Nat) : Int) := by omega
              rw [ev] at e6'
              exact e6'
          · rintro σ H5 ⟨S5, bs5, v9, rfl, g5, hS5, hc5, hN5⟩
            rw [List.take_of_length_le (by rw [lmv_len]; exact Nat.le_refl _)] at hN5
            refine ⟨S5, bs5, _, z, _, _, _, rfl, g5, hS5, hc5, hN5, ?_, ?_⟩
            · rw [List.length_append, lmv_len]
              omega
            · rw [himv, ← hN3', hss]
              simp
    · rintro σ H' ⟨S', bs, N, y, v5, v6, v7, rfl, g, hS, hc, hN, hNl, himv⟩
      rw [refs_len, hlen, List.drop_length] at himv
      have hend : Km.imv tb x = N := by rw [himv]; simp [Km.imv]
      walk_at "x"
      obtain ⟨S3, g3, s3, e3⟩ := g.seal n1 hS hc
      exact q c1 S3 H' g3 n1 (by rw [hend]; exact ⟨_, e3, hN.monoM s3⟩)
end
section
local macro_rules | `(tactic| walk_at "set") => `(tactic| first | exact set0 | (apply setS; walk_at "set"))
local macro_rules | `(tactic| walk_at "h") => `(tactic| first | assumption | (refine Same.lk (by assumption) ?_; walk_at "h"))
local macro_rules | `(tactic| walk_at "x1") => `(tactic| first
  | ((with_reducible show tVar _ _ _ _); refine x_var rfl ?_)
  | ((with_reducible show tC _ _ _ _); refine x_c ?_)
  | ((with_reducible show tOp _ _ _ _ _ _); refine x_op ?_)
  | ((with_reducible show tSeq _ _ _ _ _); refine x_seq ?_)
  | ((with_reducible show tAsg _ _ _ _ _); refine x_asg ?_)
  | ((with_reducible show gName _ _ _ _ _); refine x_name2 (by walk_at "set") ?_)
  | ((with_reducible show tCons _ _ _ _ _); refine x_cons ?_)
  | ((with_reducible show tNil _ _ _); refine x_nil ?_)
  | ((with_reducible show rI0 _ (V.int _) (V.int _) _ _); refine x_rI0 ?_)
  | ((with_reducible show tCB _ _ _ _ _); refine x_cb ?_)
  | ((with_reducible show tCall _ [] E0 _ _ _ _); refine x_call ?_)
  | ((with_reducible show rIxT _ _ _ _ _); refine x_ixT (by walk_at "h") (by rfl) ?_)
  | ((with_reducible show rLenQ _ _ _ _); refine x_lenL (by walk_at "h") ?_)
  | ((with_reducible show rLenQ _ _ _ _); refine x_lenT (by walk_at "h") ?_)
  | ((with_reducible show tIfS _ _ _ _ _ _); refine x_if ?_)
  | ((with_reducible show tTest _ _ _ _); refine x_test ?_)
  | ((with_reducible show tB _ _ _ _); refine x_tB ?_)
  | ((with_reducible show tYes _ _ _); refine x_yes ?_)
  | ((with_reducible show gTup _ _ _ (V.ref _) _ _ _); refine x_gtup (by walk_at "h") (by rfl) ?_)
  | ((with_reducible show gCons _ _ (_ :: _) _ _ _); refine x_gcons ?_)
  | ((with_reducible show gNil [] _ _ _); refine x_gnil ?_)
  | ((with_reducible show tPar _ _ _ _ _ _); refine x_par ?_)
  | ((with_reducible show Ends.nx _ _ _); dsimp only)
  | (with_reducible refine x_bl ?_)
  | (with_reducible refine x_T ?_)
  | (with_reducible refine x_nT ?_)
  | (with_reducible refine x_nF ?_)
  | (with_reducible refine x_F ?_)
  | ((with_reducible show rEq _ _ _ _); refine x_eq rfl ?_)
  | ((with_reducible show rNe _ _ _ _); refine x_ne rfl ?_)
  | ((with_reducible show rIsNn _ _ _ _); refine x_isN ?_)
  | ((with_reducible show tRet _ _ _ _); refine x_ret ?_)
  | ((with_reducible show tNext _ _ _); refine x_next ?_)
  | ((with_reducible show tRetN _ _ _); refine x_retN ?_)
  | ((with_reducible show tDrop _ _ _ _); refine x_drop ?_)
  | ((with_reducible show tTup _ _ _ _); refine x_tup ?_)
  | ((with_reducible show tLst _ _ _ _); refine x_lst ?_)
  | ((with_reducible show tUn _ _ _ _ _); refine x_un ?_)
  | ((with_reducible show rU _ (V.int _) _ _); refine x_rU ?_)
  | ((with_reducible show tNot _ _ _ _); refine x_notT ?_)
  | ((with_reducible show tAnd _ _ _ _ _); refine x_and ?_)
  | ((with_reducible show tOr _ _ _ _ _); refine x_or ?_)
  | ((with_reducible show tSl _ _ _ _ _ _ _); refine x_sl ?_)
  | ((with_reducible show tNoPart _ _ _); refine x_noP ?_)
  | ((with_reducible show tPart _ _ _ _); refine x_part ?_)
  | (with_reducible refine x_pi ?_)
  | ((with_reducible show tBM _ _ _ _ _ _ _ _); refine x_bm ?_)
  | ((with_reducible show tyV _ "list" _ _ ∧ _); refine x_tyL (by walk_at "h") ?_)
  | ((with_reducible show gSub _ _ _ _ _ _ _); refine x_sub ?_)
  | ((with_reducible show rInt1 [V.int _] _ _); refine x_int ?_)
  | ((with_reducible show rInt1 [V.bl _] _ _); refine x_intB ?_)
  | ((with_reducible show rMin2 _ _ _); refine x_min ?_)
  | ((with_reducible show rMax2 _ _ _); refine x_max ?_))
local macro_rules | `(tactic| walk_at "x") => `(tactic| (repeat walk_at "x1"))
variable {P : Program} {w : World} {K : PySem.W.Frag} {mg : Str → Option Value} {base : Heap}
theorem imv_len : ∀ (tb : List (List Int)) (x : Int), (Km.imv tb x).length ≤ (Km.shp tb).sum
  | [], x => by simp [Km.imv]
  | r :: rs, x => by
    rw [imv_cons]
    show _ ≤ r.length + (Km.shp rs).sum
    cases ho : rout r x with
    | none => simp
    | some y =>
      have := imv_len rs y
      have := Km.cnt_le r x
      have hn : ¬ Km.cnt r x = r.length := fun e => by unfold rout at ho; rw [if_pos e] at ho; cases ho
      simp only [List.length_append, rmv_len, lmv_len]
      omega
theorem ptm_snoc {l : List Int} {i : Nat} {x : Int} (h : l[i]? = some x) (tb : List (List Int)) : Km.ptm tb (l.drop i) = Km.imv tb x ++ Km.ptm (Km.ins tb x) (l.drop (i + 1)) := by
  obtain ⟨hi, e⟩ := List.getElem?_eq_some_iff.mp h
  rw [List.drop_eq_getElem_cons hi, e]
  rfl
theorem refs_app2 (as bs : List Addr) : refs as ++ refs bs = refs (as ++ bs) := refs_app as bs
def spPath : Sp := fun vs H Q _ => ∃ (S : Hp) (a : Addr) (l : List Int), vs = [.ref a] ∧ Same S H ∧ LiAt S a l ∧ l.length ≤ 20 ∧ ∀ v S' H', Go S H S' H' → MvsAt S' v (Km.ptm [] l) → Q (.ref v) H'
theorem ok_path_to_table (T : Txt K mg) : Kd P w K mg base "path_to_table" ["word"] 4 spPath := by
  refine kd_of T.d_path_to_table sc_path_to_table (fun vs H Q E h => ?_) (fun f cdv A outer s H vs Q E hr h => ?_)
  · obtain ⟨S, a, l, rfl, _⟩ := h
    rfl
  · obtain ⟨S, a, l, rfl, sh, ha, hl, q⟩ := h
    have ha' : H a = some (.lst (l.map V.int)) := sh _ _ ha
    refine ⟨_, (pss_cons (ps_set (i := 1) sc_path_to_table.nd rfl (.inl rfl) (pe_lst (pa_m pa_nil)))
(pss_cons (ps_set (i := 2) sc_path_to_table.nd rfl (.inl rfl) (pe_tup (pa_m pa_nil)))
(pss_cons (ps_for PassesOwn.never rfl (pi_range1 (by rfl) T.n_range (pa_cons (pe_callB (n_lenK (K := K) rfl) (by rfl) T.n_len PySem.boot_len (pa_cons (pv 0) pa_nil)) pa_nil)) (pg_name (i := 3) sc_path_to_table.nd rfl (.inl rfl))
(pss_cons (ps_expr (pe_bmK (K := K) rfl (pe_bm PySem.F.plainAttrs_list PySem.F.slot_list_extend PySem.F.type_list_extend mt_extend (pv 1) (pa_cons (pe_kd (ok_insertion_moves T) (hr.mono (by decide)) (by rfl) (pa_cons (pv 2) (pa_cons (pe_ix (ix_listK (K := K) rfl) (pv 0) (pv 3) (fun _ _ => rfl)) (pa_cons (pv 3) pa_nil)))) pa_nil))))
(pss_one (ps_set (i := 2) sc_path_to_table.nd rfl (.inl rfl) (pe_ix (ix_tupK (K := K) rfl) (pe_kd (ok_insert_by_rows T) (hr.mono (by decide)) (by rfl) (pa_cons (pv 2) (pa_cons (pe_ix (ix_listK (K := K) rfl) (pv 0) (pv 3) (fun _ _ => rfl)) pa_nil))) pe_int (fun _ _ => rfl))))))
(pss_one (ps_ret (pv 1)))))), ?_⟩
    refine st_lit (σ' := [some (V.ref a), none, none, none]) rfl ?_
    walk_at "x"
    refine ⟨by decide, fun c1 H1 n1 s1 e1 => ?_⟩
    walk_at "x"
    refine ⟨by decide, fun c2 H2 n2 s2 e2 => ?_⟩
    have g0 : Go S H S H1 := ⟨Same.refl _, sh.trans s1, s1, fun _ _ e _ => e⟩
    obtain ⟨S2, g2, e2'⟩ := Go.one g0.sh s2 n2 e2
    have hS2 := g2.fr c1 _ (sh.free n1) e1
    have sH2 := s1.trans s2
    have ha2 := sH2 _ _ ha'
    walk_at "x"
    refine x_for (x_r1 ?_)
    walk_at "x"
    rw [ints_len]
    refine x_r1n (n := l.length) (by omega) ?_
    rw [Int.toNat_natCast]
    refine for_range (fun i σ H' => ∃ (S' : Hp) (bs : List Addr) (N : List Km.Mov) (t : Addr) (v3 : Option V), σ = [some (.ref a), some (.ref c1), some (.ref t), v3] ∧ Go S H S' H' ∧ S' c1 = none ∧ H' c1 = some (.lst (refs bs)) ∧ All (MovAt S') bs N ∧ N.length ≤ 20 * i ∧ TabAt S' t (Km.tabl (l.take i)) ∧ Km.ptm [] l = N ++ Km.ptm (Km.tabl (l.take i)) (l.drop i))
      ⟨S2, [], [], c2, none, rfl, g0.trans g2, hS2, s2 _ _ e1, All.nil, Nat.zero_le _, ⟨[], e2', All.nil⟩, by simp [Km.tabl]⟩ ?_ ?_
    · rintro i σ H' hi ⟨S', bs, N, t, v3, rfl, g, hS, hc, hN, hNl, ht, hpt⟩
      have et := List.getElem?_eq_getElem hi
      have hts := Km.tab_srt (l.take i)
      have h1 := tabl_rows (l.take i)
      have hsum := Km.rwd_tab_len (l.take i)
      rw [List.length_take] at h1 hsum
      have h2 : ∀ k ∈ Km.tabl (l.take i), k.length ≤ i := fun k hk => by have := tabl_row hk; rw [List.length_take] at this; omega
      have hcnt : (Km.rwd (Km.tabl (l.take i))).length = i := by rw [Km.rwd_len]; omega
      have hil := imv_len (Km.tabl (l.take i)) l[i]
      have hbl := hN.len
      rw [Int.zero_add]
      walk_at "x"
      refine x_ixL (g.hh _ _ ha') (atI_ints et) ?_
      walk_at "x"
      refine ⟨S', t, Km.tabl (l.take i), l[i], by rw [hcnt], g.sh, ht, hts, by omega, fun k hk => by have := h2 k hk; omega, fun v S3 H3 g3 nv ⟨as3, ev, hM⟩ => ?_⟩
      have hc3 := g3.hh _ _ hc
      have hS3 := g3.fr c1 _ hS hc
      have hbl3 := hM.len
      walk_at "x"
      refine x_ext hc3 (g3.sh _ _ ev) (small (by rw [refs_len, refs_len]; omega)) ?_
      rw [refs_app]
      have G := (g.trans g3).mut (o := .lst (refs (bs ++ as3))) n1 hS3
      generalize eH : upd H3 c1 (.lst (refs (bs ++ as3))) = H4 at *
      have hc4 : H4 c1 = some (.lst (refs (bs ++ as3))) := by rw [← eH]; exact upd_same
      walk_at "x"
      refine x_ixL (G.hh _ _ ha') (atI_ints et) ?_
      walk_at "x"
      refine ⟨S3, t, Km.tabl (l.take i), l[i], rfl, G.sh, ht.mono g3.ss, hts, by omega, fun k hk => by have := h2 k hk; omega, fun v5 p5 c5 rr cc S5 H5 g5 e5 t5 _ _ => ?_⟩
      have e5' := g5.sh _ _ e5
      walk_at "x"
      refine ⟨S5, bs ++ as3, N ++ Km.imv (Km.tabl (l.take i)) l[i], p5, _, rfl, G.trans g5, g5.fr c1 _ hS3 hc4, g5.hh _ _ hc4, ((hN.monoM g3.ss).app hM).monoM g5.ss, ?_, ?_, ?_⟩
      · rw [List.length_append]; omega
      · rw [tabl_snoc et]; exact t5
      · rw [hpt, ptm_snoc et, tabl_snoc et]; simp
    · rintro σ H' ⟨S', bs, N, t, v3, rfl, g, hS, hc, hN, hNl, ht, hpt⟩
      rw [List.drop_length] at hpt
      have hend : Km.ptm [] l = N := by rw [hpt]; simp [Km.ptm]
      walk_at "x"
      obtain ⟨S3, g3, s3, e3⟩ := g.seal n1 hS hc
      exact q c1 S3 H' g3 (by rw [hend]; exact ⟨_, e3, hN.monoM s3⟩)
def spChk : Sp := fun vs H Q _ => ∃ (k : Nat), vs = [.int k] ∧ Q .non H
theorem ok_check_count (T : Txt K mg) : Kd P w K mg base "check_count" ["count"] 1 spChk := by
  refine kd_of T.d_check_count sc_check_count (fun vs H Q E h => ?_) (fun f cdv A outer s H vs Q E hr h => ?_)
  · obtain ⟨k, rfl, _⟩ := h
    rfl
  · obtain ⟨k, rfl, q⟩ := h
    refine ⟨_, (pss_one (ps_if (pt_cmpR op_lt (pv 0) pe_int (nomark _))
(pss_one ps_never)
pss_nil)), ?_⟩
    refine st_lit (σ' := [some (V.int k)]) rfl ?_
    walk_at "x"
    refine x_ite (fun e => by omega) (fun _ => ?_)
    walk_at "x"
    exact q
theorem ni_sum (ns : List Nat) : (ni ns).sum = (ns.sum : Int) := by
  induction ns with
  | nil => rfl
  | cons n ns ih =>
    show (n : Int) + (ni ns).sum = ((n + ns.sum : Nat) : Int)
    rw [ih]
    omega
theorem ni_len (ns : List Nat) : (ni ns).length = ns.length := by unfold ni; simp
theorem ni_get {ns : List Nat} {i n : Nat} (h : ns[i]? = some n) : (ni ns)[i]? = some (n : Int) := by unfold ni; rw [List.getElem?_map, h]; rfl
theorem x_sumT {H : Hp} {Q : VK} {a : Addr} {l : List Int} (h : TiAt H a l) (k : Q (.int l.sum) H) : rSumT K [.ref a] H Q := ⟨a, l, rfl, SqT.of h, k⟩
theorem x_sumL {H : Hp} {Q : VK} {a : Addr} {l : List Int} (h : LiAt H a l) (k : Q (.int l.sum) H) : rSum K [.ref a] H Q := ⟨a, l, rfl, SqL.of h, k⟩
theorem rgV_seg (s n : Nat) : rgV (s : Int) ((s : Int) + (n : Int)) = (Km.seg s n).map V.int := by
  unfold rgV Km.seg
  rw [show (((s : Int) + (n : Int)) - (s : Int)).toNat = n by omega, List.map_map]
  rfl
theorem rowS_drop (ns : List Nat) (k i : Nat) (hi : i < k) : Km.rowS (ns.drop i) (k - i) = (Km.seg (ns.drop (i + 1)).sum (ns.getD i 0)) :: Km.rowS (ns.drop (i + 1)) (k - (i + 1)) := by
  obtain ⟨m, hm⟩ : ∃ m, k - i = m + 1 := ⟨k - i - 1, by omega⟩
  rw [hm, show k - (i + 1) = m by omega]
  by_cases h : i < ns.length
  · rw [List.drop_eq_getElem_cons h, List.getD_eq_getElem?_getD, List.getElem?_eq_getElem h]
    rfl
  · rw [List.drop_of_length_le (by omega), List.drop_of_length_le (by omega), List.getD_eq_getElem?_getD, List.getElem?_eq_none (by omega)]
    rfl
theorem drop_sum (ns : List Nat) (i : Nat) : (ns.drop i).sum = ns.getD i 0 + (ns.drop (i + 1)).sum := by
  by_cases h : i < ns.length
  · rw [List.drop_eq_getElem_cons h, List.sum_cons, List.getD_eq_getElem?_getD, List.getElem?_eq_getElem h]
    rfl
  · rw [List.drop_of_length_le (by omega), List.drop_of_length_le (by omega), List.getD_eq_getElem?_getD, List.getElem?_eq_none (by omega)]
    rfl
theorem ni_getD (ns : List Nat) (i : Nat) : (ni ns).getD i 0 = (ns.getD i 0 : Int) := by
  unfold ni
  rw [List.getD_eq_getElem?_getD, List.getD_eq_getElem?_getD, List.getElem?_map]
  cases ns[i]? <;> rfl
def spRows : Sp := fun vs H Q _ => ∃ (S : Hp) (a : Addr) (ns : List Nat) (k : Nat), vs = [.ref a, .int k] ∧ Same S H ∧ TiAt S a (ni ns) ∧ ns.sum ≤ 1000 ∧ k ≤ 1000 ∧ ∀ v S' H', Go S H S' H' → H v = none → FamAt S' v (Km.rowS ns k) → Q (.ref v) H'
theorem x_listRg {σ : L2.St} {H : Hp} {Q : VK} {te : L2.St → Hp → (Int → Int → Hp → Prop) → Prop} (k : te σ H fun a b H1 => RgOk a b ∧ ∀ q, H1 q = none → Q (.ref q) (upd H1 q (.lst (rgV a b)))) : tLstRg te σ H Q := k
theorem x_rg2 {σ : L2.St} {H : Hp} {ta tb : TE} {Q : Int → Int → Hp → Prop} (k : ta σ H fun x H1 => tb σ H1 fun y H2 => ∃ i j, x = .int i ∧ y = .int j ∧ Q i j H2) : tRg2 ta tb σ H Q := k
theorem ok_row_lists (T : Txt K mg) : Kd P w K mg base "row_lists" ["shape", "count"] 2 spRows := by
  refine kd_of T.d_row_lists sc_row_lists (fun vs H Q E h => ?_) (fun f cdv A outer s H vs Q E hr h => ?_)
  · obtain ⟨S, a, ns, k, rfl, _⟩ := h
    rfl
  · obtain ⟨S, a, ns, k, rfl, sh, ha, hsum, hk, q⟩ := h
    have ha' : TiAt H a (ni ns) := ha.mono sh
    refine ⟨_, (pss_cons (ps_set (i := 2) sc_row_lists.nd rfl (.inl rfl) (pe_lst (pa_m pa_nil)))
(pss_cons (ps_set (i := 3) sc_row_lists.nd rfl (.inl rfl) (pe_callB (cr_sumTK (K := K) rfl rfl) (by rfl) T.n_sum (by decide +kernel) (pa_cons (pv 0) pa_nil)))
(pss_cons (ps_for PassesOwn.never rfl (pi_range1 (by rfl) T.n_range (pa_cons (pv 1) pa_nil)) (pg_name (i := 4) sc_row_lists.nd rfl (.inl rfl))
(pss_cons (ps_set (i := 5) sc_row_lists.nd rfl (.inl rfl) (pe_kd (ok_row_length T) (hr.mono (by decide)) (by rfl) (pa_cons (pv 0) (pa_cons (pv 4) pa_nil))))
(pss_cons (ps_set (i := 3) sc_row_lists.nd rfl (.inl rfl) (pe_op op_sub (pv 3) (pv 5)))
(pss_one (ps_expr (pe_bmK (K := K) rfl (pe_bm PySem.F.plainAttrs_list PySem.F.slot_list_append PySem.F.type_list_append mt_append (pv 2) (pa_cons (pe_listRg rfl (by rfl) T.n_list (prg_2 (by rfl) T.n_range (pv 3) (pe_op op_add (pv 3) (pv 5)))) pa_nil))))))))
(pss_one (ps_ret (pv 2)))))), ?_⟩
    refine st_lit (σ' := [some (V.ref a), some (V.int k), none, none, none, none]) rfl ?_
    walk_at "x"
    refine ⟨by decide, fun c1 H1 n1 s1 e1 => ?_⟩
    walk_at "x"
    refine x_sumT (ha'.mono s1) ?_
    walk_at "x"
    rw [ni_sum]
    refine x_for (x_r1 ?_)
    walk_at "x"
    refine x_r1n (n := k) (by omega) ?_
    rw [Int.toNat_natCast]
    refine for_range (fun i σ H' => ∃ (S' : Hp) (bs : List Addr) (N : List (List Int)) (v4 v5 : Option V), σ = [some (.ref a), some (.int k), some (.ref c1), some (.int ((ns.drop i).sum : Nat)), v4, v5] ∧ Go S H S' H' ∧ S' c1 = none ∧ H' c1 = some (.lst (refs bs)) ∧ All (LiAt S') bs N ∧ N.length = i ∧ Km.rowS ns k = N ++ Km.rowS (ns.drop i) (k - i))
      ⟨S, [], [], none, none, by simp, ⟨Same.refl _, sh.trans s1, s1, fun _ _ e _ => e⟩, sh.free n1, e1, All.nil, rfl, by simp⟩ ?_ ?_
    · rintro i σ H' hi ⟨S', bs, N, v4, v5, rfl, g, hS, hc, hN, hNl, hrow⟩
      have hbl := hN.len
      have hds := drop_sum ns i
      have hd2 : (ns.drop (i + 1)).sum ≤ ns.sum := by
        have z : ∀ (L : List Nat) (j : Nat), (L.drop j).sum ≤ L.sum := by
          intro L
          induction L with
          | nil => intro j; simp
          | cons b L ih =>
            intro j
            cases j with
            | zero => simp
            | succ j => have := ih j; simp only [List.drop_succ_cons, List.sum_cons]; omega
        exact z ns (i + 1)
      rw [Int.zero_add]
      walk_at "x"
      refine ⟨a, ni ns, i, rfl, ha'.mono g.hh, ?_⟩
      rw [ni_getD]
      generalize hm : ns.getD i 0 = m at *
      generalize hdr : (ns.drop (i + 1)).sum = ds at *
      walk_at "x"
      rw [show (((ns.drop i).sum : Nat) : Int) - (m : Int) = (ds : Int) by omega]
      refine x_listRg (x_rg2 ?_)
      walk_at "x"
      refine ⟨(ds : Int), (ds : Int) + (m : Int), rfl, rfl, RgOk.of_le (by omega) (by
        have : (ns.drop i).sum ≤ 1000 := by
          have z : ∀ (L : List Nat) (j : Nat), (L.drop j).sum ≤ L.sum := by
            intro L
            induction L with
            | nil => intro j; simp
            | cons b L ih =>
              intro j
              cases j with
              | zero => simp
              | succ j => have := ih j; simp only [List.drop_succ_cons, List.sum_cons]; omega
          have := z ns i
          omega
        omega) (by omega) (by omega), fun c2 n2 => ?_⟩
      have s2 : Same H' (upd H' c2 (.lst (rgV (ds : Int) ((ds : Int) + (m : Int))))) := same_new n2
      have e2 : (upd H' c2 (.lst (rgV (ds : Int) ((ds : Int) + (m : Int))))) c2 = some (.lst ((Km.seg ds m).map V.int)) := by rw [upd_same, rgV_seg]
      generalize upd H' c2 (.lst (rgV (ds : Int) ((ds : Int) + (m : Int)))) = H2 at *
      obtain ⟨S2, g2, e2'⟩ := Go.one g.sh s2 n2 e2
      have hc2 := s2 _ _ hc
      have hS2 := g2.fr c1 _ hS hc
      walk_at "x"
      refine x_app hc2 (smallL (by rw [refs_len]; omega)) ?_
      rw [refs_snoc]
      refine ⟨S2, bs ++ [c2], N ++ [Km.seg ds m], _, _, rfl, (g.trans g2).mut n1 hS2, hS2, upd_same, (hN.mono g2.ss).snoc e2', by simp; exact hNl, ?_⟩
      rw [hrow, rowS_drop ns k i hi, hdr, hm]
      simp
    · rintro σ H' ⟨S', bs, N, v4, v5, rfl, g, hS, hc, hN, hNl, hrow⟩
      rw [Nat.sub_self] at hrow
      have hend : Km.rowS ns k = N := by rw [hrow]; simp [Km.rowS]
      walk_at "x"
      obtain ⟨S3, g3, s3, e3⟩ := g.seal n1 hS hc
      exact q c1 S3 H' g3 n1 (by rw [hend]; exact ⟨_, e3, hN.mono s3⟩)
end
section
local macro_rules | `(tactic| walk_at "set") => `(tactic| first | exact set0 | (apply setS; walk_at "set"))
local macro_rules | `(tactic| walk_at "h") => `(tactic| first | assumption | (refine Same.lk (by assumption) ?_; walk_at "h"))
local macro_rules | `(tactic| walk_at "x1") => `(tactic| first
  | ((with_reducible show tVar _ _ _ _); refine x_var rfl ?_)
  | ((with_reducible show tC _ _ _ _); refine x_c ?_)
  | ((with_reducible show tOp _ _ _ _ _ _); refine x_op ?_)
  | ((with_reducible show tSeq _ _ _ _ _); refine x_seq ?_)
  | ((with_reducible show tAsg _ _ _ _ _); refine x_asg ?_)
  | ((with_reducible show gName _ _ _ _ _); refine x_name2 (by walk_at "set") ?_)
  | ((with_reducible show tCons _ _ _ _ _); refine x_cons ?_)
  | ((with_reducible show tNil _ _ _); refine x_nil ?_)
  | ((with_reducible show rI0 _ (V.int _) (V.int _) _ _); refine x_rI0 ?_)
  | ((with_reducible show tCB _ _ _ _ _); refine x_cb ?_)
  | ((with_reducible show tCall _ [] E0 _ _ _ _); refine x_call ?_)
  | ((with_reducible show rIxT _ _ _ _ _); refine x_ixT (by walk_at "h") (by rfl) ?_)
  | ((with_reducible show rLenQ _ _ _ _); refine x_lenL (by walk_at "h") ?_)
  | ((with_reducible show rLenQ _ _ _ _); refine x_lenT (by walk_at "h") ?_)
  | ((with_reducible show tIfS _ _ _ _ _ _); refine x_if ?_)
  | ((with_reducible show tTest _ _ _ _); refine x_test ?_)
  | ((with_reducible show tB _ _ _ _); refine x_tB ?_)
  | ((with_reducible show tYes _ _ _); refine x_yes ?_)
  | ((with_reducible show gTup _ _ _ (V.ref _) _ _ _); refine x_gtup (by walk_at "h") (by rfl) ?_)
  | ((with_reducible show gCons _ _ (_ :: _) _ _ _); refine x_gcons ?_)
  | ((with_reducible show gNil [] _ _ _); refine x_gnil ?_)
  | ((with_reducible show tPar _ _ _ _ _ _); refine x_par ?_)
  | ((with_reducible show Ends.nx _ _ _); dsimp only)
  | (with_reducible refine x_bl ?_)
  | (with_reducible refine x_T ?_)
  | (with_reducible refine x_nT ?_)
  | (with_reducible refine x_nF ?_)
  | (with_reducible refine x_F ?_)
  | ((with_reducible show rEq _ _ _ _); refine x_eq rfl ?_)
  | ((with_reducible show rNe _ _ _ _); refine x_ne rfl ?_)
  | ((with_reducible show rIsNn _ _ _ _); refine x_isN ?_)
  | ((with_reducible show tRet _ _ _ _); refine x_ret ?_)
  | ((with_reducible show tNext _ _ _); refine x_next ?_)
  | ((with_reducible show tRetN _ _ _); refine x_retN ?_)
  | ((with_reducible show tDrop _ _ _ _); refine x_drop ?_)
  | ((with_reducible show tTup _ _ _ _); refine x_tup ?_)
  | ((with_reducible show tLst _ _ _ _); refine x_lst ?_)
  | ((with_reducible show tUn _ _ _ _ _); refine x_un ?_)
  | ((with_reducible show rU _ (V.int _) _ _); refine x_rU ?_)
  | ((with_reducible show tNot _ _ _ _); refine x_notT ?_)
  | ((with_reducible show tAnd _ _ _ _ _); refine x_and ?_)
  | ((with_reducible show tOr _ _ _ _ _); refine x_or ?_)
  | ((with_reducible show tSl _ _ _ _ _ _ _); refine x_sl ?_)
  | ((with_reducible show tNoPart _ _ _); refine x_noP ?_)
  | ((with_reducible show tPart _ _ _ _); refine x_part ?_)
  | (with_reducible refine x_pi ?_)
  | ((with_reducible show tBM _ _ _ _ _ _ _ _); refine x_bm ?_)
  | ((with_reducible show tyV _ "list" _ _ ∧ _); refine x_tyL (by walk_at "h") ?_)
  | ((with_reducible show gSub _ _ _ _ _ _ _); refine x_sub ?_)
  | ((with_reducible show rInt1 [V.int _] _ _); refine x_int ?_)
  | ((with_reducible show rInt1 [V.bl _] _ _); refine x_intB ?_)
  | ((with_reducible show rMin2 _ _ _); refine x_min ?_)
  | ((with_reducible show rMax2 _ _ _); refine x_max ?_))
local macro_rules | `(tactic| walk_at "x") => `(tactic| (repeat walk_at "x1"))
variable {P : Program} {w : World} {K : PySem.W.Frag} {mg : Str → Option Value} {base : Heap}
theorem lc_pureN {σ : L2.St} {H : Hp} {Q : VK} {xs : List V} {j : Nat} {tl : TE} {tt : TT} {te : TE} (t : V → Bool) (v : V → V) (hz : xs.length ≤ 10000) (hl : ∀ R : VK, (∀ a H1, Same H H1 → H1 a = some (.lst xs) → R (.ref a) H1) → tl σ H R)
    (hw : ∀ x, wipe ((wipe σ [j]).set j (some x)) [j] = wipe σ [j])
    (ht : ∀ (i : Nat) (x : V) (H1 : Hp) (R : Bool → Hp → Prop), xs[i]? = some x → Same H H1 → R (t x) H1 → tt ((wipe σ [j]).set j (some x)) H1 R)
    (he : ∀ (i : Nat) (x : V) (H1 : Hp) (R : VK), xs[i]? = some x → t x = true → Same H H1 → R (v x) H1 → te ((wipe σ [j]).set j (some x)) H1 R)
    (k : ∀ D H', H D = none → Same H H' → H' D = some (.lst ((xs.filter t).map v)) → Q (.ref D) H') : tLc (iList K tl) (gName j) tt te [j] σ H Q := by
  refine hl _ fun a H1 s1 h => ⟨a, rfl, ⟨_, SqL.of h⟩, fun D hD => ?_⟩
  refine lc_list (K := K) (a := a) (xs := xs) (fun i H' => Same H1 H' ∧ H' D = some (.lst (((xs.take i).filter t).map v))) ⟨same_new hD, upd_same⟩ (fun i H' _ p => SqL.of (p.1 _ _ h)) (fun i x H' hx p => ⟨hw x, ?_⟩) fun H' p => ?_
  · exact pure_turn hx hz p.1 hD p.2 (fun R r => ht i x H' R hx (s1.trans p.1) r) fun hb R r => he i x H' R hx hb (s1.trans p.1) r
  · have e := p.2
    rw [List.take_length] at e
    exact k D H' (fresh_of s1 hD) (s1.trans p.1) e
def rws (ns : List Nat) (c : Nat) : List Nat := (List.range ns.length).filter fun i => decide (c < ns.getD i 0)
theorem colS_eq : ∀ (ns : List Nat) (c : Nat), Km.colS ns c = (rws ns c).reverse.map fun i : Nat => (((ns.drop (i + 1)).sum : Nat) : Int) + (c : Int)
  | [], c => rfl
  | n :: ns, c => by
    have e : rws (n :: ns) c = (if c < n then [0] else []) ++ (rws ns c).map (· + 1) := by
      unfold rws
      rw [List.length_cons, List.range_succ_eq_map, List.filter_cons, List.filter_map]
      have e2 : (fun i => decide (c < (n :: ns).getD i 0)) ∘ Nat.succ = fun i => decide (c < ns.getD i 0) := by funext i; rfl
      rw [e2]
      have e3 : (n :: ns).getD 0 0 = n := rfl
      rw [e3]
      by_cases h : c < n
      · rw [if_pos (by simpa using h), if_pos h]; rfl
      · rw [if_neg (by simpa using h), if_neg h]; rfl
    rw [e, List.reverse_append, List.map_append, ← List.map_reverse, List.map_map]
    show Km.colS ns c ++ (if c < n then [(ns.sum : Int) + (c : Int)] else []) = _
    rw [colS_eq ns c]
    congr 1
    by_cases h : c < n
    · rw [if_pos h, if_pos h]; rfl
    · rw [if_neg h, if_neg h]; rfl
def spCols : Sp := fun vs H Q _ => ∃ (S : Hp) (a : Addr) (ns : List Nat) (k : Nat), vs = [.ref a, .int k] ∧ Same S H ∧ TiAt S a (ni ns) ∧ ns.length ≤ 1000 ∧ k ≤ 1000 ∧ ∀ v S' H', Go S H S' H' → FamAt S' v ((List.range k).map fun c => Km.colS ns c) → Q (.ref v) H'
theorem x_revL {σ : L2.St} {H : Hp} {Q : VK} {te : TE} (k : te σ H fun x H1 => ∃ a xs, x = .ref a ∧ SqL K H1 a xs ∧ ∀ p, H1 p = none → Q (.ref p) (upd H1 p (.lst xs.reverse))) : tRevL K te σ H Q := k
theorem map_range_snoc {α : Type} (f : Nat → α) (n : Nat) : (List.range (n + 1)).map f = (List.range n).map f ++ [f n] := by rw [List.range_succ, List.map_append]; rfl
theorem ok_column_lists (T : Txt K mg) : Kd P w K mg base "column_lists" ["shape", "count"] 1 spCols := by
  refine kd_of T.d_column_lists sc_column_lists (fun vs H Q E h => ?_) (fun f cdv A outer s H vs Q E hr h => ?_)
  · obtain ⟨S, a, ns, k, rfl, _⟩ := h
    rfl
  · obtain ⟨S, a, ns, k, rfl, sh, ha, hnl, hk, q⟩ := h
    have ha' : TiAt H a (ni ns) := ha.mono sh
    refine ⟨_, (pss_cons (ps_set (i := 2) sc_column_lists.nd rfl (.inr rfl) (pe_lst (pa_m pa_nil)))
(pss_cons (ps_set (i := 3) sc_column_lists.nd rfl (.inl rfl) (pe_callB (cr_sumTK (K := K) rfl rfl) (by rfl) T.n_sum (by decide +kernel) (pa_cons (pv 0) pa_nil)))
(pss_cons (ps_for PassesOwn.never rfl (pi_tupK (K := K) rfl (pv 0)) (pg_name (i := 4) sc_column_lists.nd rfl (.inl rfl))
(pss_cons (ps_set (i := 3) sc_column_lists.nd rfl (.inl rfl) (pe_op op_sub (pv 3) (pv 4)))
(pss_one (ps_expr (pe_bmK (K := K) rfl (pe_bm PySem.F.plainAttrs_list PySem.F.slot_list_append PySem.F.type_list_append mt_append (pv 2) (pa_cons (pv 3) pa_nil)))))))
(pss_cons (ps_set (i := 5) sc_column_lists.nd rfl (.inl rfl) (pe_lst (pa_m pa_nil)))
(pss_cons (ps_for PassesOwn.never rfl (pi_range1 (by rfl) T.n_range (pa_cons (pv 1) pa_nil)) (pg_name (i := 6) sc_column_lists.nd rfl (.inr rfl))
(pss_cons (ps_setLc (i := 7) (own := [("row", 8)]) (g := gName 8) rfl sc_column_lists.nd rfl rfl (sw_true rfl rfl rfl (by decide +kernel)) (pi_range1 (by rfl) T.n_range (pa_cons (pe_callB (n_lenK (K := K) rfl) (by rfl) T.n_len PySem.boot_len (pa_cons (pv 0) pa_nil)) pa_nil)) (blkOk_by (own := [("row", 8)]) (N := ["shape", "count", "starts", "start", "many", "lists", "column", "rows", "row"]) (sc := defScope s_column_lists) (by decide +kernel)) (fun _ _ _ _ _ => pg_name (i := 8) sc_column_lists.nd rfl (Or.inl rfl)) (fun _ _ _ _ _ => pts_one (pt_cmpR op_gt (pe_ix (ix_tupK (K := K) rfl) (pv 0) (pv 8) (fun _ _ => rfl)) (pv 6) (nomark _))) (fun _ _ _ _ _ => (pv 8)))
(pss_one (ps_expr (pe_bmK (K := K) rfl (pe_bm PySem.F.plainAttrs_list PySem.F.slot_list_append PySem.F.type_list_append mt_append (pv 5) (pa_cons (pe_lc (own := [("row", 8)]) (g := gName 8) (tt := tYes) rfl sc_column_lists.nd (pi_listK (K := K) rfl (pe_revLK (K := K) rfl (pv 7))) (blkOk_by (own := [("row", 8)]) (N := ["shape", "count", "starts", "start", "many", "lists", "column", "rows", "row"]) (sc := defScope s_column_lists) (by decide +kernel)) (fun _ _ _ _ _ => pg_name (i := 8) sc_column_lists.nd rfl (Or.inl rfl)) (fun _ _ _ _ _ => pts_nil) (fun _ _ _ _ _ => (pe_op op_add (pe_ix (ix_listK (K := K) rfl) (pv 2) (pv 8) (fun _ _ => rfl)) (pv 6)))) pa_nil)))))))
(pss_one (ps_ret (pv 5)))))))), ?_⟩
    refine st_lit (σ' := [some (V.ref a), some (V.int k), none, none, none, none, none, none, none]) rfl ?_
    walk_at "x"
    refine ⟨by decide, fun c1 H1 n1 s1 e1 => ?_⟩
    walk_at "x"
    refine x_sumT (ha'.mono s1) ?_
    walk_at "x"
    rw [ni_sum]
    refine x_for (x_pt ?_)
    walk_at "x"
    refine x_ptn (ha'.mono s1) ?_
    refine for_tup (K := K) (a := a) (xs := (ni ns).map V.int) (fun i σ H' => ∃ (v4 v5 v6 v7 v8 : Option V), σ = [some (.ref a), some (.int k), some (.ref c1), some (.int ((ns.drop i).sum : Nat)), v4, v5, v6, v7, v8] ∧ Same H H' ∧ H' c1 = some (.lst ((List.range i).map fun j : Nat => V.int ((ns.drop (j + 1)).sum : Nat))))
      ⟨none, none, none, none, none, by simp, s1, e1⟩ (fun i σ H' _ h => by obtain ⟨_, _, _, _, _, _, s2, _⟩ := h; exact SqT.of (ha'.mono s2)) ?_ ?_
    · rintro i x σ H' hx ⟨v4, v5, v6, v7, v8, rfl, s2, e2⟩
      obtain ⟨y, rfl, hy⟩ := ints_get' hx
      have hi : i < ns.length := by have := (List.getElem?_eq_some_iff.mp hy).1; rw [ni_len] at this; exact this
      have ey : y = (ns.getD i 0 : Nat) := by
        have e := ni_getD ns i
        rw [List.getD_eq_getElem?_getD, hy] at e
        exact e
      have hds := drop_sum ns i
      subst ey
      walk_at "x"
      rw [show (((ns.drop i).sum : Nat) : Int) - ((ns.getD i 0 : Nat) : Int) = ((ns.drop (i + 1)).sum : Nat) by omega]
      refine x_app e2 (smallL (by simp; omega)) ?_
      refine ⟨_, v5, v6, v7, v8, rfl, same_mut s2 n1, ?_⟩
      rw [upd_same, map_range_snoc]
    · rintro σ H' ⟨v4, v5, v6, v7, v8, rfl, s2, e2⟩
      rw [ints_len, ni_len] at e2
      obtain ⟨S2, g2, e2'⟩ := Go.one sh s2 n1 e2
      walk_at "x"
      refine ⟨by decide, fun c3 H3 n3 s3 e3 => ?_⟩
      have g3 : Go S H S2 H3 := ⟨g2.ss, g2.sh.trans s3, g2.hh.trans s3, g2.fr⟩
      have hS3 : S2 c3 = none := g2.sh.free n3
      have n3' := fresh_of s2 n3
      walk_at "x"
      refine x_for (x_r1 ?_)
      walk_at "x"
      refine x_r1n (n := k) (by omega) ?_
      rw [Int.toNat_natCast]
      generalize hsum : (((ns.drop ((ni ns).map V.int).length).sum : Nat) : Int) = sm at *
      refine for_range (fun i σ H' => ∃ (S' : Hp) (bs : List Addr) (v4 v6 v7 v8 : Option V), σ = [some (.ref a), some (.int k), some (.ref c1), some (.int sm), v4, some (.ref c3), v6, v7, v8] ∧ Go S H S' H' ∧ Same S2 S' ∧ S' c3 = none ∧ H' c3 = some (.lst (refs bs)) ∧ All (LiAt S') bs ((List.range i).map fun c => Km.colS ns c))
        ⟨S2, [], v4, v6, v7, v8, rfl, g3, Same.refl _, hS3, e3, by simpa using All.nil⟩ ?_ ?_
      · rintro i σ H4 hi ⟨S4, bs, v4, v6, v7, v8, rfl, g4, t4, hS4, hc4, hN⟩
        have hbl := hN.len
        simp only [List.length_map, List.length_range] at hbl
        rw [Int.zero_add]
        walk_at "x"
        refine lc_pureR (n := ns.length) (fun x => match x with | .int z => decide (i < ns.getD z.toNat 0) | _ => false) (fun x => x) (by omega) (fun R r => ?_) (fun x => rfl) (fun j H5 R hj s5 r => ?_) (fun j H5 R hj _ s5 r => ?_) (fun c5 H5 n5 s5 e5 => ?_)
        · have ha4 : H4 a = some (.tup ((ni ns).map V.int)) := ha'.mono g4.hh
          walk_at "x"
          rw [ints_len, ni_len]
          exact r
        · have ha5 : H5 a = some (.tup ((ni ns).map V.int)) := (ha'.mono g4.hh).mono s5
          walk_at "x"
          refine x_ixT ha5 (atI_ints (ni_get (List.getElem?_eq_getElem hj))) ?_
          walk_at "x"
          have eb : decide ((i : Int) < ((ns[j] : Nat) : Int)) = decide (i < ns.getD ((j : Int)).toNat 0) := by
            rw [Int.toNat_natCast, List.getD_eq_getElem?_getD, List.getElem?_eq_getElem hj]
            refine decide_eq_decide.mpr ?_
            show _ ↔ i < ns[j]
            omega
          rw [eb]
          exact r
        · walk_at "x"
          exact r
        · have er : ((rngV ns.length).filter (fun x => match x with | .int z => decide (i < ns.getD z.toNat 0) | _ => false)).map (fun x => x) = (rws ns i).map fun j : Nat => V.int (j : Int) := by
            rw [List.map_id']
            unfold rngV rws
            rw [List.filter_map]
            congr 1
          rw [er] at e5
          have hc5 := s5 _ _ hc4
          obtain ⟨S5, g5, e5'⟩ := Go.one g4.sh s5 n5 e5
          have hS5 := g5.fr c3 _ hS4 hc4
          walk_at "x"
          have hst : H5 c1 = some (.lst ((List.range ns.length).map fun j : Nat => V.int ((ns.drop (j + 1)).sum : Nat))) := g5.sh _ _ (g5.ss _ _ (t4 _ _ e2'))
          refine lc_pureN (xs := ((rws ns i).map fun j : Nat => V.int (j : Int)).reverse) (fun _ => true) (fun x => match x with | .int z => .int ((((ns.drop (z.toNat + 1)).sum : Nat) : Int) + (i : Int)) | _ => .non) ?_ (fun R r => ?_) (fun x => rfl) (fun j x H6 R _ _ r => r) (fun j x H6 R hx _ s6 r => ?_) (fun c7 H7 n7 s7 e7 => ?_)
          · rw [List.length_reverse, List.length_map]
            unfold rws
            have := List.length_filter_le (fun j => decide (i < ns.getD j 0)) (List.range ns.length)
            rw [List.length_range] at this
            omega
          · refine x_revL ?_
            walk_at "x"
            exact ⟨c5, _, rfl, SqL.of e5, fun p hp => r p _ (same_new hp) upd_same⟩
          · have hx2 := List.mem_of_getElem? hx
            rw [List.mem_reverse, List.mem_map] at hx2
            obtain ⟨z, hz, rfl⟩ := hx2
            have hzl : z < ns.length := by
              unfold rws at hz
              exact List.mem_range.mp (List.mem_filter.mp hz).1
            walk_at "x"
            refine x_ixL (s6 _ _ hst) (atI_nat (j := z) (v := V.int ((ns.drop (z + 1)).sum : Nat)) (by rw [List.getElem?_map, List.getElem?_range hzl]; rfl)) ?_
            walk_at "x"
            dsimp only at r
            rw [Int.toNat_natCast] at r
            exact r
          · have er2 : (((rws ns i).map fun j : Nat => V.int (j : Int)).reverse.filter (fun _ => true)).map (fun x => match x with | .int z => V.int ((((ns.drop (z.toNat + 1)).sum : Nat) : Int) + (i : Int)) | _ => .non) = (Km.colS ns i).map V.int := by
              rw [List.filter_eq_self.mpr (fun _ _ => rfl), colS_eq, ← List.map_reverse, List.map_map, List.map_map]
              exact List.map_congr_left fun z _ => by simp
            rw [er2] at e7
            obtain ⟨S7, g7, e7'⟩ := Go.one g5.sh s7 n7 e7
            have hc7 := s7 _ _ hc5
            have hS7 := g7.fr c3 _ hS5 hc5
            walk_at "x"
            refine x_app hc7 (smallL (by rw [refs_len]; omega)) ?_
            rw [refs_snoc]
            refine ⟨S7, bs ++ [c7], v4, _, _, _, rfl, ((g4.trans g5).trans g7).mut n3' hS7, t4.trans (g5.ss.trans g7.ss), hS7, upd_same, ?_⟩
            rw [map_range_snoc]
            exact ((hN.mono g5.ss).mono g7.ss).snoc e7'
      · rintro σ H4 ⟨S4, bs, v4, v6, v7, v8, rfl, g4, t4, hS4, hc4, hN⟩
        walk_at "x"
        obtain ⟨S5, g5, s5, e5⟩ := g4.seal n3' hS4 hc4
        exact q c3 S5 H4 g5 ⟨_, e5, hN.mono s5⟩
end
section
local macro_rules | `(tactic| walk_at "set") => `(tactic| first | exact set0 | (apply setS; walk_at "set"))
local macro_rules | `(tactic| walk_at "h") => `(tactic| first | assumption | (refine Same.lk (by assumption) ?_; walk_at "h"))
local macro_rules | `(tactic| walk_at "x1") => `(tactic| first
  | ((with_reducible show tVar _ _ _ _); refine x_var rfl ?_)
  | ((with_reducible show tC _ _ _ _); refine x_c ?_)
  | ((with_reducible show tOp _ _ _ _ _ _); refine x_op ?_)
  | ((with_reducible show tSeq _ _ _ _ _); refine x_seq ?_)
  | ((with_reducible show tAsg _ _ _ _ _); refine x_asg ?_)
  | ((with_reducible show gName _ _ _ _ _); refine x_name2 (by walk_at "set") ?_)
  | ((with_reducible show tCons _ _ _ _ _); refine x_cons ?_)
  | ((with_reducible show tNil _ _ _); refine x_nil ?_)
  | ((with_reducible show rI0 _ (V.int _) (V.int _) _ _); refine x_rI0 ?_)
  | ((with_reducible show tCB _ _ _ _ _); refine x_cb ?_)
  | ((with_reducible show tCall _ [] E0 _ _ _ _); refine x_call ?_)
  | ((with_reducible show rIxT _ _ _ _ _); refine x_ixT (by walk_at "h") (by rfl) ?_)
  | ((with_reducible show rLenQ _ _ _ _); refine x_lenL (by walk_at "h") ?_)
  | ((with_reducible show rLenQ _ _ _ _); refine x_lenT (by walk_at "h") ?_)
  | ((with_reducible show tIfS _ _ _ _ _ _); refine x_if ?_)
  | ((with_reducible show tTest _ _ _ _); refine x_test ?_)
  | ((with_reducible show tB _ _ _ _); refine x_tB ?_)
  | ((with_reducible show tYes _ _ _); refine x_yes ?_)
  | ((with_reducible show gTup _ _ _ (V.ref _) _ _ _); refine x_gtup (by walk_at "h") (by rfl) ?_)
  | ((with_reducible show gCons _ _ (_ :: _) _ _ _); refine x_gcons ?_)
  | ((with_reducible show gNil [] _ _ _); refine x_gnil ?_)
  | ((with_reducible show tPar _ _ _ _ _ _); refine x_par ?_)
  | ((with_reducible show Ends.nx _ _ _); dsimp only)
  | (with_reducible refine x_bl ?_)
  | (with_reducible refine x_T ?_)
  | (with_reducible refine x_nT ?_)
  | (with_reducible refine x_nF ?_)
  | (with_reducible refine x_F ?_)
  | ((with_reducible show rEq _ _ _ _); refine x_eq rfl ?_)
  | ((with_reducible show rNe _ _ _ _); refine x_ne rfl ?_)
  | ((with_reducible show rIsNn _ _ _ _); refine x_isN ?_)
  | ((with_reducible show tRet _ _ _ _); refine x_ret ?_)
  | ((with_reducible show tNext _ _ _); refine x_next ?_)
  | ((with_reducible show tRetN _ _ _); refine x_retN ?_)
  | ((with_reducible show tDrop _ _ _ _); refine x_drop ?_)
  | ((with_reducible show tTup _ _ _ _); refine x_tup ?_)
  | ((with_reducible show tLst _ _ _ _); refine x_lst ?_)
  | ((with_reducible show tUn _ _ _ _ _); refine x_un ?_)
  | ((with_reducible show rU _ (V.int _) _ _); refine x_rU ?_)
  | ((with_reducible show tNot _ _ _ _); refine x_notT ?_)
  | ((with_reducible show tAnd _ _ _ _ _); refine x_and ?_)
  | ((with_reducible show tOr _ _ _ _ _); refine x_or ?_)
  | ((with_reducible show tSl _ _ _ _ _ _ _); refine x_sl ?_)
  | ((with_reducible show tNoPart _ _ _); refine x_noP ?_)
  | ((with_reducible show tPart _ _ _ _); refine x_part ?_)
  | (with_reducible refine x_pi ?_)
  | ((with_reducible show tBM _ _ _ _ _ _ _ _); refine x_bm ?_)
  | ((with_reducible show tyV _ "list" _ _ ∧ _); refine x_tyL (by walk_at "h") ?_)
  | ((with_reducible show gSub _ _ _ _ _ _ _); refine x_sub ?_)
  | ((with_reducible show rInt1 [V.int _] _ _); refine x_int ?_)
  | ((with_reducible show rInt1 [V.bl _] _ _); refine x_intB ?_)
  | ((with_reducible show rMin2 _ _ _); refine x_min ?_)
  | ((with_reducible show rMax2 _ _ _); refine x_max ?_))
local macro_rules | `(tactic| walk_at "x") => `(tactic| (repeat walk_at "x1"))
variable {P : Program} {w : World} {K : PySem.W.Frag} {mg : Str → Option Value} {base : Heap}
theorem pa_take {u v : List Int} {ms : List Km.Mov} (p : Km.Pa u ms v) : ∀ i : Nat, ∃ wi, Km.Pa u (ms.take i) wi := by
  induction p with
  | nil w => exact fun i => ⟨w, by simpa using Km.Pa.nil w⟩
  | cons s _ ih =>
    intro i
    cases i with
    | zero => exact ⟨_, by simpa using Km.Pa.nil _⟩
    | succ i =>
      obtain ⟨wi, h⟩ := ih i
      exact ⟨wi, .cons s h⟩
theorem len_cov {fam : List (List Int)} {l : List Int} (h : l ∈ fam) : l.length ≤ Km.cov fam := by
  induction fam with
  | nil => simp at h
  | cons a fam ih =>
    show _ ≤ a.length + Km.cov fam
    rcases List.mem_cons.mp h with e | e
    · rw [e]; omega
    · have := ih e; omega
/-- along the path the families stay small -/
theorem along {fa : Bool} {l : List Int} {fam : List (List Int)} (F : Km.FamOk fa (Km.rwd (Km.tabl l)) fam) (i : Nat) : (((Km.ptm [] l).reverse.take i).foldl (fun f m => Km.carr m f) fam).length = fam.length ∧ ∀ k ∈ ((Km.ptm [] l).reverse.take i).foldl (fun f m => Km.carr m f) fam, k.length ≤ l.length := by
  have p := (Km.pa_word l).rev
  obtain ⟨wi, pi⟩ := pa_take p i
  obtain ⟨F1, _, e⟩ := pi.fam F
  refine ⟨e, fun k hk => ?_⟩
  have a := len_cov hk
  have b := F1.small
  have c := pi.len
  have d := (Km.pa_word l).len
  omega
def spPaper : Sp := fun vs H Q _ => ∃ (S : Hp) (a : Addr) (l : List Int) (rc fc : Nat), vs = [.ref a, .int rc, .int fc] ∧ Same S H ∧ LiAt S a l ∧ l.length ≤ 20 ∧ rc ≤ 100 ∧ fc ≤ 100 ∧
  ∀ v r fl S' H', Go S H S' H' → H r = none → S' v = some (.tup [.ref r, .ref fl]) → FamAt S' r (Km.papR l rc) → FamAt S' fl (Km.papF l fc) → Q (.ref v) H'
theorem ok_paper (T : Txt K mg) : Kd P w K mg base "paper" ["word", "rising_count", "falling_count"] 7 spPaper := by
  refine kd_of T.d_paper sc_paper (fun vs H Q E h => ?_) (fun f cdv A outer s H vs Q E hr h => ?_)
  · obtain ⟨S, a, l, rc, fc, rfl, _⟩ := h
    rfl
  · obtain ⟨S, a, l, rc, fc, rfl, sh, ha, hl, h1, h2, q⟩ := h
    have hrows := tabl_rows l
    have hsum := Km.rwd_tab_len l
    have FR := Km.rowS_ok (T := Km.tabl l) rc (Km.tab_srt l)
    have FF := Km.colS_ok (T := Km.tabl l) fc (Km.tab_col l)
    have lR : (Km.rowS (Km.shp (Km.tabl l)) rc).length = rc := Km.rowS_len _ _
    have lF : ((List.range fc).map fun c => Km.colS (Km.shp (Km.tabl l)) c).length = fc := by simp
    refine ⟨_, (pss_cons (ps_set (i := 3) sc_paper.nd rfl (.inl rfl) (pe_kd (ok_rises T) (hr.mono (by decide)) (by rfl) (pa_cons (pv 0) pa_nil)))
(pss_cons (ps_set (i := 4) sc_paper.nd rfl (.inl rfl) (pe_kd (ok_row_lists T) (hr.mono (by decide)) (by rfl) (pa_cons (pv 3) (pa_cons (pv 1) pa_nil))))
(pss_cons (ps_set (i := 5) sc_paper.nd rfl (.inl rfl) (pe_kd (ok_column_lists T) (hr.mono (by decide)) (by rfl) (pa_cons (pv 3) (pa_cons (pv 2) pa_nil))))
(pss_cons (ps_for PassesOwn.never rfl (pi_listK (K := K) rfl (pe_revLK (K := K) rfl (pe_kd (ok_path_to_table T) (hr.mono (by decide)) (by rfl) (pa_cons (pv 0) pa_nil)))) (pg_name (i := 6) sc_paper.nd rfl (.inl rfl))
(pss_cons (ps_set (i := 4) sc_paper.nd rfl (.inl rfl) (pe_kd (ok_carried T) (hr.mono (by decide)) (by rfl) (pa_cons (pv 6) (pa_cons (pv 4) pa_nil))))
(pss_one (ps_set (i := 5) sc_paper.nd rfl (.inl rfl) (pe_kd (ok_carried T) (hr.mono (by decide)) (by rfl) (pa_cons (pv 6) (pa_cons (pv 5) pa_nil)))))))
(pss_one (ps_ret (pe_tup (pa_m (pa_cons (pv 4) (pa_cons (pv 5) pa_nil)))))))))), ?_⟩
    refine st_lit (σ' := [some (V.ref a), some (V.int rc), some (V.int fc), none, none, none, none]) rfl ?_
    walk_at "x"
    refine ⟨S, a, l, rfl, sh, ha, by omega, fun v1 S1 H1 g1 t1 => ?_⟩
    walk_at "x"
    refine ⟨S1, v1, _, rc, rfl, g1.sh, t1, by omega, by omega, fun v2 S2 H2 g2 n2 t2 => ?_⟩
    walk_at "x"
    refine ⟨S2, v1, _, fc, rfl, g2.sh, t1.mono g2.ss, by rw [Km.shp, List.length_map]; omega, by omega, fun v3 S3 H3 g3 t3 => ?_⟩
    walk_at "x"
    refine x_for (x_pl (x_revL ?_))
    have G3 := (g1.trans g2).trans g3
    walk_at "x"
    refine ⟨S3, a, l, rfl, G3.sh, ha.mono G3.ss, hl, fun v4 S4 H4 g4 ⟨as4, e4, hM⟩ => ?_⟩
    have G4 := G3.trans g4
    refine ⟨v4, _, rfl, SqL.of (g4.sh _ _ e4), fun c5 n5 => ?_⟩
    obtain ⟨S5, g5, e5⟩ := Go.one g4.sh (same_new n5) n5 (upd_same (o := .lst (refs as4).reverse))
    generalize upd H4 c5 (.lst (refs as4).reverse) = H5 at *
    have G5 := G4.trans g5
    refine ⟨c5, rfl, ⟨_, SqL.of (g5.sh _ _ e5)⟩, ?_⟩
    have hMl := hM.len
    have n2' := fresh_of g1.hh n2
    refine for_list (K := K) (a := c5) (xs := (refs as4).reverse) (fun i σ H' => ∃ (S' : Hp) (r fl : Addr) (v6 : Option V), σ = [some (.ref a), some (.int rc), some (.int fc), some (.ref v1), some (.ref r), some (.ref fl), v6] ∧ Go S H S' H' ∧ Same S5 S' ∧ H r = none ∧ FamAt S' r (((Km.ptm [] l).reverse.take i).foldl (fun f m => Km.carr m f) (Km.rowS (Km.shp (Km.tabl l)) rc)) ∧ FamAt S' fl (((Km.ptm [] l).reverse.take i).foldl (fun f m => Km.carr m f) ((List.range fc).map fun c => Km.colS (Km.shp (Km.tabl l)) c)))
      ⟨S5, v2, v3, none, rfl, G5, Same.refl _, n2', (t2.mono g3.ss).mono (g4.ss.trans g5.ss), t3.mono (g4.ss.trans g5.ss)⟩ (fun i σ H' _ h => by obtain ⟨S', _, _, _, _, g, t, _⟩ := h; exact SqL.of (g.sh _ _ (t _ _ e5))) ?_ ?_
    · rintro i x σ H' hx ⟨S', r, fl, v6, rfl, g, t, nr, fr, ff⟩
      have hi : i < as4.length := by have := (List.getElem?_eq_some_iff.mp hx).1; rw [List.length_reverse, refs_len] at this; exact this
      rw [List.getElem?_reverse (by rw [refs_len]; exact hi), refs_len] at hx
      obtain ⟨p, rfl, hp⟩ := refs_get' hx
      obtain ⟨m, hm, rm⟩ := hM.get' hp
      have em : (Km.ptm [] l).reverse[i]? = some m := by
        rw [List.getElem?_reverse (by omega), ← hMl]
        exact hm
      obtain ⟨a1, a2⟩ := along FR i
      obtain ⟨b1, b2⟩ := along FF i
      walk_at "x"
      refine ⟨S', p, r, m, _, rfl, g.sh, (rm.mono g5.ss).mono t, fr, by omega, fun k hk => by have := a2 k hk; omega, fun v7 S7 H7 g7 n7 t7 => ?_⟩
      walk_at "x"
      refine ⟨S7, p, fl, m, _, rfl, g7.sh, ((rm.mono g5.ss).mono t).mono g7.ss, ff.mono g7.ss, by omega, fun k hk => by have := b2 k hk; omega, fun v8 S8 H8 g8 n8 t8 => ?_⟩
      refine ⟨S8, v7, v8, _, rfl, (g.trans g7).trans g8, t.trans (g7.ss.trans g8.ss), fresh_of g.hh n7, ?_, ?_⟩
      · rw [take_snoc em, List.foldl_append]
        exact t7.mono g8.ss
      · rw [take_snoc em, List.foldl_append]
        exact t8
    · rintro σ H' ⟨S', r, fl, v6, rfl, g, t, nr, fr, ff⟩
      rw [List.length_reverse, refs_len, hMl, ← List.length_reverse, List.take_length] at fr ff
      walk_at "x"
      refine ⟨small (by simp), fun c6 H6 n6 s6 e6 => ?_⟩
      obtain ⟨S6, g6, e6'⟩ := Go.one g.sh s6 n6 e6
      exact q c6 r fl S6 H6 (g.trans g6) nr e6' (fr.mono g6.ss) (ff.mono g6.ss)
def spRp : Sp := fun vs H Q _ => ∃ (S : Hp) (a : Addr) (l : List Int) (rc : Nat), vs = [.ref a, .int rc] ∧ Same S H ∧ LiAt S a l ∧ l.length ≤ 20 ∧ rc ≤ 100 ∧
  ∀ v r fl fc S' H', Go S H S' H' → H r = none → fc ≤ l.length → S' v = some (.tup [.ref r, .ref fl]) → FamAt S' r (Km.papR l rc) → FamAt S' fl (Km.papF l fc) → Q (.ref v) H'
theorem ok_rising_paper (T : Txt K mg) : Kd P w K mg base "rising_paper" ["word", "count"] 8 spRp := by
  refine kd_of T.d_rising_paper sc_rising_paper (fun vs H Q E h => ?_) (fun f cdv A outer s H vs Q E hr h => ?_)
  · obtain ⟨S, a, l, rc, rfl, _⟩ := h
    rfl
  · obtain ⟨S, a, l, rc, rfl, sh, ha, hl, h1, q⟩ := h
    refine ⟨_, (pss_cons (ps_expr (pe_kd (ok_check_count T) (hr.mono (by decide)) (by rfl) (pa_cons (pv 1) pa_nil)))
(pss_one (ps_ret (pe_kd (ok_paper T) (hr.mono (by decide)) (by rfl) (pa_cons (pv 0) (pa_cons (pv 1) (pa_cons (pe_kd (ok_row_length T) (hr.mono (by decide)) (by rfl) (pa_cons (pe_kd (ok_rises T) (hr.mono (by decide)) (by rfl) (pa_cons (pv 0) pa_nil)) (pa_cons (pv 1) pa_nil))) pa_nil))))))), ?_⟩
    refine st_lit (σ' := [some (V.ref a), some (V.int rc)]) rfl ?_
    walk_at "x"
    refine ⟨rc, rfl, ?_⟩
    walk_at "x"
    refine ⟨S, a, l, rfl, sh, ha, by omega, fun v1 S1 H1 g1 t1 => ?_⟩
    walk_at "x"
    refine ⟨v1, _, rc, rfl, t1.mono g1.sh, ?_⟩
    rw [ni_getD]
    generalize hfc : (Km.shp (Km.tabl l)).getD rc 0 = fc
    have hfl : fc ≤ l.length := by
      rw [← hfc, List.getD_eq_getElem?_getD]
      cases e : (Km.shp (Km.tabl l))[rc]? with
      | none => exact Nat.zero_le _
      | some n =>
        have hm := List.mem_of_getElem? e
        unfold Km.shp at hm
        obtain ⟨r, hr1, rfl⟩ := List.mem_map.mp hm
        exact tabl_row hr1
    walk_at "x"
    refine ⟨S1, a, l, rc, fc, rfl, g1.sh, ha.mono g1.ss, hl, h1, by omega, fun v r fl S2 H2 g2 n2 e2 t2 t3 => ?_⟩
    exact q v r fl fc S2 H2 (g1.trans g2) (fresh_of g1.hh n2) hfl e2 t2 t3
end
section
local macro_rules | `(tactic| walk_at "set") => `(tactic| first | exact set0 | (apply setS; walk_at "set"))
local macro_rules | `(tactic| walk_at "h") => `(tactic| first | assumption | (refine Same.lk (by assumption) ?_; walk_at "h"))
local macro_rules | `(tactic| walk_at "x1") => `(tactic| first
  | ((with_reducible show tVar _ _ _ _); refine x_var rfl ?_)
  | ((with_reducible show tC _ _ _ _); refine x_c ?_)
  | ((with_reducible show tOp _ _ _ _ _ _); refine x_op ?_)
  | ((with_reducible show tSeq _ _ _ _ _); refine x_seq ?_)
  | ((with_reducible show tAsg _ _ _ _ _); refine x_asg ?_)
  | ((with_reducible show gName _ _ _ _ _); refine x_name2 (by walk_at "set") ?_)
  | ((with_reducible show tCons _ _ _ _ _); refine x_cons ?_)
  | ((with_reducible show tNil _ _ _); refine x_nil ?_)
  | ((with_reducible show rI0 _ (V.int _) (V.int _) _ _); refine x_rI0 ?_)
  | ((with_reducible show tCB _ _ _ _ _); refine x_cb ?_)
  | ((with_reducible show tCall _ [] E0 _ _ _ _); refine x_call ?_)
  | ((with_reducible show rIxT _ _ _ _ _); refine x_ixT (by walk_at "h") (by rfl) ?_)
  | ((with_reducible show rLenQ _ _ _ _); refine x_lenL (by walk_at "h") ?_)
  | ((with_reducible show rLenQ _ _ _ _); refine x_lenT (by walk_at "h") ?_)
  | ((with_reducible show tIfS _ _ _ _ _ _); refine x_if ?_)
  | ((with_reducible show tTest _ _ _ _); refine x_test ?_)
  | ((with_reducible show tB _ _ _ _); refine x_tB ?_)
  | ((with_reducible show tYes _ _ _); refine x_yes ?_)
  | ((with_reducible show gTup _ _ _ (V.ref _) _ _ _); refine x_gtup (by walk_at "h") (by rfl) ?_)
  | ((with_reducible show gCons _ _ (_ :: _) _ _ _); refine x_gcons ?_)
  | ((with_reducible show gNil [] _ _ _); refine x_gnil ?_)
  | ((with_reducible show tPar _ _ _ _ _ _); refine x_par ?_)
  | ((with_reducible show Ends.nx _ _ _); dsimp only)
  | (with_reducible refine x_bl ?_)
  | (with_reducible refine x_T ?_)
  | (with_reducible refine x_nT ?_)
  | (with_reducible refine x_nF ?_)
  | (with_reducible refine x_F ?_)
  | ((with_reducible show rEq _ _ _ _); refine x_eq rfl ?_)
  | ((with_reducible show rNe _ _ _ _); refine x_ne rfl ?_)
  | ((with_reducible show rIsNn _ _ _ _); refine x_isN ?_)
  | ((with_reducible show tRet _ _ _ _); refine x_ret ?_)
  | ((with_reducible show tNext _ _ _); refine x_next ?_)
  | ((with_reducible show tRetN _ _ _); refine x_retN ?_)
  | ((with_reducible show tDrop _ _ _ _); refine x_drop ?_)
  | ((with_reducible show tTup _ _ _ _); refine x_tup ?_)
  | ((with_reducible show tLst _ _ _ _); refine x_lst ?_)
  | ((with_reducible show tUn _ _ _ _ _); refine x_un ?_)
  | ((with_reducible show rU _ (V.int _) _ _); refine x_rU ?_)
  | ((with_reducible show tNot _ _ _ _); refine x_notT ?_)
  | ((with_reducible show tAnd _ _ _ _ _); refine x_and ?_)
  | ((with_reducible show tOr _ _ _ _ _); refine x_or ?_)
  | ((with_reducible show tSl _ _ _ _ _ _ _); refine x_sl ?_)
  | ((with_reducible show tNoPart _ _ _); refine x_noP ?_)
  | ((with_reducible show tPart _ _ _ _); refine x_part ?_)
  | (with_reducible refine x_pi ?_)
  | ((with_reducible show tBM _ _ _ _ _ _ _ _); refine x_bm ?_)
  | ((with_reducible show tyV _ "list" _ _ ∧ _); refine x_tyL (by walk_at "h") ?_)
  | ((with_reducible show gSub _ _ _ _ _ _ _); refine x_sub ?_)
  | ((with_reducible show rInt1 [V.int _] _ _); refine x_int ?_)
  | ((with_reducible show rInt1 [V.bl _] _ _); refine x_intB ?_)
  | ((with_reducible show rMin2 _ _ _); refine x_min ?_)
  | ((with_reducible show rMax2 _ _ _); refine x_max ?_))
local macro_rules | `(tactic| walk_at "x") => `(tactic| (repeat walk_at "x1"))
variable {P : Program} {w : World} {K : PySem.W.Frag} {mg : Str → Option Value} {base : Heap}
def kvsOf (l : List Int) : List (Key × V) := l.map fun x => (Sum.inl x, V.bl true)
theorem kvs_val (x : Int) : ∀ l : List Int, (valV (kvsOf l) (Sum.inl x)).isSome = decide (x ∈ l)
  | [] => by simp [kvsOf, valV_nil]
  | a :: l => by
    by_cases e : a = x
    · have h : ((Sum.inl a : Key), V.bl true).1 = Sum.inl x := by rw [e]
      show (valV ((Sum.inl a, V.bl true) :: kvsOf l) (Sum.inl x)).isSome = _
      rw [valV_pos h]
      simp [e]
    · have h : ¬ ((Sum.inl a : Key), V.bl true).1 = Sum.inl x := fun z => e (Sum.inl.inj z)
      show (valV ((Sum.inl a, V.bl true) :: kvsOf l) (Sum.inl x)).isSome = _
      rw [valV_neg h, kvs_val x l]
      refine decide_eq_decide.mpr ?_
      rw [List.mem_cons]
      exact ⟨.inr, fun z => z.resolve_left fun q => e q.symm⟩
theorem kvs_snoc {x : Int} {l : List Int} (h : x ∉ l) : putK (kvsOf l) (Sum.inl x) (V.bl true) = kvsOf (l ++ [x]) := by
  have e := kvs_val x l
  rw [decide_eq_false h] at e
  rw [putK_new _ (show valV (kvsOf l) (Sum.inl x) = none by
    revert e
    generalize valV (kvsOf l) (Sum.inl x) = o
    intro e
    cases o with
    | none => rfl
    | some _ => cases e)]
  unfold kvsOf
  simp
theorem x_dnew {σ : L2.St} {H : Hp} {Q : VK} (k : ∀ d H', H d = none → Same H H' → H' d = some (.dK []) → Q (.ref d) H') : tDNewK σ H Q := fun d hd => k d _ hd (same_new hd) upd_same
theorem x_din {σ : L2.St} {H : Hp} {Q : VK} {ty td : TE} (k : ty σ H fun y H1 => td σ H1 fun x H2 => ∃ a o, x = .ref a ∧ DGet H2 a y o ∧ Q (.bl o.isSome) H2) : tDIn ty td σ H Q := k
theorem x_dink {H : Hp} {d : Addr} {l : List Int} {x : Int} {R : Option V → Prop} (h : H d = some (.dK (kvsOf l))) (k : ∀ o, o.isSome = decide (x ∈ l) → R o) : ∃ a o, V.ref d = .ref a ∧ DGet H a (.int x) o ∧ R o :=
  ⟨d, _, rfl, DGet.k (k := Sum.inl x) h, k _ (kvs_val x l)⟩
theorem x_dput {td ty tv : TE} {D : Ends} {σ : L2.St} {H : Hp} (k : tv σ H fun v H1 => td σ H1 fun x H2 => ty σ H2 fun y H3 => ∃ a H4, x = .ref a ∧ DPut H3 a y v H4 ∧ D.nx σ H4) : sDPut td ty tv D σ H := k
theorem x_dputk {H : Hp} {d : Addr} {l : List Int} {x : Int} {R : Hp → Prop} (h : H d = some (.dK (kvsOf l))) (hl : l.length ≤ 50000) (hx : x ∉ l) (k : R (upd H d (.dK (kvsOf (l ++ [x]))))) : ∃ a H4, V.ref d = .ref a ∧ DPut H a (.int x) (.bl true) H4 ∧ R H4 :=
  ⟨d, _, rfl, DPut.k (k := Sum.inl x) h (by unfold kvsOf; rw [List.length_map]; exact smallL (by omega)), by rw [kvs_snoc hx]; exact k⟩
def spIdx : Sp := fun vs H Q _ => ∃ (a f : Addr) (u : List Int) (fam : List (List Int)), vs = [.ref a, .ref f] ∧ LiAt H a u ∧ FamAt H f fam ∧ u.length ≤ 1000 ∧ fam.length ≤ 100 ∧ (∀ l ∈ fam, l.length ≤ 100) ∧ ∀ b H', (b = true ↔ Km.GF (· < ·) u.length fam) → Same H H' → Q (.bl b) H'
theorem lt_tr (a b c : Int) (h1 : a < b) (h2 : b < c) : a < c := by omega
theorem ok_is_index_family (T : Txt K mg) : Kd P w K mg base "is_index_family" ["word", "family"] 1 spIdx := by
  refine kd_of T.d_is_index_family sc_is_index_family (fun vs H Q E h => ?_) (fun f cdv A outer s H vs Q E hr h => ?_)
  · obtain ⟨a, f, u, fam, rfl, _⟩ := h
    rfl
  · obtain ⟨a, f, u, fam, rfl, ha, ⟨as, ef, hf⟩, hu1, hl1, hl2, q⟩ := h
    have hu := hu_of hr
    have hlen := hf.len
    refine ⟨_, (pss_cons (ps_set (i := 2) sc_is_index_family.nd rfl (.inl rfl) pe_dnewK)
(pss_cons (ps_for PassesOwn.never rfl (pi_listK (K := K) rfl (pv 1)) (pg_name (i := 3) sc_is_index_family.nd rfl (.inl rfl))
(pss_one (ps_for PassesOwn.never rfl (pi_range1 (by rfl) T.n_range (pa_cons (pe_callB (n_lenK (K := K) rfl) (by rfl) T.n_len PySem.boot_len (pa_cons (pv 3) pa_nil)) pa_nil)) (pg_name (i := 4) sc_is_index_family.nd rfl (.inl rfl))
(pss_cons (ps_set (i := 5) sc_is_index_family.nd rfl (.inl rfl) (pe_ix (ix_listK (K := K) rfl) (pv 3) (pv 4) (fun _ _ => rfl)))
(pss_cons (ps_if (PW.pt (pw_or (pt_cmpR op_lt (pv 5) pe_int (nomark _)) (pw_or (pt_cmpR op_ge (pv 5) (pe_callB (n_lenK (K := K) rfl) (by rfl) T.n_len PySem.boot_len (pa_cons (pv 0) pa_nil)) (nomark _)) (pw_or1 (pt_cmp (pc_din hu (pv 5) (pv 2)))))))
(pss_one (ps_ret pe_bl))
pss_nil)
(pss_cons (ps_if (PW.pt (pw_and (pt_cmpR op_gt (pv 4) pe_int (nomark _)) (pw_and1 (pt_cmpR op_le (pv 5) (pe_ix (ix_listK (K := K) rfl) (pv 3) (pe_op op_sub (pv 4) pe_int) (fun _ _ => rfl)) (nomark _)))))
(pss_one (ps_ret pe_bl))
pss_nil)
(pss_one (ps_dput hu (pv 2) (pv 5) pe_bl rfl))))))))
(pss_one (ps_ret pe_bl)))), ?_⟩
    refine st_lit (σ' := [some (V.ref a), some (V.ref f), none, none, none, none]) rfl ?_
    walk_at "x"
    refine x_dnew fun d H1 n1 s1 e1 => ?_
    walk_at "x"
    refine x_for (x_pl ?_)
    walk_at "x"
    refine x_pln (s1 _ _ ef) ?_
    refine for_list (K := K) (a := f) (xs := refs as) (fun i σ H' => ∃ (v3 v4 v5 : Option V), σ = [some (.ref a), some (.ref f), some (.ref d), v3, v4, v5] ∧ Same H H' ∧ H' d = some (.dK (kvsOf (fam.take i).flatten)) ∧ Km.GF (· < ·) u.length (fam.take i))
      ⟨none, none, none, rfl, s1, e1, Km.GF.zero⟩ (fun i σ H' _ h => by obtain ⟨_, _, _, _, s2, _⟩ := h; exact SqL.of (s2 _ _ ef)) ?_ ?_
    · rintro i x σ H' hx ⟨v3, v4, v5, rfl, s2, e2, G⟩
      obtain ⟨p, rfl, hp⟩ := refs_get' hx
      obtain ⟨l, hl, rl⟩ := hf.get' hp
      have hll := hl2 l (List.mem_of_getElem? hl)
      have hil : i < fam.length := (List.getElem?_eq_some_iff.mp hl).1
      have rl2 : H' p = some (.lst (l.map V.int)) := rl.mono s2
      have ha2 : H' a = some (.lst (u.map V.int)) := ha.mono s2
      walk_at "x"
      refine x_for (x_r1 ?_)
      walk_at "x"
      rw [ints_len]
      refine x_r1n (n := l.length) (by omega) ?_
      rw [Int.toNat_natCast]
      refine for_range (fun j σ H' => ∃ (v4 v5 : Option V), σ = [some (.ref a), some (.ref f), some (.ref d), some (.ref p), v4, v5] ∧ Same H H' ∧ H' d = some (.dK (kvsOf ((fam.take i).flatten ++ l.take j))) ∧ Km.GF (· < ·) u.length (fam.take i ++ [l.take j]))
        ⟨v4, v5, rfl, s2, by simpa using e2, by simpa using G.open_⟩ ?_ ?_
      · rintro j σ H3 hj ⟨v4, v5, rfl, s3, e3, G3⟩
        have ej := List.getElem?_eq_getElem hj
        have rl3 : H3 p = some (.lst (l.map V.int)) := rl.mono s3
        have ha3 : H3 a = some (.lst (u.map V.int)) := ha.mono s3
        have flen : ((fam.take i).flatten ++ l.take j).length ≤ 50000 := by
          have := Km.flat_len (fam := fam.take i) (a := 100) (b := 100) (by rw [List.length_take]; omega) fun k hk => hl2 k (List.mem_of_mem_take hk)
          rw [List.length_append, List.length_take]
          omega
        have stop : ∀ {Pr : Prop}, (Km.GF (· < ·) u.length fam → Pr) → ¬ Pr → Q (.bl false) H3 := fun f1 f2 => q false H3 ⟨fun z => (Bool.false_ne_true z).elim, fun z => absurd (f1 z) f2⟩ s3
        rw [Int.zero_add]
        walk_at "x"
        refine x_ixL rl3 (atI_ints ej) ?_
        generalize l[j] = x at *
        walk_at "x"
        have putx : (∀ y, (l.take j).getLast? = some y → y < x) → 0 ≤ x ∧ x < u.length → x ∉ (fam.take i).flatten ++ l.take j → ∃ v4' v5' : Option V, [some (V.ref a), some (.ref f), some (.ref d), some (.ref p), some (.int j), some (.int x)] = [some (.ref a), some (.ref f), some (.ref d), some (.ref p), v4', v5'] ∧ Same H (upd H3 d (.dK (kvsOf ((fam.take i).flatten ++ l.take j ++ [x])))) ∧ upd H3 d (.dK (kvsOf ((fam.take i).flatten ++ l.take j ++ [x]))) d = some (.dK (kvsOf ((fam.take i).flatten ++ l.take (j + 1)))) ∧ Km.GF (· < ·) u.length (fam.take i ++ [l.take (j + 1)]) := fun hy h0 hx => by
          refine ⟨_, _, rfl, same_mut s3 n1, ?_, ?_⟩
          · rw [upd_same, take_snoc ej, List.append_assoc]
          · rw [take_snoc ej]
            exact G3.step lt_tr h0 hx hy
        refine x_ite (fun h => ?_) (fun h => ?_)
        · walk_at "x"
          exact stop (fun z => (z.at_ hl ej).1.1) (by omega)
        · walk_at "x"
          rw [ints_len]
          refine x_ite (fun h2 => ?_) (fun h2 => ?_)
          · walk_at "x"
            exact stop (fun z => (z.at_ hl ej).1.2) (by omega)
          · walk_at "x"
            refine x_din ?_
            walk_at "x"
            refine x_dink e3 fun o ho => ?_
            rw [ho]
            walk_at "x"
            refine x_ite (fun h4 => ?_) (fun h4 => ?_)
            · walk_at "x"
              exact stop (fun z => (z.at_ hl ej).2.1) (fun z => z h4)
            · walk_at "x"
              refine x_ite (fun h5 => ?_) (fun h5 => ?_)
              · have hj1 : j - 1 < l.length := by omega
                have elast : (l.take j).getLast? = some l[j - 1] := by rw [Km.last_take (by omega) (by omega), List.getElem?_eq_getElem hj1]
                walk_at "x"
                rw [show ((j : Int) - 1) = ((j - 1 : Nat) : Int) by omega]
                refine x_ixL rl3 (atI_ints (List.getElem?_eq_getElem hj1)) ?_
                generalize l[j - 1] = y at *
                walk_at "x"
                refine x_ite (fun h6 => ?_) (fun h6 => ?_)
                · walk_at "x"
                  exact stop (fun z => (z.at_ hl ej).2.2 y elast) (by omega)
                · walk_at "x"
                  refine x_dput ?_
                  walk_at "x"
                  refine x_dputk e3 flen h4 ?_
                  exact putx (fun y' e => by rw [elast] at e; cases e; omega) (by omega) h4
              · walk_at "x"
                refine x_dput ?_
                walk_at "x"
                refine x_dputk e3 flen h4 ?_
                exact putx (fun y' e => by rw [show j = 0 by omega] at e; simp at e) (by omega) h4
      · rintro σ H3 ⟨v4, v5, rfl, s3, e3, G3⟩
        rw [List.take_length] at e3 G3
        refine ⟨_, _, _, rfl, s3, ?_, ?_⟩
        · rw [take_snoc hl, List.flatten_append]
          simpa using e3
        · rw [take_snoc hl]
          exact G3
    · rintro σ H' ⟨v3, v4, v5, rfl, s2, e2, G⟩
      rw [refs_len, hlen, List.take_length] at G
      walk_at "x"
      exact q true H' ⟨fun _ => G, fun _ => rfl⟩ s2
end
section
local macro_rules | `(tactic| walk_at "set") => `(tactic| first | exact set0 | (apply setS; walk_at "set"))
local macro_rules | `(tactic| walk_at "h") => `(tactic| first | assumption | (refine Same.lk (by assumption) ?_; walk_at "h"))
local macro_rules | `(tactic| walk_at "x1") => `(tactic| first
  | ((with_reducible show tVar _ _ _ _); refine x_var rfl ?_)
  | ((with_reducible show tC _ _ _ _); refine x_c ?_)
  | ((with_reducible show tOp _ _ _ _ _ _); refine x_op ?_)
  | ((with_reducible show tSeq _ _ _ _ _); refine x_seq ?_)
  | ((with_reducible show tAsg _ _ _ _ _); refine x_asg ?_)
  | ((with_reducible show gName _ _ _ _ _); refine x_name2 (by walk_at "set") ?_)
  | ((with_reducible show tCons _ _ _ _ _); refine x_cons ?_)
  | ((with_reducible show tNil _ _ _); refine x_nil ?_)
  | ((with_reducible show rI0 _ (V.int _) (V.int _) _ _); refine x_rI0 ?_)
  | ((with_reducible show tCB _ _ _ _ _); refine x_cb ?_)
  | ((with_reducible show tCall _ [] E0 _ _ _ _); refine x_call ?_)
  | ((with_reducible show rIxT _ _ _ _ _); refine x_ixT (by walk_at "h") (by rfl) ?_)
  | ((with_reducible show rLenQ _ _ _ _); refine x_lenL (by walk_at "h") ?_)
  | ((with_reducible show rLenQ _ _ _ _); refine x_lenT (by walk_at "h") ?_)
  | ((with_reducible show tIfS _ _ _ _ _ _); refine x_if ?_)
  | ((with_reducible show tTest _ _ _ _); refine x_test ?_)
  | ((with_reducible show tB _ _ _ _); refine x_tB ?_)
  | ((with_reducible show tYes _ _ _); refine x_yes ?_)
  | ((with_reducible show gTup _ _ _ (V.ref _) _ _ _); refine x_gtup (by walk_at "h") (by rfl) ?_)
  | ((with_reducible show gCons _ _ (_ :: _) _ _ _); refine x_gcons ?_)
  | ((with_reducible show gNil [] _ _ _); refine x_gnil ?_)
  | ((with_reducible show tPar _ _ _ _ _ _); refine x_par ?_)
  | ((with_reducible show Ends.nx _ _ _); dsimp only)
  | (with_reducible refine x_bl ?_)
  | (with_reducible refine x_T ?_)
  | (with_reducible refine x_nT ?_)
  | (with_reducible refine x_nF ?_)
  | (with_reducible refine x_F ?_)
  | ((with_reducible show rEq _ _ _ _); refine x_eq rfl ?_)
  | ((with_reducible show rNe _ _ _ _); refine x_ne rfl ?_)
  | ((with_reducible show rIsNn _ _ _ _); refine x_isN ?_)
  | ((with_reducible show tRet _ _ _ _); refine x_ret ?_)
  | ((with_reducible show tNext _ _ _); refine x_next ?_)
  | ((with_reducible show tRetN _ _ _); refine x_retN ?_)
  | ((with_reducible show tDrop _ _ _ _); refine x_drop ?_)
  | ((with_reducible show tTup _ _ _ _); refine x_tup ?_)
  | ((with_reducible show tLst _ _ _ _); refine x_lst ?_)
  | ((with_reducible show tUn _ _ _ _ _); refine x_un ?_)
  | ((with_reducible show rU _ (V.int _) _ _); refine x_rU ?_)
  | ((with_reducible show tNot _ _ _ _); refine x_notT ?_)
  | ((with_reducible show tAnd _ _ _ _ _); refine x_and ?_)
  | ((with_reducible show tOr _ _ _ _ _); refine x_or ?_)
  | ((with_reducible show tSl _ _ _ _ _ _ _); refine x_sl ?_)
  | ((with_reducible show tNoPart _ _ _); refine x_noP ?_)
  | ((with_reducible show tPart _ _ _ _); refine x_part ?_)
  | (with_reducible refine x_pi ?_)
  | ((with_reducible show tBM _ _ _ _ _ _ _ _); refine x_bm ?_)
  | ((with_reducible show tyV _ "list" _ _ ∧ _); refine x_tyL (by walk_at "h") ?_)
  | ((with_reducible show gSub _ _ _ _ _ _ _); refine x_sub ?_)
  | ((with_reducible show rInt1 [V.int _] _ _); refine x_int ?_)
  | ((with_reducible show rInt1 [V.bl _] _ _); refine x_intB ?_)
  | ((with_reducible show rMin2 _ _ _); refine x_min ?_)
  | ((with_reducible show rMax2 _ _ _); refine x_max ?_))
local macro_rules | `(tactic| walk_at "x") => `(tactic| (repeat walk_at "x1"))
variable {P : Program} {w : World} {K : PySem.W.Frag} {mg : Str → Option Value} {base : Heap}
theorem x_b' {A B : Prop} {b : Bool} (h1 : b = false → A) (h2 : b = true → B) : if (!b) = true then A else B := by
  cases b
  · exact x_T (h1 rfl)
  · exact x_F (h2 rfl)
theorem x_r2 {σ : L2.St} {H : Hp} {R : It → Hp → Prop} {ta : TA} (k : ta σ H fun vs H1 => ∃ i j : Int, vs = [.int i, .int j] ∧ (-(2 ^ 62) ≤ i ∧ i < 2 ^ 62 ∧ -(2 ^ 62) ≤ j ∧ j < 2 ^ 62) ∧ R (Itr i (j - i).toNat) H1) : iRng2 ta σ H R := k
theorem x_r2n {i n : Nat} {R : Int → Int → Prop} (h : i ≤ 100000 ∧ n ≤ 100000) (k : R i n) : ∃ i' j' : Int, [V.int (i : Int), V.int (n : Int)] = [.int i', .int j'] ∧ (-(2 ^ 62) ≤ i' ∧ i' < 2 ^ 62 ∧ -(2 ^ 62) ≤ j' ∧ j' < 2 ^ 62) ∧ R i' j' := ⟨i, n, rfl, ⟨by omega, by omega, by omega, by omega⟩, k⟩
theorem atI_wat {u : List Int} {x : Int} (h : 0 ≤ x ∧ x < u.length) : atI (u.map V.int) x = some (.int (Km.wat u x)) := by
  obtain ⟨k, rfl⟩ : ∃ k : Nat, x = k := ⟨x.toNat, by omega⟩
  have hk : k < u.length := by omega
  have e := List.getElem?_eq_getElem hk
  rw [atI_ints e, Km.wat_some e]
def spFam (fa : Bool) : Sp := fun vs H Q _ => ∃ (a f : Addr) (u : List Int) (fam : List (List Int)), vs = [.ref a, .ref f] ∧ LiAt H a u ∧ FamAt H f fam ∧ u.length ≤ 1000 ∧ fam.length ≤ 100 ∧ (∀ l ∈ fam, l.length ≤ 100) ∧ ∀ b H', (b = true ↔ Km.FamOk fa u fam) → Same H H' → Q (.bl b) H'

theorem ok_is_rising_family (T : Txt K mg) : Kd P w K mg base "is_rising_family" ["word", "family"] 2 (spFam false) := by
  refine kd_of T.d_is_rising_family sc_is_rising_family (fun vs H Q E h => ?_) (fun f cdv A outer s H vs Q E hr h => ?_)
  · obtain ⟨a, f, u, fam, rfl, _⟩ := h
    rfl
  · obtain ⟨a, f, u, fam, rfl, ha, ⟨as, ef, hf⟩, hu1, hl1, hl2, q⟩ := h
    have hlen := hf.len
    refine ⟨_, (pss_cons (ps_if (pt_not (pt_val (pe_kd (ok_is_index_family T) (hr.mono (by decide)) (by rfl) (pa_cons (pv 0) (pa_cons (pv 1) pa_nil)))))
(pss_one (ps_ret pe_bl))
pss_nil)
(pss_cons (ps_for PassesOwn.never rfl (pi_listK (K := K) rfl (pv 1)) (pg_name (i := 2) sc_is_rising_family.nd rfl (.inl rfl))
(pss_one (ps_for PassesOwn.never rfl (pi_range2 (by rfl) T.n_range (pa_cons pe_int (pa_cons (pe_callB (n_lenK (K := K) rfl) (by rfl) T.n_len PySem.boot_len (pa_cons (pv 2) pa_nil)) pa_nil))) (pg_name (i := 3) sc_is_rising_family.nd rfl (.inl rfl))
(pss_one (ps_if (pt_cmpR op_lt (pe_ix (ix_listK (K := K) rfl) (pv 0) (pe_ix (ix_listK (K := K) rfl) (pv 2) (pv 3) (fun _ _ => rfl)) (fun _ _ => rfl)) (pe_ix (ix_listK (K := K) rfl) (pv 0) (pe_ix (ix_listK (K := K) rfl) (pv 2) (pe_op op_sub (pv 3) pe_int) (fun _ _ => rfl)) (fun _ _ => rfl)) (nomark _))
(pss_one (ps_ret pe_bl))
pss_nil)))))
(pss_one (ps_ret pe_bl)))), ?_⟩
    refine st_lit (σ' := [some (V.ref a), some (V.ref f), none, none]) rfl ?_
    walk_at "x"
    refine ⟨a, f, u, fam, rfl, ha, ⟨as, ef, hf⟩, hu1, hl1, hl2, fun b H1 hb s1 => ?_⟩
    walk_at "x"
    refine x_b' (fun h => ?_) (fun h => ?_)
    · walk_at "x"
      exact q false H1 ⟨fun z => (Bool.false_ne_true z).elim, fun z => absurd (hb.mpr z.gf) (by rw [h]; exact Bool.false_ne_true)⟩ s1
    have G := hb.mp h
    walk_at "x"
    refine x_for (x_pl ?_)
    walk_at "x"
    refine x_pln (s1 _ _ ef) ?_
    refine for_list (K := K) (a := f) (xs := refs as) (fun i σ H' => ∃ (v2 v3 : Option V), σ = [some (.ref a), some (.ref f), v2, v3] ∧ H' = H1 ∧ ∀ l ∈ fam.take i, ∀ (j : Nat) y x, l[j]? = some y → l[j + 1]? = some x → Km.rel false (Km.wat u y) (Km.wat u x))
      ⟨none, none, rfl, rfl, fun l hl => by simp at hl⟩ (fun i σ H' _ h => by obtain ⟨_, _, _, rfl, _⟩ := h; exact SqL.of (s1 _ _ ef)) ?_ ?_
    · rintro i x σ H' hx ⟨v2, v3, rfl, rfl, hA⟩
      obtain ⟨p, rfl, hp⟩ := refs_get' hx
      obtain ⟨l, hl, rl⟩ := hf.get' hp
      have hlm := List.mem_of_getElem? hl
      have hll := hl2 l hlm
      have rl2 : H' p = some (.lst (l.map V.int)) := rl.mono s1
      have ha2 : H' a = some (.lst (u.map V.int)) := ha.mono s1
      have rg : ∀ (k : Nat) x, l[k]? = some x → 0 ≤ x ∧ x < u.length := fun k x e => G.rg x (List.mem_flatten.mpr ⟨l, hlm, List.mem_of_getElem? e⟩)
      walk_at "x"
      refine x_for (x_r2 ?_)
      walk_at "x"
      rw [ints_len]
      refine x_r2n (i := 1) (n := l.length) (by omega) ?_
      refine for_range (fun j σ H3 => ∃ (v3 : Option V), σ = [some (.ref a), some (.ref f), some (.ref p), v3] ∧ H3 = H' ∧ ∀ (k : Nat) y x, k < j → l[k]? = some y → l[k + 1]? = some x → Km.rel false (Km.wat u y) (Km.wat u x))
        ⟨v3, rfl, rfl, fun k y x h => by omega⟩ ?_ ?_
      · rintro j σ H3 hj ⟨v3, rfl, rfl, hB⟩
        have hj1 : j + 1 < l.length := by omega
        have hj0 : j < l.length := by omega
        have e1 := List.getElem?_eq_getElem hj1
        have e0 := List.getElem?_eq_getElem hj0
        generalize l[j + 1] = x at *
        generalize l[j] = y at *
        rw [show (((1 : Nat) : Int) + (j : Int)) = ((j + 1 : Nat) : Int) by omega]
        walk_at "x"
        refine x_ixL rl2 (atI_ints e1) ?_
        refine x_ixL ha2 (atI_wat (rg _ _ e1)) ?_
        walk_at "x"
        rw [show (((j + 1 : Nat) : Int) - 1) = (j : Int) by omega]
        refine x_ixL rl2 (atI_ints e0) ?_
        refine x_ixL ha2 (atI_wat (rg _ _ e0)) ?_
        walk_at "x"
        refine x_ite (fun h2 => ?_) (fun h2 => ?_)
        · walk_at "x"
          refine q false H3 ⟨fun z => (Bool.false_ne_true z).elim, fun z => ?_⟩ s1
          have r := (Km.adj_pw (z.inc l hlm) e0 e1).2
          rw [Km.rel_f] at r
          omega
        · walk_at "x"
          refine ⟨_, rfl, rfl, fun k y' x' hk ek0 ek1 => ?_⟩
          by_cases ej : k = j
          · subst ej
            rw [e0] at ek0
            rw [e1] at ek1
            cases ek0
            cases ek1
            rw [Km.rel_f]
            omega
          · exact hB k y' x' (by omega) ek0 ek1
      · rintro σ H3 ⟨v3, rfl, rfl, hB⟩
        refine ⟨_, _, rfl, rfl, fun l' hl' => ?_⟩
        rw [take_snoc hl] at hl'
        rcases List.mem_append.mp hl' with z | z
        · exact hA l' z
        · rw [List.mem_singleton.mp z]
          exact fun k y x e0 e1 => hB k y x (by have := (List.getElem?_eq_some_iff.mp e1).1; omega) e0 e1
    · rintro σ H' ⟨v2, v3, rfl, rfl, hA⟩
      rw [refs_len, hlen, List.take_length] at hA
      walk_at "x"
      exact q true H' ⟨fun _ => Km.gf_adj G hA, fun _ => rfl⟩ s1

theorem ok_is_falling_family (T : Txt K mg) : Kd P w K mg base "is_falling_family" ["word", "family"] 2 (spFam true) := by
  refine kd_of T.d_is_falling_family sc_is_falling_family (fun vs H Q E h => ?_) (fun f cdv A outer s H vs Q E hr h => ?_)
  · obtain ⟨a, f, u, fam, rfl, _⟩ := h
    rfl
  · obtain ⟨a, f, u, fam, rfl, ha, ⟨as, ef, hf⟩, hu1, hl1, hl2, q⟩ := h
    have hlen := hf.len
    refine ⟨_, (pss_cons (ps_if (pt_not (pt_val (pe_kd (ok_is_index_family T) (hr.mono (by decide)) (by rfl) (pa_cons (pv 0) (pa_cons (pv 1) pa_nil)))))
(pss_one (ps_ret pe_bl))
pss_nil)
(pss_cons (ps_for PassesOwn.never rfl (pi_listK (K := K) rfl (pv 1)) (pg_name (i := 2) sc_is_falling_family.nd rfl (.inl rfl))
(pss_one (ps_for PassesOwn.never rfl (pi_range2 (by rfl) T.n_range (pa_cons pe_int (pa_cons (pe_callB (n_lenK (K := K) rfl) (by rfl) T.n_len PySem.boot_len (pa_cons (pv 2) pa_nil)) pa_nil))) (pg_name (i := 3) sc_is_falling_family.nd rfl (.inl rfl))
(pss_one (ps_if (pt_cmpR op_ge (pe_ix (ix_listK (K := K) rfl) (pv 0) (pe_ix (ix_listK (K := K) rfl) (pv 2) (pv 3) (fun _ _ => rfl)) (fun _ _ => rfl)) (pe_ix (ix_listK (K := K) rfl) (pv 0) (pe_ix (ix_listK (K := K) rfl) (pv 2) (pe_op op_sub (pv 3) pe_int) (fun _ _ => rfl)) (fun _ _ => rfl)) (nomark _))
(pss_one (ps_ret pe_bl))
pss_nil)))))
(pss_one (ps_ret pe_bl)))), ?_⟩
    refine st_lit (σ' := [some (V.ref a), some (V.ref f), none, none]) rfl ?_
    walk_at "x"
    refine ⟨a, f, u, fam, rfl, ha, ⟨as, ef, hf⟩, hu1, hl1, hl2, fun b H1 hb s1 => ?_⟩
    walk_at "x"
    refine x_b' (fun h => ?_) (fun h => ?_)
    · walk_at "x"
      exact q false H1 ⟨fun z => (Bool.false_ne_true z).elim, fun z => absurd (hb.mpr z.gf) (by rw [h]; exact Bool.false_ne_true)⟩ s1
    have G := hb.mp h
    walk_at "x"
    refine x_for (x_pl ?_)
    walk_at "x"
    refine x_pln (s1 _ _ ef) ?_
    refine for_list (K := K) (a := f) (xs := refs as) (fun i σ H' => ∃ (v2 v3 : Option V), σ = [some (.ref a), some (.ref f), v2, v3] ∧ H' = H1 ∧ ∀ l ∈ fam.take i, ∀ (j : Nat) y x, l[j]? = some y → l[j + 1]? = some x → Km.rel true (Km.wat u y) (Km.wat u x))
      ⟨none, none, rfl, rfl, fun l hl => by simp at hl⟩ (fun i σ H' _ h => by obtain ⟨_, _, _, rfl, _⟩ := h; exact SqL.of (s1 _ _ ef)) ?_ ?_
    · rintro i x σ H' hx ⟨v2, v3, rfl, rfl, hA⟩
      obtain ⟨p, rfl, hp⟩ := refs_get' hx
      obtain ⟨l, hl, rl⟩ := hf.get' hp
      have hlm := List.mem_of_getElem? hl
      have hll := hl2 l hlm
      have rl2 : H' p = some (.lst (l.map V.int)) := rl.mono s1
      have ha2 : H' a = some (.lst (u.map V.int)) := ha.mono s1
      have rg : ∀ (k : Nat) x, l[k]? = some x → 0 ≤ x ∧ x < u.length := fun k x e => G.rg x (List.mem_flatten.mpr ⟨l, hlm, List.mem_of_getElem? e⟩)
      walk_at "x"
      refine x_for (x_r2 ?_)
      walk_at "x"
      rw [ints_len]
      refine x_r2n (i := 1) (n := l.length) (by omega) ?_
      refine for_range (fun j σ H3 => ∃ (v3 : Option V), σ = [some (.ref a), some (.ref f), some (.ref p), v3] ∧ H3 = H' ∧ ∀ (k : Nat) y x, k < j → l[k]? = some y → l[k + 1]? = some x → Km.rel true (Km.wat u y) (Km.wat u x))
        ⟨v3, rfl, rfl, fun k y x h => by omega⟩ ?_ ?_
      · rintro j σ H3 hj ⟨v3, rfl, rfl, hB⟩
        have hj1 : j + 1 < l.length := by omega
        have hj0 : j < l.length := by omega
        have e1 := List.getElem?_eq_getElem hj1
        have e0 := List.getElem?_eq_getElem hj0
        generalize l[j + 1] = x at *
        generalize l[j] = y at *
        rw [show (((1 : Nat) : Int) + (j : Int)) = ((j + 1 : Nat) : Int) by omega]
        walk_at "x"
        refine x_ixL rl2 (atI_ints e1) ?_
        refine x_ixL ha2 (atI_wat (rg _ _ e1)) ?_
        walk_at "x"
        rw [show (((j + 1 : Nat) : Int) - 1) = (j : Int) by omega]
        refine x_ixL rl2 (atI_ints e0) ?_
        refine x_ixL ha2 (atI_wat (rg _ _ e0)) ?_
        walk_at "x"
        refine x_ite (fun h2 => ?_) (fun h2 => ?_)
        · walk_at "x"
          refine q false H3 ⟨fun z => (Bool.false_ne_true z).elim, fun z => ?_⟩ s1
          have r := (Km.adj_pw (z.inc l hlm) e0 e1).2
          rw [Km.rel_t] at r
          omega
        · walk_at "x"
          refine ⟨_, rfl, rfl, fun k y' x' hk ek0 ek1 => ?_⟩
          by_cases ej : k = j
          · subst ej
            rw [e0] at ek0
            rw [e1] at ek1
            cases ek0
            cases ek1
            rw [Km.rel_t]
            omega
          · exact hB k y' x' (by omega) ek0 ek1
      · rintro σ H3 ⟨v3, rfl, rfl, hB⟩
        refine ⟨_, _, rfl, rfl, fun l' hl' => ?_⟩
        rw [take_snoc hl] at hl'
        rcases List.mem_append.mp hl' with z | z
        · exact hA l' z
        · rw [List.mem_singleton.mp z]
          exact fun k y x e0 e1 => hB k y x (by have := (List.getElem?_eq_some_iff.mp e1).1; omega) e0 e1
    · rintro σ H' ⟨v2, v3, rfl, rfl, hA⟩
      rw [refs_len, hlen, List.take_length] at hA
      walk_at "x"
      exact q true H' ⟨fun _ => Km.gf_adj G hA, fun _ => rfl⟩ s1
end
section
local macro_rules | `(tactic| walk_at "set") => `(tactic| first | exact set0 | (apply setS; walk_at "set"))
local macro_rules | `(tactic| walk_at "h") => `(tactic| first | assumption | (refine Same.lk (by assumption) ?_; walk_at "h"))
local macro_rules | `(tactic| walk_at "x1") => `(tactic| first
  | ((with_reducible show tVar _ _ _ _); refine x_var rfl ?_)
  | ((with_reducible show tC _ _ _ _); refine x_c ?_)
  | ((with_reducible show tOp _ _ _ _ _ _); refine x_op ?_)
  | ((with_reducible show tSeq _ _ _ _ _); refine x_seq ?_)
  | ((with_reducible show tAsg _ _ _ _ _); refine x_asg ?_)
  | ((with_reducible show gName _ _ _ _ _); refine x_name2 (by walk_at "set") ?_)
  | ((with_reducible show tCons _ _ _ _ _); refine x_cons ?_)
  | ((with_reducible show tNil _ _ _); refine x_nil ?_)
  | ((with_reducible show rI0 _ (V.int _) (V.int _) _ _); refine x_rI0 ?_)
  | ((with_reducible show tCB _ _ _ _ _); refine x_cb ?_)
  | ((with_reducible show tCall _ [] E0 _ _ _ _); refine x_call ?_)
  | ((with_reducible show rIxT _ _ _ _ _); refine x_ixT (by walk_at "h") (by rfl) ?_)
  | ((with_reducible show rLenQ _ _ _ _); refine x_lenL (by walk_at "h") ?_)
  | ((with_reducible show rLenQ _ _ _ _); refine x_lenT (by walk_at "h") ?_)
  | ((with_reducible show tIfS _ _ _ _ _ _); refine x_if ?_)
  | ((with_reducible show tTest _ _ _ _); refine x_test ?_)
  | ((with_reducible show tB _ _ _ _); refine x_tB ?_)
  | ((with_reducible show tYes _ _ _); refine x_yes ?_)
  | ((with_reducible show gTup _ _ _ (V.ref _) _ _ _); refine x_gtup (by walk_at "h") (by rfl) ?_)
  | ((with_reducible show gCons _ _ (_ :: _) _ _ _); refine x_gcons ?_)
  | ((with_reducible show gNil [] _ _ _); refine x_gnil ?_)
  | ((with_reducible show tPar _ _ _ _ _ _); refine x_par ?_)
  | ((with_reducible show Ends.nx _ _ _); dsimp only)
  | (with_reducible refine x_bl ?_)
  | (with_reducible refine x_T ?_)
  | (with_reducible refine x_nT ?_)
  | (with_reducible refine x_nF ?_)
  | (with_reducible refine x_F ?_)
  | ((with_reducible show rEq _ _ _ _); refine x_eq rfl ?_)
  | ((with_reducible show rNe _ _ _ _); refine x_ne rfl ?_)
  | ((with_reducible show rIsNn _ _ _ _); refine x_isN ?_)
  | ((with_reducible show tRet _ _ _ _); refine x_ret ?_)
  | ((with_reducible show tNext _ _ _); refine x_next ?_)
  | ((with_reducible show tRetN _ _ _); refine x_retN ?_)
  | ((with_reducible show tDrop _ _ _ _); refine x_drop ?_)
  | ((with_reducible show tTup _ _ _ _); refine x_tup ?_)
  | ((with_reducible show tLst _ _ _ _); refine x_lst ?_)
  | ((with_reducible show tUn _ _ _ _ _); refine x_un ?_)
  | ((with_reducible show rU _ (V.int _) _ _); refine x_rU ?_)
  | ((with_reducible show tNot _ _ _ _); refine x_notT ?_)
  | ((with_reducible show tAnd _ _ _ _ _); refine x_and ?_)
  | ((with_reducible show tOr _ _ _ _ _); refine x_or ?_)
  | ((with_reducible show tSl _ _ _ _ _ _ _); refine x_sl ?_)
  | ((with_reducible show tNoPart _ _ _); refine x_noP ?_)
  | ((with_reducible show tPart _ _ _ _); refine x_part ?_)
  | (with_reducible refine x_pi ?_)
  | ((with_reducible show tBM _ _ _ _ _ _ _ _); refine x_bm ?_)
  | ((with_reducible show tyV _ "list" _ _ ∧ _); refine x_tyL (by walk_at "h") ?_)
  | ((with_reducible show gSub _ _ _ _ _ _ _); refine x_sub ?_)
  | ((with_reducible show rInt1 [V.int _] _ _); refine x_int ?_)
  | ((with_reducible show rInt1 [V.bl _] _ _); refine x_intB ?_)
  | ((with_reducible show rMin2 _ _ _); refine x_min ?_)
  | ((with_reducible show rMax2 _ _ _); refine x_max ?_))
local macro_rules | `(tactic| walk_at "x") => `(tactic| (repeat walk_at "x1"))
section
variable {K : PySem.W.Frag} {σ : L2.St} {H : Hp} {Q : VK} {ta tb : TE} {tr : TA}
theorem x_andV (k : ta σ H fun x H1 => ∃ c, x = .bl c ∧ if c = true then tb σ H1 Q else Q (.bl false) H1) : tAndV ta tb σ H Q := k
theorem x_orV (k : ta σ H fun x H1 => ∃ c, x = .bl c ∧ if c = true then Q (.bl true) H1 else tb σ H1 Q) : tOrV ta tb σ H Q := k
theorem x_notV (k : ta σ H fun x H1 => ∃ c, x = .bl c ∧ Q (.bl (!c)) H1) : tNotV ta σ H Q := k
end
end
local macro_rules | `(tactic| walk_at "x1") => `(tactic| ((with_reducible show tAndV _ _ _ _ _); refine x_andV ?_))
local macro_rules | `(tactic| walk_at "x1") => `(tactic| ((with_reducible show tOrV _ _ _ _ _); refine x_orV ?_))
local macro_rules | `(tactic| walk_at "x1") => `(tactic| ((with_reducible show tNotV _ _ _ _); refine x_notV ?_))
local macro_rules | `(tactic| walk_at "y1") => `(tactic| ((fail_if_success (with_reducible show tSeq _ _ _ _ _)); walk_at "x1"))
local macro_rules | `(tactic| walk_at "y") => `(tactic| ((repeat walk_at "y1"); try dsimp only))
section
local macro_rules | `(tactic| walk_at "set") => `(tactic| first | exact set0 | (apply setS; walk_at "set"))
local macro_rules | `(tactic| walk_at "h") => `(tactic| first | assumption | (refine Same.lk (by assumption) ?_; walk_at "h"))
local macro_rules | `(tactic| walk_at "x1") => `(tactic| first
  | ((with_reducible show tVar _ _ _ _); refine x_var rfl ?_)
  | ((with_reducible show tC _ _ _ _); refine x_c ?_)
  | ((with_reducible show tOp _ _ _ _ _ _); refine x_op ?_)
  | ((with_reducible show tSeq _ _ _ _ _); refine x_seq ?_)
  | ((with_reducible show tAsg _ _ _ _ _); refine x_asg ?_)
  | ((with_reducible show gName _ _ _ _ _); refine x_name2 (by walk_at "set") ?_)
  | ((with_reducible show tCons _ _ _ _ _); refine x_cons ?_)
  | ((with_reducible show tNil _ _ _); refine x_nil ?_)
  | ((with_reducible show rI0 _ (V.int _) (V.int _) _ _); refine x_rI0 ?_)
  | ((with_reducible show tCB _ _ _ _ _); refine x_cb ?_)
  | ((with_reducible show tCall _ [] E0 _ _ _ _); refine x_call ?_)
  | ((with_reducible show rIxT _ _ _ _ _); refine x_ixT (by walk_at "h") (by rfl) ?_)
  | ((with_reducible show rLenQ _ _ _ _); refine x_lenL (by walk_at "h") ?_)
  | ((with_reducible show rLenQ _ _ _ _); refine x_lenT (by walk_at "h") ?_)
  | ((with_reducible show tIfS _ _ _ _ _ _); refine x_if ?_)
  | ((with_reducible show tTest _ _ _ _); refine x_test ?_)
  | ((with_reducible show tB _ _ _ _); refine x_tB ?_)
  | ((with_reducible show tYes _ _ _); refine x_yes ?_)
  | ((with_reducible show gTup _ _ _ (V.ref _) _ _ _); refine x_gtup (by walk_at "h") (by rfl) ?_)
  | ((with_reducible show gCons _ _ (_ :: _) _ _ _); refine x_gcons ?_)
  | ((with_reducible show gNil [] _ _ _); refine x_gnil ?_)
  | ((with_reducible show tPar _ _ _ _ _ _); refine x_par ?_)
  | ((with_reducible show Ends.nx _ _ _); dsimp only)
  | (with_reducible refine x_bl ?_)
  | (with_reducible refine x_T ?_)
  | (with_reducible refine x_nT ?_)
  | (with_reducible refine x_nF ?_)
  | (with_reducible refine x_F ?_)
  | ((with_reducible show rEq _ _ _ _); refine x_eq rfl ?_)
  | ((with_reducible show rNe _ _ _ _); refine x_ne rfl ?_)
  | ((with_reducible show rIsNn _ _ _ _); refine x_isN ?_)
  | ((with_reducible show tRet _ _ _ _); refine x_ret ?_)
  | ((with_reducible show tNext _ _ _); refine x_next ?_)
  | ((with_reducible show tRetN _ _ _); refine x_retN ?_)
  | ((with_reducible show tDrop _ _ _ _); refine x_drop ?_)
  | ((with_reducible show tTup _ _ _ _); refine x_tup ?_)
  | ((with_reducible show tLst _ _ _ _); refine x_lst ?_)
  | ((with_reducible show tUn _ _ _ _ _); refine x_un ?_)
  | ((with_reducible show rU _ (V.int _) _ _); refine x_rU ?_)
  | ((with_reducible show tNot _ _ _ _); refine x_notT ?_)
  | ((with_reducible show tAnd _ _ _ _ _); refine x_and ?_)
  | ((with_reducible show tOr _ _ _ _ _); refine x_or ?_)
  | ((with_reducible show tSl _ _ _ _ _ _ _); refine x_sl ?_)
  | ((with_reducible show tNoPart _ _ _); refine x_noP ?_)
  | ((with_reducible show tPart _ _ _ _); refine x_part ?_)
  | (with_reducible refine x_pi ?_)
  | ((with_reducible show tBM _ _ _ _ _ _ _ _); refine x_bm ?_)
  | ((with_reducible show tyV _ "list" _ _ ∧ _); refine x_tyL (by walk_at "h") ?_)
  | ((with_reducible show gSub _ _ _ _ _ _ _); refine x_sub ?_)
  | ((with_reducible show rInt1 [V.int _] _ _); refine x_int ?_)
  | ((with_reducible show rInt1 [V.bl _] _ _); refine x_intB ?_)
  | ((with_reducible show rMin2 _ _ _); refine x_min ?_)
  | ((with_reducible show rMax2 _ _ _); refine x_max ?_))
local macro_rules | `(tactic| walk_at "x") => `(tactic| (repeat walk_at "x1"))
local macro_rules | `(tactic| walk_at "x1") => `(tactic| ((with_reducible show tAndV _ _ _ _ _); refine x_andV ?_))
local macro_rules | `(tactic| walk_at "x1") => `(tactic| ((with_reducible show tOrV _ _ _ _ _); refine x_orV ?_))
local macro_rules | `(tactic| walk_at "x1") => `(tactic| ((with_reducible show tNotV _ _ _ _); refine x_notV ?_))
variable {P : Program} {w : World} {K : PySem.W.Frag} {mg : Str → Option Value} {base : Heap}
/-! ### a note -/
inductive Note where
  | content
  | cover (g : Int) (fam ris fal : List (List Int)) (sw : Bool)
def Fsm (fam : List (List Int)) : Prop := fam.length ≤ 100 ∧ ∀ l ∈ fam, l.length ≤ 100
def Note.small : Note → Prop
  | .content => True
  | .cover _ fam ris fal _ => Fsm fam ∧ Fsm ris ∧ Fsm fal
def Note.at_ (H : Hp) (t : Addr) : Note → Prop
  | .content => H t = some (.tup [.str "content"])
  | .cover g fam ris fal sw => ∃ f p r fl, H t = some (.tup [.str "cover", .int g, .ref f, .ref p, .bl sw]) ∧ H p = some (.tup [.ref r, .ref fl]) ∧ FamAt H f fam ∧ FamAt H r ris ∧ FamAt H fl fal
def Note.ok (u v : List Int) : Note → Prop
  | .content => ¬ u.Perm v
  | .cover g fam ris fal sw => Km.FamOk false (Km.upto g (if sw then v else u)) fam ∧ Km.FamOk false (Km.upto g (if sw then u else v)) ris ∧ Km.FamOk true (Km.upto g (if sw then u else v)) fal ∧
      Km.cov ris + Km.cov fal = (Km.upto g (if sw then u else v)).length + ris.length * fal.length ∧ fam.length = ris.length ∧ Km.cov ris < Km.cov fam
theorem Note.parts {u v : List Int} {n : Note} (h : n.ok u v) (e : Km.tabl u = Km.tabl v) : False := by
  cases n with
  | content => exact h (Km.tab_perm e)
  | cover g fam ris fal sw =>
    obtain ⟨h1, h2, h3, h4, h5, h6⟩ := h
    cases sw
    · exact Km.note_parts g e h1 h2 h3 h4 h5 h6
    · exact Km.note_parts g e.symm h1 h2 h3 h4 h5 h6
theorem Note.at_.mono {H H' : Hp} {t : Addr} {n : Note} (s : Same H H') (h : n.at_ H t) : n.at_ H' t := by
  cases n with
  | content => exact s _ _ h
  | cover g fam ris fal sw =>
    obtain ⟨f, p, r, fl, h1, h2, h3, h4, h5⟩ := h
    exact ⟨f, p, r, fl, s _ _ h1, s _ _ h2, h3.mono s, h4.mono s, h5.mono s⟩
theorem upto_len (g : Int) (u : List Int) : (Km.upto g u).length ≤ u.length := List.length_filter_le _ _
/-! ### the defs of families.py and profiles.py -/
def spCov : Sp := fun vs H Q _ => ∃ (f : Addr) (fam : List (List Int)), vs = [.ref f] ∧ FamAt H f fam ∧ Fsm fam ∧ ∀ H', Same H H' → Q (.int (Km.cov fam : Nat)) H'
theorem ok_cover (T : Txt K mg) : Kd P w K mg base "cover" ["family"] 1 spCov := by
  refine kd_of T.d_cover sc_cover (fun vs H Q E h => ?_) (fun f cdv A outer s H vs Q E hr h => ?_)
  · obtain ⟨f, fam, rfl, _⟩ := h
    rfl
  · obtain ⟨f, fam, rfl, ⟨as, ef, hf⟩, ⟨hl1, hl2⟩, q⟩ := h
    refine ⟨_, (pss_one (ps_ret (pe_callB (cr_sumK (K := K) rfl rfl) (by rfl) T.n_sum (by decide +kernel) (pa_cons (pe_lc (own := [("indexes", 1)]) (g := gName 1) (tt := tYes) rfl sc_cover.nd (pi_listK (K := K) rfl (pv 0)) (blkOk_by (own := [("indexes", 1)]) (N := ["family", "indexes"]) (sc := defScope s_cover) (by decide +kernel)) (fun _ _ _ _ _ => pg_name (i := 1) sc_cover.nd rfl (Or.inl rfl)) (fun _ _ _ _ _ => pts_nil) (fun _ _ _ _ _ => (pe_callB (n_lenK (K := K) rfl) (by rfl) T.n_len PySem.boot_len (pa_cons (pv 1) pa_nil)))) pa_nil)))), ?_⟩
    refine st_lit (σ' := [some (V.ref f), none]) rfl ?_
    obtain ⟨v, hv⟩ := lenOf_ex (R := LiAt) hf fun p l k => liAt_inj
    walk_at "x"
    refine lc_pureL (fun _ => true) v ef (by rw [refs_len, hf.len]; omega) (fun R r => ⟨_, rfl, r⟩) (fun x => rfl) (fun i x H1 R _ _ r => r) (fun i x H1 R hx _ s1 r => ?_) (fun D H1 hD s1 e1 => ?_)
    · obtain ⟨p, rfl, hp⟩ := refs_get' hx
      obtain ⟨l, hl, rl⟩ := hf.get' hp
      have rl1 : H1 p = some (.lst (l.map V.int)) := rl.mono s1
      walk_at "x"
      rw [hv i p l hp hl] at r
      rw [ints_len]
      exact r
    · have ev : (refs as).map v = (ni (Km.shp fam)).map V.int := by
        refine List.ext_getElem? fun i => ?_
        rw [List.getElem?_map]
        unfold refs ni Km.shp
        simp only [List.getElem?_map]
        cases e : as[i]? with
        | none =>
          have : fam[i]? = none := by rw [List.getElem?_eq_none_iff] at e ⊢; rw [← hf.len]; exact e
          rw [this]
          rfl
        | some p =>
          obtain ⟨l, hl, _⟩ := hf.get' e
          rw [hl]
          simp only [Option.map_some]
          rw [hv i p l e hl]
      rw [List.filter_eq_self.mpr (fun _ _ => rfl), ev] at e1
      walk_at "x"
      refine x_sumL (l := ni (Km.shp fam)) e1 ?_
      rw [ni_sum]
      exact q H1 s1
def spUp : Sp := fun vs H Q _ => ∃ (a : Addr) (u : List Int) (g : Int), vs = [.ref a, .int g] ∧ LiAt H a u ∧ u.length ≤ 1000 ∧ ∀ p H', H p = none → Same H H' → LiAt H' p (Km.upto g u) → Q (.ref p) H'
theorem up_map (g : Int) (u : List Int) : ((u.map V.int).filter (fun x => match x with | .int z => decide (z ≤ g) | _ => false)).map (fun x => x) = (Km.upto g u).map V.int := by
  rw [List.map_id', List.filter_map]
  rfl
theorem ok_letters_up_to (T : Txt K mg) : Kd P w K mg base "letters_up_to" ["word", "bound"] 1 spUp := by
  refine kd_of T.d_letters_up_to sc_letters_up_to (fun vs H Q E h => ?_) (fun f cdv A outer s H vs Q E hr h => ?_)
  · obtain ⟨a, u, g, rfl, _⟩ := h
    rfl
  · obtain ⟨a, u, g, rfl, ha, hl, q⟩ := h
    refine ⟨_, (pss_one (ps_ret (pe_lc (own := [("letter", 2)]) (g := gName 2) rfl sc_letters_up_to.nd (pi_listK (K := K) rfl (pv 0)) (blkOk_by (own := [("letter", 2)]) (N := ["word", "bound", "letter"]) (sc := defScope s_letters_up_to) (by decide +kernel)) (fun _ _ _ _ _ => pg_name (i := 2) sc_letters_up_to.nd rfl (Or.inl rfl)) (fun _ _ _ _ _ => pts_one (pt_cmpR op_le (pv 2) (pv 1) (nomark _))) (fun _ _ _ _ _ => (pv 2))))), ?_⟩
    refine st_lit (σ' := [some (V.ref a), some (V.int g), none]) rfl ?_
    walk_at "x"
    refine lc_pureL (xs := u.map V.int) (fun x => match x with | .int z => decide (z ≤ g) | _ => false) (fun x => x) ha (by rw [ints_len]; omega) (fun R r => ⟨_, rfl, r⟩) (fun x => rfl) (fun i x H1 R hx _ r => ?_) (fun i x H1 R hx _ s1 r => ?_) (fun D H1 hD s1 e1 => ?_)
    · obtain ⟨z, rfl, hz⟩ := ints_get' hx
      walk_at "x"
      exact r
    · walk_at "x"
      exact r
    · rw [up_map] at e1
      exact q D H1 hD s1 e1
theorem x_mul {a b : Nat} {H : Hp} {Q : VK} (ha : a ≤ 1000) (hb : b ≤ 1000) (k : Q (.int ((a : Int) * (b : Int))) H) : rI CMul (fun i j => V.int (i * j)) (.int (a : Int)) (.int (b : Int)) H Q := by
  exact x_rI (.inl ⟨by omega, by omega⟩) k
def spJudge : Sp := fun vs H Q _ => ∃ (a r f : Addr) (u : List Int) (ris fal : List (List Int)), vs = [.ref a, .ref r, .ref f] ∧ LiAt H a u ∧ FamAt H r ris ∧ FamAt H f fal ∧ u.length ≤ 1000 ∧ Fsm ris ∧ Fsm fal ∧
  ∀ b H', (b = true ↔ Km.FamOk false u ris ∧ Km.FamOk true u fal ∧ Km.cov ris + Km.cov fal = u.length + ris.length * fal.length) → Same H H' → Q (.bl b) H'
theorem ok_judge (T : Txt K mg) : Kd P w K mg base "judge" ["word", "rising", "falling"] 3 spJudge := by
  refine kd_of T.d_judge sc_judge (fun vs H Q E h => ?_) (fun f cdv A outer s H vs Q E hr h => ?_)
  · obtain ⟨a, r, f, u, ris, fal, rfl, _⟩ := h
    rfl
  · obtain ⟨a, r, f, u, ris, fal, rfl, ha, hr1, hf1, hl, z1, z2, q⟩ := h
    refine ⟨_, (pss_cons (ps_if (PW.pt (pw_or (pt_not (pt_val (pe_kd (ok_is_rising_family T) (hr.mono (by decide)) (by rfl) (pa_cons (pv 0) (pa_cons (pv 1) pa_nil))))) (pw_or1 (pt_not (pt_val (pe_kd (ok_is_falling_family T) (hr.mono (by decide)) (by rfl) (pa_cons (pv 0) (pa_cons (pv 2) pa_nil))))))))
(pss_one (ps_ret pe_bl))
pss_nil)
(pss_one (ps_ret (pe_cmpR op_eq (pe_op op_add (pe_kd (ok_cover T) (hr.mono (by decide)) (by rfl) (pa_cons (pv 1) pa_nil)) (pe_kd (ok_cover T) (hr.mono (by decide)) (by rfl) (pa_cons (pv 2) pa_nil))) (pe_op op_add (pe_callB (n_lenK (K := K) rfl) (by rfl) T.n_len PySem.boot_len (pa_cons (pv 0) pa_nil)) (pe_op op_mul (pe_callB (n_lenK (K := K) rfl) (by rfl) T.n_len PySem.boot_len (pa_cons (pv 1) pa_nil)) (pe_callB (n_lenK (K := K) rfl) (by rfl) T.n_len PySem.boot_len (pa_cons (pv 2) pa_nil)))) (nomark _))))), ?_⟩
    refine st_lit (σ' := [some (V.ref a), some (V.ref r), some (V.ref f)]) rfl ?_
    walk_at "x"
    refine ⟨a, r, u, ris, rfl, ha, hr1, hl, z1.1, z1.2, fun b1 H1 i1 s1 => ?_⟩
    walk_at "x"
    refine x_b' (fun e1 => ?_) (fun e1 => ?_)
    · walk_at "x"
      exact q false H1 ⟨fun z => (Bool.false_ne_true z).elim, fun z => absurd (i1.mpr z.1) (by rw [e1]; exact Bool.false_ne_true)⟩ s1
    · walk_at "x"
      refine ⟨a, f, u, fal, rfl, ha.mono s1, hf1.mono s1, hl, z2.1, z2.2, fun b2 H2 i2 s2 => ?_⟩
      walk_at "x"
      refine x_b' (fun e2 => ?_) (fun e2 => ?_)
      · walk_at "x"
        exact q false H2 ⟨fun z => (Bool.false_ne_true z).elim, fun z => absurd (i2.mpr z.2.1) (by rw [e2]; exact Bool.false_ne_true)⟩ (s1.trans s2)
      · walk_at "x"
        refine ⟨r, ris, rfl, (hr1.mono s1).mono s2, z1, fun H3 s3 => ?_⟩
        walk_at "x"
        refine ⟨f, fal, rfl, ((hf1.mono s1).mono s2).mono s3, z2, fun H4 s4 => ?_⟩
        have S4 := ((s1.trans s2).trans s3).trans s4
        have ha4 : H4 a = some (.lst (u.map V.int)) := ha.mono S4
        obtain ⟨as, er, hR⟩ := hr1.mono S4
        obtain ⟨bs, ef, hF⟩ := hf1.mono S4
        walk_at "x"
        refine x_mul ?_ ?_ ?_
        · rw [refs_len, hR.len]; have := z1.1; omega
        · rw [refs_len, hF.len]; have := z2.1; omega
        walk_at "x"
        refine q _ H4 ?_ S4
        rw [dec_vint, decide_eq_true_iff, ints_len, refs_len, refs_len, hR.len, hF.len]
        refine ⟨fun e => ⟨i1.mp e1, i2.mp e2, ?_⟩, fun e => ?_⟩
        · have : ((Km.cov ris + Km.cov fal : Nat) : Int) = ((u.length + ris.length * fal.length : Nat) : Int) := by rw [Int.natCast_add, Int.natCast_add, Int.natCast_mul]; exact e
          exact Int.ofNat.inj this
        · rw [← Int.natCast_add, e.2.2, Int.natCast_add, Int.natCast_mul]
theorem srt_eq {a b u v : List Int} (h1 : a.Perm u) (h2 : a.Pairwise (· ≤ ·)) (h3 : b.Perm v) (h4 : b.Pairwise (· ≤ ·)) : a = b ↔ u.Perm v := by
  constructor
  · rintro rfl
    exact h1.symm.trans h3
  · intro h
    exact List.Perm.eq_of_pairwise (fun x y _ _ p q => Int.le_antisymm p q) h2 h4 ((h1.trans h).trans h3.symm)
theorem dp_ints {K : PySem.W.Frag} {H : Hp} : ∀ l : List Int, DpAll K H (l.map V.int) (l.map PyData.int)
  | [] => .nil
  | x :: l => .cons (.int x) (dp_ints l)
theorem LiAt.dp {K : PySem.W.Frag} {H : Hp} {a : Addr} {l : List Int} (h : LiAt H a l) : Dp K H (.ref a) (.list (l.map PyData.int)) := .lst (SqL.of h) (dp_ints l)
theorem TiAt.dp {K : PySem.W.Frag} {H : Hp} {a : Addr} {l : List Int} (h : TiAt H a l) : Dp K H (.ref a) (.tuple (l.map PyData.int)) := .tup (SqT.of h) (dp_ints l)
theorem eqv_ints : ∀ l k : List Int, PyData.eqvAll (l.map PyData.int) (k.map PyData.int) = decide (l = k)
  | [], [] => by simp [PyData.eqvAll]
  | [], _ :: _ => by simp [PyData.eqvAll]
  | _ :: _, [] => by simp [PyData.eqvAll]
  | a :: r, b :: t => by
    simp only [List.map_cons, PyData.eqvAll, PyData.eqv, eqv_ints r t]
    by_cases h : a = b <;> by_cases h' : r = t <;> simp [h, h']
theorem eqv_lints (l k : List Int) : PyData.eqv (.list (l.map PyData.int)) (.list (k.map PyData.int)) = decide (l = k) := by rw [PyData.eqv]; exact eqv_ints l k
/-- sorted(u) != sorted(v) -/
theorem x_sorted {K : PySem.W.Frag} {H : Hp} {Q : VK} {a : Addr} {l : List Int} (h : LiAt H a l) (hl : l.length ≤ 60) (k : ∀ (m : List Int) p H', m.Perm l → m.Pairwise (· ≤ ·) → H p = none → Same H H' → LiAt H' p m → Q (.ref p) H') : rSorted K [.ref a] H Q :=
  ⟨a, l, rfl, SqL.of h, by omega, fun m p h1 h2 h3 => k m p _ h1 h2 h3 (same_new h3) upd_same⟩
theorem x_neS {K : PySem.W.Frag} {H : Hp} {Q : VK} {p q : Addr} {a b u v : List Int} (ha : LiAt H p a) (hb : LiAt H q b) (h1 : a.Perm u) (h2 : a.Pairwise (· ≤ ·)) (h3 : b.Perm v) (h4 : b.Pairwise (· ≤ ·)) (k : ∀ c, (c = true ↔ ¬ u.Perm v) → Q (.bl c) H) : rNeD K (.ref p) (.ref q) H Q := by
  refine ⟨_, _, ha.dp, hb.dp, PySem.W.ke_shaped_ints a, PySem.W.ke_shaped_ints b, k _ ?_⟩
  rw [eqv_lints]
  by_cases e : a = b
  · have := (srt_eq h1 h2 h3 h4).mp e
    simp [e, this]
  · have : ¬ u.Perm v := fun z => e ((srt_eq h1 h2 h3 h4).mpr z)
    simp [e, this]
def spJn : Sp := fun vs H Q _ => ∃ (a b t : Addr) (u v : List Int) (n : Note), vs = [.ref a, .ref b, .ref t] ∧ LiAt H a u ∧ LiAt H b v ∧ n.at_ H t ∧ u.length ≤ 60 ∧ v.length ≤ 60 ∧ n.small ∧
  ∀ c H', (c = true ↔ n.ok u v) → Same H H' → Q (.bl c) H'
theorem ok_judge_note (T : Txt K mg) : Kd P w K mg base "judge_note" ["first", "second", "told"] 4 spJn := by
  refine kd_of T.d_judge_note sc_judge_note (fun vs H Q E h => ?_) (fun f cdv A outer s H vs Q E hr h => ?_)
  · obtain ⟨a, b, t, u, v, n, rfl, _⟩ := h
    rfl
  · obtain ⟨a, b, t, u, v, n, rfl, ha, hb, hn, hu1, hv1, hz, q⟩ := h
    refine ⟨_, (pss_cons (ps_if (pt_cmpR op_eq (pe_ix (ix_tupK (K := K) rfl) (pv 2) pe_int (fun _ _ => rfl)) pe_str (nomark _))
(pss_one (ps_ret (pe_cmpR (op_neDK (K := K) rfl hr.units) (pe_callB (cr_sortedK (K := K) rfl) (by rfl) T.n_sorted (by decide +kernel) (pa_cons (pv 0) pa_nil)) (pe_callB (cr_sortedK (K := K) rfl) (by rfl) T.n_sorted (by decide +kernel) (pa_cons (pv 1) pa_nil)) (nomark _))))
pss_nil)
(pss_cons (ps_asg (pv 2) (pg_tupK (K := K) rfl rfl (pgs_cons (pg_name (i := 3) sc_judge_note.nd rfl (.inl rfl)) (pgs_cons (pg_name (i := 4) sc_judge_note.nd rfl (.inl rfl)) (pgs_cons (pg_name (i := 5) sc_judge_note.nd rfl (.inl rfl)) (pgs_cons (pg_name (i := 6) sc_judge_note.nd rfl (.inl rfl)) (pgs_cons (pg_name (i := 7) sc_judge_note.nd rfl (.inl rfl)) pgs_nil)))))))
(pss_cons (ps_set (i := 8) sc_judge_note.nd rfl (.inl rfl) (pe_kd (ok_letters_up_to T) (hr.mono (by decide)) (by rfl) (pa_cons (pv 0) (pa_cons (pv 4) pa_nil))))
(pss_cons (ps_set (i := 9) sc_judge_note.nd rfl (.inl rfl) (pe_kd (ok_letters_up_to T) (hr.mono (by decide)) (by rfl) (pa_cons (pv 1) (pa_cons (pv 4) pa_nil))))
(pss_cons (ps_if (pt_val (pv 7))
(pss_one (ps_par (i := 8) (j := 9) rfl sc_judge_note.nd rfl rfl (by decide) rfl rfl (pa_cons (pv 9) (pa_cons (pv 8) pa_nil)) (by rfl)))
pss_nil)
(pss_cons (ps_asg (pv 6) (pg_tupK (K := K) rfl rfl (pgs_cons (pg_name (i := 10) sc_judge_note.nd rfl (.inl rfl)) (pgs_cons (pg_name (i := 11) sc_judge_note.nd rfl (.inl rfl)) pgs_nil))))
(pss_cons (ps_if (PW.pt (pw_or (pt_not (pt_val (pe_kd (ok_is_rising_family T) (hr.mono (by decide)) (by rfl) (pa_cons (pv 8) (pa_cons (pv 5) pa_nil))))) (pw_or1 (pt_not (pt_val (pe_kd (ok_judge T) (hr.mono (by decide)) (by rfl) (pa_cons (pv 9) (pa_cons (pv 10) (pa_cons (pv 11) pa_nil)))))))))
(pss_one (ps_ret pe_bl))
pss_nil)
(pss_one (ps_ret (pe_and (pe_cmpR op_eq (pe_callB (n_lenK (K := K) rfl) (by rfl) T.n_len PySem.boot_len (pa_cons (pv 5) pa_nil)) (pe_callB (n_lenK (K := K) rfl) (by rfl) T.n_len PySem.boot_len (pa_cons (pv 10) pa_nil)) (nomark _)) (pe_one (pe_cmpR op_gt (pe_kd (ok_cover T) (hr.mono (by decide)) (by rfl) (pa_cons (pv 5) pa_nil)) (pe_kd (ok_cover T) (hr.mono (by decide)) (by rfl) (pa_cons (pv 10) pa_nil)) (nomark _))))))))))))), ?_⟩
    refine st_lit (σ' := [some (V.ref a), some (V.ref b), some (V.ref t), none, none, none, none, none, none, none, none, none]) rfl ?_
    cases n with
    | content =>
      have hn' : H t = some (.tup [.str "content"]) := hn
      walk_at "x"
      rw [decide_eq_true rfl]
      walk_at "x"
      refine x_sorted ha hu1 fun m p H1 p1 w1 n1 s1 e1 => ?_
      walk_at "x"
      refine x_sorted (hb.mono s1) hv1 fun m2 p2 H2 p3 w2 n2 s2 e2 => ?_
      exact x_neS (e1.mono s2) e2 p1 w1 p3 w2 fun c hc => q c H2 hc (s1.trans s2)
    | cover g fam ris fal sw =>
      obtain ⟨f, p, r, fl, e1, e2, e3, e4, e5⟩ := hn
      obtain ⟨z1, z2, z3⟩ := hz
      walk_at "x"
      rw [decide_eq_false (show ¬ V.str "cover" = V.str "content" by decide +kernel)]
      walk_at "x"
      refine ⟨a, u, g, rfl, ha, by omega, fun p1 H1 n1 s1 t1 => ?_⟩
      walk_at "x"
      refine ⟨b, v, g, rfl, hb.mono s1, by omega, fun p2 H2 n2 s2 t2 => ?_⟩
      have S2 := s1.trans s2
      have e2' := S2 _ _ e2
      have t1' := t1.mono s2
      walk_at "x"
      cases sw
      · walk_at "x"
        refine ⟨p1, f, Km.upto g u, fam, rfl, t1', e3.mono S2, by have := upto_len g u; omega, z1.1, z1.2, fun b3 H3 i3 s3 => ?_⟩
        have S3 := S2.trans s3
        walk_at "x"
        refine x_b' (fun h3 => ?_) (fun h3 => ?_)
        · walk_at "x"
          exact q false H3 ⟨fun z => (Bool.false_ne_true z).elim, fun z => absurd (i3.mpr z.1) (by rw [h3]; exact Bool.false_ne_true)⟩ S3
        · walk_at "x"
          refine ⟨p2, r, fl, Km.upto g v, ris, fal, rfl, t2.mono s3, e4.mono S3, e5.mono S3, by have := upto_len g v; omega, z2, z3, fun b4 H4 i4 s4 => ?_⟩
          have S4 := S3.trans s4
          walk_at "x"
          refine x_b' (fun h4 => ?_) (fun h4 => ?_)
          · walk_at "x"
            exact q false H4 ⟨fun z => (Bool.false_ne_true z).elim, fun z => absurd (i4.mpr ⟨z.2.1, z.2.2.1, z.2.2.2.1⟩) (by rw [h4]; exact Bool.false_ne_true)⟩ S4
          · obtain ⟨as, ef, hf⟩ := e3.mono S4
            obtain ⟨bs, er, hr'⟩ := e4.mono S4
            walk_at "x"
            rw [refs_len, refs_len, hf.len, hr'.len, dec_vint]
            have hh := i3.mp h3
            have gg := i4.mp h4
            refine x_ite (fun h5 => ?_) (fun h5 => ?_)
            · walk_at "x"
              refine ⟨f, fam, rfl, e3.mono S4, z1, fun H5 s5 => ?_⟩
              walk_at "x"
              refine ⟨r, ris, rfl, (e4.mono S4).mono s5, z2, fun H6 s6 => ?_⟩
              walk_at "x"
              refine q _ H6 ?_ ((S4.trans s5).trans s6)
              rw [decide_eq_true_iff]
              exact ⟨fun z => ⟨hh, gg.1, gg.2.1, gg.2.2, by omega, by omega⟩, fun z => by have := z.2.2.2.2.2; omega⟩
            · exact q false H4 ⟨fun z => (Bool.false_ne_true z).elim, fun z => absurd z.2.2.2.2.1 (by omega)⟩ S4
      · walk_at "x"
        refine ⟨_, _, rfl, ?_⟩
        dsimp only
        refine st_lit (σ' := [some (V.ref a), some (V.ref b), some (V.ref t), some (V.str "cover"), some (V.int g), some (V.ref f), some (V.ref p), some (V.bl true), some (V.ref p2), some (V.ref p1), none, none]) rfl ?_
        walk_at "x"
        refine ⟨p2, f, Km.upto g v, fam, rfl, t2, e3.mono S2, by have := upto_len g v; omega, z1.1, z1.2, fun b3 H3 i3 s3 => ?_⟩
        have S3 := S2.trans s3
        walk_at "x"
        refine x_b' (fun h3 => ?_) (fun h3 => ?_)
        · walk_at "x"
          exact q false H3 ⟨fun z => (Bool.false_ne_true z).elim, fun z => absurd (i3.mpr z.1) (by rw [h3]; exact Bool.false_ne_true)⟩ S3
        · walk_at "x"
          refine ⟨p1, r, fl, Km.upto g u, ris, fal, rfl, t1'.mono s3, e4.mono S3, e5.mono S3, by have := upto_len g u; omega, z2, z3, fun b4 H4 i4 s4 => ?_⟩
          have S4 := S3.trans s4
          walk_at "x"
          refine x_b' (fun h4 => ?_) (fun h4 => ?_)
          · walk_at "x"
            exact q false H4 ⟨fun z => (Bool.false_ne_true z).elim, fun z => absurd (i4.mpr ⟨z.2.1, z.2.2.1, z.2.2.2.1⟩) (by rw [h4]; exact Bool.false_ne_true)⟩ S4
          · obtain ⟨as, ef, hf⟩ := e3.mono S4
            obtain ⟨bs, er, hr'⟩ := e4.mono S4
            walk_at "x"
            rw [refs_len, refs_len, hf.len, hr'.len, dec_vint]
            have hh := i3.mp h3
            have gg := i4.mp h4
            refine x_ite (fun h5 => ?_) (fun h5 => ?_)
            · walk_at "x"
              refine ⟨f, fam, rfl, e3.mono S4, z1, fun H5 s5 => ?_⟩
              walk_at "x"
              refine ⟨r, ris, rfl, (e4.mono S4).mono s5, z2, fun H6 s6 => ?_⟩
              walk_at "x"
              refine q _ H6 ?_ ((S4.trans s5).trans s6)
              rw [decide_eq_true_iff]
              exact ⟨fun z => ⟨hh, gg.1, gg.2.1, gg.2.2, by omega, by omega⟩, fun z => by have := z.2.2.2.2.2; omega⟩
            · exact q false H4 ⟨fun z => (Bool.false_ne_true z).elim, fun z => absurd z.2.2.2.2.1 (by omega)⟩ S4
end
section
local macro_rules | `(tactic| walk_at "set") => `(tactic| first | exact set0 | (apply setS; walk_at "set"))
local macro_rules | `(tactic| walk_at "h") => `(tactic| first | assumption | (refine Same.lk (by assumption) ?_; walk_at "h"))
local macro_rules | `(tactic| walk_at "x1") => `(tactic| first
  | ((with_reducible show tVar _ _ _ _); refine x_var rfl ?_)
  | ((with_reducible show tC _ _ _ _); refine x_c ?_)
  | ((with_reducible show tOp _ _ _ _ _ _); refine x_op ?_)
  | ((with_reducible show tSeq _ _ _ _ _); refine x_seq ?_)
  | ((with_reducible show tAsg _ _ _ _ _); refine x_asg ?_)
  | ((with_reducible show gName _ _ _ _ _); refine x_name2 (by walk_at "set") ?_)
  | ((with_reducible show tCons _ _ _ _ _); refine x_cons ?_)
  | ((with_reducible show tNil _ _ _); refine x_nil ?_)
  | ((with_reducible show rI0 _ (V.int _) (V.int _) _ _); refine x_rI0 ?_)
  | ((with_reducible show tCB _ _ _ _ _); refine x_cb ?_)
  | ((with_reducible show tCall _ [] E0 _ _ _ _); refine x_call ?_)
  | ((with_reducible show rIxT _ _ _ _ _); refine x_ixT (by walk_at "h") (by rfl) ?_)
  | ((with_reducible show rLenQ _ _ _ _); refine x_lenL (by walk_at "h") ?_)
  | ((with_reducible show rLenQ _ _ _ _); refine x_lenT (by walk_at "h") ?_)
  | ((with_reducible show tIfS _ _ _ _ _ _); refine x_if ?_)
  | ((with_reducible show tTest _ _ _ _); refine x_test ?_)
  | ((with_reducible show tB _ _ _ _); refine x_tB ?_)
  | ((with_reducible show tYes _ _ _); refine x_yes ?_)
  | ((with_reducible show gTup _ _ _ (V.ref _) _ _ _); refine x_gtup (by walk_at "h") (by rfl) ?_)
  | ((with_reducible show gCons _ _ (_ :: _) _ _ _); refine x_gcons ?_)
  | ((with_reducible show gNil [] _ _ _); refine x_gnil ?_)
  | ((with_reducible show tPar _ _ _ _ _ _); refine x_par ?_)
  | ((with_reducible show Ends.nx _ _ _); dsimp only)
  | (with_reducible refine x_bl ?_)
  | (with_reducible refine x_T ?_)
  | (with_reducible refine x_nT ?_)
  | (with_reducible refine x_nF ?_)
  | (with_reducible refine x_F ?_)
  | ((with_reducible show rEq _ _ _ _); refine x_eq rfl ?_)
  | ((with_reducible show rNe _ _ _ _); refine x_ne rfl ?_)
  | ((with_reducible show rIsNn _ _ _ _); refine x_isN ?_)
  | ((with_reducible show tRet _ _ _ _); refine x_ret ?_)
  | ((with_reducible show tNext _ _ _); refine x_next ?_)
  | ((with_reducible show tRetN _ _ _); refine x_retN ?_)
  | ((with_reducible show tDrop _ _ _ _); refine x_drop ?_)
  | ((with_reducible show tTup _ _ _ _); refine x_tup ?_)
  | ((with_reducible show tLst _ _ _ _); refine x_lst ?_)
  | ((with_reducible show tUn _ _ _ _ _); refine x_un ?_)
  | ((with_reducible show rU _ (V.int _) _ _); refine x_rU ?_)
  | ((with_reducible show tNot _ _ _ _); refine x_notT ?_)
  | ((with_reducible show tAnd _ _ _ _ _); refine x_and ?_)
  | ((with_reducible show tOr _ _ _ _ _); refine x_or ?_)
  | ((with_reducible show tSl _ _ _ _ _ _ _); refine x_sl ?_)
  | ((with_reducible show tNoPart _ _ _); refine x_noP ?_)
  | ((with_reducible show tPart _ _ _ _); refine x_part ?_)
  | (with_reducible refine x_pi ?_)
  | ((with_reducible show tBM _ _ _ _ _ _ _ _); refine x_bm ?_)
  | ((with_reducible show tyV _ "list" _ _ ∧ _); refine x_tyL (by walk_at "h") ?_)
  | ((with_reducible show gSub _ _ _ _ _ _ _); refine x_sub ?_)
  | ((with_reducible show rInt1 [V.int _] _ _); refine x_int ?_)
  | ((with_reducible show rInt1 [V.bl _] _ _); refine x_intB ?_)
  | ((with_reducible show rMin2 _ _ _); refine x_min ?_)
  | ((with_reducible show rMax2 _ _ _); refine x_max ?_))
local macro_rules | `(tactic| walk_at "x") => `(tactic| (repeat walk_at "x1"))
local macro_rules | `(tactic| walk_at "x1") => `(tactic| ((with_reducible show tAndV _ _ _ _ _); refine x_andV ?_))
local macro_rules | `(tactic| walk_at "x1") => `(tactic| ((with_reducible show tOrV _ _ _ _ _); refine x_orV ?_))
local macro_rules | `(tactic| walk_at "x1") => `(tactic| ((with_reducible show tNotV _ _ _ _); refine x_notV ?_))
variable {P : Program} {w : World} {K : PySem.W.Frag} {mg : Str → Option Value} {base : Heap}
/-! ### the stream of the law -/
def spCell (K : PySem.W.Frag) : Sp := fun vs H Q _ => ∃ (a : Addr) (ns : List Int) (i : Nat), vs = [.ref a, .int i] ∧ SqL K H a (ns.map V.int) ∧ ∀ z : Int, Q (.int z) H
theorem ok__law_cell (T : Txt K mg) : Kd P w K mg base "_law_cell" ["_law_script", "_law_k"] 1 (spCell K) := by
  refine kd_of T.d__law_cell sc__law_cell (fun vs H Q E h => ?_) (fun f cdv A outer s H vs Q E hr h => ?_)
  · obtain ⟨a, ns, i, rfl, _⟩ := h
    rfl
  · obtain ⟨a, ns, i, rfl, hS, q⟩ := h
    refine ⟨_, (pss_cons (ps_if (pt_cmpR op_lt (pv 1) (pe_callB (n_lenK (K := K) rfl) (by rfl) T.n_len PySem.boot_len (pa_cons (pv 0) pa_nil)) (nomark _))
(pss_one (ps_ret (pe_ix (ix_listK (K := K) rfl) (pv 0) (pv 1) (fun _ _ => rfl))))
pss_nil)
(pss_one (ps_ret pe_int))), ?_⟩
    refine st_lit (σ' := [some (V.ref a), some (V.int i)]) rfl ?_
    walk_at "x"
    refine ⟨a, _, rfl, .inl hS, ?_⟩
    walk_at "x"
    rw [ints_len]
    refine x_ite (fun h => ?_) (fun h => ?_)
    · walk_at "x"
      exact ⟨a, _, i, .int ns[i], rfl, rfl, hS, atI_ints (List.getElem?_eq_getElem (by omega)), q _⟩
    · walk_at "x"
      exact q 0
theorem x_mod {i j : Int} {H : Hp} {Q : VK} (hj : 0 < j) (k : ∀ z : Int, 0 ≤ z → z < j → Q (.int z) H) : rI (fun _ j => 0 < j) (fun i j => V.int (i % j)) (.int i) (.int j) H Q := x_rI hj (k _ (Int.emod_nonneg _ (by omega)) (Int.emod_lt_of_pos _ hj))
theorem x_hide {te : TE} {σ : L2.St} {H : Hp} {Q : VK} (k : te σ H fun v H1 => ∃ (a : Addr) (x0 x1 x2 : Int), v = .ref a ∧ H1 a = some (.lst [.int x0, .int x1, .int x2]) ∧ Q v (upd H1 a (.ext (phiS a)))) : tHide te σ H Q := k
theorem x_hid {H H1 : Hp} {c : Addr} {x0 x1 x2 : Int} {Q : VK} (n : H c = none) (s : Same H H1) (e : H1 c = some (.lst [.int x0, .int x1, .int x2])) (k : ∀ p H', H p = none → Same H H' → Strm H' p → Q (.ref p) H') : ∃ (a : Addr) (x0 x1 x2 : Int), V.ref c = .ref a ∧ H1 a = some (.lst [.int x0, .int x1, .int x2]) ∧ Q (.ref c) (upd H1 a (.ext (phiS a))) :=
  ⟨c, x0, x1, x2, rfl, e, k c _ n (same_mut s n) upd_same⟩
def spStream : Sp := fun vs H Q _ => ∃ z : Int, vs = [.int z] ∧ ∀ p H', H p = none → Same H H' → Strm H' p → Q (.ref p) H'
theorem ok__law_stream (T : Txt K mg) : Kd P w K mg base "_law_stream" ["_law_cell_here"] 1 spStream := by
  refine kd_of T.d__law_stream sc__law_stream (fun vs H Q E h => ?_) (fun f cdv A outer s H vs Q E hr h => ?_)
  · obtain ⟨z, rfl, _⟩ := h
    rfl
  · obtain ⟨z, rfl, q⟩ := h
    refine ⟨_, (pss_cons (ps_if (pt_cmpR op_ge (pv 0) (pe_op op_pow pe_int pe_int) (nomark _))
(pss_one (ps_ret (pe_hide (pe_lst (pa_m (pa_cons (pv 0) (pa_cons pe_int (pa_cons (pe_op op_mod (pe_callTy n_int (by rfl) T.n_int (by decide +kernel) (pa_cons (pv 0) pa_nil)) pe_int) pa_nil))))))))
pss_nil)
(pss_one (ps_ret (pe_hide (pe_lst (pa_m (pa_cons pe_int (pa_cons pe_int (pa_cons (pe_op op_mod (pe_callTy n_int (by rfl) T.n_int (by decide +kernel) (pa_cons (pv 0) pa_nil)) pe_int) pa_nil))))))))), ?_⟩
    refine st_lit (σ' := [some (V.int z)]) rfl ?_
    walk_at "x"
    refine x_rI ⟨by decide, by decide, by decide⟩ ?_
    walk_at "x"
    refine x_ite (fun h => ?_) (fun h => ?_)
    · walk_at "x"
      refine x_hide ?_
      walk_at "x"
      refine x_mod (by decide) fun y _ _ => ?_
      walk_at "x"
      exact ⟨by show 3 ≤ sizeLine; decide, fun c H1 n1 s1 e1 => x_hid n1 s1 e1 q⟩
    · walk_at "x"
      refine x_hide ?_
      walk_at "x"
      refine x_mod (by decide) fun y _ _ => ?_
      walk_at "x"
      exact ⟨by show 3 ≤ sizeLine; decide, fun c H1 n1 s1 e1 => x_hid n1 s1 e1 q⟩
def spNext : Sp := fun vs H Q _ => ∃ (p : Addr) (n : Int), vs = [.ref p, .int n] ∧ Strm H p ∧ 0 < n ∧ n < 2 ^ 200 ∧ ∀ z : Int, 0 ≤ z → z < n → Q (.int z) H
theorem ok__law_next (T : Txt K mg) : Kd P w K mg base "_law_next" ["_law_stream_here", "_law_size"] 1 spNext := by
  refine kd_of T.d__law_next sc__law_next (fun vs H Q E h => ?_) (fun f cdv A outer s H vs Q E hr h => ?_)
  · obtain ⟨p, n, rfl, _⟩ := h
    rfl
  · obtain ⟨p, n, rfl, hp, h0, h1, q⟩ := h
    refine ⟨_, (pss_cons (ps_if (pt_cmpR op_gt (pe_ix ix_strm (pv 0) pe_int (fun _ _ => rfl)) pe_int (nomark _))
(pss_cons (ps_set (i := 2) sc__law_next.nd rfl (.inl rfl) (pe_op op_mod (pe_callTy n_int (by rfl) T.n_int (by decide +kernel) (pa_cons (pe_ix ix_strm (pv 0) pe_int (fun _ _ => rfl)) pa_nil)) (pv 1)))
(pss_cons (ps_asg (pe_op op_fdivW (pe_ix ix_strm (pv 0) pe_int (fun _ _ => rfl)) (pv 1)) (pg_sub (pv 0) pe_int set_strm))
(pss_one (ps_ret (pv 2)))))
pss_nil)
(pss_cons (ps_asg (pe_op op_add (pe_ix ix_strm (pv 0) pe_int (fun _ _ => rfl)) pe_int) (pg_sub (pv 0) pe_int set_strm))
(pss_cons (ps_set (i := 3) sc__law_next.nd rfl (.inl rfl) (pe_op op_mod (pe_callTy n_int (by rfl) T.n_int (by decide +kernel) (pa_cons (pe_op op_add (pe_op op_mul (pe_ix ix_strm (pv 0) pe_int (fun _ _ => rfl)) pe_int) (pe_op op_mul (pe_ix ix_strm (pv 0) pe_int (fun _ _ => rfl)) pe_int)) pa_nil)) pe_int))
(pss_cons (ps_set (i := 3) sc__law_next.nd rfl (.inl rfl) (pe_op op_mod (pe_callTy n_int (by rfl) T.n_int (by decide +kernel) (pa_cons (pe_op op_add (pe_op op_mul (pv 3) (pv 3)) (pe_op op_mul (pe_ix ix_strm (pv 0) pe_int (fun _ _ => rfl)) pe_int)) pa_nil)) pe_int))
(pss_cons (ps_set (i := 3) sc__law_next.nd rfl (.inl rfl) (pe_op op_mod (pe_callTy n_int (by rfl) T.n_int (by decide +kernel) (pa_cons (pe_op op_add (pe_op op_mul (pv 3) pe_int) (pe_ix ix_strm (pv 0) pe_int (fun _ _ => rfl))) pa_nil)) pe_int))
(pss_one (ps_ret (pe_op op_mod (pe_callTy n_int (by rfl) T.n_int (by decide +kernel) (pa_cons (pv 3) pa_nil)) (pv 1))))))))), ?_⟩
    refine st_lit (σ' := [some (V.ref p), some (V.int n), none, none]) rfl ?_
    walk_at "x"
    refine x_ixM hp (.inl rfl) fun z0 => ?_
    walk_at "x"
    refine x_ite (fun h => ?_) (fun h => ?_)
    · walk_at "x"
      refine x_ixM hp (.inl rfl) fun z1 => ?_
      walk_at "x"
      refine x_mod h0 fun d d0 d1 => ?_
      walk_at "x"
      refine x_ixM hp (.inl rfl) fun z2 => ?_
      walk_at "x"
      refine x_rI ⟨h0, ?_⟩ ?_
      · have : n.natAbs < 2 ^ 200 := by omega
        by_cases e : n.natAbs = 0
        · rw [e]; decide
        · have := (Nat.log2_lt e).mpr this
          omega
      walk_at "x"
      refine x_setM hp (.inl rfl) ?_
      walk_at "x"
      exact q d d0 d1
    · walk_at "x"
      refine x_ixM hp (.inr (.inl rfl)) fun z1 => ?_
      walk_at "x"
      refine x_setM hp (.inr (.inl rfl)) ?_
      walk_at "x"
      refine x_ixM hp (.inr (.inr rfl)) fun z2 => ?_
      walk_at "x"
      refine x_rI (Or.inr ⟨by decide, by decide⟩) ?_
      walk_at "x"
      refine x_ixM hp (.inr (.inl rfl)) fun z3 => ?_
      walk_at "x"
      refine x_rI (Or.inr ⟨by decide, by decide⟩) ?_
      walk_at "x"
      refine x_mod (by decide) fun d d0 d1 => ?_
      walk_at "x"
      refine x_rI (Or.inr ⟨by omega, by omega⟩) ?_
      walk_at "x"
      refine x_ixM hp (.inr (.inl rfl)) fun z3 => ?_
      walk_at "x"
      refine x_rI (Or.inr ⟨by decide, by decide⟩) ?_
      walk_at "x"
      refine x_mod (by decide) fun e e0 e1 => ?_
      walk_at "x"
      refine x_rI (Or.inr ⟨by decide, by decide⟩) ?_
      walk_at "x"
      refine x_ixM hp (.inr (.inr rfl)) fun z3 => ?_
      walk_at "x"
      refine x_mod (by decide) fun f f0 f1 => ?_
      walk_at "x"
      refine x_mod h0 fun d d0 d1 => ?_
      exact q d d0 d1
def spInt : Sp := fun vs H Q _ => ∃ i : Int, vs = [.int i] ∧ Q (.bl true) H
theorem x_isi {H : Hp} {Q : VK} {x : V} {a b : String} {r : Bool} (h : TyX K H x (.type a)) (e : PySem.W.kitOne K (.type a) (.type b) = some r) (k : Q (.bl r) H) : rIsi K [x, .ty b] H Q := ⟨x, .ty b, .type a, .type b, r, rfl, .ty b, h, e, k⟩
theorem ok__law_is_integer (T : Txt K mg) : Kd P w K mg base "_law_is_integer" ["_law_actual"] 1 spInt := by
  refine kd_of T.d__law_is_integer sc__law_is_integer (fun vs H Q E h => ?_) (fun f cdv A outer s H vs Q E hr h => ?_)
  · obtain ⟨i, rfl, _⟩ := h
    rfl
  · obtain ⟨i, rfl, q⟩ := h
    refine ⟨_, (pss_one (ps_ret (pe_and (pe_callB (call_isiK2 (K := K) rfl) (by rfl) T.n_isinstance (by decide +kernel) (pa_cons (pv 0) (pa_cons (pe_bltn (v := .ty "int") (by rfl) T.n_int (by decide +kernel) rfl) pa_nil))) (pe_one (pe_not (pe_callB (call_isiK2 (K := K) rfl) (by rfl) T.n_isinstance (by decide +kernel) (pa_cons (pv 0) (pa_cons (pe_bltn (v := .ty "bool") (by rfl) T.n_bool (by decide +kernel) rfl) pa_nil)))))))), ?_⟩
    refine st_lit (σ' := [some (V.int i)]) rfl ?_
    walk_at "x"
    refine x_isi (a := "int") (r := true) (.base (.int i)) (kit_ty (by decide +kernel)) ?_
    walk_at "x"
    refine x_isi (a := "int") (r := false) (.base (.int i)) (kit_ty (by decide +kernel)) ?_
    walk_at "x"
    exact q
end
section
local macro_rules | `(tactic| walk_at "set") => `(tactic| first | exact set0 | (apply setS; walk_at "set"))
local macro_rules | `(tactic| walk_at "h") => `(tactic| first | assumption | (refine Same.lk (by assumption) ?_; walk_at "h"))
local macro_rules | `(tactic| walk_at "x1") => `(tactic| first
  | ((with_reducible show tVar _ _ _ _); refine x_var rfl ?_)
  | ((with_reducible show tC _ _ _ _); refine x_c ?_)
  | ((with_reducible show tOp _ _ _ _ _ _); refine x_op ?_)
  | ((with_reducible show tSeq _ _ _ _ _); refine x_seq ?_)
  | ((with_reducible show tAsg _ _ _ _ _); refine x_asg ?_)
  | ((with_reducible show gName _ _ _ _ _); refine x_name2 (by walk_at "set") ?_)
  | ((with_reducible show tCons _ _ _ _ _); refine x_cons ?_)
  | ((with_reducible show tNil _ _ _); refine x_nil ?_)
  | ((with_reducible show rI0 _ (V.int _) (V.int _) _ _); refine x_rI0 ?_)
  | ((with_reducible show tCB _ _ _ _ _); refine x_cb ?_)
  | ((with_reducible show tCall _ [] E0 _ _ _ _); refine x_call ?_)
  | ((with_reducible show rIxT _ _ _ _ _); refine x_ixT (by walk_at "h") (by rfl) ?_)
  | ((with_reducible show rLenQ _ _ _ _); refine x_lenL (by walk_at "h") ?_)
  | ((with_reducible show rLenQ _ _ _ _); refine x_lenT (by walk_at "h") ?_)
  | ((with_reducible show tIfS _ _ _ _ _ _); refine x_if ?_)
  | ((with_reducible show tTest _ _ _ _); refine x_test ?_)
  | ((with_reducible show tB _ _ _ _); refine x_tB ?_)
  | ((with_reducible show tYes _ _ _); refine x_yes ?_)
  | ((with_reducible show gTup _ _ _ (V.ref _) _ _ _); refine x_gtup (by walk_at "h") (by rfl) ?_)
  | ((with_reducible show gCons _ _ (_ :: _) _ _ _); refine x_gcons ?_)
  | ((with_reducible show gNil [] _ _ _); refine x_gnil ?_)
  | ((with_reducible show tPar _ _ _ _ _ _); refine x_par ?_)
  | ((with_reducible show Ends.nx _ _ _); dsimp only)
  | (with_reducible refine x_bl ?_)
  | (with_reducible refine x_T ?_)
  | (with_reducible refine x_nT ?_)
  | (with_reducible refine x_nF ?_)
  | (with_reducible refine x_F ?_)
  | ((with_reducible show rEq _ _ _ _); refine x_eq rfl ?_)
  | ((with_reducible show rNe _ _ _ _); refine x_ne rfl ?_)
  | ((with_reducible show rIsNn _ _ _ _); refine x_isN ?_)
  | ((with_reducible show tRet _ _ _ _); refine x_ret ?_)
  | ((with_reducible show tNext _ _ _); refine x_next ?_)
  | ((with_reducible show tRetN _ _ _); refine x_retN ?_)
  | ((with_reducible show tDrop _ _ _ _); refine x_drop ?_)
  | ((with_reducible show tTup _ _ _ _); refine x_tup ?_)
  | ((with_reducible show tLst _ _ _ _); refine x_lst ?_)
  | ((with_reducible show tUn _ _ _ _ _); refine x_un ?_)
  | ((with_reducible show rU _ (V.int _) _ _); refine x_rU ?_)
  | ((with_reducible show tNot _ _ _ _); refine x_notT ?_)
  | ((with_reducible show tAnd _ _ _ _ _); refine x_and ?_)
  | ((with_reducible show tOr _ _ _ _ _); refine x_or ?_)
  | ((with_reducible show tSl _ _ _ _ _ _ _); refine x_sl ?_)
  | ((with_reducible show tNoPart _ _ _); refine x_noP ?_)
  | ((with_reducible show tPart _ _ _ _); refine x_part ?_)
  | (with_reducible refine x_pi ?_)
  | ((with_reducible show tBM _ _ _ _ _ _ _ _); refine x_bm ?_)
  | ((with_reducible show tyV _ "list" _ _ ∧ _); refine x_tyL (by walk_at "h") ?_)
  | ((with_reducible show gSub _ _ _ _ _ _ _); refine x_sub ?_)
  | ((with_reducible show rInt1 [V.int _] _ _); refine x_int ?_)
  | ((with_reducible show rInt1 [V.bl _] _ _); refine x_intB ?_)
  | ((with_reducible show rMin2 _ _ _); refine x_min ?_)
  | ((with_reducible show rMax2 _ _ _); refine x_max ?_))
local macro_rules | `(tactic| walk_at "x") => `(tactic| (repeat walk_at "x1"))
local macro_rules | `(tactic| walk_at "x1") => `(tactic| ((with_reducible show tAndV _ _ _ _ _); refine x_andV ?_))
local macro_rules | `(tactic| walk_at "x1") => `(tactic| ((with_reducible show tOrV _ _ _ _ _); refine x_orV ?_))
local macro_rules | `(tactic| walk_at "x1") => `(tactic| ((with_reducible show tNotV _ _ _ _); refine x_notV ?_))
variable {P : Program} {w : World} {K : PySem.W.Frag} {mg : Str → Option Value} {base : Heap}
/-! ### drawn words -/
theorem atI_mem {l : List Int} {z : Int} (h0 : 0 ≤ z) (h1 : z < l.length) : ∃ y ∈ l, atI (l.map V.int) z = some (.int y) := by
  obtain ⟨k, rfl⟩ : ∃ k : Nat, z = k := ⟨z.toNat, by omega⟩
  have hk : k < l.length := by omega
  exact ⟨l[k], List.getElem_mem hk, atI_ints (List.getElem?_eq_getElem hk)⟩
theorem x_r1z {n : Int} {R : Int → Prop} (h0 : -100000 ≤ n) (h : n ≤ 100000) (k : R n) : ∃ j : Int, [V.int n] = [.int j] ∧ -(2 ^ 62) ≤ j ∧ j < 2 ^ 62 ∧ R j := ⟨n, rfl, by omega, by omega, k⟩
def Wd (b : Nat) (l : List Int) : Prop := ∀ x ∈ l, x.natAbs ≤ b
theorem Wd.snoc {b : Nat} {l : List Int} {x : Int} (h : Wd b l) (hx : x.natAbs ≤ b) : Wd b (l ++ [x]) := fun y hy => by
  rcases List.mem_append.mp hy with z | z
  · exact h y z
  · rw [List.mem_singleton.mp z]; exact hx
theorem Wd.le {b c : Nat} {l : List Int} (h : Wd b l) (hx : b ≤ c) : Wd c l := fun y hy => Nat.le_trans (h y hy) hx
theorem Wd.set {b : Nat} {l : List Int} {i : Nat} {x : Int} (h : Wd b l) (hx : x.natAbs ≤ b) : Wd b (l.set i x) := fun y hy => by
  rcases List.mem_or_eq_of_mem_set hy with z | z
  · exact h y z
  · rw [z]; exact hx
def B0 : Nat := 10 ^ 30 + 10 ^ 29
def spWord : Sp := fun vs H Q _ => ∃ (p : Addr) (m : Nat), vs = [.ref p, .int m] ∧ Strm H p ∧ m ≤ 8 ∧ ∀ (r : Addr) (l : List Int) H', H r = none → Same H H' → LiAt H' r l → l.length ≤ m → Wd (B0 + 20) l → Q (.ref r) H'
theorem mem6 {y a b c d e f : Int} (h : y ∈ [a, b, c, d, e, f]) : y = a ∨ y = b ∨ y = c ∨ y = d ∨ y = e ∨ y = f := by simpa using h
theorem ok__law_word (T : Txt K mg) : Kd P w K mg base "_law_word" ["_law_stream_here", "_law_most"] 2 spWord := by
  refine kd_of T.d__law_word sc__law_word (fun vs H Q E h => ?_) (fun f cdv A outer s H vs Q E hr h => ?_)
  · obtain ⟨p, m, rfl, _⟩ := h
    rfl
  · obtain ⟨p, m, rfl, hp, hm, q⟩ := h
    refine ⟨_, (pss_cons (ps_set (i := 2) sc__law_word.nd rfl (.inl rfl) (pe_kd (ok__law_next T) (hr.mono (by decide)) (by rfl) (pa_cons (pv 0) (pa_cons (pe_op op_add (pv 1) pe_int) pa_nil))))
(pss_cons (ps_set (i := 3) sc__law_word.nd rfl (.inl rfl) (pe_kd (ok__law_next T) (hr.mono (by decide)) (by rfl) (pa_cons (pv 0) (pa_cons pe_int pa_nil))))
(pss_cons (ps_set (i := 4) sc__law_word.nd rfl (.inl rfl) (pe_ix (ix_listK (K := K) rfl) (pe_lst (pa_m (pa_cons pe_int (pa_cons pe_int (pa_cons pe_int (pa_cons pe_int (pa_cons (pe_op op_pow pe_int pe_int) (pa_cons (pe_op op_pow pe_int pe_int) pa_nil)))))))) (pv 3) (fun _ _ => rfl)))
(pss_cons (ps_set (i := 5) sc__law_word.nd rfl (.inl rfl) (pe_ix (ix_listK (K := K) rfl) (pe_lst (pa_m (pa_cons pe_int (pa_cons pe_int (pa_cons pe_int (pa_cons (pe_un un_neg pe_int) (pa_cons (pe_un un_neg (pe_op op_pow pe_int pe_int)) (pa_cons (pe_un un_neg (pe_op op_pow pe_int pe_int)) pa_nil)))))))) (pv 3) (fun _ _ => rfl)))
(pss_cons (ps_set (i := 6) sc__law_word.nd rfl (.inl rfl) (pe_lst (pa_m pa_nil)))
(pss_cons (ps_for PassesOwn.never rfl (pi_range1 (by rfl) T.n_range (pa_cons (pv 2) pa_nil)) (pg_name (i := 7) sc__law_word.nd rfl (.inl rfl))
(pss_cons (ps_expr (pe_bmK (K := K) rfl (pe_bm PySem.F.plainAttrs_list PySem.F.slot_list_append PySem.F.type_list_append mt_append (pv 6) (pa_cons (pe_op op_add (pv 5) (pe_kd (ok__law_next T) (hr.mono (by decide)) (by rfl) (pa_cons (pv 0) (pa_cons (pv 4) pa_nil)))) pa_nil))))
(pss_one (ps_if (PW.pt (pw_and (pt_cmpR op_gt (pv 7) pe_int (nomark _)) (pw_and1 (pt_cmpR op_eq (pe_kd (ok__law_next T) (hr.mono (by decide)) (by rfl) (pa_cons (pv 0) (pa_cons pe_int pa_nil))) pe_int (nomark _)))))
(pss_one (ps_asg (pe_op op_sub (pe_op op_add (pe_ix (ix_listK (K := K) rfl) (pv 6) (pe_op op_sub (pv 7) pe_int) (fun _ _ => rfl)) (pe_kd (ok__law_next T) (hr.mono (by decide)) (by rfl) (pa_cons (pv 0) (pa_cons pe_int pa_nil)))) pe_int) (pg_sub (pv 6) (pv 7) set_list)))
pss_nil))))
(pss_one (ps_ret (pv 6))))))))), ?_⟩
    refine st_lit (σ' := [some (V.ref p), some (V.int m), none, none, none, none, none, none]) rfl ?_
    walk_at "x"
    refine ⟨p, _, rfl, hp, by omega, by omega, fun n n0 n1 => ?_⟩
    obtain ⟨n, rfl⟩ : ∃ k : Nat, n = k := ⟨n.toNat, by omega⟩
    walk_at "x"
    refine ⟨p, _, rfl, hp, by decide, by decide, fun kd k0 k1 => ?_⟩
    walk_at "x"
    refine x_rI ⟨by decide, by decide, by decide⟩ ?_
    walk_at "x"
    refine x_rI ⟨by decide, by decide, by decide⟩ ?_
    walk_at "x"
    refine ⟨by show 6 ≤ sizeLine; decide, fun c1 H1 n1 s1 e1 => ?_⟩
    walk_at "x"
    obtain ⟨sz, hsz, esz⟩ := atI_mem (l := [2, 3, 6, 20, 10 ^ (15 : Int).toNat, 10 ^ (30 : Int).toNat]) k0 k1
    refine x_ixL e1 esz ?_
    have z0 : 0 < sz ∧ sz ≤ 10 ^ 30 := by
      rcases mem6 hsz with h | h | h | h | h | h <;> rw [h] <;> decide
    generalize sz = sz at *
    walk_at "x"
    refine x_rI ⟨by decide, by decide, by decide⟩ ?_
    walk_at "x"
    refine x_rI ⟨by decide, by decide, by decide⟩ ?_
    walk_at "x"
    refine ⟨by show 6 ≤ sizeLine; decide, fun c2 H2 n2 s2 e2 => ?_⟩
    walk_at "x"
    obtain ⟨lo, hlo, elo⟩ := atI_mem (l := [1, 1, 0, -9, -(10 ^ (14 : Int).toNat), -(10 ^ (29 : Int).toNat)]) k0 k1
    refine x_ixL e2 elo ?_
    have y0 : -(10 ^ 29) ≤ lo ∧ lo ≤ 1 := by
      rcases mem6 hlo with h | h | h | h | h | h <;> rw [h] <;> decide
    generalize lo = lo at *
    walk_at "x"
    refine ⟨by decide, fun c3 H3 n3 s3 e3 => ?_⟩
    have S3 := (s1.trans s2).trans s3
    have N3 := fresh_of (s1.trans s2) n3
    walk_at "x"
    refine x_for (x_r1 ?_)
    walk_at "x"
    refine x_r1n (n := n) (by omega) ?_
    rw [Int.toNat_natCast]
    refine for_range (fun i σ H' => ∃ (l : List Int) (v7 : Option V), σ = [some (.ref p), some (.int m), some (.int n), some (.int kd), some (.int sz), some (.int lo), some (.ref c3), v7] ∧ Same H H' ∧ LiAt H' c3 l ∧ l.length = i ∧ Wd (B0 + 2 * i) l)
      ⟨[], none, rfl, S3, e3, rfl, fun x hx => by simp at hx⟩ ?_ ?_
    · rintro i σ H4 hi ⟨l, v7, rfl, s4, e4, hl, hw⟩
      have e4' : H4 c3 = some (.lst (l.map V.int)) := e4
      rw [Int.zero_add]
      walk_at "x"
      refine ⟨p, _, rfl, s4 _ _ hp, z0.1, by have := z0.2; omega, fun d d0 d1 => ?_⟩
      walk_at "x"
      refine x_app e4' (smallL (by rw [ints_len]; omega)) ?_
      have eN : l.map V.int ++ [V.int (lo + d)] = (l ++ [lo + d]).map V.int := by simp
      rw [eN]
      have s5 := same_mut (o := .lst ((l ++ [lo + d]).map V.int)) s4 N3
      have e5 : LiAt (upd H4 c3 (.lst ((l ++ [lo + d]).map V.int))) c3 (l ++ [lo + d]) := upd_same
      have w5 : Wd (B0 + 2 * i) (l ++ [lo + d]) := hw.snoc (by unfold B0; omega)
      generalize upd H4 c3 (.lst ((l ++ [lo + d]).map V.int)) = H5 at *
      have hl5 : (l ++ [lo + d]).length = i + 1 := by rw [List.length_append, hl]; rfl
      generalize l ++ [lo + d] = l5 at *
      have e5' : H5 c3 = some (.lst (l5.map V.int)) := e5
      walk_at "x"
      refine x_ite (fun h => ?_) (fun h => ?_)
      · walk_at "x"
        refine ⟨p, _, rfl, s5 _ _ hp, by decide, by decide, fun d2 d20 d21 => ?_⟩
        walk_at "x"
        rw [dec_vint]
        refine x_ite (fun h2 => ?_) (fun h2 => ?_)
        · have hi1 : i - 1 < l5.length := by omega
          have ey := List.getElem?_eq_getElem hi1
          have by_ := w5 _ (List.getElem_mem hi1)
          generalize l5[i - 1] = y at *
          walk_at "x"
          rw [show ((i : Int) - 1) = ((i - 1 : Nat) : Int) by omega]
          refine x_ixL e5' (atI_ints ey) ?_
          walk_at "x"
          refine ⟨p, _, rfl, s5 _ _ hp, by decide, by decide, fun d3 d30 d31 => ?_⟩
          walk_at "x"
          refine x_setL (j := i) e5' (by rw [ints_len]; exact ixN_nat (by omega)) ?_
          refine ⟨l5.set i (y + d3 - 1), _, rfl, same_mut s5 N3, ?_, by rw [List.length_set]; exact hl5, ?_⟩
          · rw [← List.map_set]; exact upd_same
          · exact (w5.le (by omega)).set (by omega)
        · walk_at "x"
          exact ⟨l5, _, rfl, s5, e5, hl5, w5.le (by omega)⟩
      · walk_at "x"
        exact ⟨l5, _, rfl, s5, e5, hl5, w5.le (by omega)⟩
    · rintro σ H4 ⟨l, v7, rfl, s4, e4, hl, hw⟩
      walk_at "x"
      exact q c3 l H4 N3 s4 e4 (by omega) (hw.le (by omega))
end
section
local macro_rules | `(tactic| walk_at "set") => `(tactic| first | exact set0 | (apply setS; walk_at "set"))
local macro_rules | `(tactic| walk_at "h") => `(tactic| first | assumption | (refine Same.lk (by assumption) ?_; walk_at "h"))
local macro_rules | `(tactic| walk_at "x1") => `(tactic| first
  | ((with_reducible show tVar _ _ _ _); refine x_var rfl ?_)
  | ((with_reducible show tC _ _ _ _); refine x_c ?_)
  | ((with_reducible show tOp _ _ _ _ _ _); refine x_op ?_)
  | ((with_reducible show tSeq _ _ _ _ _); refine x_seq ?_)
  | ((with_reducible show tAsg _ _ _ _ _); refine x_asg ?_)
  | ((with_reducible show gName _ _ _ _ _); refine x_name2 (by walk_at "set") ?_)
  | ((with_reducible show tCons _ _ _ _ _); refine x_cons ?_)
  | ((with_reducible show tNil _ _ _); refine x_nil ?_)
  | ((with_reducible show rI0 _ (V.int _) (V.int _) _ _); refine x_rI0 ?_)
  | ((with_reducible show tCB _ _ _ _ _); refine x_cb ?_)
  | ((with_reducible show tCall _ [] E0 _ _ _ _); refine x_call ?_)
  | ((with_reducible show rIxT _ _ _ _ _); refine x_ixT (by walk_at "h") (by rfl) ?_)
  | ((with_reducible show rLenQ _ _ _ _); refine x_lenL (by walk_at "h") ?_)
  | ((with_reducible show rLenQ _ _ _ _); refine x_lenT (by walk_at "h") ?_)
  | ((with_reducible show tIfS _ _ _ _ _ _); refine x_if ?_)
  | ((with_reducible show tTest _ _ _ _); refine x_test ?_)
  | ((with_reducible show tB _ _ _ _); refine x_tB ?_)
  | ((with_reducible show tYes _ _ _); refine x_yes ?_)
  | ((with_reducible show gTup _ _ _ (V.ref _) _ _ _); refine x_gtup (by walk_at "h") (by rfl) ?_)
  | ((with_reducible show gCons _ _ (_ :: _) _ _ _); refine x_gcons ?_)
  | ((with_reducible show gNil [] _ _ _); refine x_gnil ?_)
  | ((with_reducible show tPar _ _ _ _ _ _); refine x_par ?_)
  | ((with_reducible show Ends.nx _ _ _); dsimp only)
  | (with_reducible refine x_bl ?_)
  | (with_reducible refine x_T ?_)
  | (with_reducible refine x_nT ?_)
  | (with_reducible refine x_nF ?_)
  | (with_reducible refine x_F ?_)
  | ((with_reducible show rEq _ _ _ _); refine x_eq rfl ?_)
  | ((with_reducible show rNe _ _ _ _); refine x_ne rfl ?_)
  | ((with_reducible show rIsNn _ _ _ _); refine x_isN ?_)
  | ((with_reducible show tRet _ _ _ _); refine x_ret ?_)
  | ((with_reducible show tNext _ _ _); refine x_next ?_)
  | ((with_reducible show tRetN _ _ _); refine x_retN ?_)
  | ((with_reducible show tDrop _ _ _ _); refine x_drop ?_)
  | ((with_reducible show tTup _ _ _ _); refine x_tup ?_)
  | ((with_reducible show tLst _ _ _ _); refine x_lst ?_)
  | ((with_reducible show tUn _ _ _ _ _); refine x_un ?_)
  | ((with_reducible show rU _ (V.int _) _ _); refine x_rU ?_)
  | ((with_reducible show tNot _ _ _ _); refine x_notT ?_)
  | ((with_reducible show tAnd _ _ _ _ _); refine x_and ?_)
  | ((with_reducible show tOr _ _ _ _ _); refine x_or ?_)
  | ((with_reducible show tSl _ _ _ _ _ _ _); refine x_sl ?_)
  | ((with_reducible show tNoPart _ _ _); refine x_noP ?_)
  | ((with_reducible show tPart _ _ _ _); refine x_part ?_)
  | (with_reducible refine x_pi ?_)
  | ((with_reducible show tBM _ _ _ _ _ _ _ _); refine x_bm ?_)
  | ((with_reducible show tyV _ "list" _ _ ∧ _); refine x_tyL (by walk_at "h") ?_)
  | ((with_reducible show gSub _ _ _ _ _ _ _); refine x_sub ?_)
  | ((with_reducible show rInt1 [V.int _] _ _); refine x_int ?_)
  | ((with_reducible show rInt1 [V.bl _] _ _); refine x_intB ?_)
  | ((with_reducible show rMin2 _ _ _); refine x_min ?_)
  | ((with_reducible show rMax2 _ _ _); refine x_max ?_))
local macro_rules | `(tactic| walk_at "x") => `(tactic| (repeat walk_at "x1"))
local macro_rules | `(tactic| walk_at "x1") => `(tactic| ((with_reducible show tAndV _ _ _ _ _); refine x_andV ?_))
local macro_rules | `(tactic| walk_at "x1") => `(tactic| ((with_reducible show tOrV _ _ _ _ _); refine x_orV ?_))
local macro_rules | `(tactic| walk_at "x1") => `(tactic| ((with_reducible show tNotV _ _ _ _); refine x_notV ?_))
variable {P : Program} {w : World} {K : PySem.W.Frag} {mg : Str → Option Value} {base : Heap}
theorem erase_perm : ∀ (l : List Int) (k : Nat) (h : k < l.length), (l[k] :: l.eraseIdx k).Perm l
  | [], k, h => by simp at h
  | x :: l, 0, h => by simp
  | x :: l, k + 1, h => by
    have hk : k < l.length := by simpa using h
    show (l[k] :: x :: l.eraseIdx k).Perm (x :: l)
    exact (List.Perm.swap _ _ _).trans ((erase_perm l k hk).cons x)
theorem erase_map : ∀ (l : List Int) (k : Nat), (l.map V.int).eraseIdx k = (l.eraseIdx k).map V.int
  | [], k => by simp
  | x :: l, 0 => rfl
  | x :: l, k + 1 => by
    show V.int x :: (l.map V.int).eraseIdx k = V.int x :: (l.eraseIdx k).map V.int
    rw [erase_map l k]
def spOrder : Sp := fun vs H Q _ => ∃ (p a : Addr) (l : List Int), vs = [.ref p, .ref a] ∧ Strm H p ∧ LiAt H a l ∧ l.length ≤ 20 ∧ ∀ (r : Addr) (l' : List Int) H', H r = none → Same H H' → LiAt H' r l' → l'.Perm l → Q (.ref r) H'
theorem ok__law_order (T : Txt K mg) : Kd P w K mg base "_law_order" ["_law_stream_here", "_law_word_here"] 2 spOrder := by
  refine kd_of T.d__law_order sc__law_order (fun vs H Q E h => ?_) (fun f cdv A outer s H vs Q E hr h => ?_)
  · obtain ⟨p, a, l, rfl, _⟩ := h
    rfl
  · obtain ⟨p, a, l, rfl, hp, ha, hl, q⟩ := h
    refine ⟨_, (pss_cons (ps_set (i := 2) sc__law_order.nd rfl (.inl rfl) (pe_callTy (n_list_ofK (K := K) rfl) (by rfl) T.n_list (by decide +kernel) (pa_cons (pv 1) pa_nil)))
(pss_cons (ps_set (i := 3) sc__law_order.nd rfl (.inl rfl) (pe_lst (pa_m pa_nil)))
(pss_cons (ps_while PassesOwn.never (pt_cmpR op_gt (pe_callB (n_lenK (K := K) rfl) (by rfl) T.n_len PySem.boot_len (pa_cons (pv 2) pa_nil)) pe_int (nomark _))
(pss_one (ps_expr (pe_bmK (K := K) rfl (pe_bm PySem.F.plainAttrs_list PySem.F.slot_list_append PySem.F.type_list_append mt_append (pv 3) (pa_cons (pe_bmK (K := K) rfl (pe_bm PySem.F.plainAttrs_list PySem.F.slot_list_pop PySem.F.type_list_pop mt_popAt (pv 2) (pa_cons (pe_kd (ok__law_next T) (hr.mono (by decide)) (by rfl) (pa_cons (pv 0) (pa_cons (pe_callB (n_lenK (K := K) rfl) (by rfl) T.n_len PySem.boot_len (pa_cons (pv 2) pa_nil)) pa_nil))) pa_nil))) pa_nil))))))
(pss_one (ps_ret (pv 3)))))), ?_⟩
    refine st_lit (σ' := [some (V.ref p), some (V.ref a), none, none]) rfl ?_
    walk_at "x"
    refine x_listL ha fun c1 H1 n1 s1 e1 => ?_
    walk_at "x"
    refine ⟨by decide, fun c2 H2 n2 s2 e2 => ?_⟩
    have e1' := s2 _ _ e1
    have N2 := fresh_of s1 n2
    have hne : c1 ≠ c2 := ne_of_none e1 n2
    walk_at "x"
    refine x_while (fun m σ H' => ∃ (rest ord : List Int), σ = [some (.ref p), some (.ref a), some (.ref c1), some (.ref c2)] ∧ Same H H' ∧ LiAt H' c1 rest ∧ LiAt H' c2 ord ∧ (ord ++ rest).Perm l ∧ m = rest.length) l.length
      ⟨l, [], rfl, s1.trans s2, e1', e2, by simp, rfl⟩ ?_
    rintro m σ H' ⟨rest, ord, rfl, s3, f1, f2, hp3, rfl⟩
    have hlen := hp3.length_eq
    rw [List.length_append] at hlen
    have f1' : H' c1 = some (.lst (rest.map V.int)) := f1
    have f2' : H' c2 = some (.lst (ord.map V.int)) := f2
    walk_at "x"
    rw [ints_len]
    refine x_ite (fun e => ?_) (fun e => ?_)
    · refine ⟨fun σ' H' => ∃ m', m' < rest.length ∧ ∃ (rest ord : List Int), σ' = [some (.ref p), some (.ref a), some (.ref c1), some (.ref c2)] ∧ Same H H' ∧ LiAt H' c1 rest ∧ LiAt H' c2 ord ∧ (ord ++ rest).Perm l ∧ m' = rest.length, fun σ' H' h => h, ?_⟩
      walk_at "x"
      rw [ints_len]
      refine ⟨p, _, rfl, s3 _ _ hp, by omega, by omega, fun z z0 z1 => ?_⟩
      obtain ⟨k, rfl⟩ : ∃ k : Nat, z = k := ⟨z.toNat, by omega⟩
      have hk : k < rest.length := by omega
      refine ⟨c1, rest.map V.int, k, k, .int rest[k], rfl, rfl, f1', by omega, by omega, ?_, ints_get (List.getElem?_eq_getElem hk), ?_⟩
      · unfold seqIndex?
        rw [ints_len]
        simp only [show ¬ ((k : Int) < 0) by omega, if_false]
        rw [if_pos (by simp; omega)]
        simp
      have f3 : (upd H' c1 (.lst ((rest.map V.int).eraseIdx k))) c2 = some (.lst (ord.map V.int)) := by rw [upd_ne hne.symm]; exact f2'
      walk_at "x"
      refine x_app f3 (smallL (by rw [ints_len]; omega)) ?_
      refine ⟨rest.length - 1, by omega, rest.eraseIdx k, ord ++ [rest[k]], rfl, same_mut (same_mut s3 n1) N2, ?_, ?_, ?_, ?_⟩
      · show upd _ _ _ _ = _
        rw [upd_ne hne, upd_same, erase_map]
      · show upd _ _ _ _ = _
        rw [upd_same]
        simp
      · refine List.Perm.trans ?_ hp3
        rw [List.append_assoc]
        refine List.Perm.append_left _ ?_
        rw [List.singleton_append]
        have := erase_perm rest k hk
        exact this
      · rw [List.length_eraseIdx, if_pos hk]
    · have e3 : rest = [] := List.eq_nil_of_length_eq_zero (by omega)
      subst e3
      walk_at "x"
      rw [List.append_nil] at hp3
      exact q c2 ord H' N2 s3 f2 hp3
end
section
local macro_rules | `(tactic| walk_at "set") => `(tactic| first | exact set0 | (apply setS; walk_at "set"))
local macro_rules | `(tactic| walk_at "h") => `(tactic| first | assumption | (refine Same.lk (by assumption) ?_; walk_at "h"))
local macro_rules | `(tactic| walk_at "x1") => `(tactic| first
  | ((with_reducible show tVar _ _ _ _); refine x_var rfl ?_)
  | ((with_reducible show tC _ _ _ _); refine x_c ?_)
  | ((with_reducible show tOp _ _ _ _ _ _); refine x_op ?_)
  | ((with_reducible show tSeq _ _ _ _ _); refine x_seq ?_)
  | ((with_reducible show tAsg _ _ _ _ _); refine x_asg ?_)
  | ((with_reducible show gName _ _ _ _ _); refine x_name2 (by walk_at "set") ?_)
  | ((with_reducible show tCons _ _ _ _ _); refine x_cons ?_)
  | ((with_reducible show tNil _ _ _); refine x_nil ?_)
  | ((with_reducible show rI0 _ (V.int _) (V.int _) _ _); refine x_rI0 ?_)
  | ((with_reducible show tCB _ _ _ _ _); refine x_cb ?_)
  | ((with_reducible show tCall _ [] E0 _ _ _ _); refine x_call ?_)
  | ((with_reducible show rIxT _ _ _ _ _); refine x_ixT (by walk_at "h") (by rfl) ?_)
  | ((with_reducible show rLenQ _ _ _ _); refine x_lenL (by walk_at "h") ?_)
  | ((with_reducible show rLenQ _ _ _ _); refine x_lenT (by walk_at "h") ?_)
  | ((with_reducible show tIfS _ _ _ _ _ _); refine x_if ?_)
  | ((with_reducible show tTest _ _ _ _); refine x_test ?_)
  | ((with_reducible show tB _ _ _ _); refine x_tB ?_)
  | ((with_reducible show tYes _ _ _); refine x_yes ?_)
  | ((with_reducible show gTup _ _ _ (V.ref _) _ _ _); refine x_gtup (by walk_at "h") (by rfl) ?_)
  | ((with_reducible show gCons _ _ (_ :: _) _ _ _); refine x_gcons ?_)
  | ((with_reducible show gNil [] _ _ _); refine x_gnil ?_)
  | ((with_reducible show tPar _ _ _ _ _ _); refine x_par ?_)
  | ((with_reducible show Ends.nx _ _ _); dsimp only)
  | (with_reducible refine x_bl ?_)
  | (with_reducible refine x_T ?_)
  | (with_reducible refine x_nT ?_)
  | (with_reducible refine x_nF ?_)
  | (with_reducible refine x_F ?_)
  | ((with_reducible show rEq _ _ _ _); refine x_eq rfl ?_)
  | ((with_reducible show rNe _ _ _ _); refine x_ne rfl ?_)
  | ((with_reducible show rIsNn _ _ _ _); refine x_isN ?_)
  | ((with_reducible show tRet _ _ _ _); refine x_ret ?_)
  | ((with_reducible show tNext _ _ _); refine x_next ?_)
  | ((with_reducible show tRetN _ _ _); refine x_retN ?_)
  | ((with_reducible show tDrop _ _ _ _); refine x_drop ?_)
  | ((with_reducible show tTup _ _ _ _); refine x_tup ?_)
  | ((with_reducible show tLst _ _ _ _); refine x_lst ?_)
  | ((with_reducible show tUn _ _ _ _ _); refine x_un ?_)
  | ((with_reducible show rU _ (V.int _) _ _); refine x_rU ?_)
  | ((with_reducible show tNot _ _ _ _); refine x_notT ?_)
  | ((with_reducible show tAnd _ _ _ _ _); refine x_and ?_)
  | ((with_reducible show tOr _ _ _ _ _); refine x_or ?_)
  | ((with_reducible show tSl _ _ _ _ _ _ _); refine x_sl ?_)
  | ((with_reducible show tNoPart _ _ _); refine x_noP ?_)
  | ((with_reducible show tPart _ _ _ _); refine x_part ?_)
  | (with_reducible refine x_pi ?_)
  | ((with_reducible show tBM _ _ _ _ _ _ _ _); refine x_bm ?_)
  | ((with_reducible show tyV _ "list" _ _ ∧ _); refine x_tyL (by walk_at "h") ?_)
  | ((with_reducible show gSub _ _ _ _ _ _ _); refine x_sub ?_)
  | ((with_reducible show rInt1 [V.int _] _ _); refine x_int ?_)
  | ((with_reducible show rInt1 [V.bl _] _ _); refine x_intB ?_)
  | ((with_reducible show rMin2 _ _ _); refine x_min ?_)
  | ((with_reducible show rMax2 _ _ _); refine x_max ?_))
local macro_rules | `(tactic| walk_at "x") => `(tactic| (repeat walk_at "x1"))
local macro_rules | `(tactic| walk_at "x1") => `(tactic| ((with_reducible show tAndV _ _ _ _ _); refine x_andV ?_))
local macro_rules | `(tactic| walk_at "x1") => `(tactic| ((with_reducible show tOrV _ _ _ _ _); refine x_orV ?_))
local macro_rules | `(tactic| walk_at "x1") => `(tactic| ((with_reducible show tNotV _ _ _ _); refine x_notV ?_))
variable {P : Program} {w : World} {K : PySem.W.Frag} {mg : Str → Option Value} {base : Heap}
/-! ### moves of the law -/
theorem cut_mid (l : List Int) (i j : Nat) (h : i + j ≤ l.length) : cutV (l.map V.int) (some (i : Int)) (some ((i + j : Nat) : Int)) = ((l.drop i).take j).map V.int := by
  unfold cutV
  rw [HT.sIx_nat, HT.sIx_nat, ints_len, Nat.min_eq_left h, Nat.min_eq_left (show i ≤ l.length by omega), List.map_take, List.map_drop, Nat.add_sub_cancel_left]
theorem three {l : List Int} (h : l.length = 3) : ∃ a b c, l = [a, b, c] := by
  match l, h with
  | [a, b, c], _ => exact ⟨a, b, c, rfl⟩
theorem x_slX {K : PySem.W.Frag} {H : Hp} {Q : VK} {p : Addr} {xs ys : List V} {lo hi : Option Int} (h : H p = some (.lst xs)) (e : cutV xs lo hi = ys) (k : ∀ l H', H l = none → Same H H' → H' l = some (.lst ys) → Q (.ref l) H') : rSlL K (.ref p) lo hi H Q := x_slL h (by rw [e]; exact k)
def spAl1 : Sp := fun vs H Q _ => ∃ (a : Addr) (l : List Int) (i : Nat) (x : Str), vs = [.ref a, .int i, .str x] ∧ LiAt H a l ∧ i + 3 ≤ l.length ∧ ∀ b H', Same H H' → Q (.bl b) H'
theorem ok__law_is_allowed (T : Txt K mg) : Kd P w K mg base "_law_is_allowed" ["_law_word_here", "_law_index", "_law_side"] 1 spAl1 := by
  refine kd_of T.d__law_is_allowed sc__law_is_allowed (fun vs H Q E h => ?_) (fun f cdv A outer s H vs Q E hr h => ?_)
  · obtain ⟨a, l, i, x, rfl, _⟩ := h
    rfl
  · obtain ⟨a, l, i, x, rfl, ha, hi, q⟩ := h
    refine ⟨_, (pss_cons (ps_asg (pe_slice (sl_listK (K := K) rfl) (pv 0) (po_some (pv 1)) (po_some (pe_op op_add (pv 1) pe_int))) (pg_unlK (K := K) rfl rfl (pgs_cons (pg_name (i := 3) sc__law_is_allowed.nd rfl (.inl rfl)) (pgs_cons (pg_name (i := 4) sc__law_is_allowed.nd rfl (.inl rfl)) (pgs_cons (pg_name (i := 5) sc__law_is_allowed.nd rfl (.inl rfl)) pgs_nil)))))
(pss_cons (ps_if (pt_cmpR op_eq (pv 2) pe_str (nomark _))
(pss_one (ps_ret (pe_and (pe_cmpR op_lt (pe_callB (n_min2 rfl) (by rfl) T.n_min (by decide +kernel) (pa_cons (pv 4) (pa_cons (pv 5) pa_nil))) (pv 3) (nomark _)) (pe_one (pe_cmpR op_le (pv 3) (pe_callB (n_max2 rfl) (by rfl) T.n_max (by decide +kernel) (pa_cons (pv 4) (pa_cons (pv 5) pa_nil))) (nomark _))))))
pss_nil)
(pss_one (ps_ret (pe_and (pe_cmpR op_le (pe_callB (n_min2 rfl) (by rfl) T.n_min (by decide +kernel) (pa_cons (pv 3) (pa_cons (pv 4) pa_nil))) (pv 5) (nomark _)) (pe_one (pe_cmpR op_lt (pv 5) (pe_callB (n_max2 rfl) (by rfl) T.n_max (by decide +kernel) (pa_cons (pv 3) (pa_cons (pv 4) pa_nil))) (nomark _)))))))), ?_⟩
    refine st_lit (σ' := [some (V.ref a), some (V.int i), some (V.str x), none, none, none]) rfl ?_
    obtain ⟨u, v, y, e3⟩ := three (l := (l.drop i).take 3) (by rw [List.length_take, List.length_drop]; omega)
    walk_at "x"
    refine x_slX ha (show _ = [V.int u, V.int v, V.int y] by rw [show ((i : Int) + 3) = ((i + 3 : Nat) : Int) by omega, cut_mid l i 3 hi, e3]; rfl) fun c1 H1 n1 s1 e1 => ?_
    walk_at "x"
    refine ⟨c1, _, rfl, SqL.of e1, rfl, ?_⟩
    walk_at "x"
    refine x_b (fun h => ?_) (fun h => ?_)
    · walk_at "x"
      refine x_ite (fun h => ?_) (fun h => ?_)
      · walk_at "x"
        exact q _ H1 s1
      · exact q _ H1 s1
    · walk_at "x"
      refine x_ite (fun h => ?_) (fun h => ?_)
      · walk_at "x"
        exact q _ H1 s1
      · exact q _ H1 s1
/-- a move told in the heap, at a place of the word -/
def MvIn (n : Nat) (H : Hp) (a : Addr) : Prop := ∃ (i : Nat) (x : Str), H a = some (.tup [.int i, .str x]) ∧ i + 3 ≤ n
theorem MvIn.mono {n : Nat} {H H' : Hp} {a : Addr} (s : Same H H') (h : MvIn n H a) : MvIn n H' a := by
  obtain ⟨i, x, e, hi⟩ := h
  exact ⟨i, x, s _ _ e, hi⟩
def spAl : Sp := fun vs H Q _ => ∃ (a : Addr) (l : List Int), vs = [.ref a] ∧ LiAt H a l ∧ l.length ≤ 20 ∧ ∀ r H' (as : List Addr), H r = none → Same H H' → H' r = some (.lst (refs as)) → as.length ≤ 100 → (∀ p ∈ as, MvIn l.length H' p) → Q (.ref r) H'
theorem ok__law_allowed (T : Txt K mg) : Kd P w K mg base "_law_allowed" ["_law_word_here"] 2 spAl := by
  refine kd_of T.d__law_allowed sc__law_allowed (fun vs H Q E h => ?_) (fun f cdv A outer s H vs Q E hr h => ?_)
  · obtain ⟨a, l, rfl, _⟩ := h
    rfl
  · obtain ⟨a, l, rfl, ha, hl, q⟩ := h
    refine ⟨_, (pss_cons (ps_set (i := 1) sc__law_allowed.nd rfl (.inl rfl) (pe_lst (pa_m pa_nil)))
(pss_cons (ps_for PassesOwn.never rfl (pi_range1 (by rfl) T.n_range (pa_cons (pe_op op_sub (pe_callB (n_lenK (K := K) rfl) (by rfl) T.n_len PySem.boot_len (pa_cons (pv 0) pa_nil)) pe_int) pa_nil)) (pg_name (i := 2) sc__law_allowed.nd rfl (.inl rfl))
(pss_one (ps_for PassesOwn.never rfl (pi_listK (K := K) rfl (pe_lst (pa_m (pa_cons pe_str (pa_cons pe_str pa_nil))))) (pg_name (i := 3) sc__law_allowed.nd rfl (.inl rfl))
(pss_one (ps_if (pt_val (pe_kd (ok__law_is_allowed T) (hr.mono (by decide)) (by rfl) (pa_cons (pv 0) (pa_cons (pv 2) (pa_cons (pv 3) pa_nil)))))
(pss_one (ps_expr (pe_bmK (K := K) rfl (pe_bm PySem.F.plainAttrs_list PySem.F.slot_list_append PySem.F.type_list_append mt_append (pv 1) (pa_cons (pe_tup (pa_m (pa_cons (pv 2) (pa_cons (pv 3) pa_nil)))) pa_nil)))))
pss_nil)))))
(pss_one (ps_ret (pv 1))))), ?_⟩
    refine st_lit (σ' := [some (V.ref a), none, none, none]) rfl ?_
    walk_at "x"
    refine ⟨by decide, fun c1 H1 n1 s1 e1 => ?_⟩
    have ha1 : H1 a = some (.lst (l.map V.int)) := ha.mono s1
    walk_at "x"
    refine x_for (x_r1 ?_)
    walk_at "x"
    rw [ints_len]
    refine x_r1z (by omega) (by omega) ?_
    have em : ((l.length : Int) - 2).toNat = l.length - 2 := by omega
    rw [em]
    refine for_range (fun i σ H' => ∃ (as : List Addr) (v2 v3 : Option V), σ = [some (.ref a), some (.ref c1), v2, v3] ∧ Same H H' ∧ H' c1 = some (.lst (refs as)) ∧ as.length ≤ 2 * i ∧ ∀ p ∈ as, H p = none ∧ p ≠ c1 ∧ MvIn l.length H' p)
      ⟨[], none, none, rfl, s1, e1, by simp, fun p hp => by simp at hp⟩ ?_ ?_
    · rintro i σ H2 hi ⟨as, v2, v3, rfl, s2, e2, hz, hM⟩
      rw [Int.zero_add]
      walk_at "x"
      refine x_for (x_pl ?_)
      walk_at "x"
      refine ⟨by show 2 ≤ sizeLine; decide, fun c3 H3 n3 s3 e3 => ?_⟩
      have e2' := s3 _ _ e2
      have n3' := fresh_of s2 n3
      have ne3 : c3 ≠ c1 := (ne_of_none e2 n3).symm
      refine x_pln e3 ?_
      refine for_list (K := K) (a := c3) (xs := [V.str "left", V.str "right"]) (fun j σ H' => ∃ (as : List Addr) (v3 : Option V), σ = [some (.ref a), some (.ref c1), some (.int i), v3] ∧ Same H H' ∧ H' c3 = some (.lst [V.str "left", V.str "right"]) ∧ H' c1 = some (.lst (refs as)) ∧ as.length ≤ 2 * i + j ∧ ∀ p ∈ as, H p = none ∧ p ≠ c1 ∧ MvIn l.length H' p)
        ⟨as, v3, rfl, s2.trans s3, e3, e2', by omega, fun p hp => ⟨(hM p hp).1, (hM p hp).2.1, (hM p hp).2.2.mono s3⟩⟩ (fun i σ H' _ h => by obtain ⟨_, _, _, _, e, _⟩ := h; exact SqL.of e) ?_ ?_
      · rintro j x σ H4 hx ⟨as, v3, rfl, s4, e4, f4, hz4, hM4⟩
        obtain ⟨y, rfl⟩ : ∃ y : Str, x = .str y := by
          rcases List.mem_cons.mp (List.mem_of_getElem? hx) with h | h
          · exact ⟨_, h⟩
          · exact ⟨_, List.mem_singleton.mp h⟩
        have hj : j < 2 := (List.getElem?_eq_some_iff.mp hx).1
        walk_at "x"
        refine ⟨a, l, i, y, rfl, ha.mono s4, by omega, fun b H5 s5 => ?_⟩
        have f5 := s5 _ _ f4
        have e5 := s5 _ _ e4
        walk_at "x"
        refine x_b (fun h => ?_) (fun h => ?_)
        · walk_at "x"
          refine ⟨by show 2 ≤ sizeLine; decide, fun c6 H6 n6 s6 e6 => ?_⟩
          have f6 := s6 _ _ f5
          have n6' := fresh_of (s4.trans s5) n6
          have ne6 : c6 ≠ c1 := (ne_of_none f5 n6).symm
          walk_at "x"
          refine x_app f6 (smallL (by rw [refs_len]; omega)) ?_
          rw [refs_snoc]
          refine ⟨as ++ [c6], _, rfl, same_mut ((s4.trans s5).trans s6) n1, by rw [upd_ne ne3]; exact s6 _ _ e5, upd_same, by rw [List.length_append]; show as.length + 1 ≤ _; omega, fun p hp => ?_⟩
          rcases List.mem_append.mp hp with h | h
          · obtain ⟨k1, k2, i', x', k3, k4⟩ := hM4 p h
            exact ⟨k1, k2, i', x', by rw [upd_ne k2]; exact s6 _ _ (s5 _ _ k3), k4⟩
          · rw [List.mem_singleton.mp h]
            exact ⟨n6', ne6, i, y, by rw [upd_ne ne6]; exact e6, by omega⟩
        · walk_at "x"
          exact ⟨as, _, rfl, s4.trans s5, e5, f5, by omega, fun p hp => ⟨(hM4 p hp).1, (hM4 p hp).2.1, (hM4 p hp).2.2.mono s5⟩⟩
      · rintro σ H4 ⟨as, v3, rfl, s4, e4, f4, hz4, hM4⟩
        exact ⟨as, _, _, rfl, s4, f4, by simp at hz4; omega, hM4⟩
    · rintro σ H2 ⟨as, v2, v3, rfl, s2, e2, hz, hM⟩
      walk_at "x"
      exact q c1 H2 as n1 s2 e2 (by omega) fun p hp => (hM p hp).2.2
def spMv : Sp := fun vs H Q _ => ∃ (a m : Addr) (l : List Int), vs = [.ref a, .ref m] ∧ LiAt H a l ∧ MvIn l.length H m ∧ l.length ≤ 20 ∧ ∀ r l' H', H r = none → Same H H' → LiAt H' r l' → l'.length = l.length → (∀ x ∈ l', x ∈ l) → Q (.ref r) H'
theorem ok__law_moved (T : Txt K mg) : Kd P w K mg base "_law_moved" ["_law_word_here", "_law_move"] 1 spMv := by
  refine kd_of T.d__law_moved sc__law_moved (fun vs H Q E h => ?_) (fun f cdv A outer s H vs Q E hr h => ?_)
  · obtain ⟨a, m, l, rfl, _⟩ := h
    rfl
  · obtain ⟨a, m, l, rfl, ha, ⟨i, x, em, hi⟩, hl, q⟩ := h
    refine ⟨_, (pss_cons (ps_set (i := 2) sc__law_moved.nd rfl (.inl rfl) (pe_op op_add (pe_ix (ix_tupK (K := K) rfl) (pv 1) pe_int (fun _ _ => rfl)) (pe_callTy n_int (by rfl) T.n_int (by decide +kernel) (pa_cons (pe_cmpR op_eq (pe_ix (ix_tupK (K := K) rfl) (pv 1) pe_int (fun _ _ => rfl)) pe_str (nomark _)) pa_nil))))
(pss_cons (ps_set (i := 3) sc__law_moved.nd rfl (.inl rfl) (pe_callTy (n_list_ofK (K := K) rfl) (by rfl) T.n_list (by decide +kernel) (pa_cons (pv 0) pa_nil)))
(pss_cons (ps_asg (pe_ix (ix_listK (K := K) rfl) (pv 0) (pe_op op_add (pv 2) pe_int) (fun _ _ => rfl)) (pg_sub (pv 3) (pv 2) set_list))
(pss_cons (ps_asg (pe_ix (ix_listK (K := K) rfl) (pv 0) (pv 2) (fun _ _ => rfl)) (pg_sub (pv 3) (pe_op op_add (pv 2) pe_int) set_list))
(pss_one (ps_ret (pv 3))))))), ?_⟩
    refine st_lit (σ' := [some (V.ref a), some (V.ref m), none, none]) rfl ?_
    have ha' : H a = some (.lst (l.map V.int)) := ha
    walk_at "x"
    obtain ⟨pl, epl, hpl⟩ : ∃ pl : Nat, (i : Int) + (if decide (V.str x = V.str "right") then 1 else 0) = (pl : Int) ∧ pl + 1 < l.length := by
      by_cases h : V.str x = V.str "right"
      · exact ⟨i + 1, by rw [if_pos (decide_eq_true h)]; omega, by omega⟩
      · exact ⟨i, by rw [if_neg (by simpa using h)]; omega, by omega⟩
    rw [epl]
    walk_at "x"
    refine x_listL ha' fun c1 H1 n1 s1 e1 => ?_
    have hp0 : pl < l.length := by omega
    have g0 := List.getElem?_eq_getElem hp0
    have g1 := List.getElem?_eq_getElem hpl
    have m0 := List.getElem_mem hp0
    have m1 := List.getElem_mem hpl
    generalize l[pl] = u at *
    generalize l[pl + 1] = v at *
    have ha1 := s1 _ _ ha'
    walk_at "x"
    rw [show ((pl : Int) + 1) = ((pl + 1 : Nat) : Int) by omega]
    refine x_ixL ha1 (atI_ints g1) ?_
    walk_at "x"
    refine x_setL (j := pl) e1 (by rw [ints_len]; exact ixN_nat hp0) ?_
    have s2 := same_mut (o := .lst ((l.map V.int).set pl (.int v))) s1 n1
    have e2 : upd H1 c1 (.lst ((l.map V.int).set pl (.int v))) c1 = some (.lst ((l.map V.int).set pl (.int v))) := upd_same
    generalize upd H1 c1 (.lst ((l.map V.int).set pl (.int v))) = H2 at *
    have ha2 := s2 _ _ ha'
    walk_at "x"
    refine x_ixL ha2 (atI_ints g0) ?_
    walk_at "x"
    rw [show ((pl : Int) + 1) = ((pl + 1 : Nat) : Int) by omega]
    refine x_setL (j := pl + 1) e2 (by rw [List.length_set, ints_len]; exact ixN_nat hpl) ?_
    walk_at "x"
    refine q c1 ((l.set pl v).set (pl + 1) u) _ n1 (same_mut s2 n1) ?_ (by simp) fun y hy => ?_
    · show upd _ _ _ _ = _
      rw [upd_same, List.map_set, List.map_set]
    · rcases List.mem_or_eq_of_mem_set hy with h | h
      · rcases List.mem_or_eq_of_mem_set h with h | h
        · exact h
        · rw [h]; exact m1
      · rw [h]; exact m0
def spLong : Sp := fun vs H Q _ => ∃ (p a : Addr) (l : List Int), vs = [.ref p, .ref a] ∧ Strm H p ∧ LiAt H a l ∧ l.length ≤ 20 ∧ ∀ r l' H', H r = none → Same H H' → LiAt H' r l' → l'.length ≤ l.length + 1 → (∀ x ∈ l', x ∈ l ∨ x.natAbs < 9) → Q (.ref r) H'
theorem ok__law_longer (T : Txt K mg) : Kd P w K mg base "_law_longer" ["_law_stream_here", "_law_word_here"] 2 spLong := by
  refine kd_of T.d__law_longer sc__law_longer (fun vs H Q E h => ?_) (fun f cdv A outer s H vs Q E hr h => ?_)
  · obtain ⟨p, a, l, rfl, _⟩ := h
    rfl
  · obtain ⟨p, a, l, rfl, hp, ha, hl, q⟩ := h
    refine ⟨_, (pss_cons (ps_set (i := 2) sc__law_longer.nd rfl (.inl rfl) (pe_kd (ok__law_next T) (hr.mono (by decide)) (by rfl) (pa_cons (pv 0) (pa_cons (pe_op op_add (pe_callB (n_lenK (K := K) rfl) (by rfl) T.n_len PySem.boot_len (pa_cons (pv 1) pa_nil)) pe_int) pa_nil))))
(pss_cons (ps_if (PW.pt (pw_and (pt_cmpR op_lt (pv 2) (pe_callB (n_lenK (K := K) rfl) (by rfl) T.n_len PySem.boot_len (pa_cons (pv 1) pa_nil)) (nomark _)) (pw_and1 (pt_cmpR op_eq (pe_kd (ok__law_next T) (hr.mono (by decide)) (by rfl) (pa_cons (pv 0) (pa_cons pe_int pa_nil))) pe_int (nomark _)))))
(pss_one (ps_ret (pe_op op_cat (pe_slice (sl_listK (K := K) rfl) (pv 1) po_none (po_some (pv 2))) (pe_slice (sl_listK (K := K) rfl) (pv 1) (po_some (pe_op op_add (pv 2) pe_int)) po_none))))
pss_nil)
(pss_one (ps_ret (pe_op op_cat (pe_op op_cat (pe_slice (sl_listK (K := K) rfl) (pv 1) po_none (po_some (pv 2))) (pe_lst (pa_m (pa_cons (pe_kd (ok__law_next T) (hr.mono (by decide)) (by rfl) (pa_cons (pv 0) (pa_cons pe_int pa_nil))) pa_nil)))) (pe_slice (sl_listK (K := K) rfl) (pv 1) (po_some (pv 2)) po_none)))))), ?_⟩
    refine st_lit (σ' := [some (V.ref p), some (V.ref a), none]) rfl ?_
    have ha' : H a = some (.lst (l.map V.int)) := ha
    walk_at "x"
    rw [ints_len]
    refine ⟨p, _, rfl, hp, by omega, by omega, fun z z0 z1 => ?_⟩
    obtain ⟨k, rfl⟩ : ∃ k : Nat, z = k := ⟨z.toNat, by omega⟩
    have hk : k ≤ l.length := by omega
    walk_at "x"
    rw [ints_len]
    refine x_ite (fun h => ?_) (fun h => ?_)
    · walk_at "x"
      refine ⟨p, _, rfl, hp, by decide, by decide, fun d d0 d1 => ?_⟩
      walk_at "x"
      rw [dec_vint]
      refine x_ite (fun h2 => ?_) (fun h2 => ?_)
      · walk_at "x"
        refine x_slL ha' fun c1 H1 n1 s1 e1 => ?_
        rw [cut_take] at e1
        walk_at "x"
        refine x_slL (s1 _ _ ha') fun c4 H4 n4 s4 e4 => ?_
        rw [show ((k : Int) + 1) = ((k + 1 : Nat) : Int) by omega, cut_drop] at e4
        refine x_cat3 (LiAt.mono s4 e1) e4 (by rw [List.length_take]; omega) (by rw [List.length_drop]; omega) fun c5 H5 n5 s5 e5 => ?_
        refine q c5 _ H5 (fresh_of (s1.trans s4) n5) ((s1.trans s4).trans s5) e5 ?_ fun x hx => ?_
        · rw [List.length_append, List.length_take, List.length_drop]; omega
        · rcases List.mem_append.mp hx with h | h
          · exact .inl (List.mem_of_mem_take h)
          · exact .inl (List.mem_of_mem_drop h)
      · walk_at "x"
        refine x_slL ha' fun c1 H1 n1 s1 e1 => ?_
        rw [cut_take] at e1
        walk_at "x"
        refine ⟨p, _, rfl, s1 _ _ hp, by decide, by decide, fun d d0 d1 => ?_⟩
        walk_at "x"
        refine ⟨by show 1 ≤ sizeLine; decide, fun c2 H2 n2 s2 e2 => ?_⟩
        refine x_cat3 (k := [d]) (s2 _ _ e1) e2 (by rw [List.length_take]; omega) (by show 1 ≤ 5000; omega) fun c3 H3 n3 s3 e3 => ?_
        walk_at "x"
        refine x_slL (s3 _ _ (s2 _ _ (s1 _ _ ha'))) fun c4 H4 n4 s4 e4 => ?_
        rw [cut_drop] at e4
        refine x_cat3 (e3.mono s4) e4 (by rw [List.length_append, List.length_take]; show _ + 1 ≤ _; omega) (by rw [List.length_drop]; omega) fun c5 H5 n5 s5 e5 => ?_
        refine q c5 _ H5 (fresh_of (((s1.trans s2).trans s3).trans s4) n5) ((((s1.trans s2).trans s3).trans s4).trans s5) e5 ?_ fun x hx => ?_
        · rw [List.length_append, List.length_append, List.length_take, List.length_drop]; show _ + 1 + _ ≤ _; omega
        · rcases List.mem_append.mp hx with h | h
          · rcases List.mem_append.mp h with h | h
            · exact .inl (List.mem_of_mem_take h)
            · exact .inr (by rw [List.mem_singleton.mp h]; omega)
          · exact .inl (List.mem_of_mem_drop h)
    · walk_at "x"
      refine x_slL ha' fun c1 H1 n1 s1 e1 => ?_
      rw [cut_take] at e1
      walk_at "x"
      refine ⟨p, _, rfl, s1 _ _ hp, by decide, by decide, fun d d0 d1 => ?_⟩
      walk_at "x"
      refine ⟨by show 1 ≤ sizeLine; decide, fun c2 H2 n2 s2 e2 => ?_⟩
      refine x_cat3 (k := [d]) (s2 _ _ e1) e2 (by rw [List.length_take]; omega) (by show 1 ≤ 5000; omega) fun c3 H3 n3 s3 e3 => ?_
      walk_at "x"
      refine x_slL (s3 _ _ (s2 _ _ (s1 _ _ ha'))) fun c4 H4 n4 s4 e4 => ?_
      rw [cut_drop] at e4
      refine x_cat3 (e3.mono s4) e4 (by rw [List.length_append, List.length_take]; show _ + 1 ≤ _; omega) (by rw [List.length_drop]; omega) fun c5 H5 n5 s5 e5 => ?_
      refine q c5 _ H5 (fresh_of (((s1.trans s2).trans s3).trans s4) n5) ((((s1.trans s2).trans s3).trans s4).trans s5) e5 ?_ fun x hx => ?_
      · rw [List.length_append, List.length_append, List.length_take, List.length_drop]; show _ + 1 + _ ≤ _; omega
      · rcases List.mem_append.mp hx with h | h
        · rcases List.mem_append.mp h with h | h
          · exact .inl (List.mem_of_mem_take h)
          · exact .inr (by rw [List.mem_singleton.mp h]; omega)
        · exact .inl (List.mem_of_mem_drop h)
end
section
local macro_rules | `(tactic| walk_at "set") => `(tactic| first | exact set0 | (apply setS; walk_at "set"))
local macro_rules | `(tactic| walk_at "h") => `(tactic| first | assumption | (refine Same.lk (by assumption) ?_; walk_at "h"))
local macro_rules | `(tactic| walk_at "x1") => `(tactic| first
  | ((with_reducible show tVar _ _ _ _); refine x_var rfl ?_)
  | ((with_reducible show tC _ _ _ _); refine x_c ?_)
  | ((with_reducible show tOp _ _ _ _ _ _); refine x_op ?_)
  | ((with_reducible show tSeq _ _ _ _ _); refine x_seq ?_)
  | ((with_reducible show tAsg _ _ _ _ _); refine x_asg ?_)
  | ((with_reducible show gName _ _ _ _ _); refine x_name2 (by walk_at "set") ?_)
  | ((with_reducible show tCons _ _ _ _ _); refine x_cons ?_)
  | ((with_reducible show tNil _ _ _); refine x_nil ?_)
  | ((with_reducible show rI0 _ (V.int _) (V.int _) _ _); refine x_rI0 ?_)
  | ((with_reducible show tCB _ _ _ _ _); refine x_cb ?_)
  | ((with_reducible show tCall _ [] E0 _ _ _ _); refine x_call ?_)
  | ((with_reducible show rIxT _ _ _ _ _); refine x_ixT (by walk_at "h") (by rfl) ?_)
  | ((with_reducible show rLenQ _ _ _ _); refine x_lenL (by walk_at "h") ?_)
  | ((with_reducible show rLenQ _ _ _ _); refine x_lenT (by walk_at "h") ?_)
  | ((with_reducible show tIfS _ _ _ _ _ _); refine x_if ?_)
  | ((with_reducible show tTest _ _ _ _); refine x_test ?_)
  | ((with_reducible show tB _ _ _ _); refine x_tB ?_)
  | ((with_reducible show tYes _ _ _); refine x_yes ?_)
  | ((with_reducible show gTup _ _ _ (V.ref _) _ _ _); refine x_gtup (by walk_at "h") (by rfl) ?_)
  | ((with_reducible show gCons _ _ (_ :: _) _ _ _); refine x_gcons ?_)
  | ((with_reducible show gNil [] _ _ _); refine x_gnil ?_)
  | ((with_reducible show tPar _ _ _ _ _ _); refine x_par ?_)
  | ((with_reducible show Ends.nx _ _ _); dsimp only)
  | (with_reducible refine x_bl ?_)
  | (with_reducible refine x_T ?_)
  | (with_reducible refine x_nT ?_)
  | (with_reducible refine x_nF ?_)
  | (with_reducible refine x_F ?_)
  | ((with_reducible show rEq _ _ _ _); refine x_eq rfl ?_)
  | ((with_reducible show rNe _ _ _ _); refine x_ne rfl ?_)
  | ((with_reducible show rIsNn _ _ _ _); refine x_isN ?_)
  | ((with_reducible show tRet _ _ _ _); refine x_ret ?_)
  | ((with_reducible show tNext _ _ _); refine x_next ?_)
  | ((with_reducible show tRetN _ _ _); refine x_retN ?_)
  | ((with_reducible show tDrop _ _ _ _); refine x_drop ?_)
  | ((with_reducible show tTup _ _ _ _); refine x_tup ?_)
  | ((with_reducible show tLst _ _ _ _); refine x_lst ?_)
  | ((with_reducible show tUn _ _ _ _ _); refine x_un ?_)
  | ((with_reducible show rU _ (V.int _) _ _); refine x_rU ?_)
  | ((with_reducible show tNot _ _ _ _); refine x_notT ?_)
  | ((with_reducible show tAnd _ _ _ _ _); refine x_and ?_)
  | ((with_reducible show tOr _ _ _ _ _); refine x_or ?_)
  | ((with_reducible show tSl _ _ _ _ _ _ _); refine x_sl ?_)
  | ((with_reducible show tNoPart _ _ _); refine x_noP ?_)
  | ((with_reducible show tPart _ _ _ _); refine x_part ?_)
  | (with_reducible refine x_pi ?_)
  | ((with_reducible show tBM _ _ _ _ _ _ _ _); refine x_bm ?_)
  | ((with_reducible show tyV _ "list" _ _ ∧ _); refine x_tyL (by walk_at "h") ?_)
  | ((with_reducible show gSub _ _ _ _ _ _ _); refine x_sub ?_)
  | ((with_reducible show rInt1 [V.int _] _ _); refine x_int ?_)
  | ((with_reducible show rInt1 [V.bl _] _ _); refine x_intB ?_)
  | ((with_reducible show rMin2 _ _ _); refine x_min ?_)
  | ((with_reducible show rMax2 _ _ _); refine x_max ?_))
local macro_rules | `(tactic| walk_at "x") => `(tactic| (repeat walk_at "x1"))
local macro_rules | `(tactic| walk_at "x1") => `(tactic| ((with_reducible show tAndV _ _ _ _ _); refine x_andV ?_))
local macro_rules | `(tactic| walk_at "x1") => `(tactic| ((with_reducible show tOrV _ _ _ _ _); refine x_orV ?_))
local macro_rules | `(tactic| walk_at "x1") => `(tactic| ((with_reducible show tNotV _ _ _ _); refine x_notV ?_))
variable {P : Program} {w : World} {K : PySem.W.Frag} {mg : Str → Option Value} {base : Heap}
/-! ### a table in the making: lists that change -/
structure Rows (H0 H : Hp) (c : Addr) (as : List Addr) (R : List (List Int)) : Prop where
  hh : Same H0 H
  c0 : H0 c = none
  a0 : ∀ p ∈ as, H0 p = none
  nd : as.Nodup
  nc : ∀ p ∈ as, p ≠ c
  ec : H c = some (.lst (refs as))
  al : All (LiAt H) as R
theorem Rows.mono {H0 H H' : Hp} {c : Addr} {as : List Addr} {R : List (List Int)} (h : Rows H0 H c as R) (s : Same H H') : Rows H0 H' c as R :=
  ⟨h.hh.trans s, h.c0, h.a0, h.nd, h.nc, s _ _ h.ec, h.al.mono s⟩
theorem Rows.put {H0 H : Hp} {c p : Addr} {as : List Addr} {R : List (List Int)} {i : Nat} (h : Rows H0 H c as R) (e : as[i]? = some p) (l : List Int) : Rows H0 (upd H p (.lst (l.map V.int))) c as (R.set i l) := by
  have hm := List.mem_of_getElem? e
  refine ⟨same_mut h.hh (h.a0 p hm), h.c0, h.a0, h.nd, h.nc, by rw [upd_ne (h.nc p hm).symm]; exact h.ec, ⟨by rw [List.length_set]; exact h.al.len, fun j q k a b => ?_⟩⟩
  rw [List.getElem?_set] at b
  by_cases ej : i = j
  · subst ej
    rw [if_pos rfl] at b
    rw [e] at a
    cases a
    split at b
    · cases b
      exact upd_same
    · cases b
  · rw [if_neg ej] at b
    have hq : q ≠ p := fun z => by
      subst z
      obtain ⟨hi, e1⟩ := List.getElem?_eq_some_iff.mp e
      obtain ⟨hj, e2⟩ := List.getElem?_eq_some_iff.mp a
      exact ej ((List.getElem_inj h.nd).mp (e1.trans e2.symm))
    show upd _ _ _ _ = _
    rw [upd_ne hq]
    exact h.al.at_ j q k a b
theorem Rows.snoc {H0 H H1 : Hp} {c q : Addr} {as : List Addr} {R : List (List Int)} {l : List Int} (h : Rows H0 H c as R) (s : Same H H1) (n : H q = none) (e : LiAt H1 q l) : Rows H0 (upd H1 c (.lst (refs (as ++ [q])))) c (as ++ [q]) (R ++ [l]) := by
  have g := h.mono s
  have hq : q ≠ c := (ne_of_none h.ec n).symm
  have hqa : ∀ p ∈ as, p ≠ q := fun p hp => by
    obtain ⟨i, hi⟩ := List.getElem?_of_mem hp
    obtain ⟨l', _, r⟩ := h.al.get' hi
    exact ne_of_none r n
  have n0 := h.hh.free n
  refine ⟨same_mut g.hh g.c0, g.c0, fun p hp => ?_, ?_, fun p hp => ?_, upd_same, ?_⟩
  · rcases List.mem_append.mp hp with z | z
    · exact g.a0 p z
    · rw [List.mem_singleton.mp z]; exact n0
  · rw [List.nodup_append]
    exact ⟨g.nd, by simp, fun a ha b hb => by rw [List.mem_singleton.mp hb]; exact hqa a ha⟩
  · rcases List.mem_append.mp hp with z | z
    · exact g.nc p z
    · rw [List.mem_singleton.mp z]; exact hq
  · have a1 : All (LiAt (upd H1 c (.lst (refs (as ++ [q]))))) as R := ⟨g.al.len, fun i p k a b => by
      show upd _ _ _ _ = _
      rw [upd_ne (g.nc p (List.mem_of_getElem? a))]
      exact g.al.at_ i p k a b⟩
    refine a1.snoc ?_
    show upd _ _ _ _ = _
    rw [upd_ne hq]
    exact e
def leV (g : Int) : V → Bool
  | .int z => decide (z ≤ g)
  | _ => false
theorem up_mapV (g : Int) (u : List Int) : ((u.map V.int).filter (leV g)).map (fun x => x) = (Km.upto g u).map V.int := by
  rw [List.map_id', List.filter_map]
  rfl
theorem lc_up {σ : L2.St} {H : Hp} {Q : VK} {a : Addr} {l : List Int} {g : Int} {j ia ig : Nat} (ha : LiAt H a l) (hz : l.length ≤ 10000) (hi : σ[ia]? = some (some (.ref a))) (hg : ∀ v, ((wipe σ [j]).set j (some v))[ig]? = some (some (.int g))) (hv : ∀ v, ((wipe σ [j]).set j (some v))[j]? = some (some v))
    (hw : ∀ x, wipe ((wipe σ [j]).set j (some x)) [j] = wipe σ [j]) (k : ∀ D H', H D = none → Same H H' → LiAt H' D (Km.upto g l) → Q (.ref D) H') : tLc (iList K (tVar ia)) (gName j) (tTest (tOp (rI0 fun i j => V.bl (decide (i ≤ j))) (tVar j) (tVar ig))) (tVar j) [j] σ H Q := by
  refine lc_pureL (xs := l.map V.int) (leV g) (fun x => x) ha (by rw [ints_len]; exact hz) (fun R r => ⟨_, hi, r⟩) hw (fun i x H1 R hx _ r => ?_) (fun i x H1 R hx _ s1 r => ?_) (fun D H1 hD s1 e1 => ?_)
  · obtain ⟨z, rfl, hz⟩ := ints_get' hx
    exact ⟨_, hv _, _, hg _, z, g, rfl, rfl, _, rfl, r⟩
  · exact ⟨_, hv _, r⟩
  · rw [up_mapV] at e1
    exact k D H1 hD s1 e1
def spIns : Sp := fun vs H Q _ => ∃ (H0 : Hp) (c : Addr) (as : List Addr) (R : List (List Int)) (x : Int), vs = [.ref c, .int x] ∧ Rows H0 H c as R ∧ R.length ≤ 100 ∧ (∀ l ∈ R, l.length ≤ 100) ∧ ∀ H' as', Rows H0 H' c as' (Km.ins R x) → Q .non H'
theorem upto_cnt (l : List Int) (x : Int) : (Km.upto x l).length = Km.cnt l x := by
  unfold Km.upto Km.cnt
  rw [List.countP_eq_length_filter]
theorem ok__law_insert (T : Txt K mg) : Kd P w K mg base "_law_insert" ["_law_rows", "_law_letter"] 1 spIns := by
  refine kd_of T.d__law_insert sc__law_insert (fun vs H Q E h => ?_) (fun f cdv A outer s H vs Q E hr h => ?_)
  · obtain ⟨H0, c, as, R, x, rfl, _⟩ := h
    rfl
  · obtain ⟨H0, c, as, R, x, rfl, hR, hl1, hl2, q⟩ := h
    have hlen := hR.al.len
    refine ⟨_, (pss_cons (ps_for PassesOwn.never rfl (pi_listK (K := K) rfl (pv 0)) (pg_name (i := 2) sc__law_insert.nd rfl (.inl rfl))
(pss_cons (ps_set (i := 3) sc__law_insert.nd rfl (.inl rfl) (pe_callB (n_lenK (K := K) rfl) (by rfl) T.n_len PySem.boot_len (pa_cons (pe_lc (own := [("_law_told", 4)]) (g := gName 4) rfl sc__law_insert.nd (pi_listK (K := K) rfl (pv 2)) (blkOk_by (own := [("_law_told", 4)]) (N := ["_law_rows", "_law_letter", "_law_row", "_law_place", "_law_told"]) (sc := defScope s__law_insert) (by decide +kernel)) (fun _ _ _ _ _ => pg_name (i := 4) sc__law_insert.nd rfl (Or.inl rfl)) (fun _ _ _ _ _ => pts_one (pt_cmpR op_le (pv 4) (pv 1) (nomark _))) (fun _ _ _ _ _ => (pv 4))) pa_nil)))
(pss_cons (ps_if (pt_cmpR op_eq (pv 3) (pe_callB (n_lenK (K := K) rfl) (by rfl) T.n_len PySem.boot_len (pa_cons (pv 2) pa_nil)) (nomark _))
(pss_cons (ps_expr (pe_bmK (K := K) rfl (pe_bm PySem.F.plainAttrs_list PySem.F.slot_list_append PySem.F.type_list_append mt_append (pv 2) (pa_cons (pv 1) pa_nil))))
(pss_one ps_retN))
pss_nil)
(pss_one (ps_asg (pe_tup (pa_m (pa_cons (pv 1) (pa_cons (pe_ix (ix_listK (K := K) rfl) (pv 2) (pv 3) (fun _ _ => rfl)) pa_nil)))) (pg_tupK (K := K) rfl rfl (pgs_cons (pg_sub (pv 2) (pv 3) set_list) (pgs_cons (pg_name (i := 1) sc__law_insert.nd rfl (.inr rfl)) pgs_nil))))))))
(pss_one (ps_expr (pe_bmK (K := K) rfl (pe_bm PySem.F.plainAttrs_list PySem.F.slot_list_append PySem.F.type_list_append mt_append (pv 0) (pa_cons (pe_lst (pa_m (pa_cons (pv 1) pa_nil))) pa_nil)))))), ?_⟩
    refine st_lit (σ' := [some (V.ref c), some (V.int x), none, none, none]) rfl ?_
    walk_at "x"
    refine x_for (x_pl ?_)
    walk_at "x"
    refine x_pln hR.ec ?_
    refine for_list (K := K) (a := c) (xs := refs as) (fun i σ H' => ∃ (y : Int) (R1 : List (List Int)) (v2 v3 v4 : Option V), σ = [some (.ref c), some (.int y), v2, v3, v4] ∧ Rows H0 H' c as (R1 ++ R.drop i) ∧ R1.length = i ∧ Km.ins R x = R1 ++ Km.ins (R.drop i) y)
      ⟨x, [], none, none, none, rfl, hR, rfl, rfl⟩ (fun i σ H' _ h => by obtain ⟨_, _, _, _, _, _, g, _⟩ := h; exact SqL.of g.ec) ?_ ?_
    · rintro i v σ H' hx ⟨y, R1, v2, v3, v4, rfl, g, hi, hins⟩
      obtain ⟨p, rfl, hp⟩ := refs_get' hx
      have hil : i < R.length := by have := (List.getElem?_eq_some_iff.mp hp).1; omega
      have ed := List.drop_eq_getElem_cons hil
      have hll := hl2 R[i] (List.getElem_mem hil)
      generalize R[i] = r at *
      rw [ed] at g hins
      have rl : LiAt H' p r := g.al.at_ i p r hp (by rw [List.getElem?_append_right (by omega), hi, Nat.sub_self]; rfl)
      have rl' : H' p = some (.lst (r.map V.int)) := rl
      have hc := Km.cnt_le r y
      walk_at "x"
      refine lc_up rl (by omega) rfl (fun _ => rfl) (fun _ => rfl) (fun _ => rfl) fun D H1 nD s1 eD => ?_
      have eD' : H1 D = some (.lst ((Km.upto y r).map V.int)) := eD
      have g1 := g.mono s1
      have rl1 := s1 _ _ rl'
      walk_at "x"
      rw [ints_len, ints_len, upto_cnt, dec_vint]
      refine x_ite (fun h => ?_) (fun h => ?_)
      · have hcn : Km.cnt r y = r.length := by omega
        walk_at "x"
        refine x_app rl1 (smallL (by rw [ints_len]; omega)) ?_
        have eN : r.map V.int ++ [V.int y] = (r ++ [y]).map V.int := by simp
        rw [eN]
        walk_at "x"
        have e1 : Km.ins R x = (R1 ++ r :: R.drop (i + 1)).set i (r ++ [y]) := by
          rw [hins, Km.ins, if_pos hcn, List.set_append_right _ _ (by omega), hi, Nat.sub_self]
          rfl
        have gN := g1.put hp (r ++ [y])
        rw [← e1] at gN
        exact q _ as gN
      · have hcn : ¬ Km.cnt r y = r.length := by omega
        have hlt : Km.cnt r y < r.length := by omega
        have ec := List.getElem?_eq_getElem hlt
        have egd : r.getD (Km.cnt r y) 0 = r[Km.cnt r y] := by rw [List.getD_eq_getElem?_getD, ec]; rfl
        walk_at "x"
        refine x_ixL rl1 (atI_ints ec) ?_
        walk_at "x"
        refine ⟨by show 2 ≤ sizeLine; decide, fun c2 H2 n2 s2 e2 => ?_⟩
        walk_at "x"
        refine x_setL (j := Km.cnt r y) (s2 _ _ rl1) (by rw [ints_len]; exact ixN_nat hlt) ?_
        rw [← List.map_set]
        walk_at "x"
        have gN := (g1.mono s2).put hp (r.set (Km.cnt r y) y)
        rw [List.set_append_right _ _ (by omega), hi, Nat.sub_self] at gN
        refine ⟨_, R1 ++ [r.set (Km.cnt r y) y], _, _, _, rfl, ?_, ?_, ?_⟩
        · rw [List.append_assoc]
          exact gN
        · rw [List.length_append, hi]; rfl
        · rw [hins, Km.ins, if_neg hcn, egd, List.append_assoc]; rfl
    · rintro σ H' ⟨y, R1, v2, v3, v4, rfl, g, hi, hins⟩
      rw [refs_len, hlen, List.drop_length] at g hins
      rw [List.append_nil] at g
      walk_at "x"
      refine x_tyL g.ec ?_
      walk_at "x"
      refine ⟨by show 1 ≤ sizeLine; decide, fun c1 H1 n1 s1 e1 => ?_⟩
      walk_at "x"
      refine x_app (s1 _ _ g.ec) (smallL (by rw [refs_len]; omega)) ?_
      rw [refs_snoc]
      have gN := g.snoc (l := [y]) s1 n1 e1
      have e2 : Km.ins R x = R1 ++ [[y]] := by rw [hins]; rfl
      rw [← e2] at gN
      exact q _ _ gN
/-! ### the table of the law -/
/-- [f(x) for x in rows], a new list of new tuples -/
theorem lc_famT {K : PySem.W.Frag} {σ : L2.St} {S H : Hp} {Q : VK} {b : Addr} {ib j : Nat} {as0 : List Addr} {fam : List (List Int)} {te : TE} (sh : Same S H) (eb : H b = some (.lst (refs as0))) (hf : All (LiAt H) as0 fam) (hz : fam.length ≤ 1000) (hi : σ[ib]? = some (some (.ref b)))
    (hw : ∀ x, wipe ((wipe σ [j]).set j (some x)) [j] = wipe σ [j])
    (he : ∀ (i : Nat) (l : List Int) (p : Addr) (H1 : Hp) (R : VK), fam[i]? = some l → LiAt H1 p l → (∀ q H2, H1 q = none → Same H1 H2 → TiAt H2 q l → R (.ref q) H2) → te ((wipe σ [j]).set j (some (.ref p))) H1 R)
    (k : ∀ D S' H' as, Go S H S' H' → H D = none → S' D = none → H' D = some (.lst (refs as)) → All (TiAt S') as fam → Q (.ref D) H') : tLc (iList K (tVar ib)) (gName j) tYes te [j] σ H Q := by
  refine ⟨.ref b, hi, b, rfl, ⟨_, SqL.of eb⟩, fun D hD => ?_⟩
  refine lc_list (K := K) (a := b) (xs := refs as0) (fun i H' => ∃ S' as, Go S H S' H' ∧ S' D = none ∧ H' D = some (.lst (refs as)) ∧ All (TiAt S') as (fam.take i)) ?_ ?_ ?_ ?_
  · exact ⟨S, [], (Go.refl sh).mut hD (sh.free hD), sh.free hD, upd_same, by simpa using All.nil⟩
  · rintro i H' _ ⟨S', as, g, _, _, _⟩
    exact SqL.of (g.hh _ _ eb)
  · rintro i x H' hx ⟨S', as, g, hS, hD', ha⟩
    obtain ⟨p, rfl, hp⟩ := refs_get' hx
    obtain ⟨l, hl, r⟩ := hf.get' hp
    refine ⟨hw _, ?_⟩
    refine x_yes ?_
    refine x_T ?_
    refine he i l p H' _ hl (r.mono g.hh) fun q H2 hq s2 r2 => ?_
    obtain ⟨S2, g2, e2⟩ := Go.one g.sh s2 hq r2
    have hil : i < fam.length := (List.getElem?_eq_some_iff.mp hl).1
    refine ⟨refs as, s2 _ _ hD', smallL ?_, S2, as ++ [q], (g.trans g2).mut hD (g2.fr D _ hS hD'), g2.fr D _ hS hD', ?_, ?_⟩
    · rw [refs_len, ha.len, List.length_take]
      omega
    · rw [upd_same, refs_snoc]
    · rw [take_snoc hl]
      exact (ha.monoT g2.ss).snoc e2
  · rintro H' ⟨S', as, g, hS, hD', ha⟩
    refine k D S' H' as g hD hS hD' ?_
    rw [refs_len, hf.len, List.take_length] at ha
    exact ha
def spLtab : Sp := fun vs H Q _ => ∃ (S : Hp) (a : Addr) (l : List Int), vs = [.ref a] ∧ Same S H ∧ LiAt S a l ∧ l.length ≤ 20 ∧ ∀ v S' H', Go S H S' H' → TabAt S' v (Km.tabl l) → Q (.ref v) H'
theorem ok__law_table (T : Txt K mg) : Kd P w K mg base "_law_table" ["_law_word_here"] 2 spLtab := by
  refine kd_of T.d__law_table sc__law_table (fun vs H Q E h => ?_) (fun f cdv A outer s H vs Q E hr h => ?_)
  · obtain ⟨S, a, l, rfl, _⟩ := h
    rfl
  · obtain ⟨S, a, l, rfl, sh, ha, hl, q⟩ := h
    have ha' : H a = some (.lst (l.map V.int)) := ha.mono sh
    refine ⟨_, (pss_cons (ps_set (i := 1) sc__law_table.nd rfl (.inl rfl) (pe_lst (pa_m pa_nil)))
(pss_cons (ps_for PassesOwn.never rfl (pi_listK (K := K) rfl (pv 0)) (pg_name (i := 2) sc__law_table.nd rfl (.inl rfl))
(pss_one (ps_expr (pe_kd (ok__law_insert T) (hr.mono (by decide)) (by rfl) (pa_cons (pv 1) (pa_cons (pv 2) pa_nil))))))
(pss_one (ps_ret (pe_callTy (n_tup_ofK (K := K) rfl) (by rfl) T.n_tuple (by decide +kernel) (pa_cons (pe_lc (own := [("_law_row", 3)]) (g := gName 3) (tt := tYes) rfl sc__law_table.nd (pi_listK (K := K) rfl (pv 1)) (blkOk_by (own := [("_law_row", 3)]) (N := ["_law_word_here", "_law_rows", "_law_letter", "_law_row"]) (sc := defScope s__law_table) (by decide +kernel)) (fun _ _ _ _ _ => pg_name (i := 3) sc__law_table.nd rfl (Or.inl rfl)) (fun _ _ _ _ _ => pts_nil) (fun _ _ _ _ _ => (pe_callTy (n_tup_ofK (K := K) rfl) (by rfl) T.n_tuple (by decide +kernel) (pa_cons (pv 3) pa_nil)))) pa_nil)))))), ?_⟩
    refine st_lit (σ' := [some (V.ref a), none, none, none]) rfl ?_
    walk_at "x"
    refine ⟨by decide, fun c H1 n1 s1 e1 => ?_⟩
    walk_at "x"
    refine x_for (x_pl ?_)
    walk_at "x"
    refine x_pln (s1 _ _ ha') ?_
    refine for_list (K := K) (a := a) (xs := l.map V.int) (fun i σ H' => ∃ (as : List Addr) (v2 v3 : Option V), σ = [some (.ref a), some (.ref c), v2, v3] ∧ Rows H H' c as (Km.tabl (l.take i)))
      ⟨[], none, none, rfl, s1, n1, fun p hp => by simp at hp, by simp, fun p hp => by simp at hp, e1, All.nil⟩ (fun i σ H' _ h => by obtain ⟨_, _, _, _, g⟩ := h; exact SqL.of (g.hh _ _ ha')) ?_ ?_
    · rintro i x σ H' hx ⟨as, v2, v3, rfl, g⟩
      obtain ⟨y, rfl, hy⟩ := ints_get' hx
      have hi : i < l.length := (List.getElem?_eq_some_iff.mp hy).1
      have h1 := tabl_rows (l.take i)
      rw [List.length_take] at h1
      walk_at "x"
      refine ⟨H, c, as, _, y, rfl, g, by omega, fun k hk => by have := tabl_row hk; rw [List.length_take] at this; omega, fun H2 as2 g2 => ?_⟩
      rw [← tabl_snoc hy] at g2
      exact ⟨as2, _, _, rfl, g2⟩
    · rintro σ H' ⟨as, v2, v3, rfl, g⟩
      rw [ints_len, List.take_length] at g
      walk_at "x"
      have g0 : Go S H S H' := ⟨Same.refl _, sh.trans g.hh, g.hh, fun _ _ e _ => e⟩
      have h1 := tabl_rows l
      refine lc_famT g0.sh g.ec g.al (by omega) rfl (fun _ => rfl) (fun i r p H1 R er rp k => ?_) (fun D S2 H2 as2 g2 nD hS2 eD hA => ?_)
      · have rp' : H1 p = some (.lst (r.map V.int)) := rp
        walk_at "x"
        exact x_tupL rp' k
      · walk_at "x"
        refine x_tupL eD fun v H3 n3 s3 e3 => ?_
        obtain ⟨S3, g3, e3'⟩ := Go.one g2.sh s3 n3 e3
        exact q v S3 H3 ((g0.trans g2).trans g3) ⟨as2, e3', hA.monoT g3.ss⟩
end
section
local macro_rules | `(tactic| walk_at "set") => `(tactic| first | exact set0 | (apply setS; walk_at "set"))
local macro_rules | `(tactic| walk_at "h") => `(tactic| first | assumption | (refine Same.lk (by assumption) ?_; walk_at "h"))
local macro_rules | `(tactic| walk_at "x1") => `(tactic| first
  | ((with_reducible show tVar _ _ _ _); refine x_var rfl ?_)
  | ((with_reducible show tC _ _ _ _); refine x_c ?_)
  | ((with_reducible show tOp _ _ _ _ _ _); refine x_op ?_)
  | ((with_reducible show tSeq _ _ _ _ _); refine x_seq ?_)
  | ((with_reducible show tAsg _ _ _ _ _); refine x_asg ?_)
  | ((with_reducible show gName _ _ _ _ _); refine x_name2 (by walk_at "set") ?_)
  | ((with_reducible show tCons _ _ _ _ _); refine x_cons ?_)
  | ((with_reducible show tNil _ _ _); refine x_nil ?_)
  | ((with_reducible show rI0 _ (V.int _) (V.int _) _ _); refine x_rI0 ?_)
  | ((with_reducible show tCB _ _ _ _ _); refine x_cb ?_)
  | ((with_reducible show tCall _ [] E0 _ _ _ _); refine x_call ?_)
  | ((with_reducible show rIxT _ _ _ _ _); refine x_ixT (by walk_at "h") (by rfl) ?_)
  | ((with_reducible show rLenQ _ _ _ _); refine x_lenL (by walk_at "h") ?_)
  | ((with_reducible show rLenQ _ _ _ _); refine x_lenT (by walk_at "h") ?_)
  | ((with_reducible show tIfS _ _ _ _ _ _); refine x_if ?_)
  | ((with_reducible show tTest _ _ _ _); refine x_test ?_)
  | ((with_reducible show tB _ _ _ _); refine x_tB ?_)
  | ((with_reducible show tYes _ _ _); refine x_yes ?_)
  | ((with_reducible show gTup _ _ _ (V.ref _) _ _ _); refine x_gtup (by walk_at "h") (by rfl) ?_)
  | ((with_reducible show gCons _ _ (_ :: _) _ _ _); refine x_gcons ?_)
  | ((with_reducible show gNil [] _ _ _); refine x_gnil ?_)
  | ((with_reducible show tPar _ _ _ _ _ _); refine x_par ?_)
  | ((with_reducible show Ends.nx _ _ _); dsimp only)
  | (with_reducible refine x_bl ?_)
  | (with_reducible refine x_T ?_)
  | (with_reducible refine x_nT ?_)
  | (with_reducible refine x_nF ?_)
  | (with_reducible refine x_F ?_)
  | ((with_reducible show rEq _ _ _ _); refine x_eq rfl ?_)
  | ((with_reducible show rNe _ _ _ _); refine x_ne rfl ?_)
  | ((with_reducible show rIsNn _ _ _ _); refine x_isN ?_)
  | ((with_reducible show tRet _ _ _ _); refine x_ret ?_)
  | ((with_reducible show tNext _ _ _); refine x_next ?_)
  | ((with_reducible show tRetN _ _ _); refine x_retN ?_)
  | ((with_reducible show tDrop _ _ _ _); refine x_drop ?_)
  | ((with_reducible show tTup _ _ _ _); refine x_tup ?_)
  | ((with_reducible show tLst _ _ _ _); refine x_lst ?_)
  | ((with_reducible show tUn _ _ _ _ _); refine x_un ?_)
  | ((with_reducible show rU _ (V.int _) _ _); refine x_rU ?_)
  | ((with_reducible show tNot _ _ _ _); refine x_notT ?_)
  | ((with_reducible show tAnd _ _ _ _ _); refine x_and ?_)
  | ((with_reducible show tOr _ _ _ _ _); refine x_or ?_)
  | ((with_reducible show tSl _ _ _ _ _ _ _); refine x_sl ?_)
  | ((with_reducible show tNoPart _ _ _); refine x_noP ?_)
  | ((with_reducible show tPart _ _ _ _); refine x_part ?_)
  | (with_reducible refine x_pi ?_)
  | ((with_reducible show tBM _ _ _ _ _ _ _ _); refine x_bm ?_)
  | ((with_reducible show tyV _ "list" _ _ ∧ _); refine x_tyL (by walk_at "h") ?_)
  | ((with_reducible show gSub _ _ _ _ _ _ _); refine x_sub ?_)
  | ((with_reducible show rInt1 [V.int _] _ _); refine x_int ?_)
  | ((with_reducible show rInt1 [V.bl _] _ _); refine x_intB ?_)
  | ((with_reducible show rMin2 _ _ _); refine x_min ?_)
  | ((with_reducible show rMax2 _ _ _); refine x_max ?_))
local macro_rules | `(tactic| walk_at "x") => `(tactic| (repeat walk_at "x1"))
local macro_rules | `(tactic| walk_at "x1") => `(tactic| ((with_reducible show tAndV _ _ _ _ _); refine x_andV ?_))
local macro_rules | `(tactic| walk_at "x1") => `(tactic| ((with_reducible show tOrV _ _ _ _ _); refine x_orV ?_))
local macro_rules | `(tactic| walk_at "x1") => `(tactic| ((with_reducible show tNotV _ _ _ _); refine x_notV ?_))
variable {P : Program} {w : World} {K : PySem.W.Frag} {mg : Str → Option Value} {base : Heap}
def spLfam : Sp := fun vs H Q _ => ∃ (a f : Addr) (u : List Int) (fam : List (List Int)) (fa : Bool), vs = [.ref a, .ref f, .bl fa] ∧ LiAt H a u ∧ FamAt H f fam ∧ u.length ≤ 1000 ∧ Fsm fam ∧ ∀ b H', (b = true ↔ Km.FamOk fa u fam) → Same H H' → Q (.bl b) H'
theorem pr_tr {fa : Bool} {u : List Int} (a b c : Int) (h1 : Km.pr fa u a b) (h2 : Km.pr fa u b c) : Km.pr fa u a c := Km.pr_trans h1 h2
theorem ok__law_is_family (T : Txt K mg) : Kd P w K mg base "_law_is_family" ["_law_word_here", "_law_family", "_law_falls"] 2 spLfam := by
  refine kd_of T.d__law_is_family sc__law_is_family (fun vs H Q E h => ?_) (fun f cdv A outer s H vs Q E hr h => ?_)
  · obtain ⟨a, f, u, fam, fa, rfl, _⟩ := h
    rfl
  · obtain ⟨a, f, u, fam, fa, rfl, ha, ⟨as, ef, hf⟩, hu1, ⟨hl1, hl2⟩, q⟩ := h
    have hlen := hf.len
    refine ⟨_, (pss_cons (ps_if (pt_not (pt_val (pe_callB (call_isiK2 (K := K) rfl) (by rfl) T.n_isinstance (by decide +kernel) (pa_cons (pv 1) (pa_cons (pe_bltn (v := .ty "list") (by rfl) T.n_list (by decide +kernel) rfl) pa_nil)))))
(pss_one (ps_ret pe_bl))
pss_nil)
(pss_cons (ps_set (i := 3) sc__law_is_family.nd rfl (.inl rfl) (pe_lst (pa_m pa_nil)))
(pss_cons (ps_for PassesOwn.never rfl (pi_listK (K := K) rfl (pv 1)) (pg_name (i := 4) sc__law_is_family.nd rfl (.inl rfl))
(pss_cons (ps_if (pt_not (pt_val (pe_callB (call_isiK2 (K := K) rfl) (by rfl) T.n_isinstance (by decide +kernel) (pa_cons (pv 4) (pa_cons (pe_bltn (v := .ty "list") (by rfl) T.n_list (by decide +kernel) rfl) pa_nil)))))
(pss_one (ps_ret pe_bl))
pss_nil)
(pss_one (ps_for PassesOwn.never rfl (pi_range1 (by rfl) T.n_range (pa_cons (pe_callB (n_lenK (K := K) rfl) (by rfl) T.n_len PySem.boot_len (pa_cons (pv 4) pa_nil)) pa_nil)) (pg_name (i := 5) sc__law_is_family.nd rfl (.inl rfl))
(pss_cons (ps_if (PW.pt (pw_or (pt_not (pt_val (pe_kd (ok__law_is_integer T) (hr.mono (by decide)) (by rfl) (pa_cons (pe_ix (ix_listK (K := K) rfl) (pv 4) (pv 5) (fun _ _ => rfl)) pa_nil)))) (pw_or (pt_cmpR op_lt (pe_ix (ix_listK (K := K) rfl) (pv 4) (pv 5) (fun _ _ => rfl)) pe_int (nomark _)) (pw_or (pt_cmpR op_ge (pe_ix (ix_listK (K := K) rfl) (pv 4) (pv 5) (fun _ _ => rfl)) (pe_callB (n_lenK (K := K) rfl) (by rfl) T.n_len PySem.boot_len (pa_cons (pv 0) pa_nil)) (nomark _)) (pw_or1 (pt_cmpR (op_in_seqK (K := K) rfl) (pe_ix (ix_listK (K := K) rfl) (pv 4) (pv 5) (fun _ _ => rfl)) (pv 3) (by rfl)))))))
(pss_one (ps_ret pe_bl))
pss_nil)
(pss_cons (ps_expr (pe_bmK (K := K) rfl (pe_bm PySem.F.plainAttrs_list PySem.F.slot_list_append PySem.F.type_list_append mt_append (pv 3) (pa_cons (pe_ix (ix_listK (K := K) rfl) (pv 4) (pv 5) (fun _ _ => rfl)) pa_nil))))
(pss_cons (ps_if (PW.pt (pw_and (pt_cmpR op_gt (pv 5) pe_int (nomark _)) (pw_and1 (pt_cmpR op_le (pe_ix (ix_listK (K := K) rfl) (pv 4) (pv 5) (fun _ _ => rfl)) (pe_ix (ix_listK (K := K) rfl) (pv 4) (pe_op op_sub (pv 5) pe_int) (fun _ _ => rfl)) (nomark _)))))
(pss_one (ps_ret pe_bl))
pss_nil)
(pss_cons (ps_if (PW.pt (pw_and (pt_cmpR op_gt (pv 5) pe_int (nomark _)) (pw_and (pt_val (pv 2)) (pw_and1 (pt_cmpR op_ge (pe_ix (ix_listK (K := K) rfl) (pv 0) (pe_ix (ix_listK (K := K) rfl) (pv 4) (pv 5) (fun _ _ => rfl)) (fun _ _ => rfl)) (pe_ix (ix_listK (K := K) rfl) (pv 0) (pe_ix (ix_listK (K := K) rfl) (pv 4) (pe_op op_sub (pv 5) pe_int) (fun _ _ => rfl)) (fun _ _ => rfl)) (nomark _))))))
(pss_one (ps_ret pe_bl))
pss_nil)
(pss_one (ps_if (PW.pt (pw_and (pt_cmpR op_gt (pv 5) pe_int (nomark _)) (pw_and (pt_not (pt_val (pv 2))) (pw_and1 (pt_cmpR op_lt (pe_ix (ix_listK (K := K) rfl) (pv 0) (pe_ix (ix_listK (K := K) rfl) (pv 4) (pv 5) (fun _ _ => rfl)) (fun _ _ => rfl)) (pe_ix (ix_listK (K := K) rfl) (pv 0) (pe_ix (ix_listK (K := K) rfl) (pv 4) (pe_op op_sub (pv 5) pe_int) (fun _ _ => rfl)) (fun _ _ => rfl)) (nomark _))))))
(pss_one (ps_ret pe_bl))
pss_nil))))))))))
(pss_one (ps_ret pe_bl))))), ?_⟩
    refine st_lit (σ' := [some (V.ref a), some (V.ref f), some (V.bl fa), none, none, none]) rfl ?_
    walk_at "x"
    refine x_isi (a := "list") (r := true) (.base (.lst ef)) (kit_ty (by decide +kernel)) ?_
    walk_at "x"
    refine ⟨by decide, fun c H1 n1 s1 e1 => ?_⟩
    walk_at "x"
    refine x_for (x_pl ?_)
    walk_at "x"
    refine x_pln (s1 _ _ ef) ?_
    refine for_list (K := K) (a := f) (xs := refs as) (fun i σ H' => ∃ (v4 v5 : Option V), σ = [some (.ref a), some (.ref f), some (.bl fa), some (.ref c), v4, v5] ∧ Same H H' ∧ LiAt H' c (fam.take i).flatten ∧ Km.GF (Km.pr fa u) u.length (fam.take i))
      ⟨none, none, rfl, s1, e1, Km.GF.zero⟩ (fun i σ H' _ h => by obtain ⟨_, _, _, s2, _⟩ := h; exact SqL.of (s2 _ _ ef)) ?_ ?_
    · rintro i x σ H' hx ⟨v4, v5, rfl, s2, e2, G⟩
      obtain ⟨p, rfl, hp⟩ := refs_get' hx
      obtain ⟨l, hl, rl⟩ := hf.get' hp
      have hll := hl2 l (List.mem_of_getElem? hl)
      have hil : i < fam.length := (List.getElem?_eq_some_iff.mp hl).1
      have rl2 : H' p = some (.lst (l.map V.int)) := rl.mono s2
      walk_at "x"
      refine x_isi (a := "list") (r := true) (.base (.lst rl2)) (kit_ty (by decide +kernel)) ?_
      walk_at "x"
      refine x_for (x_r1 ?_)
      walk_at "x"
      rw [ints_len]
      refine x_r1n (n := l.length) (by omega) ?_
      rw [Int.toNat_natCast]
      refine for_range (fun j σ H' => ∃ (v5 : Option V), σ = [some (.ref a), some (.ref f), some (.bl fa), some (.ref c), some (.ref p), v5] ∧ Same H H' ∧ LiAt H' c ((fam.take i).flatten ++ l.take j) ∧ Km.GF (Km.pr fa u) u.length (fam.take i ++ [l.take j]))
        ⟨v5, rfl, s2, by simpa using e2, by simpa using G.open_⟩ ?_ ?_
      · rintro j σ H3 hj ⟨v5, rfl, s3, e3, G3⟩
        have ej := List.getElem?_eq_getElem hj
        have rl3 : H3 p = some (.lst (l.map V.int)) := rl.mono s3
        have ha3 : H3 a = some (.lst (u.map V.int)) := ha.mono s3
        have e3' : H3 c = some (.lst (((fam.take i).flatten ++ l.take j).map V.int)) := e3
        have flen : ((fam.take i).flatten ++ l.take j).length ≤ 50000 := by
          have := Km.flat_len (fam := fam.take i) (a := 100) (b := 100) (by rw [List.length_take]; omega) fun k hk => hl2 k (List.mem_of_mem_take hk)
          rw [List.length_append, List.length_take]
          omega
        have stop : ∀ {Pr : Prop} (H4 : Hp), Same H H4 → (Km.GF (Km.pr fa u) u.length fam → Pr) → ¬ Pr → Q (.bl false) H4 := fun H4 s4 f1 f2 => q false H4 ⟨fun z => (Bool.false_ne_true z).elim, fun z => absurd (f1 (Km.gf_iff.mpr z)) f2⟩ s4
        rw [Int.zero_add]
        have xj := ej
        generalize l[j] = x at xj ej
        walk_at "x"
        refine x_ixL rl3 (atI_ints ej) ?_
        walk_at "x"
        refine ⟨x, rfl, ?_⟩
        walk_at "x"
        refine x_ixL rl3 (atI_ints ej) ?_
        walk_at "x"
        refine x_ite (fun h => ?_) (fun h => ?_)
        · walk_at "x"
          exact stop H3 s3 (fun z => (z.at_ hl ej).1.1) (by omega)
        walk_at "x"
        refine x_ixL rl3 (atI_ints ej) ?_
        walk_at "x"
        rw [ints_len]
        refine x_ite (fun h2 => ?_) (fun h2 => ?_)
        · walk_at "x"
          exact stop H3 s3 (fun z => (z.at_ hl ej).1.2) (by omega)
        walk_at "x"
        refine x_ixL rl3 (atI_ints ej) ?_
        walk_at "x"
        refine x_in e3 ?_
        walk_at "x"
        refine x_ite (fun h4 => ?_) (fun h4 => ?_)
        · walk_at "x"
          exact stop H3 s3 (fun z => (z.at_ hl ej).2.1) (fun z => z h4)
        walk_at "x"
        refine x_ixL rl3 (atI_ints ej) ?_
        walk_at "x"
        refine x_app e3' (smallL (by rw [ints_len]; omega)) ?_
        have eN : ((fam.take i).flatten ++ l.take j).map V.int ++ [V.int x] = ((fam.take i).flatten ++ l.take (j + 1)).map V.int := by rw [take_snoc ej]; simp
        rw [eN]
        have s4 := same_mut (o := .lst (((fam.take i).flatten ++ l.take (j + 1)).map V.int)) s3 n1
        have e4 : LiAt (upd H3 c (.lst (((fam.take i).flatten ++ l.take (j + 1)).map V.int))) c ((fam.take i).flatten ++ l.take (j + 1)) := upd_same
        have rl4 : (upd H3 c (.lst (((fam.take i).flatten ++ l.take (j + 1)).map V.int))) p = some (.lst (l.map V.int)) := rl.mono s4
        have ha4 : (upd H3 c (.lst (((fam.take i).flatten ++ l.take (j + 1)).map V.int))) a = some (.lst (u.map V.int)) := ha.mono s4
        generalize upd H3 c (.lst (((fam.take i).flatten ++ l.take (j + 1)).map V.int)) = H4 at *
        have hx0 : 0 ≤ x ∧ x < u.length := by omega
        have putx : (∀ y, (l.take j).getLast? = some y → Km.pr fa u y x) → ∃ v5' : Option V, [some (V.ref a), some (.ref f), some (.bl fa), some (.ref c), some (.ref p), some (.int j)] = [some (.ref a), some (.ref f), some (.bl fa), some (.ref c), some (.ref p), v5'] ∧ Same H H4 ∧ LiAt H4 c ((fam.take i).flatten ++ l.take (j + 1)) ∧ Km.GF (Km.pr fa u) u.length (fam.take i ++ [l.take (j + 1)]) := fun hy => by
          refine ⟨_, rfl, s4, e4, ?_⟩
          rw [take_snoc ej]
          exact G3.step pr_tr hx0 h4 hy
        walk_at "x"
        by_cases h5 : (0 : Int) < j
        · have hj1 : j - 1 < l.length := by omega
          have elast : (l.take j).getLast? = some l[j - 1] := by rw [Km.last_take (by omega) (by omega), List.getElem?_eq_getElem hj1]
          have ek := List.getElem?_eq_getElem hj1
          have hyr : 0 ≤ l[j - 1] ∧ l[j - 1] < u.length := G3.rg _ (by
            rw [List.flatten_append]
            refine List.mem_append_right _ ?_
            simp only [List.flatten_cons, List.flatten_nil, List.append_nil]
            exact List.mem_of_getLast? elast)
          generalize l[j - 1] = y at *
          have em : ((j : Int) - 1) = ((j - 1 : Nat) : Int) := by omega
          rw [decide_eq_true h5]
          walk_at "x"
          refine x_ixL rl4 (atI_ints ej) ?_
          walk_at "x"
          rw [em]
          refine x_ixL rl4 (atI_ints ek) ?_
          walk_at "x"
          refine x_ite (fun h6 => ?_) (fun h6 => ?_)
          · walk_at "x"
            exact stop H4 s4 (fun z => ((z.at_ hl ej).2.2 y elast).1) (by omega)
          walk_at "x"
          rw [decide_eq_true h5]
          walk_at "x"
          cases fa
          · walk_at "x"
            rw [decide_eq_true h5]
            walk_at "x"
            refine x_ixL rl4 (atI_ints ej) ?_
            refine x_ixL ha4 (atI_wat hx0) ?_
            walk_at "x"
            rw [em]
            refine x_ixL rl4 (atI_ints ek) ?_
            refine x_ixL ha4 (atI_wat hyr) ?_
            walk_at "x"
            refine x_ite (fun h7 => ?_) (fun h7 => ?_)
            · walk_at "x"
              refine stop H4 s4 (fun z => ((z.at_ hl ej).2.2 y elast).2) ?_
              rw [Km.rel_f]
              omega
            walk_at "x"
            exact putx fun y' e => by
              rw [elast] at e
              cases e
              exact ⟨by omega, by rw [Km.rel_f]; omega⟩
          · walk_at "x"
            refine x_ixL rl4 (atI_ints ej) ?_
            refine x_ixL ha4 (atI_wat hx0) ?_
            walk_at "x"
            rw [em]
            refine x_ixL rl4 (atI_ints ek) ?_
            refine x_ixL ha4 (atI_wat hyr) ?_
            walk_at "x"
            refine x_ite (fun h7 => ?_) (fun h7 => ?_)
            · walk_at "x"
              refine stop H4 s4 (fun z => ((z.at_ hl ej).2.2 y elast).2) ?_
              rw [Km.rel_t]
              omega
            walk_at "x"
            rw [decide_eq_true h5]
            walk_at "x"
            exact putx fun y' e => by
              rw [elast] at e
              cases e
              exact ⟨by omega, by rw [Km.rel_t]; omega⟩
        · rw [decide_eq_false h5]
          walk_at "x"
          rw [decide_eq_false h5]
          walk_at "x"
          rw [decide_eq_false h5]
          walk_at "x"
          exact putx fun y e => by rw [show j = 0 by omega] at e; simp at e
      · rintro σ H3 ⟨v5, rfl, s3, e3, G3⟩
        rw [List.take_length] at e3 G3
        refine ⟨_, _, rfl, s3, ?_, ?_⟩
        · rw [take_snoc hl, List.flatten_append]
          simpa using e3
        · rw [take_snoc hl]
          exact G3
    · rintro σ H' ⟨v4, v5, rfl, s2, e2, G⟩
      rw [refs_len, hlen, List.take_length] at G
      walk_at "x"
      exact q true H' ⟨fun _ => Km.gf_iff.mp G, fun _ => rfl⟩ s2
end
section
variable {P : Program} {w : World} {K : PySem.W.Frag} {mg : Str → Option Value} {base : Heap}
theorem ok__law_cover (T : Txt K mg) : Kd P w K mg base "_law_cover" ["_law_family"] 1 spCov := by
  refine kd_of T.d__law_cover sc__law_cover (fun vs H Q E h => ?_) (fun f cdv A outer s H vs Q E hr h => ?_)
  · obtain ⟨f, fam, rfl, _⟩ := h
    rfl
  · obtain ⟨f, fam, rfl, ⟨as, ef, hf⟩, ⟨hl1, hl2⟩, q⟩ := h
    refine ⟨_, (pss_one (ps_ret (pe_callB (cr_sumK (K := K) rfl rfl) (by rfl) T.n_sum (by decide +kernel) (pa_cons (pe_lc (own := [("_law_told", 1)]) (g := gName 1) (tt := tYes) rfl sc__law_cover.nd (pi_listK (K := K) rfl (pv 0)) (blkOk_by (own := [("_law_told", 1)]) (N := ["_law_family", "_law_told"]) (sc := defScope s__law_cover) (by decide +kernel)) (fun _ _ _ _ _ => pg_name (i := 1) sc__law_cover.nd rfl (Or.inl rfl)) (fun _ _ _ _ _ => pts_nil) (fun _ _ _ _ _ => (pe_callB (n_lenK (K := K) rfl) (by rfl) T.n_len PySem.boot_len (pa_cons (pv 1) pa_nil)))) pa_nil)))), ?_⟩
    refine st_lit (σ' := [some (V.ref f), none]) rfl ?_
    obtain ⟨v, hv⟩ := lenOf_ex (R := LiAt) hf fun p l k => liAt_inj
    walk_at "x"
    refine lc_pureL (fun _ => true) v ef (by rw [refs_len, hf.len]; omega) (fun R r => ⟨_, rfl, r⟩) (fun x => rfl) (fun i x H1 R _ _ r => r) (fun i x H1 R hx _ s1 r => ?_) (fun D H1 hD s1 e1 => ?_)
    · obtain ⟨p, rfl, hp⟩ := refs_get' hx
      obtain ⟨l, hl, rl⟩ := hf.get' hp
      have rl1 : H1 p = some (.lst (l.map V.int)) := rl.mono s1
      walk_at "x"
      rw [hv i p l hp hl] at r
      rw [ints_len]
      exact r
    · have ev : (refs as).map v = (ni (Km.shp fam)).map V.int := by
        refine List.ext_getElem? fun i => ?_
        rw [List.getElem?_map]
        unfold refs ni Km.shp
        simp only [List.getElem?_map]
        cases e : as[i]? with
        | none =>
          have : fam[i]? = none := by rw [List.getElem?_eq_none_iff] at e ⊢; rw [← hf.len]; exact e
          rw [this]
          rfl
        | some p =>
          obtain ⟨l, hl, _⟩ := hf.get' e
          rw [hl]
          simp only [Option.map_some]
          rw [hv i p l e hl]
      rw [List.filter_eq_self.mpr (fun _ _ => rfl), ev] at e1
      walk_at "x"
      refine x_sumL (l := ni (Km.shp fam)) e1 ?_
      rw [ni_sum]
      exact q H1 s1
theorem lc_upT {σ : L2.St} {H : Hp} {Q : VK} {a : Addr} {l : List Int} {g : Int} {j ia : Nat} {tt : TT} (ha : LiAt H a l) (hz : l.length ≤ 10000) (hi : σ[ia]? = some (some (.ref a))) (hv : ∀ v, ((wipe σ [j]).set j (some v))[j]? = some (some v))
    (hw : ∀ x, wipe ((wipe σ [j]).set j (some x)) [j] = wipe σ [j]) (ht : ∀ (z : Int) (H1 : Hp) (R : Bool → Hp → Prop), Same H H1 → R (decide (z ≤ g)) H1 → tt ((wipe σ [j]).set j (some (.int z))) H1 R)
    (k : ∀ D H', H D = none → Same H H' → LiAt H' D (Km.upto g l) → Q (.ref D) H') : tLc (iList K (tVar ia)) (gName j) tt (tVar j) [j] σ H Q := by
  refine lc_pureL (xs := l.map V.int) (leV g) (fun x => x) ha (by rw [ints_len]; exact hz) (fun R r => ⟨_, hi, r⟩) hw (fun i x H1 R hx s1 r => ?_) (fun i x H1 R hx _ s1 r => ?_) (fun D H1 hD s1 e1 => ?_)
  · obtain ⟨z, rfl, hz⟩ := ints_get' hx
    exact ht z H1 R s1 r
  · exact ⟨_, hv _, r⟩
  · rw [up_mapV] at e1
    exact k D H1 hD s1 e1
def spLnote : Sp := spJn
theorem ok__law_is_note (T : Txt K mg) : Kd P w K mg base "_law_is_note" ["_law_first", "_law_second", "_law_told"] 3 spJn := by
  refine kd_of T.d__law_is_note sc__law_is_note (fun vs H Q E h => ?_) (fun f cdv A outer s H vs Q E hr h => ?_)
  · obtain ⟨a, b, t, u, v, n, rfl, _⟩ := h
    rfl
  · obtain ⟨a, b, t, u, v, n, rfl, ha, hb, hn, hu1, hv1, hz, q⟩ := h
    refine ⟨_, (pss_cons (ps_if (pt_cmpR op_eq (pe_ix (ix_tupK (K := K) rfl) (pv 2) pe_int (fun _ _ => rfl)) pe_str (nomark _))
(pss_one (ps_ret (pe_cmpR (op_neDK (K := K) rfl hr.units) (pe_callB (cr_sortedK (K := K) rfl) (by rfl) T.n_sorted (by decide +kernel) (pa_cons (pv 0) pa_nil)) (pe_callB (cr_sortedK (K := K) rfl) (by rfl) T.n_sorted (by decide +kernel) (pa_cons (pv 1) pa_nil)) (nomark _))))
pss_nil)
(pss_cons (ps_setLc (i := 3) (own := [("_law_letter", 7)]) (g := gName 7) rfl sc__law_is_note.nd rfl rfl (sw_true rfl rfl rfl (by decide +kernel)) (pi_listK (K := K) rfl (pv 0)) (blkOk_by (own := [("_law_letter", 7)]) (N := ["_law_first", "_law_second", "_law_told", "_law_one", "_law_two", "_law_rising", "_law_falling", "_law_letter"]) (sc := defScope s__law_is_note) (by decide +kernel)) (fun _ _ _ _ _ => pg_name (i := 7) sc__law_is_note.nd rfl (Or.inl rfl)) (fun _ _ _ _ _ => pts_one (pt_cmpR op_le (pv 7) (pe_ix (ix_tupK (K := K) rfl) (pv 2) pe_int (fun _ _ => rfl)) (nomark _))) (fun _ _ _ _ _ => (pv 7)))
(pss_cons (ps_setLc (i := 4) (own := [("_law_letter", 7)]) (g := gName 7) rfl sc__law_is_note.nd rfl rfl (sw_true rfl rfl rfl (by decide +kernel)) (pi_listK (K := K) rfl (pv 1)) (blkOk_by (own := [("_law_letter", 7)]) (N := ["_law_first", "_law_second", "_law_told", "_law_one", "_law_two", "_law_rising", "_law_falling", "_law_letter"]) (sc := defScope s__law_is_note) (by decide +kernel)) (fun _ _ _ _ _ => pg_name (i := 7) sc__law_is_note.nd rfl (Or.inl rfl)) (fun _ _ _ _ _ => pts_one (pt_cmpR op_le (pv 7) (pe_ix (ix_tupK (K := K) rfl) (pv 2) pe_int (fun _ _ => rfl)) (nomark _))) (fun _ _ _ _ _ => (pv 7)))
(pss_cons (ps_if (pt_val (pe_ix (ix_tupK (K := K) rfl) (pv 2) pe_int (fun _ _ => rfl)))
(pss_one (ps_par (i := 3) (j := 4) rfl sc__law_is_note.nd rfl rfl (by decide) rfl rfl (pa_cons (pv 4) (pa_cons (pv 3) pa_nil)) (by rfl)))
pss_nil)
(pss_cons (ps_asg (pe_ix (ix_tupK (K := K) rfl) (pv 2) pe_int (fun _ _ => rfl)) (pg_tupK (K := K) rfl rfl (pgs_cons (pg_name (i := 5) sc__law_is_note.nd rfl (.inl rfl)) (pgs_cons (pg_name (i := 6) sc__law_is_note.nd rfl (.inl rfl)) pgs_nil))))
(pss_cons (ps_if (pt_not (pt_val (pe_kd (ok__law_is_family T) (hr.mono (by decide)) (by rfl) (pa_cons (pv 3) (pa_cons (pe_ix (ix_tupK (K := K) rfl) (pv 2) pe_int (fun _ _ => rfl)) (pa_cons pe_bl pa_nil))))))
(pss_one (ps_ret pe_bl))
pss_nil)
(pss_cons (ps_if (PW.pt (pw_or (pt_not (pt_val (pe_kd (ok__law_is_family T) (hr.mono (by decide)) (by rfl) (pa_cons (pv 4) (pa_cons (pv 5) (pa_cons pe_bl pa_nil)))))) (pw_or1 (pt_not (pt_val (pe_kd (ok__law_is_family T) (hr.mono (by decide)) (by rfl) (pa_cons (pv 4) (pa_cons (pv 6) (pa_cons pe_bl pa_nil)))))))))
(pss_one (ps_ret pe_bl))
pss_nil)
(pss_cons (ps_if (pt_cmpR op_ne (pe_op op_add (pe_kd (ok__law_cover T) (hr.mono (by decide)) (by rfl) (pa_cons (pv 5) pa_nil)) (pe_kd (ok__law_cover T) (hr.mono (by decide)) (by rfl) (pa_cons (pv 6) pa_nil))) (pe_op op_add (pe_callB (n_lenK (K := K) rfl) (by rfl) T.n_len PySem.boot_len (pa_cons (pv 4) pa_nil)) (pe_op op_mul (pe_callB (n_lenK (K := K) rfl) (by rfl) T.n_len PySem.boot_len (pa_cons (pv 5) pa_nil)) (pe_callB (n_lenK (K := K) rfl) (by rfl) T.n_len PySem.boot_len (pa_cons (pv 6) pa_nil)))) (nomark _))
(pss_one (ps_ret pe_bl))
pss_nil)
(pss_one (ps_ret (pe_and (pe_cmpR op_eq (pe_callB (n_lenK (K := K) rfl) (by rfl) T.n_len PySem.boot_len (pa_cons (pe_ix (ix_tupK (K := K) rfl) (pv 2) pe_int (fun _ _ => rfl)) pa_nil)) (pe_callB (n_lenK (K := K) rfl) (by rfl) T.n_len PySem.boot_len (pa_cons (pv 5) pa_nil)) (nomark _)) (pe_one (pe_cmpR op_gt (pe_kd (ok__law_cover T) (hr.mono (by decide)) (by rfl) (pa_cons (pe_ix (ix_tupK (K := K) rfl) (pv 2) pe_int (fun _ _ => rfl)) pa_nil)) (pe_kd (ok__law_cover T) (hr.mono (by decide)) (by rfl) (pa_cons (pv 5) pa_nil)) (nomark _)))))))))))))), ?_⟩
    refine st_lit (σ' := [some (V.ref a), some (V.ref b), some (V.ref t), none, none, none, none, none]) rfl ?_
    cases n with
    | content =>
      have hn' : H t = some (.tup [.str "content"]) := hn
      walk_at "x"
      rw [decide_eq_true rfl]
      walk_at "x"
      refine x_sorted ha hu1 fun m p H1 p1 w1 n1 s1 e1 => ?_
      walk_at "x"
      refine x_sorted (hb.mono s1) hv1 fun m2 p2 H2 p3 w2 n2 s2 e2 => ?_
      exact x_neS (e1.mono s2) e2 p1 w1 p3 w2 fun c hc => q c H2 hc (s1.trans s2)
    | cover g fam ris fal sw =>
      obtain ⟨f, p, r, fl, e1, e2, e3, e4, e5⟩ := hn
      obtain ⟨z1, z2, z3⟩ := hz
      walk_at "x"
      rw [decide_eq_false (show ¬ V.str "cover" = V.str "content" by decide +kernel)]
      walk_at "x"
      refine lc_upT (g := g) ha (by omega) rfl (fun _ => rfl) (fun _ => rfl) (fun z H1 R s1 r => ?_) fun p1 H1 n1 s1 t1 => ?_
      · have e1' := s1 _ _ e1
        walk_at "x"
        exact r
      have e1a := s1 _ _ e1
      walk_at "x"
      refine lc_upT (g := g) (hb.mono s1) (by omega) rfl (fun _ => rfl) (fun _ => rfl) (fun z H2 R s2 r => ?_) fun p2 H2 n2 s2 t2 => ?_
      · have e1' := s2 _ _ e1a
        walk_at "x"
        exact r
      have S2 := s1.trans s2
      have e1' := S2 _ _ e1
      have e2' := S2 _ _ e2
      have t1' := t1.mono s2
      walk_at "x"
      cases sw
      · walk_at "x"
        refine ⟨p1, f, Km.upto g u, fam, false, rfl, t1', e3.mono S2, by have := upto_len g u; omega, z1, fun b3 H3 i3 s3 => ?_⟩
        have S3 := S2.trans s3
        walk_at "x"
        refine x_b' (fun h3 => ?_) (fun h3 => ?_)
        · walk_at "x"
          exact q false H3 ⟨fun z => (Bool.false_ne_true z).elim, fun z => absurd (i3.mpr z.1) (by rw [h3]; exact Bool.false_ne_true)⟩ S3
        · walk_at "x"
          refine ⟨p2, r, Km.upto g v, ris, false, rfl, t2.mono s3, e4.mono S3, by have := upto_len g v; omega, z2, fun b4 H4 i4 s4 => ?_⟩
          have S4 := S3.trans s4
          walk_at "x"
          refine x_b' (fun h4 => ?_) (fun h4 => ?_)
          · walk_at "x"
            exact q false H4 ⟨fun z => (Bool.false_ne_true z).elim, fun z => absurd (i4.mpr z.2.1) (by rw [h4]; exact Bool.false_ne_true)⟩ S4
          · walk_at "x"
            refine ⟨p2, fl, Km.upto g v, fal, true, rfl, (t2.mono s3).mono s4, e5.mono S4, by have := upto_len g v; omega, z3, fun b5 H5 i5 s5 => ?_⟩
            have S5 := S4.trans s5
            walk_at "x"
            refine x_b' (fun h5 => ?_) (fun h5 => ?_)
            · walk_at "x"
              exact q false H5 ⟨fun z => (Bool.false_ne_true z).elim, fun z => absurd (i5.mpr z.2.2.1) (by rw [h5]; exact Bool.false_ne_true)⟩ S5
            · have hh := i3.mp h3
              have gg := i4.mp h4
              have ii := i5.mp h5
              walk_at "x"
              refine ⟨r, ris, rfl, e4.mono S5, z2, fun H6 s6 => ?_⟩
              walk_at "x"
              refine ⟨fl, fal, rfl, (e5.mono S5).mono s6, z3, fun H7 s7 => ?_⟩
              have S7 := (S5.trans s6).trans s7
              have T7 : H7 p2 = some (.lst ((Km.upto g v).map V.int)) := ((((t2.mono s3).mono s4).mono s5).mono s6).mono s7
              obtain ⟨as, ef, hf⟩ := e3.mono S7
              obtain ⟨bs, er, hr'⟩ := e4.mono S7
              obtain ⟨cs, el, hl'⟩ := e5.mono S7
              have e1'' := S7 _ _ e1
              walk_at "x"
              refine x_mul ?_ ?_ ?_
              · rw [refs_len, hr'.len]; have := z2.1; omega
              · rw [refs_len, hl'.len]; have := z3.1; omega
              walk_at "x"
              rw [dec_vint, ints_len, refs_len, refs_len, hr'.len, hl'.len]
              refine x_iteN (fun h6 => ?_) (fun h6 => ?_)
              · walk_at "x"
                refine q false H7 ⟨fun z => (Bool.false_ne_true z).elim, fun z => absurd ?_ h6⟩ S7
                rw [← Int.natCast_add, z.2.2.2.1, Int.natCast_add, Int.natCast_mul]
                rfl
              · have ke : Km.cov ris + Km.cov fal = (Km.upto g v).length + ris.length * fal.length := by
                  have : ((Km.cov ris + Km.cov fal : Nat) : Int) = (((Km.upto g v).length + ris.length * fal.length : Nat) : Int) := by rw [Int.natCast_add, Int.natCast_add, Int.natCast_mul]; exact h6
                  exact Int.ofNat.inj this
                walk_at "x"
                rw [refs_len, refs_len, hf.len, hr'.len, dec_vint]
                refine x_ite (fun h7 => ?_) (fun h7 => ?_)
                · walk_at "x"
                  refine ⟨f, fam, rfl, e3.mono S7, z1, fun H8 s8 => ?_⟩
                  walk_at "x"
                  refine ⟨r, ris, rfl, (e4.mono S7).mono s8, z2, fun H9 s9 => ?_⟩
                  walk_at "x"
                  refine q _ H9 ?_ ((S7.trans s8).trans s9)
                  rw [decide_eq_true_iff]
                  exact ⟨fun z => ⟨hh, gg, ii, ke, by omega, by omega⟩, fun z => by have := z.2.2.2.2.2; omega⟩
                · exact q false H7 ⟨fun z => (Bool.false_ne_true z).elim, fun z => absurd z.2.2.2.2.1 (by omega)⟩ S7
      · walk_at "x"
        refine ⟨_, _, rfl, ?_⟩
        dsimp only
        refine st_lit (σ' := [some (V.ref a), some (V.ref b), some (V.ref t), some (V.ref p2), some (V.ref p1), none, none, none]) rfl ?_
        walk_at "x"
        refine ⟨p2, f, Km.upto g v, fam, false, rfl, t2, e3.mono S2, by have := upto_len g v; omega, z1, fun b3 H3 i3 s3 => ?_⟩
        have S3 := S2.trans s3
        walk_at "x"
        refine x_b' (fun h3 => ?_) (fun h3 => ?_)
        · walk_at "x"
          exact q false H3 ⟨fun z => (Bool.false_ne_true z).elim, fun z => absurd (i3.mpr z.1) (by rw [h3]; exact Bool.false_ne_true)⟩ S3
        · walk_at "x"
          refine ⟨p1, r, Km.upto g u, ris, false, rfl, t1'.mono s3, e4.mono S3, by have := upto_len g u; omega, z2, fun b4 H4 i4 s4 => ?_⟩
          have S4 := S3.trans s4
          walk_at "x"
          refine x_b' (fun h4 => ?_) (fun h4 => ?_)
          · walk_at "x"
            exact q false H4 ⟨fun z => (Bool.false_ne_true z).elim, fun z => absurd (i4.mpr z.2.1) (by rw [h4]; exact Bool.false_ne_true)⟩ S4
          · walk_at "x"
            refine ⟨p1, fl, Km.upto g u, fal, true, rfl, (t1'.mono s3).mono s4, e5.mono S4, by have := upto_len g u; omega, z3, fun b5 H5 i5 s5 => ?_⟩
            have S5 := S4.trans s5
            walk_at "x"
            refine x_b' (fun h5 => ?_) (fun h5 => ?_)
            · walk_at "x"
              exact q false H5 ⟨fun z => (Bool.false_ne_true z).elim, fun z => absurd (i5.mpr z.2.2.1) (by rw [h5]; exact Bool.false_ne_true)⟩ S5
            · have hh := i3.mp h3
              have gg := i4.mp h4
              have ii := i5.mp h5
              walk_at "x"
              refine ⟨r, ris, rfl, e4.mono S5, z2, fun H6 s6 => ?_⟩
              walk_at "x"
              refine ⟨fl, fal, rfl, (e5.mono S5).mono s6, z3, fun H7 s7 => ?_⟩
              have S7 := (S5.trans s6).trans s7
              have T7 : H7 p1 = some (.lst ((Km.upto g u).map V.int)) := ((((t1'.mono s3).mono s4).mono s5).mono s6).mono s7
              obtain ⟨as, ef, hf⟩ := e3.mono S7
              obtain ⟨bs, er, hr'⟩ := e4.mono S7
              obtain ⟨cs, el, hl'⟩ := e5.mono S7
              have e1'' := S7 _ _ e1
              walk_at "x"
              refine x_mul ?_ ?_ ?_
              · rw [refs_len, hr'.len]; have := z2.1; omega
              · rw [refs_len, hl'.len]; have := z3.1; omega
              walk_at "x"
              rw [dec_vint, ints_len, refs_len, refs_len, hr'.len, hl'.len]
              refine x_iteN (fun h6 => ?_) (fun h6 => ?_)
              · walk_at "x"
                refine q false H7 ⟨fun z => (Bool.false_ne_true z).elim, fun z => absurd ?_ h6⟩ S7
                rw [← Int.natCast_add, z.2.2.2.1, Int.natCast_add, Int.natCast_mul]
                rfl
              · have ke : Km.cov ris + Km.cov fal = (Km.upto g u).length + ris.length * fal.length := by
                  have : ((Km.cov ris + Km.cov fal : Nat) : Int) = (((Km.upto g u).length + ris.length * fal.length : Nat) : Int) := by rw [Int.natCast_add, Int.natCast_add, Int.natCast_mul]; exact h6
                  exact Int.ofNat.inj this
                walk_at "x"
                rw [refs_len, refs_len, hf.len, hr'.len, dec_vint]
                refine x_ite (fun h7 => ?_) (fun h7 => ?_)
                · walk_at "x"
                  refine ⟨f, fam, rfl, e3.mono S7, z1, fun H8 s8 => ?_⟩
                  walk_at "x"
                  refine ⟨r, ris, rfl, (e4.mono S7).mono s8, z2, fun H9 s9 => ?_⟩
                  walk_at "x"
                  refine q _ H9 ?_ ((S7.trans s8).trans s9)
                  rw [decide_eq_true_iff]
                  exact ⟨fun z => ⟨hh, gg, ii, ke, by omega, by omega⟩, fun z => by have := z.2.2.2.2.2; omega⟩
                · exact q false H7 ⟨fun z => (Bool.false_ne_true z).elim, fun z => absurd z.2.2.2.2.1 (by omega)⟩ S7
end
section
local macro_rules | `(tactic| walk_at "set") => `(tactic| first | exact set0 | (apply setS; walk_at "set"))
local macro_rules | `(tactic| walk_at "h") => `(tactic| first | assumption | (refine Same.lk (by assumption) ?_; walk_at "h"))
local macro_rules | `(tactic| walk_at "x1") => `(tactic| first
  | ((with_reducible show tVar _ _ _ _); refine x_var rfl ?_)
  | ((with_reducible show tC _ _ _ _); refine x_c ?_)
  | ((with_reducible show tOp _ _ _ _ _ _); refine x_op ?_)
  | ((with_reducible show tSeq _ _ _ _ _); refine x_seq ?_)
  | ((with_reducible show tAsg _ _ _ _ _); refine x_asg ?_)
  | ((with_reducible show gName _ _ _ _ _); refine x_name2 (by walk_at "set") ?_)
  | ((with_reducible show tCons _ _ _ _ _); refine x_cons ?_)
  | ((with_reducible show tNil _ _ _); refine x_nil ?_)
  | ((with_reducible show rI0 _ (V.int _) (V.int _) _ _); refine x_rI0 ?_)
  | ((with_reducible show tCB _ _ _ _ _); refine x_cb ?_)
  | ((with_reducible show tCall _ [] E0 _ _ _ _); refine x_call ?_)
  | ((with_reducible show rIxT _ _ _ _ _); refine x_ixT (by walk_at "h") (by rfl) ?_)
  | ((with_reducible show rLenQ _ _ _ _); refine x_lenL (by walk_at "h") ?_)
  | ((with_reducible show rLenQ _ _ _ _); refine x_lenT (by walk_at "h") ?_)
  | ((with_reducible show tIfS _ _ _ _ _ _); refine x_if ?_)
  | ((with_reducible show tTest _ _ _ _); refine x_test ?_)
  | ((with_reducible show tB _ _ _ _); refine x_tB ?_)
  | ((with_reducible show tYes _ _ _); refine x_yes ?_)
  | ((with_reducible show gTup _ _ _ (V.ref _) _ _ _); refine x_gtup (by walk_at "h") (by rfl) ?_)
  | ((with_reducible show gCons _ _ (_ :: _) _ _ _); refine x_gcons ?_)
  | ((with_reducible show gNil [] _ _ _); refine x_gnil ?_)
  | ((with_reducible show tPar _ _ _ _ _ _); refine x_par ?_)
  | ((with_reducible show Ends.nx _ _ _); dsimp only)
  | (with_reducible refine x_bl ?_)
  | (with_reducible refine x_T ?_)
  | (with_reducible refine x_nT ?_)
  | (with_reducible refine x_nF ?_)
  | (with_reducible refine x_F ?_)
  | ((with_reducible show rEq _ _ _ _); refine x_eq rfl ?_)
  | ((with_reducible show rNe _ _ _ _); refine x_ne rfl ?_)
  | ((with_reducible show rIsNn _ _ _ _); refine x_isN ?_)
  | ((with_reducible show tRet _ _ _ _); refine x_ret ?_)
  | ((with_reducible show tNext _ _ _); refine x_next ?_)
  | ((with_reducible show tRetN _ _ _); refine x_retN ?_)
  | ((with_reducible show tDrop _ _ _ _); refine x_drop ?_)
  | ((with_reducible show tTup _ _ _ _); refine x_tup ?_)
  | ((with_reducible show tLst _ _ _ _); refine x_lst ?_)
  | ((with_reducible show tUn _ _ _ _ _); refine x_un ?_)
  | ((with_reducible show rU _ (V.int _) _ _); refine x_rU ?_)
  | ((with_reducible show tNot _ _ _ _); refine x_notT ?_)
  | ((with_reducible show tAnd _ _ _ _ _); refine x_and ?_)
  | ((with_reducible show tOr _ _ _ _ _); refine x_or ?_)
  | ((with_reducible show tSl _ _ _ _ _ _ _); refine x_sl ?_)
  | ((with_reducible show tNoPart _ _ _); refine x_noP ?_)
  | ((with_reducible show tPart _ _ _ _); refine x_part ?_)
  | (with_reducible refine x_pi ?_)
  | ((with_reducible show tBM _ _ _ _ _ _ _ _); refine x_bm ?_)
  | ((with_reducible show tyV _ "list" _ _ ∧ _); refine x_tyL (by walk_at "h") ?_)
  | ((with_reducible show gSub _ _ _ _ _ _ _); refine x_sub ?_)
  | ((with_reducible show rInt1 [V.int _] _ _); refine x_int ?_)
  | ((with_reducible show rInt1 [V.bl _] _ _); refine x_intB ?_)
  | ((with_reducible show rMin2 _ _ _); refine x_min ?_)
  | ((with_reducible show rMax2 _ _ _); refine x_max ?_))
local macro_rules | `(tactic| walk_at "x") => `(tactic| (repeat walk_at "x1"))
variable {P : Program} {w : World} {K : PySem.W.Frag} {mg : Str → Option Value} {base : Heap}
/-! ### families in the making -/
def Fb (b : Nat) (fam : List (List Int)) : Prop := fam.length ≤ b ∧ ∀ l ∈ fam, l.length ≤ b ∧ ∀ x ∈ l, x.natAbs ≤ 100
theorem Fb.le {b c : Nat} {fam : List (List Int)} (h : Fb b fam) (hc : b ≤ c) : Fb c fam := ⟨Nat.le_trans h.1 hc, fun l hl => ⟨Nat.le_trans (h.2 l hl).1 hc, (h.2 l hl).2⟩⟩
theorem Fb.sm {b : Nat} {fam : List (List Int)} (h : Fb b fam) (hc : b ≤ 100) : Fsm fam := ⟨Nat.le_trans h.1 hc, fun l hl => Nat.le_trans (h.2 l hl).1 hc⟩
theorem Fb.snoc {b : Nat} {fam : List (List Int)} {l : List Int} (h : Fb b fam) (hl : l.length ≤ b + 1) (hx : ∀ x ∈ l, x.natAbs ≤ 100) : Fb (b + 1) (fam ++ [l]) := by
  refine ⟨by rw [List.length_append]; have := h.1; show _ + 1 ≤ _; omega, fun k hk => ?_⟩
  rcases List.mem_append.mp hk with z | z
  · exact (h.le (by omega)).2 k z
  · rw [List.mem_singleton.mp z]; exact ⟨hl, hx⟩
theorem Fb.set {b i : Nat} {fam : List (List Int)} {l : List Int} (h : Fb b fam) (hl : l.length ≤ b) (hx : ∀ x ∈ l, x.natAbs ≤ 100) : Fb b (fam.set i l) := by
  refine ⟨by rw [List.length_set]; exact h.1, fun k hk => ?_⟩
  rcases List.mem_or_eq_of_mem_set hk with z | z
  · exact h.2 k z
  · rw [z]; exact ⟨hl, hx⟩
/-- what was made here stands still from here on -/
theorem Rows.fam {S H H' : Hp} {c : Addr} {as : List Addr} {R : List (List Int)} (s : Same S H) (g : Rows H H' c as R) : ∃ S', Go S H S' H' ∧ FamAt S' c R := by
  obtain ⟨S', go, new⟩ := Go.grow s g.hh
  refine ⟨S', go, as, new c _ g.c0 g.ec, g.al.len, fun i p l a b => ?_⟩
  exact new p _ (g.a0 p (List.mem_of_getElem? a)) (g.al.at_ i p l a b)
theorem lc_empties {σ : L2.St} {H : Hp} {Q : VK} {m j : Nat} {ta : TA} (hz : m ≤ 10000) (hl : ∀ R : List V → Hp → Prop, (∀ n : Nat, n ≤ m → R [.int (n : Int)] H) → ta σ H R)
    (hw : ∀ x, wipe ((wipe σ [j]).set j (some x)) [j] = wipe σ [j]) (k : ∀ D H' as (n : Nat), n ≤ m → Rows H H' D as (List.replicate n []) → Q (.ref D) H') : tLc (iRng1 ta) (gName j) tYes (tLst (mA tNil)) [j] σ H Q := by
  refine hl _ fun n hn => ⟨n, rfl, by omega, by omega, fun D hD => ?_⟩
  rw [Int.toNat_natCast]
  refine lc_range (lo := 0) (n := n) (fun i H' => ∃ as, Rows H H' D as (List.replicate i [])) ⟨[], same_new hD, hD, fun p hp => by simp at hp, by simp, fun p hp => by simp at hp, upd_same, All.nil⟩ (fun i H' hi p => ⟨hw _, ?_⟩) fun H' p => ?_
  · obtain ⟨as, g⟩ := p
    refine x_yes ?_
    refine x_T ?_
    refine x_lst ?_
    refine ⟨Nat.zero_le _, fun q H2 n2 s2 e2 => ?_⟩
    have hlen := g.al.len
    rw [List.length_replicate] at hlen
    refine ⟨refs as, s2 _ _ g.ec, smallL (by rw [refs_len]; omega), as ++ [q], ?_⟩
    rw [refs_snoc, List.replicate_succ']
    exact g.snoc (l := []) s2 n2 e2
  · obtain ⟨as, g⟩ := p
    exact k D H' as n hn g
/-- [list(x) for x in family] -/
theorem lc_copies {σ : L2.St} {H : Hp} {Q : VK} {b : Addr} {ib j : Nat} {fam : List (List Int)} {te : TE} (hb : FamAt H b fam) (hz : fam.length ≤ 1000) (hi : σ[ib]? = some (some (.ref b)))
    (hw : ∀ x, wipe ((wipe σ [j]).set j (some x)) [j] = wipe σ [j])
    (he : ∀ (p : Addr) (l : List Int) (H1 : Hp) (R : VK), LiAt H1 p l → (∀ q H2, H1 q = none → Same H1 H2 → LiAt H2 q l → R (.ref q) H2) → te ((wipe σ [j]).set j (some (.ref p))) H1 R)
    (k : ∀ D H' as, Rows H H' D as fam → Q (.ref D) H') : tLc (iList K (tVar ib)) (gName j) tYes te [j] σ H Q := by
  obtain ⟨as0, eb, hf⟩ := hb
  refine ⟨.ref b, hi, b, rfl, ⟨_, SqL.of eb⟩, fun D hD => ?_⟩
  refine lc_list (K := K) (a := b) (xs := refs as0) (fun i H' => ∃ as, Rows H H' D as (fam.take i)) ⟨[], same_new hD, hD, fun p hp => by simp at hp, by simp, fun p hp => by simp at hp, upd_same, All.nil⟩ ?_ ?_ ?_
  · rintro i H' _ ⟨as, g⟩
    exact SqL.of (g.hh _ _ eb)
  · rintro i x H' hx ⟨as, g⟩
    obtain ⟨p, rfl, hp⟩ := refs_get' hx
    obtain ⟨l, hl, r⟩ := hf.get' hp
    refine ⟨hw _, ?_⟩
    refine x_yes ?_
    refine x_T ?_
    refine he p l H' _ (r.mono g.hh) fun q H2 n2 s2 e2 => ?_
    have hil : i < fam.length := (List.getElem?_eq_some_iff.mp hl).1
    have hlen := g.al.len
    rw [List.length_take] at hlen
    refine ⟨refs as, s2 _ _ g.ec, smallL (by rw [refs_len]; omega), as ++ [q], ?_⟩
    rw [refs_snoc, take_snoc hl]
    exact g.snoc s2 n2 e2
  · rintro H' ⟨as, g⟩
    rw [refs_len, hf.len, List.take_length] at g
    exact k D H' as g
theorem atI_last {l : List Int} (h : l ≠ []) : ∃ x ∈ l, atI (l.map V.int) (-1) = some (.int x) := by
  have hl : 0 < l.length := List.length_pos_iff.mpr h
  refine ⟨l[l.length - 1], List.getElem_mem (by omega), ?_⟩
  unfold atI ixN
  rw [ints_len, if_neg (by omega), if_pos (by omega)]
  show (l.map V.int)[((l.length : Int) + -1).toNat]? = _
  rw [show ((l.length : Int) + -1).toNat = l.length - 1 by omega, ints_get (List.getElem?_eq_getElem (by omega : l.length - 1 < l.length))]
theorem x_fits {g : Int → Int → V} (hg : ∀ i j, ∃ b, g i j = .bl b) {σ : L2.St} {H : Hp} {Q : VK} {pk a : Addr} {l u : List Int} {i : Nat} (h7 : σ[7]? = some (some (.ref pk))) (h1 : σ[1]? = some (some (.ref a))) (h5 : σ[5]? = some (some (.int i)))
    (rk : LiAt H pk l) (ha : LiAt H a u) (hb : ∀ x ∈ l, 0 ≤ x ∧ x < u.length) (hi : i < u.length) (k : ∀ b, Q (.bl b) H) : tOrV (tOp rEq (tCB (rLenQ K) (tCons (tVar 7) tNil)) (tC (V.int 0))) (tOp (rI0 g) (tOp (rIxL K) (tVar 1) (tOp (rIxL K) (tVar 7) (tUn (rU fun i => V.int (-i)) (tC (V.int 1))))) (tOp (rIxL K) (tVar 1) (tVar 5))) σ H Q := by
  have rk' : H pk = some (.lst (l.map V.int)) := rk
  have ha' : H a = some (.lst (u.map V.int)) := ha
  refine x_orV ?_
  refine x_op (x_cb (x_cons (x_var h7 (x_nil ?_))))
  refine x_lenL rk' ?_
  refine x_c ?_
  refine x_eq rfl ?_
  refine ⟨_, rfl, ?_⟩
  rw [ints_len, dec_vint]
  refine x_ite (fun h => ?_) (fun h => ?_)
  · exact k true
  · refine x_op (x_op (x_var h1 (x_op (x_var h7 (x_un (x_c (x_rU ?_)))))))
    obtain ⟨x, hx, ex⟩ := atI_last (l := l) (fun e => h (by rw [e]; rfl))
    refine x_ixL rk' ex ?_
    refine x_ixL ha' (atI_wat (hb x hx)) ?_
    refine x_op (x_var h1 (x_var h5 ?_))
    refine x_ixL ha' (atI_ints (List.getElem?_eq_getElem hi)) ?_
    obtain ⟨b, eb⟩ := hg (Km.wat u x) u[i]
    refine x_rI0 ?_
    rw [eb]
    exact k b
def spDraw : Sp := fun vs H Q _ => ∃ (S : Hp) (p a : Addr) (u : List Int) (fa : Bool) (m : Nat), vs = [.ref p, .ref a, .bl fa, .int m] ∧ Same S H ∧ Strm H p ∧ LiAt H a u ∧ u.length ≤ 20 ∧ m ≤ 20 ∧
  ∀ v S' H' fam, Go S H S' H' → H v = none → FamAt S' v fam → Fb 20 fam → Q (.ref v) H'
theorem ok__law_drawn_family (T : Txt K mg) : Kd P w K mg base "_law_drawn_family" ["_law_stream_here", "_law_word_here", "_law_falls", "_law_most"] 2 spDraw := by
  refine kd_of T.d__law_drawn_family sc__law_drawn_family (fun vs H Q E h => ?_) (fun f cdv A outer s H vs Q E hr h => ?_)
  · obtain ⟨S, p, a, u, fa, m, rfl, _⟩ := h
    rfl
  · obtain ⟨S, p, a, u, fa, m, rfl, sh, hp, ha, hu, hm, q⟩ := h
    refine ⟨_, (pss_cons (ps_setLc (i := 4) (own := [("_law_k", 9)]) (g := gName 9) (tt := tYes) rfl sc__law_drawn_family.nd rfl rfl (sw_true rfl rfl rfl (by decide +kernel)) (pi_range1 (by rfl) T.n_range (pa_cons (pe_kd (ok__law_next T) (hr.mono (by decide)) (by rfl) (pa_cons (pv 0) (pa_cons (pe_op op_add (pv 3) pe_int) pa_nil))) pa_nil)) (blkOk_by (own := [("_law_k", 9)]) (N := ["_law_stream_here", "_law_word_here", "_law_falls", "_law_most", "_law_family", "_law_index", "_law_place", "_law_told", "_law_fits", "_law_k"]) (sc := defScope s__law_drawn_family) (by decide +kernel)) (fun _ _ _ _ _ => pg_name (i := 9) sc__law_drawn_family.nd rfl (Or.inl rfl)) (fun _ _ _ _ _ => pts_nil) (fun _ _ _ _ _ => (pe_lst (pa_m pa_nil))))
(pss_cons (ps_for PassesOwn.never rfl (pi_range1 (by rfl) T.n_range (pa_cons (pe_callB (n_lenK (K := K) rfl) (by rfl) T.n_len PySem.boot_len (pa_cons (pv 1) pa_nil)) pa_nil)) (pg_name (i := 5) sc__law_drawn_family.nd rfl (.inl rfl))
(pss_cons (ps_set (i := 6) sc__law_drawn_family.nd rfl (.inl rfl) (pe_kd (ok__law_next T) (hr.mono (by decide)) (by rfl) (pa_cons (pv 0) (pa_cons (pe_op op_add (pe_callB (n_lenK (K := K) rfl) (by rfl) T.n_len PySem.boot_len (pa_cons (pv 4) pa_nil)) pe_int) pa_nil))))
(pss_one (ps_if (pt_cmpR op_lt (pv 6) (pe_callB (n_lenK (K := K) rfl) (by rfl) T.n_len PySem.boot_len (pa_cons (pv 4) pa_nil)) (nomark _))
(pss_cons (ps_set (i := 7) sc__law_drawn_family.nd rfl (.inl rfl) (pe_ix (ix_listK (K := K) rfl) (pv 4) (pv 6) (fun _ _ => rfl)))
(pss_cons (ps_set (i := 8) sc__law_drawn_family.nd rfl (.inl rfl) (pe_or (pe_cmpR op_eq (pe_callB (n_lenK (K := K) rfl) (by rfl) T.n_len PySem.boot_len (pa_cons (pv 7) pa_nil)) pe_int (nomark _)) (pe_one (pe_cmpR op_le (pe_ix (ix_listK (K := K) rfl) (pv 1) (pe_ix (ix_listK (K := K) rfl) (pv 7) (pe_un un_neg pe_int) (fun _ _ => rfl)) (fun _ _ => rfl)) (pe_ix (ix_listK (K := K) rfl) (pv 1) (pv 5) (fun _ _ => rfl)) (nomark _)))))
(pss_cons (ps_if (pt_val (pv 2))
(pss_one (ps_set (i := 8) sc__law_drawn_family.nd rfl (.inl rfl) (pe_or (pe_cmpR op_eq (pe_callB (n_lenK (K := K) rfl) (by rfl) T.n_len PySem.boot_len (pa_cons (pv 7) pa_nil)) pe_int (nomark _)) (pe_one (pe_cmpR op_gt (pe_ix (ix_listK (K := K) rfl) (pv 1) (pe_ix (ix_listK (K := K) rfl) (pv 7) (pe_un un_neg pe_int) (fun _ _ => rfl)) (fun _ _ => rfl)) (pe_ix (ix_listK (K := K) rfl) (pv 1) (pv 5) (fun _ _ => rfl)) (nomark _))))))
pss_nil)
(pss_one (ps_if (pt_val (pv 8))
(pss_one (ps_expr (pe_bmK (K := K) rfl (pe_bm PySem.F.plainAttrs_list PySem.F.slot_list_append PySem.F.type_list_append mt_append (pv 7) (pa_cons (pv 5) pa_nil)))))
pss_nil)))))
pss_nil))))
(pss_one (ps_ret (pv 4))))), ?_⟩
    refine st_lit (σ' := [some (V.ref p), some (V.ref a), some (V.bl fa), some (V.int m), none, none, none, none, none, none]) rfl ?_
    walk_at "x"
    refine lc_empties (m := m) (by omega) (fun R r => ?_) (fun _ => rfl) fun c H1 as1 n hn g1 => ?_
    · walk_at "x"
      refine ⟨p, _, rfl, hp, by omega, by omega, fun z z0 z1 => ?_⟩
      obtain ⟨k, rfl⟩ : ∃ k : Nat, z = k := ⟨z.toNat, by omega⟩
      exact r k (by omega)
    have ha1 : H1 a = some (.lst (u.map V.int)) := ha.mono g1.hh
    walk_at "x"
    refine x_for (x_r1 ?_)
    walk_at "x"
    rw [ints_len]
    refine x_r1n (n := u.length) (by omega) ?_
    rw [Int.toNat_natCast]
    refine for_range (fun i σ H' => ∃ (as : List Addr) (R : List (List Int)) (v5 v6 v7 v8 : Option V), σ = [some (.ref p), some (.ref a), some (.bl fa), some (.int m), some (.ref c), v5, v6, v7, v8, none] ∧ Rows H H' c as R ∧ R.length = n ∧ ∀ l ∈ R, l.length ≤ i ∧ ∀ x ∈ l, 0 ≤ x ∧ x < u.length)
      ⟨as1, _, none, none, none, none, rfl, g1, List.length_replicate, fun l hl => by rw [(List.mem_replicate.mp hl).2]; exact ⟨Nat.zero_le _, fun x hx => by simp at hx⟩⟩ ?_ ?_
    · rintro i σ H2 hi ⟨as, R, v5, v6, v7, v8, rfl, g, hR, hb⟩
      have hlen := g.al.len
      have up : ∀ l ∈ R, l.length ≤ i + 1 ∧ ∀ x ∈ l, 0 ≤ x ∧ x < u.length := fun l hl => ⟨by have := (hb l hl).1; omega, (hb l hl).2⟩
      have ec := g.ec
      have ha2 : H2 a = some (.lst (u.map V.int)) := ha.mono g.hh
      rw [Int.zero_add]
      walk_at "x"
      rw [refs_len]
      refine ⟨p, _, rfl, g.hh _ _ hp, by omega, by omega, fun z z0 z1 => ?_⟩
      obtain ⟨k, rfl⟩ : ∃ k : Nat, z = k := ⟨z.toNat, by omega⟩
      walk_at "x"
      rw [refs_len]
      refine x_ite (fun h => ?_) (fun h => ?_)
      · have hk : k < R.length := by omega
        obtain ⟨pk, hpk, rk⟩ := g.al.get (List.getElem?_eq_getElem hk)
        have hbk := hb _ (List.getElem_mem hk)
        generalize R[k] = l at *
        have rk' : H2 pk = some (.lst (l.map V.int)) := rk
        have fin : ∀ (v8 : Option V), ∃ (as : List Addr) (R : List (List Int)) (v5 v6 v7 v8' : Option V), [some (V.ref p), some (.ref a), some (.bl fa), some (.int m), some (.ref c), some (.int i), some (.int k), some (.ref pk), v8, none] = [some (.ref p), some (.ref a), some (.bl fa), some (.int m), some (.ref c), v5, v6, v7, v8', none] ∧ Rows H H2 c as R ∧ R.length = n ∧ ∀ l ∈ R, l.length ≤ i + 1 ∧ ∀ x ∈ l, 0 ≤ x ∧ x < u.length := fun v8 => ⟨as, R, _, _, _, _, rfl, g, hR, up⟩
        have fin2 : ∀ (v8 : Option V), ∃ (as' : List Addr) (R : List (List Int)) (v5 v6 v7 v8' : Option V), [some (V.ref p), some (.ref a), some (.bl fa), some (.int m), some (.ref c), some (.int i), some (.int k), some (.ref pk), v8, none] = [some (.ref p), some (.ref a), some (.bl fa), some (.int m), some (.ref c), v5, v6, v7, v8', none] ∧ Rows H (upd H2 pk (.lst (l.map V.int ++ [V.int i]))) c as' R ∧ R.length = n ∧ ∀ l ∈ R, l.length ≤ i + 1 ∧ ∀ x ∈ l, 0 ≤ x ∧ x < u.length := fun v8 => by
          refine ⟨as, R.set k (l ++ [(i : Int)]), _, _, _, _, rfl, ?_, by rw [List.length_set]; exact hR, fun l' hl' => ?_⟩
          · have := g.put hpk (l ++ [(i : Int)])
            rw [List.map_append] at this
            exact this
          · rcases List.mem_or_eq_of_mem_set hl' with z | z
            · exact up l' z
            · rw [z]
              refine ⟨by rw [List.length_append]; show _ + 1 ≤ _; omega, fun x hx => ?_⟩
              rcases List.mem_append.mp hx with y | y
              · exact hbk.2 x y
              · rw [List.mem_singleton.mp y]; omega
        refine x_seq ?_
        walk_at "y"
        refine x_ixL ec (atI_refs hpk) ?_
        walk_at "y"
        refine x_seq (x_asg ?_)
        refine x_fits (fun _ _ => ⟨_, rfl⟩) rfl rfl rfl rk ha2 hbk.2 hi fun b8 => ?_
        walk_at "y"
        refine x_seq ?_
        walk_at "y"
        refine x_b (fun h => ?_) (fun h => ?_)
        · refine x_asg ?_
          refine x_fits (fun _ _ => ⟨_, rfl⟩) rfl rfl rfl rk ha2 hbk.2 hi fun b9 => ?_
          walk_at "y"
          refine x_b (fun h => ?_) (fun h => ?_)
          · walk_at "x"
            refine x_app rk' (smallL (by rw [ints_len]; have := hbk.1; omega)) ?_
            exact fin2 _
          · walk_at "x"
            exact fin _
        · walk_at "y"
          refine x_b (fun h => ?_) (fun h => ?_)
          · walk_at "x"
            refine x_app rk' (smallL (by rw [ints_len]; have := hbk.1; omega)) ?_
            exact fin2 _
          · walk_at "x"
            exact fin _
      · walk_at "x"
        exact ⟨as, R, _, _, _, _, rfl, g, hR, up⟩
    · rintro σ H2 ⟨as, R, v5, v6, v7, v8, rfl, g, hR, hb⟩
      walk_at "x"
      obtain ⟨S', go, hf⟩ := g.fam sh
      refine q c S' H2 R go g.c0 hf ⟨by omega, fun l hl => ⟨by have := (hb l hl).1; omega, fun x hx => by have := (hb l hl).2 x hx; omega⟩⟩
end
section
local macro_rules | `(tactic| walk_at "set") => `(tactic| first | exact set0 | (apply setS; walk_at "set"))
local macro_rules | `(tactic| walk_at "h") => `(tactic| first | assumption | (refine Same.lk (by assumption) ?_; walk_at "h"))
local macro_rules | `(tactic| walk_at "x1") => `(tactic| first
  | ((with_reducible show tVar _ _ _ _); refine x_var rfl ?_)
  | ((with_reducible show tC _ _ _ _); refine x_c ?_)
  | ((with_reducible show tOp _ _ _ _ _ _); refine x_op ?_)
  | ((with_reducible show tSeq _ _ _ _ _); refine x_seq ?_)
  | ((with_reducible show tAsg _ _ _ _ _); refine x_asg ?_)
  | ((with_reducible show gName _ _ _ _ _); refine x_name2 (by walk_at "set") ?_)
  | ((with_reducible show tCons _ _ _ _ _); refine x_cons ?_)
  | ((with_reducible show tNil _ _ _); refine x_nil ?_)
  | ((with_reducible show rI0 _ (V.int _) (V.int _) _ _); refine x_rI0 ?_)
  | ((with_reducible show tCB _ _ _ _ _); refine x_cb ?_)
  | ((with_reducible show tCall _ [] E0 _ _ _ _); refine x_call ?_)
  | ((with_reducible show rIxT _ _ _ _ _); refine x_ixT (by walk_at "h") (by rfl) ?_)
  | ((with_reducible show rLenQ _ _ _ _); refine x_lenL (by walk_at "h") ?_)
  | ((with_reducible show rLenQ _ _ _ _); refine x_lenT (by walk_at "h") ?_)
  | ((with_reducible show tIfS _ _ _ _ _ _); refine x_if ?_)
  | ((with_reducible show tTest _ _ _ _); refine x_test ?_)
  | ((with_reducible show tB _ _ _ _); refine x_tB ?_)
  | ((with_reducible show tYes _ _ _); refine x_yes ?_)
  | ((with_reducible show gTup _ _ _ (V.ref _) _ _ _); refine x_gtup (by walk_at "h") (by rfl) ?_)
  | ((with_reducible show gCons _ _ (_ :: _) _ _ _); refine x_gcons ?_)
  | ((with_reducible show gNil [] _ _ _); refine x_gnil ?_)
  | ((with_reducible show tPar _ _ _ _ _ _); refine x_par ?_)
  | ((with_reducible show Ends.nx _ _ _); dsimp only)
  | (with_reducible refine x_bl ?_)
  | (with_reducible refine x_T ?_)
  | (with_reducible refine x_nT ?_)
  | (with_reducible refine x_nF ?_)
  | (with_reducible refine x_F ?_)
  | ((with_reducible show rEq _ _ _ _); refine x_eq rfl ?_)
  | ((with_reducible show rNe _ _ _ _); refine x_ne rfl ?_)
  | ((with_reducible show rIsNn _ _ _ _); refine x_isN ?_)
  | ((with_reducible show tRet _ _ _ _); refine x_ret ?_)
  | ((with_reducible show tNext _ _ _); refine x_next ?_)
  | ((with_reducible show tRetN _ _ _); refine x_retN ?_)
  | ((with_reducible show tDrop _ _ _ _); refine x_drop ?_)
  | ((with_reducible show tTup _ _ _ _); refine x_tup ?_)
  | ((with_reducible show tLst _ _ _ _); refine x_lst ?_)
  | ((with_reducible show tUn _ _ _ _ _); refine x_un ?_)
  | ((with_reducible show rU _ (V.int _) _ _); refine x_rU ?_)
  | ((with_reducible show tNot _ _ _ _); refine x_notT ?_)
  | ((with_reducible show tAnd _ _ _ _ _); refine x_and ?_)
  | ((with_reducible show tOr _ _ _ _ _); refine x_or ?_)
  | ((with_reducible show tSl _ _ _ _ _ _ _); refine x_sl ?_)
  | ((with_reducible show tNoPart _ _ _); refine x_noP ?_)
  | ((with_reducible show tPart _ _ _ _); refine x_part ?_)
  | (with_reducible refine x_pi ?_)
  | ((with_reducible show tBM _ _ _ _ _ _ _ _); refine x_bm ?_)
  | ((with_reducible show tyV _ "list" _ _ ∧ _); refine x_tyL (by walk_at "h") ?_)
  | ((with_reducible show gSub _ _ _ _ _ _ _); refine x_sub ?_)
  | ((with_reducible show rInt1 [V.int _] _ _); refine x_int ?_)
  | ((with_reducible show rInt1 [V.bl _] _ _); refine x_intB ?_)
  | ((with_reducible show rMin2 _ _ _); refine x_min ?_)
  | ((with_reducible show rMax2 _ _ _); refine x_max ?_))
local macro_rules | `(tactic| walk_at "x") => `(tactic| (repeat walk_at "x1"))
variable {P : Program} {w : World} {K : PySem.W.Frag} {mg : Str → Option Value} {base : Heap}
theorem atI_memV {xs : List V} {z : Int} (h0 : 0 ≤ z) (h1 : z < xs.length) : ∃ v ∈ xs, atI xs z = some v := by
  obtain ⟨k, rfl⟩ : ∃ k : Nat, z = k := ⟨z.toNat, by omega⟩
  have hk : k < xs.length := by omega
  exact ⟨xs[k], List.getElem_mem hk, atI_nat (List.getElem?_eq_getElem hk)⟩
theorem x_bm0 {T : String} {rm : V → List V → Hp → VK → Prop} {to : TE} {σ : L2.St} {H : Hp} {Q : VK} (k : to σ H fun x H1 => tyV K T x H1 ∧ rm x [] H1 Q) : tBM0 K T rm to σ H Q := k
/-- a row that is not empty -/
def Full (as : List Addr) (R : List (List Int)) (v : V) : Prop := ∃ (i : Nat) (p : Addr) (l : List Int), v = .ref p ∧ as[i]? = some p ∧ R[i]? = some l ∧ l ≠ []
theorem lc_full {σ : L2.St} {H0 H : Hp} {Q : VK} {c : Addr} {as : List Addr} {R : List (List Int)} {j ia : Nat} (g : Rows H0 H c as R) (hz : R.length ≤ 1000) (hi : σ[ia]? = some (some (.ref c))) (hv : ∀ v, ((wipe σ [j]).set j (some v))[j]? = some (some v))
    (hw : ∀ x, wipe ((wipe σ [j]).set j (some x)) [j] = wipe σ [j]) (k : ∀ D H' xs, H D = none → Same H H' → H' D = some (.lst xs) → xs.length ≤ R.length → (∀ v ∈ xs, Full as R v) → Q (.ref D) H') : tLc (iList K (tVar ia)) (gName j) (tTest (tOp (rI0 fun i j => V.bl (decide (j < i))) (tCB (rLenQ K) (tCons (tVar j) tNil)) (tC (V.int 0)))) (tVar j) [j] σ H Q := by
  classical
  refine lc_pureL (xs := refs as) (fun v => decide (Full as R v)) (fun x => x) g.ec (by rw [refs_len, g.al.len]; omega) (fun R r => ⟨_, hi, r⟩) hw (fun i x H1 Q' hx s1 r => ?_) (fun i x H1 Q' hx _ s1 r => ?_) (fun D H1 hD s1 e1 => ?_)
  · obtain ⟨p, rfl, hp⟩ := refs_get' hx
    obtain ⟨l, hl, rl⟩ := g.al.get' hp
    have rl1 : H1 p = some (.lst (l.map V.int)) := rl.mono s1
    refine x_test (x_op (x_cb (x_cons (x_var (hv _) (x_nil ?_)))))
    refine x_lenL rl1 (x_c (x_rI0 ⟨_, rfl, ?_⟩))
    have e : decide ((0 : Int) < ((l.map V.int).length : Nat)) = decide (Full as R (.ref p)) := by
      refine decide_eq_decide.mpr ⟨fun h => ⟨i, p, l, rfl, hp, hl, fun z => by subst z; simp at h⟩, fun ⟨i', p', l', e1, e2, e3, e4⟩ => ?_⟩
      cases e1
      have := liAt_inj (g.al.at_ i' p l' e2 e3) rl
      subst this
      rw [ints_len]
      have := List.length_pos_iff.mpr e4
      omega
    rw [e]
    exact r
  · exact ⟨_, hv _, r⟩
  · refine k D H1 _ hD s1 e1 (by rw [List.length_map]; have := List.length_filter_le (fun v => decide (Full as R v)) (refs as); rw [refs_len, g.al.len] at this; exact this) fun v hv' => ?_
    rw [List.map_id'] at hv'
    exact of_decide_eq_true (List.mem_filter.mp hv').2
def spSpoilt : Sp := fun vs H Q _ => ∃ (S : Hp) (p a f : Addr) (u : List Int) (fam : List (List Int)) (b : Nat), vs = [.ref p, .ref a, .ref f] ∧ Same S H ∧ Strm H p ∧ LiAt H a u ∧ FamAt H f fam ∧ u.length ≤ 20 ∧ Fb b fam ∧ b ≤ 60 ∧
  ∀ v S' H' fam', Go S H S' H' → H v = none → FamAt S' v fam' → Fb (b + 1) fam' → Q (.ref v) H'
theorem ok__law_spoilt (T : Txt K mg) : Kd P w K mg base "_law_spoilt" ["_law_stream_here", "_law_word_here", "_law_family"] 2 spSpoilt := by
  refine kd_of T.d__law_spoilt sc__law_spoilt (fun vs H Q E h => ?_) (fun f cdv A outer s H vs Q E hr h => ?_)
  · obtain ⟨S, p, a, f, u, fam, b, rfl, _⟩ := h
    rfl
  · obtain ⟨S, p, a, f, u, fam, b, rfl, sh, hp, ha, hf, hu, hF, hb, q⟩ := h
    refine ⟨_, (pss_cons (ps_setLc (i := 3) (own := [("_law_indexes", 6)]) (g := gName 6) (tt := tYes) rfl sc__law_spoilt.nd rfl rfl (sw_true rfl rfl rfl (by decide +kernel)) (pi_listK (K := K) rfl (pv 2)) (blkOk_by (own := [("_law_indexes", 6)]) (N := ["_law_stream_here", "_law_word_here", "_law_family", "_law_told", "_law_kind", "_law_full", "_law_indexes"]) (sc := defScope s__law_spoilt) (by decide +kernel)) (fun _ _ _ _ _ => pg_name (i := 6) sc__law_spoilt.nd rfl (Or.inl rfl)) (fun _ _ _ _ _ => pts_nil) (fun _ _ _ _ _ => (pe_callTy (n_list_ofK (K := K) rfl) (by rfl) T.n_list (by decide +kernel) (pa_cons (pv 6) pa_nil))))
(pss_cons (ps_set (i := 4) sc__law_spoilt.nd rfl (.inl rfl) (pe_kd (ok__law_next T) (hr.mono (by decide)) (by rfl) (pa_cons (pv 0) (pa_cons pe_int pa_nil))))
(pss_cons (ps_setLc (i := 5) (own := [("_law_indexes", 6)]) (g := gName 6) rfl sc__law_spoilt.nd rfl rfl (sw_true rfl rfl rfl (by decide +kernel)) (pi_listK (K := K) rfl (pv 3)) (blkOk_by (own := [("_law_indexes", 6)]) (N := ["_law_stream_here", "_law_word_here", "_law_family", "_law_told", "_law_kind", "_law_full", "_law_indexes"]) (sc := defScope s__law_spoilt) (by decide +kernel)) (fun _ _ _ _ _ => pg_name (i := 6) sc__law_spoilt.nd rfl (Or.inl rfl)) (fun _ _ _ _ _ => pts_one (pt_cmpR op_gt (pe_callB (n_lenK (K := K) rfl) (by rfl) T.n_len PySem.boot_len (pa_cons (pv 6) pa_nil)) pe_int (nomark _))) (fun _ _ _ _ _ => (pv 6)))
(pss_cons (ps_if (PW.pt (pw_and (pt_cmpR op_eq (pv 4) pe_int (nomark _)) (pw_and1 (pt_cmpR op_gt (pe_callB (n_lenK (K := K) rfl) (by rfl) T.n_len PySem.boot_len (pa_cons (pv 5) pa_nil)) pe_int (nomark _)))))
(pss_cons (ps_set (i := 6) sc__law_spoilt.nd rfl (.inl rfl) (pe_ix (ix_listK (K := K) rfl) (pv 5) (pe_kd (ok__law_next T) (hr.mono (by decide)) (by rfl) (pa_cons (pv 0) (pa_cons (pe_callB (n_lenK (K := K) rfl) (by rfl) T.n_len PySem.boot_len (pa_cons (pv 5) pa_nil)) pa_nil))) (fun _ _ => rfl)))
(pss_one (ps_asg (pe_op op_sub (pe_kd (ok__law_next T) (hr.mono (by decide)) (by rfl) (pa_cons (pv 0) (pa_cons (pe_op op_add (pe_callB (n_lenK (K := K) rfl) (by rfl) T.n_len PySem.boot_len (pa_cons (pv 1) pa_nil)) pe_int) pa_nil))) pe_int) (pg_sub (pv 6) (pe_kd (ok__law_next T) (hr.mono (by decide)) (by rfl) (pa_cons (pv 0) (pa_cons (pe_callB (n_lenK (K := K) rfl) (by rfl) T.n_len PySem.boot_len (pa_cons (pv 6) pa_nil)) pa_nil))) set_list))))
pss_nil)
(pss_cons (ps_if (PW.pt (pw_and (pt_cmpR op_eq (pv 4) pe_int (nomark _)) (pw_and1 (pt_cmpR op_gt (pe_callB (n_lenK (K := K) rfl) (by rfl) T.n_len PySem.boot_len (pa_cons (pv 5) pa_nil)) pe_int (nomark _)))))
(pss_one (ps_expr (pe_bmK (K := K) rfl (pe_bm PySem.F.plainAttrs_list PySem.F.slot_list_append PySem.F.type_list_append mt_append (pv 3) (pa_cons (pe_callTy (n_list_ofK (K := K) rfl) (by rfl) T.n_list (by decide +kernel) (pa_cons (pe_ix (ix_listK (K := K) rfl) (pv 5) (pe_kd (ok__law_next T) (hr.mono (by decide)) (by rfl) (pa_cons (pv 0) (pa_cons (pe_callB (n_lenK (K := K) rfl) (by rfl) T.n_len PySem.boot_len (pa_cons (pv 5) pa_nil)) pa_nil))) (fun _ _ => rfl)) pa_nil)) pa_nil)))))
pss_nil)
(pss_cons (ps_if (PW.pt (pw_and (pt_cmpR op_eq (pv 4) pe_int (nomark _)) (pw_and1 (pt_cmpR op_gt (pe_callB (n_lenK (K := K) rfl) (by rfl) T.n_len PySem.boot_len (pa_cons (pv 5) pa_nil)) pe_int (nomark _)))))
(pss_one (ps_expr (pe_bm0K (K := K) rfl (pe_bm0 PySem.F.plainAttrs_list PySem.F.slot_list_reverse PySem.F.type_list_reverse mt_reverse (pe_ix (ix_listK (K := K) rfl) (pv 5) (pe_kd (ok__law_next T) (hr.mono (by decide)) (by rfl) (pa_cons (pv 0) (pa_cons (pe_callB (n_lenK (K := K) rfl) (by rfl) T.n_len PySem.boot_len (pa_cons (pv 5) pa_nil)) pa_nil))) (fun _ _ => rfl))))))
pss_nil)
(pss_cons (ps_if (pt_cmpR op_eq (pv 4) pe_int (nomark _))
(pss_one (ps_expr (pe_bmK (K := K) rfl (pe_bm PySem.F.plainAttrs_list PySem.F.slot_list_append PySem.F.type_list_append mt_append (pv 3) (pa_cons (pe_lst (pa_m (pa_cons (pe_op op_sub (pe_kd (ok__law_next T) (hr.mono (by decide)) (by rfl) (pa_cons (pv 0) (pa_cons (pe_op op_add (pe_callB (n_lenK (K := K) rfl) (by rfl) T.n_len PySem.boot_len (pa_cons (pv 1) pa_nil)) pe_int) pa_nil))) pe_int) pa_nil))) pa_nil)))))
pss_nil)
(pss_one (ps_ret (pv 3)))))))))), ?_⟩
    refine st_lit (σ' := [some (V.ref p), some (V.ref a), some (V.ref f), none, none, none, none]) rfl ?_
    walk_at "x"
    refine lc_copies hf (by have := hF.1; omega) rfl (fun _ => rfl) (fun p l H1 R rl k => ?_) (fun c H1 as g => ?_)
    · have rl' : H1 p = some (.lst (l.map V.int)) := rl
      walk_at "x"
      exact x_listL rl' k
    walk_at "x"
    refine ⟨p, _, rfl, g.hh _ _ hp, by decide, by decide, fun kd k0 k1 => ?_⟩
    walk_at "x"
    refine lc_full g (by have := hF.1; omega) rfl (fun _ => rfl) (fun _ => rfl) fun d H2 xs n2 s2 e2 hxl hx => ?_
    have g2 := g.mono s2
    have hlen := g2.al.len
    have ha2 : H2 a = some (.lst (u.map V.int)) := ha.mono g2.hh
    have fin : ∀ H' as' R', Rows H H' c as' R' → Fb (b + 1) R' → Q (.ref c) H' := fun H' as' R' g' hb' => by
      obtain ⟨S', go, hf'⟩ := g'.fam sh
      exact q c S' H' R' go g'.c0 hf' hb'
    have fin0 : Q (.ref c) H2 := fin H2 as fam g2 (hF.le (by omega))
    have hk : kd = 0 ∨ kd = 1 ∨ kd = 2 ∨ kd = 3 := by omega
    have nn : ∀ {n m : Int}, ¬ n = m → ¬ V.int n = V.int m := fun h z => h (V.int.inj z)
    walk_at "x"
    rcases hk with rfl | rfl | rfl | rfl
    · rw [decide_eq_true rfl]
      walk_at "x"
      refine x_ite (fun h => ?_) (fun h => ?_)
      · walk_at "y"
        refine x_seq ?_
        walk_at "y"
        refine ⟨p, _, rfl, g2.hh _ _ hp, by omega, by have := hF.1; omega, fun z z0 z1 => ?_⟩
        obtain ⟨v, hv, ev⟩ := atI_memV z0 z1
        obtain ⟨i, pi, l, rfl, hpi, hl, hne⟩ := hx v hv
        refine x_ixL e2 ev ?_
        have rl : H2 pi = some (.lst (l.map V.int)) := g2.al.at_ i pi l hpi hl
        have hlm := hF.2 l (List.mem_of_getElem? hl)
        have hlp := List.length_pos_iff.mpr hne
        walk_at "x"
        rw [ints_len]
        refine ⟨p, _, rfl, g2.hh _ _ hp, by omega, by omega, fun y y0 y1 => ?_⟩
        walk_at "x"
        rw [ints_len]
        refine ⟨p, _, rfl, g2.hh _ _ hp, by omega, by omega, fun w w0 w1 => ?_⟩
        obtain ⟨k, rfl⟩ : ∃ k : Nat, w = k := ⟨w.toNat, by omega⟩
        refine x_setL (j := k) rl (by rw [ints_len]; exact ixN_nat (by omega)) ?_
        rw [← List.map_set]
        have g3 := g2.put hpi (l.set k (y - 1))
        have b3 : Fb (b + 1) (fam.set i (l.set k (y - 1))) := (hF.set (by rw [List.length_set]; exact hlm.1) fun x hx => by
          rcases List.mem_or_eq_of_mem_set hx with z | z
          · exact hlm.2 x z
          · rw [z]; omega).le (by omega)
        walk_at "x"
        rw [decide_eq_false (nn (by decide))]
        walk_at "x"
        rw [decide_eq_false (nn (by decide))]
        walk_at "x"
        rw [decide_eq_false (nn (by decide))]
        walk_at "x"
        exact fin _ _ _ g3 b3
      · walk_at "x"
        rw [decide_eq_false (nn (by decide))]
        walk_at "x"
        rw [decide_eq_false (nn (by decide))]
        walk_at "x"
        rw [decide_eq_false (nn (by decide))]
        walk_at "x"
        exact fin0
    · rw [decide_eq_false (nn (by decide))]
      walk_at "x"
      rw [decide_eq_true rfl]
      walk_at "x"
      refine x_ite (fun h => ?_) (fun h => ?_)
      · walk_at "y"
        refine x_tyL g2.ec ?_
        walk_at "y"
        refine ⟨p, _, rfl, g2.hh _ _ hp, by omega, by have := hF.1; omega, fun z z0 z1 => ?_⟩
        obtain ⟨v, hv, ev⟩ := atI_memV z0 z1
        obtain ⟨i, pi, l, rfl, hpi, hl, hne⟩ := hx v hv
        refine x_ixL e2 ev ?_
        have rl : H2 pi = some (.lst (l.map V.int)) := g2.al.at_ i pi l hpi hl
        have hlm := hF.2 l (List.mem_of_getElem? hl)
        have hlp := List.length_pos_iff.mpr hne
        walk_at "x"
        refine x_listL rl fun c3 H3 n3 s3 e3 => ?_
        walk_at "x"
        refine x_app (s3 _ _ g2.ec) (smallL (by rw [refs_len]; have := hF.1; omega)) ?_
        rw [refs_snoc]
        have g3 := g2.snoc (l := l) s3 n3 e3
        walk_at "x"
        rw [decide_eq_false (nn (by decide))]
        walk_at "x"
        rw [decide_eq_false (nn (by decide))]
        walk_at "x"
        exact fin _ _ _ g3 (hF.snoc (by omega) hlm.2)
      · walk_at "x"
        rw [decide_eq_false (nn (by decide))]
        walk_at "x"
        rw [decide_eq_false (nn (by decide))]
        walk_at "x"
        exact fin0
    · rw [decide_eq_false (nn (by decide))]
      walk_at "x"
      rw [decide_eq_false (nn (by decide))]
      walk_at "x"
      rw [decide_eq_true rfl]
      walk_at "x"
      refine x_ite (fun h => ?_) (fun h => ?_)
      · walk_at "y"
        refine x_bm0 ?_
        walk_at "y"
        refine ⟨p, _, rfl, g2.hh _ _ hp, by omega, by have := hF.1; omega, fun z z0 z1 => ?_⟩
        obtain ⟨v, hv, ev⟩ := atI_memV z0 z1
        obtain ⟨i, pi, l, rfl, hpi, hl, hne⟩ := hx v hv
        refine x_ixL e2 ev ?_
        have rl : H2 pi = some (.lst (l.map V.int)) := g2.al.at_ i pi l hpi hl
        have hlm := hF.2 l (List.mem_of_getElem? hl)
        have hlp := List.length_pos_iff.mpr hne
        refine x_tyL rl ?_
        refine ⟨pi, _, rfl, rfl, rl, ?_⟩
        rw [← List.map_reverse]
        have g3 := g2.put hpi l.reverse
        have b3 : Fb (b + 1) (fam.set i l.reverse) := (hF.set (by rw [List.length_reverse]; exact hlm.1) fun x hx => hlm.2 x (List.mem_reverse.mp hx)).le (by omega)
        walk_at "x"
        rw [decide_eq_false (nn (by decide))]
        walk_at "x"
        exact fin _ _ _ g3 b3
      · walk_at "x"
        rw [decide_eq_false (nn (by decide))]
        walk_at "x"
        exact fin0
    · rw [decide_eq_false (nn (by decide))]
      walk_at "x"
      rw [decide_eq_false (nn (by decide))]
      walk_at "x"
      rw [decide_eq_false (nn (by decide))]
      walk_at "x"
      rw [decide_eq_true rfl]
      walk_at "y"
      refine x_tyL g2.ec ?_
      walk_at "y"
      rw [ints_len]
      refine ⟨p, _, rfl, g2.hh _ _ hp, by omega, by omega, fun y y0 y1 => ?_⟩
      walk_at "y"
      refine ⟨by show 1 ≤ sizeLine; decide, fun c3 H3 n3 s3 e3 => ?_⟩
      walk_at "y"
      refine x_app (s3 _ _ g2.ec) (smallL (by rw [refs_len]; have := hF.1; omega)) ?_
      rw [refs_snoc]
      have g3 := g2.snoc (l := [y - 2]) s3 n3 e3
      walk_at "x"
      exact fin _ _ _ g3 (hF.snoc (by show 1 ≤ _; omega) fun x hx => by rw [List.mem_singleton.mp hx]; omega)
end
section
variable {P : Program} {w : World} {K : PySem.W.Frag} {mg : Str → Option Value} {base : Heap}
/-! ### a note in the making -/
theorem x_cut {t u : TS} {D : Ends} {σ : L2.St} {H : Hp} (N : L2.St → Hp → Prop) (h1 : ∀ X : L2.St → Hp → Prop, (∀ σ' H', N σ' H' → X σ' H') → t { D with nx := X } σ H) (h2 : ∀ σ' H', N σ' H' → u D σ' H') : tSeq t u D σ H := h1 _ h2
def del (S : Hp) (r : Addr) : Hp := fun q => if q = r then none else S q
theorem del_ne {S : Hp} {r q : Addr} {o : HO} (h : q ≠ r) (e : S q = some o) : del S r q = some o := by
  unfold del
  rw [if_neg h]
  exact e
theorem del_le (S : Hp) (r : Addr) : Same (del S r) S := fun q o e => by
  unfold del at e
  split at e
  · cases e
  · exact e
theorem del_self (S : Hp) (r : Addr) : del S r r = none := by unfold del; rw [if_pos rfl]
theorem same_del {S S' : Hp} {r : Addr} (s : Same S S') (h : S r = none) : Same S (del S' r) := fun q o e => del_ne (ne_of_none e h) (s _ _ e)
theorem Go.del {S H S' H' : Hp} {r : Addr} (g : Go S H S' H') (h : S r = none) : Go S H (Kw.del S' r) H' :=
  ⟨same_del g.ss h, (del_le S' r).trans g.sh, g.hh, fun l o e1 e2 => by
    unfold Kw.del
    split
    · rfl
    · exact g.fr l o e1 e2⟩
theorem del_rows {S : Hp} {r : Addr} {as : List Addr} {fam : List (List Int)} (e : S r = some (.lst (refs as))) (h : All (LiAt S) as fam) : All (LiAt (del S r)) as fam := by
  refine ⟨h.len, fun i p l a b => del_ne (fun z => ?_) (h.at_ i p l a b)⟩
  subst z
  have e2 : S p = some (.lst (l.map V.int)) := h.at_ i p l a b
  rw [e] at e2
  injection e2 with e2
  injection e2 with e2
  have h1 := refs_get a
  rw [e2] at h1
  obtain ⟨x, hx, _⟩ := ints_get' h1
  cases hx
def Mk (S H : Hp) (kd : Int) (b m : Nat) (f p : Addr) (H' : Hp) : Prop := ∃ (S' : Hp) (r fl : Addr) (as : List Addr) (fam ris fal : List (List Int)), Go S H S' H' ∧ H f = none ∧ S' f = none ∧ H' f = some (.lst (refs as)) ∧ All (LiAt S') as fam ∧
  S' p = some (.tup [.ref r, .ref fl]) ∧ FamAt S' r ris ∧ FamAt S' fl fal ∧ Fb b fam ∧ Fb b ris ∧ Fb b fal ∧ (kd = 4 → 1 ≤ fam.length) ∧ (kd = 8 ∨ kd = 9 → 1 ≤ ris.length ∧ ∀ l ∈ ris, l ≠ [] → 0 < m)
theorem Mk.le {S H H' : Hp} {kd : Int} {b c m : Nat} {f p : Addr} (h : Mk S H kd b m f p H') (hc : b ≤ c) : Mk S H kd c m f p H' := by
  obtain ⟨S', r, fl, as, fam, ris, fal, h1, h2, h3, h4, h5, h6, h7, h8, h9, h10, h11, h12, h13⟩ := h
  exact ⟨S', r, fl, as, fam, ris, fal, h1, h2, h3, h4, h5, h6, h7, h8, h9.le hc, h10.le hc, h11.le hc, h12, h13⟩
theorem mk_fam {S H S' H' S2 H2 : Hp} {kd : Int} {b m : Nat} {f p r fl : Addr} {fam ris fal : List (List Int)} (g : Go S H S' H') (s : Same S H) (g2 : Go S' H' S2 H2) (hp : S' p = some (.tup [.ref r, .ref fl])) (hr : FamAt S' r ris) (hfl : FamAt S' fl fal) (nv : H' f = none) (hf : FamAt S2 f fam)
    (b1 : Fb b fam) (b2 : Fb b ris) (b3 : Fb b fal) (k4 : kd = 4 → 1 ≤ fam.length) (k8 : kd = 8 ∨ kd = 9 → 1 ≤ ris.length ∧ ∀ l ∈ ris, l ≠ [] → 0 < m) : Mk S H kd b m f p H2 := by
  obtain ⟨as, ef, hA⟩ := hf
  have nS' : S' f = none := g.sh.free nv
  have nH : H f = none := fresh_of g.hh nv
  have t := same_del g2.ss nS'
  exact ⟨del S2 f, r, fl, as, fam, ris, fal, (g.trans g2).del (s.free nH), nH, del_self _ _, g2.sh _ _ ef, del_rows ef hA, t _ _ hp, hr.mono t, hfl.mono t, b1, b2, b3, k4, k8⟩
theorem mk_pap {S H S' H' S2 H2 : Hp} {kd : Int} {b m : Nat} {f p r fl : Addr} {as : List Addr} {fam ris fal : List (List Int)} (g : Go S H S' H') (g2 : Go S' H' S2 H2) (nf : H f = none) (hS : S' f = none) (ef : H' f = some (.lst (refs as))) (hA : All (LiAt S') as fam) (hp : S2 p = some (.tup [.ref r, .ref fl])) (hr : FamAt S2 r ris) (hfl : FamAt S2 fl fal)
    (b1 : Fb b fam) (b2 : Fb b ris) (b3 : Fb b fal) (k4 : kd = 4 → 1 ≤ fam.length) (k8 : kd = 8 ∨ kd = 9 → 1 ≤ ris.length ∧ ∀ l ∈ ris, l ≠ [] → 0 < m) : Mk S H kd b m f p H2 :=
  ⟨S2, r, fl, as, fam, ris, fal, g.trans g2, nf, g2.fr f _ hS ef, g2.hh _ _ ef, hA.mono g2.ss, hp, hr, hfl, b1, b2, b3, k4, k8⟩
def Note.bd : Note → Prop
  | .content => True
  | .cover g fam ris fal _ => g.natAbs ≤ 10 ^ 33 ∧ Fb 60 fam ∧ Fb 60 ris ∧ Fb 60 fal
def spMade : Sp := fun vs H Q _ => ∃ (S : Hp) (p a b : Addr) (u v : List Int), vs = [.ref p, .ref a, .ref b] ∧ Same S H ∧ Strm H p ∧ LiAt H a u ∧ LiAt H b v ∧ u.length ≤ 10 ∧ v.length ≤ 10 ∧ Wd (10 ^ 32) u ∧
  ∀ t S' H' (n : Note), Go S H S' H' → n.at_ S' t → n.bd → Q (.ref t) H'
theorem pap_fb {fa : Bool} {l : List Int} {fam : List (List Int)} (F : Km.FamOk fa l fam) (h1 : l.length ≤ 10) (h2 : fam.length ≤ 10) : Fb 10 fam := by
  refine ⟨h2, fun k hk => ⟨?_, fun x hx => ?_⟩⟩
  · have := len_cov hk
    have := F.small
    omega
  · have := F.rg k hk x hx
    omega
theorem x_or89 {kd : Int} {σ : L2.St} {H : Hp} {Q : Bool → Hp → Prop} (h : σ[10]? = some (some (.int kd))) (k : Q (decide (kd = 8 ∨ kd = 9)) H) : tOr (tTest (tOp rEq (tVar 10) (tC (V.int 8)))) (tTest (tOp rEq (tVar 10) (tC (V.int 9)))) σ H Q := by
  refine x_or (x_test (x_op (x_var h (x_c (x_eq rfl ⟨_, rfl, ?_⟩)))))
  rw [dec_vint]
  refine x_ite (fun e => ?_) (fun e => ?_)
  · rw [decide_eq_true (.inl e)] at k
    exact k
  · refine x_test (x_op (x_var h (x_c (x_eq rfl ⟨_, rfl, ?_⟩))))
    rw [dec_vint]
    have e2 : decide (kd = 8 ∨ kd = 9) = decide (kd = 9) := decide_eq_decide.mpr ⟨fun z => z.resolve_left e, .inr⟩
    rw [e2] at k
    exact k
/-- [next(size) for x in xs] -/
theorem lc_draws {σ : L2.St} {H : Hp} {Q : VK} {a : Addr} {xs : List V} {n : Int} {j : Nat} {tl te : TE} (h : H a = some (.lst xs)) (hz : xs.length ≤ 1000) (hl : ∀ R : VK, R (.ref a) H → tl σ H R) (hw : ∀ x, wipe ((wipe σ [j]).set j (some x)) [j] = wipe σ [j])
    (he : ∀ (x : V) (H1 : Hp) (R : VK), Same H H1 → (∀ z : Int, 0 ≤ z → z < n → R (.int z) H1) → te ((wipe σ [j]).set j (some x)) H1 R)
    (k : ∀ D H' l, H D = none → Same H H' → LiAt H' D l → l.length = xs.length → (∀ x ∈ l, 0 ≤ x ∧ x < n) → Q (.ref D) H') : tLc (iList K tl) (gName j) tYes te [j] σ H Q := by
  refine hl _ ⟨a, rfl, ⟨_, SqL.of h⟩, fun D hD => ?_⟩
  refine lc_list (K := K) (a := a) (xs := xs) (fun i H' => ∃ l, Same H H' ∧ LiAt H' D l ∧ l.length = i ∧ ∀ x ∈ l, 0 ≤ x ∧ x < n) ⟨[], same_new hD, upd_same, rfl, fun x hx => by simp at hx⟩ (fun i H' _ p => by obtain ⟨l, s, _⟩ := p; exact SqL.of (s _ _ h)) (fun i x H' hx p => ⟨hw x, ?_⟩) fun H' p => ?_
  · obtain ⟨l, s, e, hl, hb⟩ := p
    refine x_yes ?_
    refine x_T ?_
    refine he x H' _ s fun z z0 z1 => ?_
    have hi : i < xs.length := (List.getElem?_eq_some_iff.mp hx).1
    refine ⟨l.map V.int, e, smallL (by rw [ints_len]; omega), l ++ [z], same_mut s hD, ?_, by rw [List.length_append, hl]; rfl, fun x hx => ?_⟩
    · show upd _ _ _ _ = _
      rw [upd_same]
      simp
    · rcases List.mem_append.mp hx with y | y
      · exact hb x y
      · rw [List.mem_singleton.mp y]; exact ⟨z0, z1⟩
  · obtain ⟨l, s, e, hl, hb⟩ := p
    exact k D H' l hD s e hl hb
theorem ok__law_made (T : Txt K mg) : Kd P w K mg base "_law_made" ["_law_stream_here", "_law_first", "_law_second"] 9 spMade := by
  refine kd_of T.d__law_made sc__law_made (fun vs H Q E h => ?_) (fun f cdv A outer s H vs Q E hr h => ?_)
  · obtain ⟨S, p, a, b, u, v, rfl, _⟩ := h
    rfl
  · obtain ⟨S, p, a, b, u, v, rfl, sh, hp, ha, hb, hu, hv, hw, q⟩ := h
    have ha' : H a = some (.lst (u.map V.int)) := ha
    refine ⟨_, (pss_cons (ps_if (pt_cmpR op_eq (pe_kd (ok__law_next T) (hr.mono (by decide)) (by rfl) (pa_cons (pv 0) (pa_cons pe_int pa_nil))) pe_int (nomark _))
(pss_one (ps_ret (pe_tup (pa_m (pa_cons pe_str pa_nil)))))
pss_nil)
(pss_cons (ps_set (i := 3) sc__law_made.nd rfl (.inr rfl) (pe_op op_pow pe_int pe_int))
(pss_cons (ps_if (pt_cmpR op_gt (pe_callB (n_lenK (K := K) rfl) (by rfl) T.n_len PySem.boot_len (pa_cons (pv 1) pa_nil)) pe_int (nomark _))
(pss_one (ps_set (i := 3) sc__law_made.nd rfl (.inr rfl) (pe_op op_sub (pe_ix (ix_listK (K := K) rfl) (pv 1) (pe_kd (ok__law_next T) (hr.mono (by decide)) (by rfl) (pa_cons (pv 0) (pa_cons (pe_callB (n_lenK (K := K) rfl) (by rfl) T.n_len PySem.boot_len (pa_cons (pv 1) pa_nil)) pa_nil))) (fun _ _ => rfl)) (pe_callTy n_int (by rfl) T.n_int (by decide +kernel) (pa_cons (pe_cmpR op_eq (pe_kd (ok__law_next T) (hr.mono (by decide)) (by rfl) (pa_cons (pv 0) (pa_cons pe_int pa_nil))) pe_int (nomark _)) pa_nil)))))
pss_nil)
(pss_cons (ps_set (i := 4) sc__law_made.nd rfl (.inl rfl) (pe_cmpR op_eq (pe_kd (ok__law_next T) (hr.mono (by decide)) (by rfl) (pa_cons (pv 0) (pa_cons pe_int pa_nil))) pe_int (nomark _)))
(pss_cons (ps_setLc (i := 5) (own := [("_law_letter", 12)]) (g := gName 12) rfl sc__law_made.nd rfl rfl (sw_true rfl rfl rfl (by decide +kernel)) (pi_listK (K := K) rfl (pv 1)) (blkOk_by (own := [("_law_letter", 12)]) (N := ["_law_stream_here", "_law_first", "_law_second", "_law_greatest", "_law_swapped", "_law_one", "_law_two", "_law_count", "_law_family", "_law_paper", "_law_kind", "_law_more", "_law_letter", "_law_index"]) (sc := defScope s__law_made) (by decide +kernel)) (fun _ _ _ _ _ => pg_name (i := 12) sc__law_made.nd rfl (Or.inl rfl)) (fun _ _ _ _ _ => pts_one (pt_cmpR op_le (pv 12) (pv 3) (nomark _))) (fun _ _ _ _ _ => (pv 12)))
(pss_cons (ps_set (i := 6) sc__law_made.nd rfl (.inr rfl) (pe_lc (own := [("_law_letter", 12)]) (g := gName 12) rfl sc__law_made.nd (pi_listK (K := K) rfl (pv 2)) (blkOk_by (own := [("_law_letter", 12)]) (N := ["_law_stream_here", "_law_first", "_law_second", "_law_greatest", "_law_swapped", "_law_one", "_law_two", "_law_count", "_law_family", "_law_paper", "_law_kind", "_law_more", "_law_letter", "_law_index"]) (sc := defScope s__law_made) (by decide +kernel)) (fun _ _ _ _ _ => pg_name (i := 12) sc__law_made.nd rfl (Or.inl rfl)) (fun _ _ _ _ _ => pts_one (pt_cmpR op_le (pv 12) (pv 3) (nomark _))) (fun _ _ _ _ _ => (pv 12))))
(pss_cons (ps_if (pt_val (pv 4))
(pss_one (ps_asg (pe_tup (pa_m (pa_cons (pv 6) (pa_cons (pv 5) pa_nil)))) (pg_tupK (K := K) rfl rfl (pgs_cons (pg_name (i := 5) sc__law_made.nd rfl (.inl rfl)) (pgs_cons (pg_name (i := 6) sc__law_made.nd rfl (.inr rfl)) pgs_nil)))))
pss_nil)
(pss_cons (ps_set (i := 7) sc__law_made.nd rfl (.inl rfl) (pe_op op_add (pe_kd (ok__law_next T) (hr.mono (by decide)) (by rfl) (pa_cons (pv 0) (pa_cons pe_int pa_nil))) pe_int))
(pss_cons (ps_set (i := 8) sc__law_made.nd rfl (.inl rfl) (pe_ix (ix_tupK (K := K) rfl) (pe_kd (ok_rising_paper T) (hr.mono (by decide)) (by rfl) (pa_cons (pe_callTy (n_list_ofK (K := K) rfl) (by rfl) T.n_list (by decide +kernel) (pa_cons (pv 5) pa_nil)) (pa_cons (pv 7) pa_nil))) pe_int (fun _ _ => rfl)))
(pss_cons (ps_set (i := 9) sc__law_made.nd rfl (.inl rfl) (pe_kd (ok_rising_paper T) (hr.mono (by decide)) (by rfl) (pa_cons (pe_callTy (n_list_ofK (K := K) rfl) (by rfl) T.n_list (by decide +kernel) (pa_cons (pv 6) pa_nil)) (pa_cons (pv 7) pa_nil))))
(pss_cons (ps_set (i := 10) sc__law_made.nd rfl (.inl rfl) (pe_kd (ok__law_next T) (hr.mono (by decide)) (by rfl) (pa_cons (pv 0) (pa_cons pe_int pa_nil))))
(pss_cons (ps_if (pt_cmpR op_eq (pv 10) pe_int (nomark _))
(pss_one (ps_set (i := 8) sc__law_made.nd rfl (.inl rfl) (pe_kd (ok__law_drawn_family T) (hr.mono (by decide)) (by rfl) (pa_cons (pv 0) (pa_cons (pv 5) (pa_cons pe_bl (pa_cons pe_int pa_nil)))))))
pss_nil)
(pss_cons (ps_if (pt_cmpR op_eq (pv 10) pe_int (nomark _))
(pss_one (ps_set (i := 9) sc__law_made.nd rfl (.inl rfl) (pe_tup (pa_m (pa_cons (pe_kd (ok__law_drawn_family T) (hr.mono (by decide)) (by rfl) (pa_cons (pv 0) (pa_cons (pv 6) (pa_cons pe_bl (pa_cons pe_int pa_nil))))) (pa_cons (pe_ix (ix_tupK (K := K) rfl) (pv 9) pe_int (fun _ _ => rfl)) pa_nil))))))
pss_nil)
(pss_cons (ps_if (pt_cmpR op_eq (pv 10) pe_int (nomark _))
(pss_one (ps_set (i := 9) sc__law_made.nd rfl (.inl rfl) (pe_tup (pa_m (pa_cons (pe_ix (ix_tupK (K := K) rfl) (pv 9) pe_int (fun _ _ => rfl)) (pa_cons (pe_kd (ok__law_drawn_family T) (hr.mono (by decide)) (by rfl) (pa_cons (pv 0) (pa_cons (pv 6) (pa_cons pe_bl (pa_cons pe_int pa_nil))))) pa_nil))))))
pss_nil)
(pss_cons (ps_if (pt_cmpR op_eq (pv 10) pe_int (nomark _))
(pss_one (ps_set (i := 8) sc__law_made.nd rfl (.inl rfl) (pe_op op_cat (pv 8) (pe_lst (pa_m (pa_cons (pe_lst (pa_m pa_nil)) pa_nil))))))
pss_nil)
(pss_cons (ps_if (PW.pt (pw_and (pt_cmpR op_eq (pv 10) pe_int (nomark _)) (pw_and1 (pt_cmpR op_gt (pe_callB (n_lenK (K := K) rfl) (by rfl) T.n_len PySem.boot_len (pa_cons (pv 5) pa_nil)) pe_int (nomark _)))))
(pss_one (ps_asg (pe_op op_cat (pe_ix (ix_listK (K := K) rfl) (pv 8) pe_int (fun _ _ => rfl)) (pe_lst (pa_m (pa_cons (pe_kd (ok__law_next T) (hr.mono (by decide)) (by rfl) (pa_cons (pv 0) (pa_cons (pe_callB (n_lenK (K := K) rfl) (by rfl) T.n_len PySem.boot_len (pa_cons (pv 5) pa_nil)) pa_nil))) pa_nil)))) (pg_sub (pv 8) pe_int set_list)))
pss_nil)
(pss_cons (ps_if (pt_cmpR op_eq (pv 10) pe_int (nomark _))
(pss_one (ps_set (i := 9) sc__law_made.nd rfl (.inl rfl) (pe_tup (pa_m (pa_cons (pe_kd (ok__law_spoilt T) (hr.mono (by decide)) (by rfl) (pa_cons (pv 0) (pa_cons (pv 6) (pa_cons (pe_ix (ix_tupK (K := K) rfl) (pv 9) pe_int (fun _ _ => rfl)) pa_nil)))) (pa_cons (pe_ix (ix_tupK (K := K) rfl) (pv 9) pe_int (fun _ _ => rfl)) pa_nil))))))
pss_nil)
(pss_cons (ps_if (pt_cmpR op_eq (pv 10) pe_int (nomark _))
(pss_one (ps_set (i := 9) sc__law_made.nd rfl (.inl rfl) (pe_tup (pa_m (pa_cons (pe_ix (ix_tupK (K := K) rfl) (pv 9) pe_int (fun _ _ => rfl)) (pa_cons (pe_kd (ok__law_spoilt T) (hr.mono (by decide)) (by rfl) (pa_cons (pv 0) (pa_cons (pv 6) (pa_cons (pe_ix (ix_tupK (K := K) rfl) (pv 9) pe_int (fun _ _ => rfl)) pa_nil)))) pa_nil))))))
pss_nil)
(pss_cons (ps_if (pt_cmpR op_eq (pv 10) pe_int (nomark _))
(pss_one (ps_set (i := 8) sc__law_made.nd rfl (.inl rfl) (pe_kd (ok__law_spoilt T) (hr.mono (by decide)) (by rfl) (pa_cons (pv 0) (pa_cons (pv 5) (pa_cons (pv 8) pa_nil))))))
pss_nil)
(pss_cons (ps_if (PW.pt (pw_and (PW.pt (pw_or (pt_cmpR op_eq (pv 10) pe_int (nomark _)) (pw_or1 (pt_cmpR op_eq (pv 10) pe_int (nomark _))))) (pw_and (pt_cmpR op_gt (pe_callB (n_lenK (K := K) rfl) (by rfl) T.n_len PySem.boot_len (pa_cons (pe_ix (ix_listK (K := K) rfl) (pe_ix (ix_tupK (K := K) rfl) (pv 9) pe_int (fun _ _ => rfl)) pe_int (fun _ _ => rfl)) pa_nil)) pe_int (nomark _)) (pw_and1 (pt_cmpR op_gt (pe_callB (n_lenK (K := K) rfl) (by rfl) T.n_len PySem.boot_len (pa_cons (pe_ix (ix_tupK (K := K) rfl) (pv 9) pe_int (fun _ _ => rfl)) pa_nil)) pe_int (nomark _))))))
(pss_cons (ps_setLc (i := 11) (own := [("_law_index", 13)]) (g := gName 13) (tt := tYes) rfl sc__law_made.nd rfl rfl (sw_true rfl rfl rfl (by decide +kernel)) (pi_listK (K := K) rfl (pe_ix (ix_listK (K := K) rfl) (pe_ix (ix_tupK (K := K) rfl) (pv 9) pe_int (fun _ _ => rfl)) pe_int (fun _ _ => rfl))) (blkOk_by (own := [("_law_index", 13)]) (N := ["_law_stream_here", "_law_first", "_law_second", "_law_greatest", "_law_swapped", "_law_one", "_law_two", "_law_count", "_law_family", "_law_paper", "_law_kind", "_law_more", "_law_letter", "_law_index"]) (sc := defScope s__law_made) (by decide +kernel)) (fun _ _ _ _ _ => pg_name (i := 13) sc__law_made.nd rfl (Or.inl rfl)) (fun _ _ _ _ _ => pts_nil) (fun _ _ _ _ _ => (pe_kd (ok__law_next T) (hr.mono (by decide)) (by rfl) (pa_cons (pv 0) (pa_cons (pe_callB (n_lenK (K := K) rfl) (by rfl) T.n_len PySem.boot_len (pa_cons (pv 6) pa_nil)) pa_nil)))))
(pss_one (ps_set (i := 9) sc__law_made.nd rfl (.inl rfl) (pe_tup (pa_m (pa_cons (pe_op op_cat (pe_lst (pa_m (pa_cons (pe_lst (pa_m pa_nil)) pa_nil))) (pe_slice (sl_listK (K := K) rfl) (pe_ix (ix_tupK (K := K) rfl) (pv 9) pe_int (fun _ _ => rfl)) (po_some pe_int) po_none)) (pa_cons (pe_op op_cat (pe_lst (pa_m (pa_cons (pe_op op_cat (pe_ix (ix_listK (K := K) rfl) (pe_ix (ix_tupK (K := K) rfl) (pv 9) pe_int (fun _ _ => rfl)) pe_int (fun _ _ => rfl)) (pv 11)) pa_nil))) (pe_slice (sl_listK (K := K) rfl) (pe_ix (ix_tupK (K := K) rfl) (pv 9) pe_int (fun _ _ => rfl)) (po_some pe_int) po_none)) pa_nil)))))))
pss_nil)
(pss_one (ps_ret (pe_tup (pa_m (pa_cons pe_str (pa_cons (pv 3) (pa_cons (pv 8) (pa_cons (pv 9) (pa_cons (pv 4) pa_nil))))))))))))))))))))))))))))), ?_⟩
    refine st_lit (σ' := [some (V.ref p), some (V.ref a), some (V.ref b), none, none, none, none, none, none, none, none, none, none, none]) rfl ?_
    walk_at "x"
    refine ⟨p, _, rfl, hp, by decide, by decide, fun z z0 z1 => ?_⟩
    walk_at "x"
    refine x_ite (fun _ => ?_) (fun _ => ?_)
    · walk_at "x"
      refine ⟨by show 1 ≤ sizeLine; decide, fun t H1 n1 s1 e1 => ?_⟩
      obtain ⟨S1, g1, e1'⟩ := Go.one sh s1 n1 e1
      exact q t S1 H1 .content g1 e1' trivial
    walk_at "y"
    refine x_seq ?_
    walk_at "y"
    refine x_rI ⟨by decide, by decide, by decide⟩ ?_
    walk_at "y"
    refine x_cut (fun σ' H' => H = H' ∧ ∃ g : Int, σ' = [some (.ref p), some (.ref a), some (.ref b), some (.int g), none, none, none, none, none, none, none, none, none, none] ∧ g.natAbs ≤ 10 ^ 33) (fun X hX => ?_) ?_
    · walk_at "y"
      rw [ints_len]
      refine x_ite (fun h => ?_) (fun h => ?_)
      · walk_at "y"
        rw [ints_len]
        refine ⟨p, _, rfl, hp, by omega, by omega, fun y y0 y1 => ?_⟩
        obtain ⟨l, hl, el⟩ := atI_mem y0 y1
        refine x_ixL ha' el ?_
        have := hw l hl
        walk_at "y"
        refine ⟨p, _, rfl, hp, by decide, by decide, fun y y0 y1 => ?_⟩
        walk_at "y"
        refine hX _ _ ⟨rfl, _, rfl, ?_⟩
        split <;> omega
      · walk_at "y"
        exact hX _ _ ⟨rfl, _, rfl, by decide⟩
    rintro σ' _ ⟨rfl, g, rfl, hg⟩
    walk_at "y"
    refine x_seq ?_
    walk_at "y"
    refine ⟨p, _, rfl, hp, by decide, by decide, fun y y0 y1 => ?_⟩
    walk_at "y"
    generalize decide (V.int y = V.int 0) = sw
    refine x_seq ?_
    walk_at "y"
    refine lc_up ha (by omega) rfl (fun _ => rfl) (fun _ => rfl) (fun _ => rfl) fun o1 H1 n1 s1 t1 => ?_
    walk_at "y"
    refine x_seq ?_
    walk_at "y"
    refine lc_up (hb.mono s1) (by omega) rfl (fun _ => rfl) (fun _ => rfl) (fun _ => rfl) fun o2 H2 n2 s2 t2 => ?_
    have t1' := t1.mono s2
    have w1 := upto_len g u
    have w2 := upto_len g v
    walk_at "y"
    refine x_cut (fun σ' H' => ∃ (o t : Addr) (x y : List Int), σ' = [some (.ref p), some (.ref a), some (.ref b), some (.int g), some (.bl sw), some (.ref o), some (.ref t), none, none, none, none, none, none, none] ∧ Same H H' ∧ LiAt H' o x ∧ LiAt H' t y ∧ x.length ≤ 10 ∧ y.length ≤ 10) (fun X hX => ?_) ?_
    · walk_at "y"
      refine x_b (fun h => ?_) (fun h => ?_)
      · walk_at "y"
        refine ⟨by show 2 ≤ sizeLine; decide, fun c3 H3 n3 s3 e3 => ?_⟩
        walk_at "y"
        exact hX _ _ ⟨o2, o1, _, _, rfl, (s1.trans s2).trans s3, t2.mono s3, t1'.mono s3, by omega, by omega⟩
      · walk_at "y"
        exact hX _ _ ⟨o1, o2, _, _, rfl, s1.trans s2, t1', t2, by omega, by omega⟩
    clear t1 t1' t2 n1 n2
    rintro σ' H3 ⟨o, t, x, y, rfl, s3, to, tt, hx, hy⟩
    clear s1 s2 H1 H2
    have to' : H3 o = some (.lst (x.map V.int)) := to
    have tt' : H3 t = some (.lst (y.map V.int)) := tt
    have g3 : Go S H S H3 := ⟨Same.refl _, sh.trans s3, s3, fun _ _ e _ => e⟩
    walk_at "y"
    refine x_seq ?_
    walk_at "y"
    refine ⟨p, _, rfl, s3 _ _ hp, by decide, by decide, fun cz c0 c1 => ?_⟩
    walk_at "y"
    obtain ⟨cnt, hcnt, hc⟩ : ∃ k : Nat, cz + 1 = (k : Int) ∧ 1 ≤ k ∧ k ≤ 3 := ⟨(cz + 1).toNat, by omega, by omega, by omega⟩
    rw [hcnt]
    refine x_seq ?_
    walk_at "y"
    refine x_listL to' fun l4 H4 n4 s4 e4 => ?_
    obtain ⟨S4, g4, e4'⟩ := Go.one g3.sh s4 n4 e4
    walk_at "y"
    refine ⟨S4, l4, x, cnt, rfl, g4.sh, e4', by omega, by omega, fun v5 r5 fl5 fc5 S5 H5 g5 n5 hfc5 e5 f5 _ => ?_⟩
    refine x_ixT (g5.sh _ _ e5) rfl ?_
    have G5 := (g3.trans g4).trans g5
    have nr : H r5 = none := fresh_of (g3.trans g4).hh n5
    obtain ⟨as5, er5, hA5⟩ := f5
    have FR := Km.papR_ok x cnt
    have hA6 := del_rows er5 hA5
    have G6 := G5.del (r := r5) (sh.free nr)
    have er5' := g5.sh _ _ er5
    have hS6 := del_self S5 r5
    generalize del S5 r5 = S6 at *
    have tt5 : H5 t = some (.lst (y.map V.int)) := g5.hh _ _ (g4.hh _ _ tt')
    walk_at "y"
    refine x_seq ?_
    walk_at "y"
    refine x_listL tt5 fun l7 H7 n7 s7 e7 => ?_
    obtain ⟨S7, g7, e7'⟩ := Go.one G6.sh s7 n7 e7
    walk_at "y"
    refine ⟨S7, l7, y, cnt, rfl, g7.sh, e7', by omega, by omega, fun v8 r8 fl8 fc8 S8 H8 g8 n8 hfc8 e8 f8 q8 => ?_⟩
    have g78 := g7.trans g8
    have FR8 := Km.papR_ok y cnt
    have FF8 := Km.papF_ok y fc8
    walk_at "y"
    refine x_seq ?_
    walk_at "y"
    refine ⟨p, _, rfl, g78.hh _ _ (G6.hh _ _ hp), by decide, by decide, fun kd k0 k1 => ?_⟩
    have mk0 : Mk S H kd 10 y.length r5 v8 H8 := mk_pap G6 g78 nr hS6 er5' hA6 e8 f8 q8 (pap_fb FR.1 hx (by rw [FR.2]; omega)) (pap_fb FR8.1 hy (by rw [FR8.2]; omega)) (pap_fb FF8.1 hy (by rw [FF8.2]; omega)) (fun _ => by rw [FR.2]; omega) (fun _ => ⟨by rw [FR8.2]; omega, fun l hl hne => by
      obtain ⟨z, hz⟩ := List.exists_mem_of_ne_nil l hne
      have := FR8.1.rg l hl z hz
      omega⟩)
    have HP : ∀ {H'}, Same H H' → Strm H' p := fun s => s _ _ hp
    have lo : LiAt H8 o x := (((to.mono g4.hh).mono g5.hh).mono g7.hh).mono g8.hh
    have lt : LiAt H8 t y := (((tt.mono g4.hh).mono g5.hh).mono g7.hh).mono g8.hh
    have sH8 : Same H H8 := G6.hh.trans g78.hh
    clear hA5 hA6 er5 er5' tt5 e7 e7' e4 e4' to' tt' e5 e8 f8 q8
    have nn : ∀ {n m : Int}, ¬ n = m → ¬ V.int n = V.int m := fun h z => h (V.int.inj z)
    have mk := mk0
    have ll : LiAt H8 o x ∧ LiAt H8 t y := ⟨lo, lt⟩
    clear mk0 lo lt
    obtain ⟨S9, r9, fl9, as9, fam9, ris9, fal9, G, nf, hS, ef, hA, hpp, hri, hfa, b1, b2, b3, k4, k8⟩ := id mk
    have epp := G.sh _ _ hpp
    have hlen := hA.len
    walk_at "y"
    refine x_cut (fun σ' H' => ∃ (f pp : Addr), σ' = [some (.ref p), some (.ref a), some (.ref b), some (.int g), some (.bl sw), some (.ref o), some (.ref t), some (.int cnt), some (.ref f), some (.ref pp), some (.int kd), none, none, none] ∧ Mk S H kd 20 y.length f pp H' ∧ ((LiAt H' o x ∧ LiAt H' t y))) (fun X hX => ?_) ?_
    · walk_at "y"
      rw [dec_vint]
      refine x_ite (fun hk => ?_) (fun hk => ?_)
      · obtain ⟨lo, lt⟩ := ll
        walk_at "y"
        refine ⟨S9, p, o, x, false, 3, rfl, G.sh, HP G.hh, lo, by omega, by omega, fun c fS fH nw g2 nv fv bv => ?_⟩
        have epp2 := g2.sh _ _ (g2.ss _ _ hpp)
        walk_at "y"
        exact hX _ _ ⟨c, v8, rfl, mk_fam G sh g2 hpp hri hfa nv fv (bv.le (by omega)) (b2.le (by omega)) (b3.le (by omega)) (fun e => by omega) k8,  ⟨lo.mono g2.hh, lt.mono g2.hh⟩⟩
      · walk_at "y"
        exact hX _ _ ⟨r5, v8, rfl, mk.le (by omega), ll⟩
    rintro σ' H9 ⟨f9, pp9, rfl, mk, ll⟩
    obtain ⟨S9, r9, fl9, as9, fam9, ris9, fal9, G, nf, hS, ef, hA, hpp, hri, hfa, b1, b2, b3, k4, k8⟩ := id mk
    have epp := G.sh _ _ hpp
    have hlen := hA.len
    walk_at "y"
    refine x_cut (fun σ' H' => ∃ (f pp : Addr), σ' = [some (.ref p), some (.ref a), some (.ref b), some (.int g), some (.bl sw), some (.ref o), some (.ref t), some (.int cnt), some (.ref f), some (.ref pp), some (.int kd), none, none, none] ∧ Mk S H kd 20 y.length f pp H' ∧ ((LiAt H' o x ∧ LiAt H' t y))) (fun X hX => ?_) ?_
    · walk_at "y"
      rw [dec_vint]
      refine x_ite (fun hk => ?_) (fun hk => ?_)
      · obtain ⟨lo, lt⟩ := ll
        walk_at "y"
        refine ⟨S9, p, t, y, false, 3, rfl, G.sh, HP G.hh, lt, by omega, by omega, fun c fS fH nw g2 nv fv bv => ?_⟩
        have epp2 := g2.sh _ _ (g2.ss _ _ hpp)
        walk_at "y"
        refine ⟨by show 2 ≤ sizeLine; decide, fun tc H3 n3 s3 e3 => ?_⟩
        obtain ⟨S3, g3, e3'⟩ := Go.one g2.sh s3 n3 e3
        have g23 := g2.trans g3
        walk_at "y"
        exact hX _ _ ⟨f9, tc, rfl, mk_pap G g23 nf hS ef hA e3' (fv.mono g3.ss) (hfa.mono g23.ss) (b1.le (by omega)) (bv) (b3.le (by omega)) (fun e => by omega) (fun e => by omega),  ⟨lo.mono g23.hh, lt.mono g23.hh⟩⟩
      · walk_at "y"
        exact hX _ _ ⟨f9, pp9, rfl, mk.le (by omega), ll⟩
    rintro σ' H9 ⟨f9, pp9, rfl, mk, ll⟩
    obtain ⟨S9, r9, fl9, as9, fam9, ris9, fal9, G, nf, hS, ef, hA, hpp, hri, hfa, b1, b2, b3, k4, k8⟩ := id mk
    have epp := G.sh _ _ hpp
    have hlen := hA.len
    walk_at "y"
    refine x_cut (fun σ' H' => ∃ (f pp : Addr), σ' = [some (.ref p), some (.ref a), some (.ref b), some (.int g), some (.bl sw), some (.ref o), some (.ref t), some (.int cnt), some (.ref f), some (.ref pp), some (.int kd), none, none, none] ∧ Mk S H kd 20 y.length f pp H' ∧ ((LiAt H' o x ∧ LiAt H' t y))) (fun X hX => ?_) ?_
    · walk_at "y"
      rw [dec_vint]
      refine x_ite (fun hk => ?_) (fun hk => ?_)
      · obtain ⟨lo, lt⟩ := ll
        walk_at "y"
        refine ⟨S9, p, t, y, true, 3, rfl, G.sh, HP G.hh, lt, by omega, by omega, fun c fS fH nw g2 nv fv bv => ?_⟩
        have epp2 := g2.sh _ _ (g2.ss _ _ hpp)
        walk_at "y"
        refine ⟨by show 2 ≤ sizeLine; decide, fun tc H3 n3 s3 e3 => ?_⟩
        obtain ⟨S3, g3, e3'⟩ := Go.one g2.sh s3 n3 e3
        have g23 := g2.trans g3
        walk_at "y"
        exact hX _ _ ⟨f9, tc, rfl, mk_pap G g23 nf hS ef hA e3' (hri.mono g23.ss) (fv.mono g3.ss) (b1.le (by omega)) (b2.le (by omega)) (bv) (fun e => by omega) (fun e => by omega),  ⟨lo.mono g23.hh, lt.mono g23.hh⟩⟩
      · walk_at "y"
        exact hX _ _ ⟨f9, pp9, rfl, mk.le (by omega), ll⟩
    rintro σ' H9 ⟨f9, pp9, rfl, mk, ll⟩
    obtain ⟨S9, r9, fl9, as9, fam9, ris9, fal9, G, nf, hS, ef, hA, hpp, hri, hfa, b1, b2, b3, k4, k8⟩ := id mk
    have epp := G.sh _ _ hpp
    have hlen := hA.len
    walk_at "y"
    refine x_cut (fun σ' H' => ∃ (f pp : Addr), σ' = [some (.ref p), some (.ref a), some (.ref b), some (.int g), some (.bl sw), some (.ref o), some (.ref t), some (.int cnt), some (.ref f), some (.ref pp), some (.int kd), none, none, none] ∧ Mk S H kd 21 y.length f pp H' ∧ ((LiAt H' o x ∧ LiAt H' t y))) (fun X hX => ?_) ?_
    · walk_at "y"
      rw [dec_vint]
      refine x_ite (fun hk => ?_) (fun hk => ?_)
      · obtain ⟨lo, lt⟩ := ll
        walk_at "y"
        refine ⟨by decide, fun c1 H1 n1 s1 e1 => ?_⟩
        walk_at "y"
        refine ⟨by show 1 ≤ sizeLine; decide, fun c2 H2 n2 s2 e2 => ?_⟩
        obtain ⟨S1, g1, e1'⟩ := Go.one (p := c1) (o := .lst []) G.sh s1 n1 e1
        have gb : Go S1 H1 S1 H2 := ⟨Same.refl _, g1.sh.trans s2, s2, fun _ _ e _ => e⟩
        refine x_cat (s2 _ _ (s1 _ _ ef)) e2 (small (by rw [refs_len]; have := b1.1; show _ + 1 ≤ _; omega)) fun c fH n3 s3 e3 => ?_
        obtain ⟨S3, g3, e3'⟩ := Go.one gb.sh s3 n3 e3
        have g2 := (g1.trans gb).trans g3
        rw [refs_snoc] at e3'
        have fv : FamAt S3 c (fam9 ++ [[]]) := ⟨as9 ++ [c1], e3', (hA.mono g2.ss).snoc (g3.ss _ _ e1')⟩
        have nv := fresh_of (s1.trans s2) n3
        have bv := b1.snoc (l := []) (Nat.zero_le _) (fun x hx => by simp at hx)
        walk_at "y"
        exact hX _ _ ⟨c, pp9, rfl, mk_fam G sh g2 hpp hri hfa nv fv (bv.le (by omega)) (b2.le (by omega)) (b3.le (by omega)) (fun e => by omega) k8,  ⟨lo.mono g2.hh, lt.mono g2.hh⟩⟩
      · walk_at "y"
        exact hX _ _ ⟨f9, pp9, rfl, mk.le (by omega), ll⟩
    rintro σ' H9 ⟨f9, pp9, rfl, mk, ll⟩
    obtain ⟨S9, r9, fl9, as9, fam9, ris9, fal9, G, nf, hS, ef, hA, hpp, hri, hfa, b1, b2, b3, k4, k8⟩ := id mk
    have epp := G.sh _ _ hpp
    have hlen := hA.len
    walk_at "y"
    refine x_cut (fun σ' H' => ∃ (f pp : Addr), σ' = [some (.ref p), some (.ref a), some (.ref b), some (.int g), some (.bl sw), some (.ref o), some (.ref t), some (.int cnt), some (.ref f), some (.ref pp), some (.int kd), none, none, none] ∧ Mk S H kd 22 y.length f pp H' ∧ (kd ≠ 4 → (LiAt H' o x ∧ LiAt H' t y))) (fun X hX => ?_) ?_
    · walk_at "y"
      rw [dec_vint]
      refine x_ite (fun hk => ?_) (fun hk => ?_)
      · obtain ⟨lo, lt⟩ := ll
        walk_at "y"
        have lo' : H9 o = some (.lst (x.map V.int)) := lo
        walk_at "y"
        rw [ints_len]
        have hx0 := k4 hk
        have hkf : 0 < fam9.length := by omega
        obtain ⟨q0, hq0, rq0⟩ := hA.get (List.getElem?_eq_getElem hkf)
        have hb0 := b1.2 _ (List.getElem_mem hkf)
        generalize fam9[0] = l0 at *
        refine x_ite (fun hz => ?_) (fun hz => ?_)
        · walk_at "y"
          refine x_ixL ef (atI_refs (i := 0) hq0) ?_
          walk_at "y"
          rw [ints_len]
          refine ⟨p, _, rfl, HP G.hh, by omega, by omega, fun d d0 d1 => ?_⟩
          walk_at "y"
          refine ⟨by show 1 ≤ sizeLine; decide, fun c1 H1 n1 s1 e1 => ?_⟩
          refine x_cat3 (k := [d]) (LiAt.mono s1 (LiAt.mono G.sh rq0)) e1 (by omega) (by show 1 ≤ 5000; omega) fun c2 H2 n2 s2 e2 => ?_
          have ga : Go S9 H9 S9 H1 := ⟨Same.refl _, G.sh.trans s1, s1, fun _ _ e _ => e⟩
          obtain ⟨S2, g2, e2'⟩ := Go.one ga.sh s2 n2 e2
          have gx := ga.trans g2
          walk_at "y"
          refine x_setL (j := 0) (gx.hh _ _ ef) (show ixN _ ((0 : Nat) : Int) = some 0 by rw [refs_len]; exact ixN_nat (by omega)) ?_
          rw [refs_set]
          have nS2 := gx.fr f9 _ hS ef
          have gm := (G.trans gx).mut (o := .lst (refs (as9.set 0 c2))) nf nS2
          have bn : Fb 22 (fam9.set 0 (l0 ++ [d])) := (b1.le (by omega)).set (by rw [List.length_append]; show _ + 1 ≤ 22; omega) fun w hw => by
            rcases List.mem_append.mp hw with z | z
            · exact hb0.2 w z
            · rw [List.mem_singleton.mp z]; omega
          walk_at "y"
          exact hX _ _ ⟨f9, pp9, rfl, ⟨S2, r9, fl9, as9.set 0 c2, fam9.set 0 (l0 ++ [d]), ris9, fal9, gm, nf, nS2, upd_same, (hA.mono gx.ss).set e2', gx.ss _ _ hpp, hri.mono gx.ss, hfa.mono gx.ss, bn, b2.le (by omega), b3.le (by omega), fun _ => by rw [List.length_set]; omega, k8⟩, fun e => absurd hk e⟩
        · walk_at "y"
          exact hX _ _ ⟨f9, pp9, rfl, mk.le (by omega), fun _ => ⟨lo, lt⟩⟩
      · walk_at "y"
        exact hX _ _ ⟨f9, pp9, rfl, mk.le (by omega), fun _ => ll⟩
    rintro σ' H9 ⟨f9, pp9, rfl, mk, ll⟩
    obtain ⟨S9, r9, fl9, as9, fam9, ris9, fal9, G, nf, hS, ef, hA, hpp, hri, hfa, b1, b2, b3, k4, k8⟩ := id mk
    have epp := G.sh _ _ hpp
    have hlen := hA.len
    walk_at "y"
    refine x_cut (fun σ' H' => ∃ (f pp : Addr), σ' = [some (.ref p), some (.ref a), some (.ref b), some (.int g), some (.bl sw), some (.ref o), some (.ref t), some (.int cnt), some (.ref f), some (.ref pp), some (.int kd), none, none, none] ∧ Mk S H kd 23 y.length f pp H' ∧ (kd ≠ 4 → (LiAt H' o x ∧ LiAt H' t y))) (fun X hX => ?_) ?_
    · walk_at "y"
      rw [dec_vint]
      refine x_ite (fun hk => ?_) (fun hk => ?_)
      · obtain ⟨lo, lt⟩ := ll (by omega)
        walk_at "y"
        refine ⟨S9, p, t, r9, y, ris9, 22, rfl, G.sh, HP G.hh, lt, hri.mono G.sh, by omega, b2, by omega, fun c fS fH nw g2 nv fv bv => ?_⟩
        have epp2 := g2.sh _ _ (g2.ss _ _ hpp)
        walk_at "y"
        refine ⟨by show 2 ≤ sizeLine; decide, fun tc H3 n3 s3 e3 => ?_⟩
        obtain ⟨S3, g3, e3'⟩ := Go.one g2.sh s3 n3 e3
        have g23 := g2.trans g3
        walk_at "y"
        exact hX _ _ ⟨f9, tc, rfl, mk_pap G g23 nf hS ef hA e3' (fv.mono g3.ss) (hfa.mono g23.ss) (b1.le (by omega)) (bv) (b3.le (by omega)) (fun e => by omega) (fun e => by omega), fun _ =>  ⟨lo.mono g23.hh, lt.mono g23.hh⟩⟩
      · walk_at "y"
        exact hX _ _ ⟨f9, pp9, rfl, mk.le (by omega), ll⟩
    rintro σ' H9 ⟨f9, pp9, rfl, mk, ll⟩
    obtain ⟨S9, r9, fl9, as9, fam9, ris9, fal9, G, nf, hS, ef, hA, hpp, hri, hfa, b1, b2, b3, k4, k8⟩ := id mk
    have epp := G.sh _ _ hpp
    have hlen := hA.len
    walk_at "y"
    refine x_cut (fun σ' H' => ∃ (f pp : Addr), σ' = [some (.ref p), some (.ref a), some (.ref b), some (.int g), some (.bl sw), some (.ref o), some (.ref t), some (.int cnt), some (.ref f), some (.ref pp), some (.int kd), none, none, none] ∧ Mk S H kd 24 y.length f pp H' ∧ (kd ≠ 4 → (LiAt H' o x ∧ LiAt H' t y))) (fun X hX => ?_) ?_
    · walk_at "y"
      rw [dec_vint]
      refine x_ite (fun hk => ?_) (fun hk => ?_)
      · obtain ⟨lo, lt⟩ := ll (by omega)
        walk_at "y"
        refine ⟨S9, p, t, fl9, y, fal9, 23, rfl, G.sh, HP G.hh, lt, hfa.mono G.sh, by omega, b3, by omega, fun c fS fH nw g2 nv fv bv => ?_⟩
        have epp2 := g2.sh _ _ (g2.ss _ _ hpp)
        walk_at "y"
        refine ⟨by show 2 ≤ sizeLine; decide, fun tc H3 n3 s3 e3 => ?_⟩
        obtain ⟨S3, g3, e3'⟩ := Go.one g2.sh s3 n3 e3
        have g23 := g2.trans g3
        walk_at "y"
        exact hX _ _ ⟨f9, tc, rfl, mk_pap G g23 nf hS ef hA e3' (hri.mono g23.ss) (fv.mono g3.ss) (b1.le (by omega)) (b2.le (by omega)) (bv) (fun e => by omega) (fun e => by omega), fun _ =>  ⟨lo.mono g23.hh, lt.mono g23.hh⟩⟩
      · walk_at "y"
        exact hX _ _ ⟨f9, pp9, rfl, mk.le (by omega), ll⟩
    rintro σ' H9 ⟨f9, pp9, rfl, mk, ll⟩
    obtain ⟨S9, r9, fl9, as9, fam9, ris9, fal9, G, nf, hS, ef, hA, hpp, hri, hfa, b1, b2, b3, k4, k8⟩ := id mk
    have epp := G.sh _ _ hpp
    have hlen := hA.len
    walk_at "y"
    refine x_cut (fun σ' H' => ∃ (f pp : Addr), σ' = [some (.ref p), some (.ref a), some (.ref b), some (.int g), some (.bl sw), some (.ref o), some (.ref t), some (.int cnt), some (.ref f), some (.ref pp), some (.int kd), none, none, none] ∧ Mk S H kd 25 y.length f pp H' ∧ (kd ≠ 4 → (LiAt H' o x ∧ LiAt H' t y))) (fun X hX => ?_) ?_
    · walk_at "y"
      rw [dec_vint]
      refine x_ite (fun hk => ?_) (fun hk => ?_)
      · obtain ⟨lo, lt⟩ := ll (by omega)
        walk_at "y"
        refine ⟨S9, p, o, f9, x, fam9, 24, rfl, G.sh, HP G.hh, lo, ⟨as9, ef, hA.mono G.sh⟩, by omega, b1, by omega, fun c fS fH nw g2 nv fv bv => ?_⟩
        have epp2 := g2.sh _ _ (g2.ss _ _ hpp)
        walk_at "y"
        exact hX _ _ ⟨c, pp9, rfl, mk_fam G sh g2 hpp hri hfa nv fv (bv.le (by omega)) (b2.le (by omega)) (b3.le (by omega)) (fun e => by omega) k8, fun _ =>  ⟨lo.mono g2.hh, lt.mono g2.hh⟩⟩
      · walk_at "y"
        exact hX _ _ ⟨f9, pp9, rfl, mk.le (by omega), ll⟩
    rintro σ' H9 ⟨f9, pp9, rfl, mk, ll⟩
    obtain ⟨S9, r9, fl9, as9, fam9, ris9, fal9, G, nf, hS, ef, hA, hpp, hri, hfa, b1, b2, b3, k4, k8⟩ := id mk
    have epp := G.sh _ _ hpp
    have hlen := hA.len
    refine x_cut (fun σ' H' => ∃ (f pp : Addr) (v11 : Option V), σ' = [some (.ref p), some (.ref a), some (.ref b), some (.int g), some (.bl sw), some (.ref o), some (.ref t), some (.int cnt), some (.ref f), some (.ref pp), some (.int kd), v11, none, none] ∧ Mk S H kd 60 y.length f pp H') (fun X hX => ?_) ?_
    · refine x_if (x_and (x_or89 rfl ?_))
      dsimp only
      refine x_ite (fun hk => ?_) (fun hk => ?_)
      · obtain ⟨lo, lt⟩ := ll (by omega)
        have lt' : H9 t = some (.lst (y.map V.int)) := lt
        obtain ⟨asr, er, hR⟩ := id hri
        obtain ⟨asf, el, hL⟩ := id hfa
        have er' := G.sh _ _ er
        have el' := G.sh _ _ el
        obtain ⟨k8a, k8b⟩ := k8 hk
        have hr0 : 0 < ris9.length := by omega
        obtain ⟨pr, hpr, rr⟩ := hR.get (List.getElem?_eq_getElem hr0)
        have mr := List.getElem_mem hr0
        have lr0 := b2.2 _ mr
        have k8c := k8b _ mr
        generalize ris9[0] = lr at *
        have rr' : H9 pr = some (.lst (lr.map V.int)) := rr.mono G.sh
        walk_at "y"
        refine x_ixL er' (atI_refs (i := 0) hpr) ?_
        walk_at "y"
        rw [ints_len]
        refine x_ite (fun h1 => ?_) (fun h1 => ?_)
        · walk_at "y"
          rw [refs_len, hL.len]
          refine x_ite (fun h2 => ?_) (fun h2 => ?_)
          · have hm : 0 < y.length := k8c (fun z => by rw [z] at h1; simp at h1)
            have hf0 : 0 < fal9.length := by omega
            obtain ⟨q0, hq0, rq⟩ := hL.get (List.getElem?_eq_getElem hf0)
            have lq0 := b3.2 _ (List.getElem_mem hf0)
            generalize fal9[0] = lq at *
            walk_at "y"
            refine x_seq ?_
            walk_at "y"
            refine lc_draws (n := y.length) rr' (by rw [ints_len]; omega) (fun R r => ?_) (fun _ => rfl) (fun x H1 R s1 r => ?_) fun mo H1 lm n1 s1 e1 hml hmb => ?_
            · walk_at "y"
              refine x_ixL er' (atI_refs (i := 0) hpr) ?_
              exact r
            · have lt1 := s1 _ _ lt'
              walk_at "y"
              rw [ints_len]
              exact ⟨p, _, rfl, s1 _ _ (HP G.hh), by omega, by omega, fun z z0 z1 => r z z0 z1⟩
            rw [ints_len] at hml
            have epp1 := s1 _ _ epp
            walk_at "y"
            refine ⟨by decide, fun c1 H2 n2 s2 e2 => ?_⟩
            walk_at "y"
            refine ⟨by show 1 ≤ sizeLine; decide, fun c2 H3 n3 s3 e3 => ?_⟩
            have s13 := (s1.trans s2).trans s3
            have epp3 := s13 _ _ epp
            walk_at "y"
            refine x_slL (s13 _ _ er') fun c4 H4 n4 s4 e4 => ?_
            rw [show (some (1 : Int)) = some ((1 : Nat) : Int) from rfl, cutV_drop, refs_drop] at e4
            refine x_cat (s4 _ _ e3) e4 (small (by rw [refs_len, List.length_drop, hR.len]; have := b2.1; show 1 + _ ≤ _; omega)) fun c5 H5 n5 s5 e5 => ?_
            have s15 := (s13.trans s4).trans s5
            have epp5 := s15 _ _ epp
            walk_at "y"
            refine x_ixL (s15 _ _ el') (atI_refs (i := 0) hq0) ?_
            walk_at "y"
            refine x_cat3 (LiAt.mono s15 (rq.mono G.sh)) (LiAt.mono ((((s2.trans s3).trans s4).trans s5)) e1) (by omega) (by omega) fun c6 H6 n6 s6 e6 => ?_
            walk_at "y"
            refine ⟨by show 1 ≤ sizeLine; decide, fun c7 H7 n7 s7 e7 => ?_⟩
            have s17 := (s15.trans s6).trans s7
            have epp7 := s17 _ _ epp
            walk_at "y"
            refine x_slL (s17 _ _ el') fun c8 H8' n8 s8 e8 => ?_
            rw [show (some (1 : Int)) = some ((1 : Nat) : Int) from rfl, cutV_drop, refs_drop] at e8
            refine x_cat (s8 _ _ e7) e8 (small (by rw [refs_len, List.length_drop, hL.len]; have := b3.1; show 1 + _ ≤ _; omega)) fun c9 H10 n9 s9 e9 => ?_
            walk_at "y"
            refine ⟨by show 2 ≤ sizeLine; decide, fun tc H11 n10 s10 e10 => ?_⟩
            have s5e := ((((s6.trans s7).trans s8).trans s9).trans s10)
            have s1e := s15.trans s5e
            obtain ⟨Sf, gf, new⟩ := Go.grow G.sh s1e
            have f1 : LiAt Sf c1 [] := new c1 _ (fresh_of s1 n2) (s5e _ _ (s5 _ _ (s4 _ _ (s3 _ _ e2))))
            have f5 : Sf c5 = some (.lst (refs (c1 :: asr.drop 1))) := new c5 _ (fresh_of (s13.trans s4) n5) (s5e _ _ e5)
            have f6 : LiAt Sf c6 (lq ++ lm) := new c6 _ (fresh_of s15 n6) (s10 _ _ (s9 _ _ (s8 _ _ (s7 _ _ e6))))
            have f9x : Sf c9 = some (.lst (refs (c6 :: asf.drop 1))) := new c9 _ (fresh_of (s17.trans s8) n9) (s10 _ _ e9)
            have f10 := new tc _ (fresh_of ((s17.trans s8).trans s9) n10) e10
            have br : Fb 60 ([] :: ris9.drop 1) := ⟨by rw [List.length_cons, List.length_drop]; have := b2.1; omega, fun l hl => by
              rcases List.mem_cons.mp hl with z | z
              · rw [z]; exact ⟨Nat.zero_le _, fun x hx => by simp at hx⟩
              · have := b2.2 l (List.mem_of_mem_drop z)
                exact ⟨by omega, this.2⟩⟩
            have bf : Fb 60 ((lq ++ lm) :: fal9.drop 1) := ⟨by rw [List.length_cons, List.length_drop]; have := b3.1; omega, fun l hl => by
              rcases List.mem_cons.mp hl with z | z
              · rw [z]
                refine ⟨by rw [List.length_append]; omega, fun x hx => ?_⟩
                rcases List.mem_append.mp hx with w | w
                · exact lq0.2 x w
                · have := hmb x w; omega
              · have := b3.2 l (List.mem_of_mem_drop z)
                exact ⟨by omega, this.2⟩⟩
            walk_at "y"
            exact hX _ _ ⟨f9, tc, _, rfl, mk_pap G gf nf hS ef hA f10 ⟨_, f5, .cons f1 ((hR.mono gf.ss).drop 1)⟩ ⟨_, f9x, .cons f6 ((hL.mono gf.ss).drop 1)⟩ (b1.le (by omega)) br bf (fun e => by omega) (fun _ => ⟨by rw [List.length_cons]; omega, fun _ _ _ => hm⟩)⟩
          · walk_at "y"
            exact hX _ _ ⟨f9, pp9, _, rfl, mk.le (by omega)⟩
        · walk_at "y"
          exact hX _ _ ⟨f9, pp9, _, rfl, mk.le (by omega)⟩
      · refine x_F ?_
        walk_at "y"
        exact hX _ _ ⟨f9, pp9, _, rfl, mk.le (by omega)⟩
    rintro σ' H9 ⟨f9, pp9, v11, rfl, mk⟩
    obtain ⟨S9, r9, fl9, as9, fam9, ris9, fal9, G, nf, hS, ef, hA, hpp, hri, hfa, b1, b2, b3, k4, k8⟩ := mk
    walk_at "y"
    refine ⟨by show 5 ≤ sizeLine; decide, fun tc H3 n3 s3 e3 => ?_⟩
    obtain ⟨S2, g2, t2, e2⟩ := G.seal nf hS ef
    obtain ⟨S3, g3, e3'⟩ := Go.one g2.sh s3 n3 e3
    exact q tc S3 H3 (.cover g fam9 ris9 fal9 sw) (g2.trans g3) ⟨f9, pp9, r9, fl9, e3', g3.ss _ _ (t2 _ _ hpp), (show FamAt S2 f9 fam9 from ⟨as9, e2, hA.mono t2⟩).mono g3.ss, (hri.mono t2).mono g3.ss, (hfa.mono t2).mono g3.ss⟩ ⟨hg, b1, b2, b3⟩
end
section
/-! ### data -/
def famD (fam : List (List Int)) : PyData := .list (fam.map fun l => .list (l.map PyData.int))
def tabD (T : List (List Int)) : PyData := .tuple (T.map fun l => .tuple (l.map PyData.int))
def Note.dat : Note → PyData
  | .content => .tuple [.str "content"]
  | .cover g fam ris fal sw => .tuple [.str "cover", .int g, famD fam, .tuple [famD ris, famD fal], .bool sw]
theorem All.uncons {α : Type} {R : Addr → α → Prop} {p : Addr} {as : List Addr} {l : α} {xs : List α} (h : All R (p :: as) (l :: xs)) : R p l ∧ All R as xs :=
  ⟨h.at_ 0 p l rfl rfl, by have := h.len; simpa using this, fun i q k a b => h.at_ (i + 1) q k a b⟩
theorem dp_fam {K : PySem.W.Frag} {H : Hp} : ∀ (as : List Addr) (fam : List (List Int)), All (LiAt H) as fam → DpAll K H (refs as) (fam.map fun l => .list (l.map PyData.int))
  | [], [], _ => .nil
  | [], _ :: _, h => by have := h.len; simp at this
  | _ :: _, [], h => by have := h.len; simp at this
  | p :: as, l :: fam, h => .cons (h.uncons.1).dp (dp_fam as fam h.uncons.2)
theorem dp_tab {K : PySem.W.Frag} {H : Hp} : ∀ (as : List Addr) (fam : List (List Int)), All (TiAt H) as fam → DpAll K H (refs as) (fam.map fun l => .tuple (l.map PyData.int))
  | [], [], _ => .nil
  | [], _ :: _, h => by have := h.len; simp at this
  | _ :: _, [], h => by have := h.len; simp at this
  | p :: as, l :: fam, h => .cons (h.uncons.1).dp (dp_tab as fam h.uncons.2)
theorem FamAt.dp {K : PySem.W.Frag} {H : Hp} {a : Addr} {fam : List (List Int)} (h : FamAt H a fam) : Dp K H (.ref a) (famD fam) := by
  obtain ⟨as, e, h⟩ := h
  exact .lst (SqL.of e) (dp_fam as fam h)
theorem TabAt.dp {K : PySem.W.Frag} {H : Hp} {a : Addr} {T : List (List Int)} (h : TabAt H a T) : Dp K H (.ref a) (tabD T) := by
  obtain ⟨as, e, h⟩ := h
  exact .tup (SqT.of e) (dp_tab as T h)
theorem Note.at_.dp {K : PySem.W.Frag} {H : Hp} {t : Addr} {n : Note} (h : n.at_ H t) : Dp K H (.ref t) n.dat := by
  cases n with
  | content => exact .tup (SqT.of h) (.cons (.str _) .nil)
  | cover g fam ris fal sw =>
    obtain ⟨f, p, r, fl, h1, h2, h3, h4, h5⟩ := h
    exact .tup (SqT.of h1) (.cons (.str _) (.cons (.int _) (.cons h3.dp (.cons (.tup (SqT.of h2) (.cons h4.dp (.cons h5.dp .nil))) (.cons (.bl _) .nil)))))
/-! equal tables -/
theorem eqv_tabs : ∀ A B : List (List Int), PyData.eqvAll (A.map fun l => .tuple (l.map PyData.int)) (B.map fun l => .tuple (l.map PyData.int)) = decide (A = B)
  | [], [] => by simp [PyData.eqvAll]
  | [], _ :: _ => by simp [PyData.eqvAll]
  | _ :: _, [] => by simp [PyData.eqvAll]
  | a :: r, b :: t => by
    simp only [List.map_cons, PyData.eqvAll, PyData.eqv, eqv_ints, eqv_tabs r t]
    by_cases h : a = b <;> by_cases h' : r = t <;> simp [h, h']
theorem eqv_tab (A B : List (List Int)) : PyData.eqv (tabD A) (tabD B) = decide (A = B) := by
  unfold tabD
  rw [PyData.eqv]
  exact eqv_tabs A B
theorem can_rows (g : List PyData → PyData) (hg : ∀ l : List Int, (g (l.map PyData.int)).canLay0 = true) : ∀ T : List (List Int), PyData.canLayAll0 (T.map fun l => g (l.map PyData.int)) = true
  | [] => rfl
  | l :: T => by
    show ((g (l.map PyData.int)).canLay0 && PyData.canLayAll0 (T.map fun l => g (l.map PyData.int))) = true
    rw [hg, can_rows g hg T]
    rfl
theorem depth_rows (g : List PyData → PyData) (hg : ∀ l : List Int, (g (l.map PyData.int)).depth ≤ 1) : ∀ T : List (List Int), PyData.depthAll (T.map fun l => g (l.map PyData.int)) ≤ 1
  | [] => Nat.zero_le _
  | l :: T => by
    show max (g (l.map PyData.int)).depth (PyData.depthAll (T.map fun l => g (l.map PyData.int))) ≤ 1
    exact Nat.max_le.mpr ⟨hg l, depth_rows g hg T⟩
theorem can_lst (l : List Int) : (PyData.list (l.map PyData.int)).canLay0 = true := by
  rw [PyData.canLay0]
  exact PySem.W.ke_canLayAll0 l
theorem can_tup (l : List Int) : (PyData.tuple (l.map PyData.int)).canLay0 = true := by
  rw [PyData.canLay0]
  exact PySem.W.ke_canLayAll0 l
theorem dep_lst (l : List Int) : (PyData.list (l.map PyData.int)).depth ≤ 1 := by
  rw [PyData.depth, PySem.W.ke_depthAll]
  exact Nat.le_refl _
theorem dep_tup (l : List Int) : (PyData.tuple (l.map PyData.int)).depth ≤ 1 := by
  rw [PyData.depth, PySem.W.ke_depthAll]
  exact Nat.le_refl _
theorem shaped_tab (T : List (List Int)) : SeqAt.shaped (tabD T) = true := by
  have d := depth_rows .tuple dep_tup T
  have e : (tabD T).depth = PyData.depthAll (T.map fun l => .tuple (l.map PyData.int)) + 1 := by unfold tabD; rw [PyData.depth]
  have c : (tabD T).canLay0 = true := by unfold tabD; rw [PyData.canLay0]; exact can_rows .tuple can_tup T
  unfold SeqAt.shaped
  rw [c, Bool.true_and]
  exact decide_eq_true (by omega)
theorem shaped_two (u v : List Int) : SeqAt.shaped (.tuple [.list (u.map PyData.int), .list (v.map PyData.int)]) = true := by
  unfold SeqAt.shaped
  simp [PyData.canLay0, PyData.canLayAll0, PyData.depth, PyData.depthAll, PySem.W.ke_canLayAll0, PySem.W.ke_depthAll]
theorem eqv_two (u v : List Int) : PyData.eqv (.tuple [.list (u.map PyData.int), .list (v.map PyData.int)]) (.tuple [.list (u.map PyData.int), .list (v.map PyData.int)]) = true := by
  simp [PyData.eqv, PyData.eqvAll, eqv_ints]
/-! what repr needs -/
theorem small_int {i : Int} (h : i.natAbs ≤ 10 ^ 33) : i.natAbs.log2 < 1920 := by
  by_cases e : i.natAbs = 0
  · rw [e]; decide
  · have h2 : i.natAbs < 2 ^ 120 := by omega
    have := (Nat.log2_lt e).mpr h2
    omega
theorem int_len {i : Int} (h : i.natAbs ≤ 10 ^ 33) : (PyData.shown (.int i)).length ≤ 40 := by
  have e := int_text_length_le10 (k := 34) (a := i) (by decide) (by omega)
  show (Str.ofString (toString i)).length ≤ 40
  rw [PySem.ofString_length]
  omega
theorem wt_int {i : Int} {b : Nat} (h : i.natAbs < 2 ^ b) : (PyData.int i).weight ≤ b := by
  rw [PyData.weight]
  by_cases e : i = 0
  · rw [if_pos (by rw [e]; rfl)]; omega
  · rw [if_neg (by simpa using e)]
    have := (Nat.log2_lt (by omega : i.natAbs ≠ 0)).mpr h
    omega
theorem show_ints : ∀ l : List Int, (∀ x ∈ l, x.natAbs ≤ 100) → PyData.showableAll (l.map PyData.int) = true ∧ PyData.leavesShortAll 40 (l.map PyData.int) = true ∧ PyData.weightAll (l.map PyData.int) ≤ 8 * l.length ∧ PyData.hasDictAll (l.map PyData.int) = false
  | [], _ => ⟨rfl, rfl, Nat.le_refl _, rfl⟩
  | x :: l, h => by
    obtain ⟨a, b, c, d⟩ := show_ints l fun y hy => h y (List.mem_cons_of_mem _ hy)
    have hx : x.natAbs ≤ 10 ^ 33 := by have := h x List.mem_cons_self; omega
    refine ⟨?_, ?_, ?_, ?_⟩
    · simp [PyData.showableAll, PyData.showable, a, small_int hx]
    · simp [PyData.leavesShortAll, PyData.leavesShort, b, int_len hx]
    · have w := wt_int (i := x) (b := 7) (by have := h x List.mem_cons_self; omega)
      simp only [List.map_cons, PyData.weightAll, List.length_cons]; omega
    · simp [PyData.hasDictAll, PyData.hasDict, d]
theorem show_rows : ∀ fam : List (List Int), (∀ l ∈ fam, l.length ≤ 60 ∧ ∀ x ∈ l, x.natAbs ≤ 100) → PyData.showableAll (fam.map fun l => .list (l.map PyData.int)) = true ∧ PyData.leavesShortAll 40 (fam.map fun l => .list (l.map PyData.int)) = true ∧
    PyData.weightAll (fam.map fun l => .list (l.map PyData.int)) ≤ 481 * fam.length ∧ PyData.hasDictAll (fam.map fun l => .list (l.map PyData.int)) = false
  | [], _ => ⟨rfl, rfl, Nat.le_refl _, rfl⟩
  | l :: fam, h => by
    obtain ⟨a, b, c, d⟩ := show_rows fam fun y hy => h y (List.mem_cons_of_mem _ hy)
    obtain ⟨h1, h2⟩ := h l List.mem_cons_self
    obtain ⟨a', b', c', d'⟩ := show_ints l h2
    refine ⟨?_, ?_, ?_, ?_⟩
    · simp only [List.map_cons, PyData.showableAll, PyData.showable, a, a', Bool.and_self]
    · simp only [List.map_cons, PyData.leavesShortAll, PyData.leavesShort, b, b', Bool.and_self]
    · have w : (PyData.list (l.map PyData.int)).weight = PyData.weightAll (l.map PyData.int) := by rw [PyData.weight]
      simp only [List.map_cons, PyData.weightAll, List.length_cons]; omega
    · simp only [List.map_cons, PyData.hasDictAll, PyData.hasDict, d, d', Bool.or_self]
theorem show_fam {fam : List (List Int)} (h : Fb 60 fam) : (famD fam).showable = true ∧ (famD fam).leavesShort 40 = true ∧ (famD fam).weight ≤ 28860 ∧ (famD fam).hasDict = false ∧ (famD fam).depth ≤ 2 := by
  obtain ⟨a, b, c, d⟩ := show_rows fam h.2
  have e := depth_rows .list dep_lst fam
  have h1 := h.1
  unfold famD
  refine ⟨by rw [PyData.showable]; exact a, by rw [PyData.leavesShort]; exact b, by rw [PyData.weight]; omega, by rw [PyData.hasDict]; exact d, by rw [PyData.depth]; omega⟩
theorem Note.shows {n : Note} (h : n.bd) : n.dat.showable = true ∧ n.dat.hasDict = false ∧ n.dat.depth < 50 ∧ n.dat.shown.length ≤ sizeLine := by
  have fin : ∀ d : PyData, d.leavesShort 40 = true → d.weight ≤ 100000 → d.shown.length ≤ sizeLine := fun d h1 h2 => by
    have := PyData.shown_le 40 (by decide) d h1
    rw [sizeLine_eq]
    omega
  cases n with
  | content => exact ⟨rfl, rfl, by decide, fin _ (by decide +kernel) (by decide +kernel)⟩
  | cover g fam ris fal sw =>
    obtain ⟨hg, h1, h2, h3⟩ := h
    obtain ⟨a1, b1, c1, d1, e1⟩ := show_fam h1
    obtain ⟨a2, b2, c2, d2, e2⟩ := show_fam h2
    obtain ⟨a3, b3, c3, d3, e3⟩ := show_fam h3
    have q : (Str.ofString "cover").cps.size = 5 := by decide +kernel
    refine ⟨?_, ?_, ?_, fin _ ?_ ?_⟩
    · simp [Note.dat, PyData.showable, PyData.showableAll, a1, a2, a3, small_int hg]
    · simp [Note.dat, PyData.hasDict, PyData.hasDictAll, d1, d2, d3]
    · simp only [Note.dat, PyData.depth, PyData.depthAll]; omega
    · have q2 : ((Str.ofString "cover").cps.toList.all fun c => decide (c < 16 ^ 8)) = true := by decide +kernel
      simp only [Note.dat, PyData.leavesShort, PyData.leavesShortAll, b1, b2, b3, q2, decide_eq_true (int_len hg), Bool.and_self]
    · have w := wt_int (i := g) (b := 120) (by omega)
      have w2 : (PyData.bool sw).weight ≤ 8 := by cases sw <;> decide
      rw [Note.dat, PyData.weight]
      simp only [PyData.weightAll]
      have w3 : (PyData.str (Str.ofString "cover")).weight = 5 := by rw [PyData.weight]; exact q
      have w4 : (PyData.tuple [famD ris, famD fal]).weight ≤ 60000 := by
        rw [PyData.weight]; simp only [PyData.weightAll]; omega
      omega
end
section
/-! ### the promise of a def that is entered with no guard set -/
structure FnG (P : Program) (w : World) (K : PySem.W.Frag) (mg : Str → Option Value) (base : Heap) (k : Nat) (f : Addr) (fd : FuncData) (ps : List Str) (sp : Sp) : Prop where
  len : ∀ vs H Q E, sp vs H Q E → vs.length = ps.length
  go : ∀ (A : Around) (out : List Env) (sh : Shared) (H : Hp) (args : Args) (us : List Value) (vs : List V) (Q : VK) (E : XK), A.guards = some [] → Room k A → Env0 P w K mg base A out sh H → BindsTo sh fd args (ps.zip us) → Vals vs us → sp vs H Q E →
    codeAny (model P w) A (.call (.ref f) args) (CR CX0 out P w H sh Q E) sh
theorem fng_of {P : Program} {w : World} {K : PySem.W.Frag} {mg : Str → Option Value} {base : Heap} {x : Str} {st : Stmt} {f : Addr} {fd : FuncData} {N ps : List Str} {k : Nat} {sp : Sp} (D : Fun K x x st f fd) (S : FnScope N ps (defScope st)) (hlen : ∀ vs H Q E, sp vs H Q E → vs.length = ps.length)
    (body : ∀ (cdv : Value) (A : Around) (out : List Env) (sh : Shared) (H : Hp) (vs : List V) (Q : VK) (E : XK), A.guards = some [] → Room k (A.deeper (envOfC x (defScope st) sh.heap.objs.size f cdv)) → sp vs H Q E →
      ∃ t, PSs (cxOf CX0 P w K mg base N x (defScope st) f cdv A out sh H E).nox (defBody st) t ∧ t { nx := fun _ H' => Q .non H', rt := Q } (start N vs) H) : FnG P w K mg base (k + 1) f fd ps sp := by
  obtain ⟨c1, d1, k1, doc1, pm1, an1, cdv, ct1, sl1, rfl, look, code⟩ := D.ex
  refine ⟨hlen, fun A out sh H args us vs Q E hg room env bnd rel pre => ?_⟩
  have inB := env.mod.kin.keeps fun q ob e => (env.bs q ob e).1
  have noL := env.mod.nolimit.keeps fun q ob e => (env.bs q ob e).1
  have kinds : ∀ y ∈ ps.zip us, (defScope st).names.lookup y.1 = some .local ∨ ((defScope st).names.lookup y.1 = some .cell ∧ ((cellsFrom (sh.heap.objs.size + 1) (defScope st).names []).lookup y.1).isSome = true) := by
    rintro ⟨nm, vl⟩ hy
    exact (S.par nm (List.of_mem_zip hy).1).imp id fun q => ⟨q, PySem.W.cellsFrom_some _ _ _ (.inl q)⟩
  refine codeAny_call_function room.depth (inB _ _ look) rfl S.co S.gen rfl (PySem.W.codeRec_of inB code) (bnd _ _ _ _ (wpAny_newFunctionEnv_cells S.kind kinds fun ev hev s2 nx => ?_))
  subst hev
  refine ⟨noL.keeps nx.toInCall.keep, codeAny_func ?_⟩
  obtain ⟨t, derive, post⟩ := body cdv A out sh H vs Q E hg (room.deeper _) pre
  have inv := inv_start (CX := CX0) (E := E) S room.hd env (hlen _ _ _ _ pre) rel nx
  refine wpAny_mono (derive.nox.run [] s2 (start N vs) H _ inv post) (fun flow s3 e => ?_) fun _ _ e => e
  cases flow with
  | brk =>
    rcases e with ⟨_, _, _, no⟩
    exact no.elim
  | cont =>
    rcases e with ⟨_, _, _, no⟩
    exact no.elim
  | next =>
    obtain ⟨_, H3, J, q⟩ := e
    exact ⟨V.non, H3, J.os, J.bare, J.base, J.hok, rfl, q⟩
  | ret res =>
    obtain ⟨v3, _, H3, J, rr, q⟩ := e
    exact ⟨v3, H3, J.os, J.bare, J.base, J.hok, rr, q⟩
end
section
variable {P : Program} {w : World} {K : PySem.W.Frag} {mg : Str → Option Value} {base : Heap}
def spLaw (K : PySem.W.Frag) : Sp := fun vs H Q _ => ∃ (a : Addr) (ns : List Int), vs = [.ref a] ∧ SqL K H a (ns.map V.int) ∧ ∀ H', Q (.bl true) H'
theorem x_repr {H : Hp} {Q : VK} {t : Addr} {n : Note} (h : n.at_ H t) (hb : n.bd) (k : Q (.str n.dat.shown) H) : rRepr K [.ref t] H Q := by
  obtain ⟨a, b, c, d⟩ := Note.shows hb
  exact ⟨t, n.dat, rfl, h.dp, a, b, c, d, k⟩
theorem for_rangeX {lo : Int} {n : Nat} {g : TG} {tb : TS} {nxt : L2.St → Hp → Prop} {ret : VK} {σ : L2.St} {H : Hp} (Pv : Nat → L2.St → Hp → Prop) (h0 : Pv 0 σ H)
    (hd : ∀ σ H, Pv n σ H → nxt σ H) (hs : ∀ i σ H, i < n → Pv i σ H → g (.int (lo + i)) σ H fun σ2 H2 => tb { nx := Pv (i + 1), rt := ret, bk := nxt, ct := Pv (i + 1) } σ2 H2) :
    ∃ W : Nat → Nat → L2.St → Hp → Prop, (∃ m, W 0 m σ H) ∧ ∀ i m σ H, W i m σ H →
      ((Itr lo n).stop i H ∧ nxt σ H) ∨ ((Itr lo n).go i H ∧ ∃ N : L2.St → Hp → Prop, (∀ σ' H', N σ' H' → ∃ m', m' < m ∧ W (i + 1) m' σ' H') ∧ ∀ x H', (Itr lo n).yld i H x H' → g x σ H' fun σ2 H2 => tb { nx := N, rt := ret, bk := nxt, ct := N } σ2 H2) :=
  for_range (D := { nx := nxt, rt := ret }) Pv h0 hs hd
theorem ok_law (T : Txt K mg) {f : Addr} {fd : FuncData} (F : Fun K "law" "law" s_law f fd) : FnG P w K mg base 20 f fd ["_law_script"] (spLaw K) := by
  refine fng_of F sc_law (fun vs H Q E h => ?_) (fun cdv A outer s H vs Q E hg hr h => ?_)
  · obtain ⟨a, ns, rfl, _⟩ := h
    rfl
  · obtain ⟨a, ns, rfl, hS, q⟩ := h
    refine ⟨_, (pss_cons (ps_set (i := 1) sc_law.nd rfl (.inl rfl) (pe_kd (ok__law_stream T) (hr.mono (by decide)) (by rfl) (pa_cons (pe_kd (ok__law_cell T) (hr.mono (by decide)) (by rfl) (pa_cons (pv 0) (pa_cons pe_int pa_nil))) pa_nil)))
(pss_cons (ps_set (i := 2) sc_law.nd rfl (.inl rfl) (pe_kd (ok__law_word T) (hr.mono (by decide)) (by rfl) (pa_cons (pv 1) (pa_cons pe_int pa_nil))))
(pss_cons (ps_set (i := 3) sc_law.nd rfl (.inl rfl) (pe_kd (ok__law_order T) (hr.mono (by decide)) (by rfl) (pa_cons (pe_kd (ok__law_stream T) (hr.mono (by decide)) (by rfl) (pa_cons (pe_kd (ok__law_cell T) (hr.mono (by decide)) (by rfl) (pa_cons (pv 0) (pa_cons pe_int pa_nil))) pa_nil)) (pa_cons (pv 2) pa_nil))))
(pss_cons (ps_if (pt_cmpR op_eq (pe_kd (ok__law_next T) (hr.mono (by decide)) (by rfl) (pa_cons (pv 1) (pa_cons pe_int pa_nil))) pe_int (nomark _))
(pss_cons (ps_set (i := 3) sc_law.nd rfl (.inl rfl) (pe_callTy (n_list_ofK (K := K) rfl) (by rfl) T.n_list (by decide +kernel) (pa_cons (pv 2) pa_nil)))
(pss_one (ps_for PassesOwn.never rfl (pi_range1 (by rfl) T.n_range (pa_cons pe_int pa_nil)) (pg_name (i := 4) sc_law.nd rfl (.inl rfl))
(pss_cons (ps_set (i := 5) sc_law.nd rfl (.inl rfl) (pe_kd (ok__law_allowed T) (hr.mono (by decide)) (by rfl) (pa_cons (pv 3) pa_nil)))
(pss_one (ps_if (pt_cmpR op_gt (pe_callB (n_lenK (K := K) rfl) (by rfl) T.n_len PySem.boot_len (pa_cons (pv 5) pa_nil)) pe_int (nomark _))
(pss_one (ps_set (i := 3) sc_law.nd rfl (.inl rfl) (pe_kd (ok__law_moved T) (hr.mono (by decide)) (by rfl) (pa_cons (pv 3) (pa_cons (pe_ix (ix_listK (K := K) rfl) (pv 5) (pe_kd (ok__law_next T) (hr.mono (by decide)) (by rfl) (pa_cons (pv 1) (pa_cons (pe_callB (n_lenK (K := K) rfl) (by rfl) T.n_len PySem.boot_len (pa_cons (pv 5) pa_nil)) pa_nil))) (fun _ _ => rfl)) pa_nil)))))
pss_nil))))))
pss_nil)
(pss_cons (ps_if (PW.pt (pw_and (pt_cmpR op_eq (pe_kd (ok__law_next T) (hr.mono (by decide)) (by rfl) (pa_cons (pv 1) (pa_cons pe_int pa_nil))) pe_int (nomark _)) (pw_and1 (pt_cmpR op_gt (pe_callB (n_lenK (K := K) rfl) (by rfl) T.n_len PySem.boot_len (pa_cons (pv 3) pa_nil)) pe_int (nomark _)))))
(pss_one (ps_asg (pe_op op_add (pe_ix (ix_listK (K := K) rfl) (pv 3) pe_int (fun _ _ => rfl)) pe_int) (pg_sub (pv 3) pe_int set_list)))
pss_nil)
(pss_cons (ps_if (pt_cmpR op_eq (pe_kd (ok__law_next T) (hr.mono (by decide)) (by rfl) (pa_cons (pv 1) (pa_cons pe_int pa_nil))) pe_int (nomark _))
(pss_one (ps_set (i := 3) sc_law.nd rfl (.inl rfl) (pe_kd (ok__law_longer T) (hr.mono (by decide)) (by rfl) (pa_cons (pv 1) (pa_cons (pv 3) pa_nil)))))
pss_nil)
(pss_cons (ps_for PassesOwn.never rfl (pi_range1 (by rfl) T.n_range (pa_cons pe_int pa_nil)) (pg_name (i := 4) sc_law.nd rfl (.inl rfl))
(pss_cons (ps_set (i := 6) sc_law.nd rfl (.inl rfl) (pe_kd (ok__law_made T) (hr.mono (by decide)) (by rfl) (pa_cons (pe_kd (ok__law_stream T) (hr.mono (by decide)) (by rfl) (pa_cons (pe_kd (ok__law_cell T) (hr.mono (by decide)) (by rfl) (pa_cons (pv 0) (pa_cons (pe_op op_add (pv 4) pe_int) pa_nil))) pa_nil)) (pa_cons (pv 2) (pa_cons (pv 3) pa_nil)))))
(pss_cons (ps_if (PW.pt (pw_and (pt_cmpR op_eq (pe_ix (ix_tupK (K := K) rfl) (pv 6) pe_int (fun _ _ => rfl)) pe_str (nomark _)) (pw_and1 (pt_cmpR op_eq (pe_kd (ok__law_next T) (hr.mono (by decide)) (by rfl) (pa_cons (pv 1) (pa_cons pe_int pa_nil))) pe_int (nomark _)))))
(pss_one (ps_set (i := 6) sc_law.nd rfl (.inl rfl) (pe_op (op_catAK (K := K) rfl) (pe_tup (pa_m (pa_cons pe_str (pa_cons (pe_ix (ix_listK (K := K) rfl) (pe_lst (pa_m (pa_cons (pe_op op_pow pe_int pe_int) (pa_cons (pe_op op_sub pe_int (pe_op op_pow pe_int pe_int)) pa_nil)))) (pe_kd (ok__law_next T) (hr.mono (by decide)) (by rfl) (pa_cons (pv 1) (pa_cons pe_int pa_nil))) (fun _ _ => rfl)) pa_nil)))) (pe_slice (sl_tupAK (K := K) rfl) (pv 6) (po_some pe_int) po_none))))
pss_nil)
(pss_cons (ps_set (i := 7) sc_law.nd rfl (.inl rfl) (pe_kd (ok__law_is_note T) (hr.mono (by decide)) (by rfl) (pa_cons (pv 2) (pa_cons (pv 3) (pa_cons (pv 6) pa_nil)))))
(pss_cons (ps_set (i := 8) sc_law.nd rfl (.inl rfl) (pe_callB (call_reprD hg (by have := hr.units; exact this)) (by rfl) T.n_repr (by decide +kernel) (pa_cons (pv 6) pa_nil)))
(pss_cons (ps_set (i := 9) sc_law.nd rfl (.inl rfl) (pe_tup (pa_m (pa_cons (pe_callTy (n_list_ofK (K := K) rfl) (by rfl) T.n_list (by decide +kernel) (pa_cons (pv 2) pa_nil)) (pa_cons (pe_callTy (n_list_ofK (K := K) rfl) (by rfl) T.n_list (by decide +kernel) (pa_cons (pv 3) pa_nil)) pa_nil)))))
(pss_cons (ps_set (i := 10) sc_law.nd rfl (.inl rfl) (pe_kd (ok_judge_note T) (hr.mono (by decide)) (by rfl) (pa_cons (pe_ix (ix_tupK (K := K) rfl) (pv 9) pe_int (fun _ _ => rfl)) (pa_cons (pe_ix (ix_tupK (K := K) rfl) (pv 9) pe_int (fun _ _ => rfl)) (pa_cons (pv 6) pa_nil)))))
(pss_cons (ps_if (PW.pt (pw_or (pt_not (pt_val (pe_callB (call_isiK2 (K := K) rfl) (by rfl) T.n_isinstance (by decide +kernel) (pa_cons (pv 10) (pa_cons (pe_bltn (v := .ty "bool") (by rfl) T.n_bool (by decide +kernel) rfl) pa_nil))))) (pw_or (pt_cmpR op_ne (pv 10) (pv 7) (nomark _)) (pw_or (pt_cmpR op_ne (pe_callB (call_reprD hg (by have := hr.units; exact this)) (by rfl) T.n_repr (by decide +kernel) (pa_cons (pv 6) pa_nil)) (pv 8) (nomark _)) (pw_or1 (pt_cmpR (op_neDK (K := K) rfl hr.units) (pv 9) (pe_tup (pa_m (pa_cons (pv 2) (pa_cons (pv 3) pa_nil)))) (nomark _)))))))
(pss_one (ps_ret pe_bl))
pss_nil)
(pss_one (ps_if (PW.pt (pw_and (pt_val (pv 10)) (pw_and1 (pt_cmpR (op_eqDK (K := K) rfl hr.units) (pe_kd (ok__law_table T) (hr.mono (by decide)) (by rfl) (pa_cons (pv 2) pa_nil)) (pe_kd (ok__law_table T) (hr.mono (by decide)) (by rfl) (pa_cons (pv 3) pa_nil)) (nomark _)))))
(pss_one (ps_ret pe_bl))
pss_nil))))))))))
(pss_one (ps_ret pe_bl))))))))), ?_⟩
    refine st_lit (σ' := [some (V.ref a), none, none, none, none, none, none, none, none, none, none]) rfl ?_
    walk_at "y"
    refine x_seq ?_
    walk_at "y"
    refine ⟨a, ns, 0, rfl, hS, fun z0 => ?_⟩
    walk_at "y"
    refine ⟨z0, rfl, fun p H1 n1 s1 e1 => ?_⟩
    walk_at "y"
    refine x_seq ?_
    walk_at "y"
    refine ⟨p, 8, rfl, e1, by omega, fun b u H2 n2 s2 e2 hu hwu => ?_⟩
    have s12 := s1.trans s2
    have nb := fresh_of s1 n2
    walk_at "y"
    refine x_seq ?_
    walk_at "y"
    refine ⟨a, ns, 1, rfl, s12.seq hS, fun z1 => ?_⟩
    walk_at "y"
    refine ⟨z1, rfl, fun p3 H3 n3 s3 e3 => ?_⟩
    walk_at "y"
    refine ⟨p3, b, u, rfl, e3, e2.mono s3, by omega, fun c v H4 n4 s4 e4 hv => ?_⟩
    have s14 := (s12.trans s3).trans s4
    have nc := fresh_of (s12.trans s3) n4
    have e2' := (e2.mono s3).mono s4
    have hvl := hv.length_eq
    have hwv : Wd (B0 + 20) v := fun x hx => hwu x (hv.mem_iff.mp hx)
    have hbc : c ≠ b := (ne_of_none (e2.mono s3) n4).symm
    have p4 : Strm H4 p := s4 _ _ (s3 _ _ (s2 _ _ e1))
    have np := n1
    clear e3 n3 n4 s3 s4 e2 n2 s2
    walk_at "y"
    refine x_cut (fun σ' H' => ∃ (c : Addr) (v : List Int) (v4 v5 : Option V), σ' = [some (.ref a), some (.ref p), some (.ref b), some (.ref c), v4, v5, none, none, none, none, none] ∧ Same H H' ∧ Strm H' p ∧ LiAt H' b u ∧ LiAt H' c v ∧ H c = none ∧ c ≠ b ∧ v.length ≤ 8) (fun X hX => ?_) ?_
    · walk_at "y"
      refine ⟨p, _, rfl, p4, by decide, by decide, fun y y0 y1 => ?_⟩
      walk_at "y"
      rw [dec_vint]
      refine x_ite (fun hk => ?_) (fun hk => ?_)
      · walk_at "y"
        refine x_seq ?_
        walk_at "y"
        refine x_listL e2' fun c5 H5 n5 s5 e5 => ?_
        have hb5 := s5 _ _ e2'
        walk_at "y"
        refine x_for (x_r1 ?_)
        walk_at "y"
        refine x_r1n (n := 12) (by omega) ?_
        rw [Int.toNat_natCast]
        refine for_rangeX (fun (_ : Nat) (σ' : L2.St) (H' : Hp) => ∃ (c : Addr) (v : List Int) (v4 v5 : Option V), σ' = [some (.ref a), some (.ref p), some (.ref b), some (.ref c), v4, v5, none, none, none, none, none] ∧ Same H H' ∧ Strm H' p ∧ LiAt H' b u ∧ LiAt H' c v ∧ H c = none ∧ c ≠ b ∧ v.length ≤ 8) ⟨c5, u, none, none, rfl, s14.trans s5, s5 _ _ p4, hb5, e5, fresh_of s14 n5, (ne_of_none e2' n5).symm, by omega⟩ (fun σ' H' h => ?_) ?_
        · exact hX σ' H' h
        rintro i σ' H6 hi ⟨c, v, v4, v5, rfl, s6, p6, b6, c6, nc, ncb, hvl⟩
        walk_at "y"
        refine x_seq ?_
        walk_at "y"
        refine ⟨c, v, rfl, c6, by omega, fun r H7 as n7 s7 e7 hz hM => ?_⟩
        walk_at "y"
        rw [refs_len]
        refine x_ite (fun hz2 => ?_) (fun hz2 => ?_)
        · walk_at "y"
          rw [refs_len]
          refine ⟨p, _, rfl, s7 _ _ p6, by omega, by omega, fun y y0 y1 => ?_⟩
          obtain ⟨w, hw, ew⟩ := atI_memV (xs := refs as) y0 (by rw [refs_len]; exact y1)
          obtain ⟨m, hm, rfl⟩ := List.mem_map.mp hw
          refine x_ixL e7 ew ?_
          walk_at "y"
          refine ⟨c, m, v, rfl, c6.mono s7, hM m hm, by omega, fun r8 l8 H8 n8 s8 e8 hl8 _ => ?_⟩
          walk_at "y"
          exact ⟨r8, l8, _, _, rfl, (s6.trans s7).trans s8, s8 _ _ (s7 _ _ p6), (b6.mono s7).mono s8, e8, fresh_of (s6.trans s7) n8, (ne_of_none (b6.mono s7) n8).symm, by omega⟩
        · walk_at "y"
          exact ⟨c, v, _, _, rfl, s6.trans s7, s7 _ _ p6, b6.mono s7, c6.mono s7, nc, ncb, hvl⟩
      · walk_at "y"
        exact hX _ _ ⟨c, v, none, none, rfl, s14, p4, e2', (by assumption), nc, hbc, by omega⟩
    clear p4 e2' s14 nc hbc hvl hwv hv e4 nb s12 H4 H3 H2 v c
    rintro σ' H2 ⟨c, v, v4, v5, rfl, s2, p2, b2, c2, nc, ncb, hvl⟩
    walk_at "y"
    refine x_cut (fun σ' H' => ∃ (c : Addr) (v : List Int) (v4 v5 : Option V), σ' = [some (.ref a), some (.ref p), some (.ref b), some (.ref c), v4, v5, none, none, none, none, none] ∧ Same H H' ∧ Strm H' p ∧ LiAt H' b u ∧ LiAt H' c v ∧ H c = none ∧ c ≠ b ∧ v.length ≤ 8) (fun X hX => ?_) ?_
    · have c2' : H2 c = some (.lst (v.map V.int)) := c2
      walk_at "y"
      refine ⟨p, _, rfl, p2, by decide, by decide, fun y y0 y1 => ?_⟩
      walk_at "y"
      rw [dec_vint]
      refine x_ite (fun hk => ?_) (fun hk => ?_)
      · walk_at "y"
        rw [ints_len]
        refine x_ite (fun hz => ?_) (fun hz => ?_)
        · have hv0 : 0 < v.length := by omega
          walk_at "y"
          refine x_ixL c2' (atI_ints (i := 0) (List.getElem?_eq_getElem hv0)) ?_
          walk_at "y"
          refine x_setL (j := 0) c2' (show ixN _ ((0 : Nat) : Int) = some 0 by rw [ints_len]; exact ixN_nat hv0) ?_
          rw [← List.map_set]
          walk_at "y"
          have npc : p ≠ c := fun z => by
            subst z
            rw [p2] at c2'
            cases c2'
          refine hX _ _ ⟨c, v.set 0 (v[0] + 1), _, _, rfl, same_mut s2 nc, ?_, ?_, upd_same, nc, ncb, by rw [List.length_set]; exact hvl⟩
          · show upd _ _ _ _ = _
            rw [upd_ne npc]
            exact p2
          · show upd _ _ _ _ = _
            rw [upd_ne ncb.symm]
            exact b2
        · walk_at "y"
          exact hX _ _ ⟨c, v, _, _, rfl, s2, p2, b2, c2, nc, ncb, hvl⟩
      · walk_at "y"
        exact hX _ _ ⟨c, v, _, _, rfl, s2, p2, b2, c2, nc, ncb, hvl⟩
    clear v4 v5 s2 p2 b2 c2 nc ncb hvl v c H2
    rintro σ' H2 ⟨c, v, v4, v5, rfl, s2, p2, b2, c2, nc, ncb, hvl⟩
    walk_at "y"
    refine x_cut (fun σ' H' => ∃ (c : Addr) (v : List Int) (v4 v5 : Option V), σ' = [some (.ref a), some (.ref p), some (.ref b), some (.ref c), v4, v5, none, none, none, none, none] ∧ Same H H' ∧ Strm H' p ∧ LiAt H' b u ∧ LiAt H' c v ∧ H c = none ∧ c ≠ b ∧ v.length ≤ 9) (fun X hX => ?_) ?_
    · walk_at "y"
      refine ⟨p, _, rfl, p2, by decide, by decide, fun y y0 y1 => ?_⟩
      walk_at "y"
      rw [dec_vint]
      refine x_ite (fun hk => ?_) (fun hk => ?_)
      · walk_at "y"
        refine ⟨p, c, v, rfl, p2, c2, by omega, fun r l3 H3 n3 s3 e3 hl3 _ => ?_⟩
        walk_at "y"
        exact hX _ _ ⟨r, l3, _, _, rfl, s2.trans s3, s3 _ _ p2, b2.mono s3, e3, fresh_of s2 n3, (ne_of_none b2 n3).symm, by omega⟩
      · walk_at "y"
        exact hX _ _ ⟨c, v, _, _, rfl, s2, p2, b2, c2, nc, ncb, by omega⟩
    clear v4 v5 s2 p2 b2 c2 nc ncb hvl v c H2
    rintro σ' H2 ⟨c, v, v4, v5, rfl, s2, p2, b2, c2, nc, ncb, hvl⟩
    walk_at "y"
    have sn : Same (fun _ => none : Hp) H2 := fun q o e => by cases e
    refine x_seq ?_
    refine x_for (x_r1 ?_)
    walk_at "y"
    refine x_r1n (n := 3) (by omega) ?_
    rw [Int.toNat_natCast]
    refine for_rangeX (fun (_ : Nat) (σ' : L2.St) (H' : Hp) => ∃ (v4 v5 v6 v7 v8 v9 v10 : Option V), σ' = [some (.ref a), some (.ref p), some (.ref b), some (.ref c), v4, v5, v6, v7, v8, v9, v10] ∧ Same H2 H') ⟨v4, v5, none, none, none, none, none, rfl, Same.refl _⟩ (fun σ' H' h => ?_) ?_
    · obtain ⟨_, _, _, _, _, _, _, rfl, _⟩ := h
      walk_at "x"
      exact q H'
    rintro i σ' H3 hi ⟨v4, v5, v6, v7, v8, v9, v10, rfl, s3⟩
    rw [Int.zero_add]
    walk_at "y"
    refine x_seq ?_
    walk_at "y"
    rw [show ((i : Int) + 2) = ((i + 2 : Nat) : Int) by omega]
    refine ⟨a, ns, i + 2, rfl, (s2.trans s3).seq hS, fun z => ?_⟩
    walk_at "y"
    refine ⟨z, rfl, fun p4 H4 n4 s4 e4 => ?_⟩
    walk_at "y"
    have s34 := s3.trans s4
    refine ⟨fun _ => none, p4, b, c, u, v, rfl, fun q o e => (by cases e), e4, b2.mono s34, c2.mono s34, by omega, by omega, hwu.le (by decide), fun t S5 H5 n g5 a5 bd => ?_⟩
    have a5' := a5.mono g5.sh
    have s5 := s34.trans g5.hh
    clear a5 g5 S5 e4 n4 s34 s4 s3
    walk_at "y"
    refine x_cut (fun σ' H' => ∃ (t : Addr) (n : Note), σ' = [some (.ref a), some (.ref p), some (.ref b), some (.ref c), some (.int i), v5, some (.ref t), v7, v8, v9, v10] ∧ Same H2 H' ∧ n.at_ H' t ∧ n.bd) (fun X hX => ?_) ?_
    · cases n with
      | content =>
        have e5 : H5 t = some (.tup [.str "content"]) := a5'
        walk_at "y"
        rw [decide_eq_false (show ¬ V.str "content" = V.str "cover" by decide +kernel)]
        walk_at "y"
        exact hX _ _ ⟨t, .content, rfl, s5, a5', bd⟩
      | cover g fam ris fal sw =>
        obtain ⟨f, pp, r, fl, e1, e2, e3, e4, e5⟩ := id a5'
        walk_at "y"
        rw [decide_eq_true rfl]
        walk_at "y"
        refine ⟨p, _, rfl, s5 _ _ p2, by decide, by decide, fun y y0 y1 => ?_⟩
        walk_at "y"
        rw [dec_vint]
        refine x_ite (fun hk => ?_) (fun hk => ?_)
        · walk_at "y"
          refine x_rI ⟨by decide, by decide, by decide⟩ ?_
          walk_at "y"
          refine x_rI ⟨by decide, by decide, by decide⟩ ?_
          walk_at "y"
          refine ⟨by show 2 ≤ sizeLine; decide, fun c6 H6 n6 s6 e6 => ?_⟩
          walk_at "y"
          refine ⟨p, _, rfl, s6 _ _ (s5 _ _ p2), by decide, by decide, fun y y0 y1 => ?_⟩
          obtain ⟨g', hg', eg⟩ := atI_mem (l := [10 ^ (30 : Int).toNat, 0 - 10 ^ (30 : Int).toNat]) y0 y1
          refine x_ixL e6 eg ?_
          have hgb : g'.natAbs ≤ 10 ^ 33 := by
            rcases List.mem_cons.mp hg' with z | z
            · rw [z]; decide
            · rw [List.mem_singleton.mp z]; decide
          walk_at "y"
          refine ⟨by show 2 ≤ sizeLine; decide, fun c7 H7 n7 s7 e7 => ?_⟩
          have s57 := s6.trans s7
          walk_at "y"
          refine x_slS (Same.refl H7) (s57 _ _ e1) fun l8 S8 H8 g8 e8 => ?_
          rw [show (some (2 : Int)) = some ((2 : Nat) : Int) from rfl, cutV_drop] at e8
          refine x_catS g8.sh (g8.ss _ _ e7) e8 (small (by show 2 + 3 ≤ 100000; omega)) fun t9 S9 H9 g9 e9 => ?_
          walk_at "y"
          have s59 := (s57.trans g8.hh).trans g9.hh
          exact hX _ _ ⟨t9, .cover g' fam ris fal sw, rfl, s5.trans s59, ⟨f, pp, r, fl, g9.sh _ _ e9, s59 _ _ e2, e3.mono s59, e4.mono s59, e5.mono s59⟩, ⟨hgb, bd.2⟩⟩
        · walk_at "y"
          exact hX _ _ ⟨t, .cover g fam ris fal sw, rfl, s5, a5', bd⟩
    clear a5' s5 bd n t H5
    rintro σ' H5 ⟨t, n, rfl, s5, at5, bd⟩
    have sm : n.small := by
      cases n with
      | content => trivial
      | cover g fam ris fal sw => exact ⟨bd.2.1.sm (by omega), bd.2.2.1.sm (by omega), bd.2.2.2.sm (by omega)⟩
    walk_at "y"
    refine x_seq ?_
    walk_at "y"
    refine ⟨b, c, t, u, v, n, rfl, b2.mono s5, c2.mono s5, at5, by omega, by omega, sm, fun d1 H6 i1 s6 => ?_⟩
    walk_at "y"
    refine x_seq ?_
    walk_at "y"
    refine x_repr (at5.mono s6) bd ?_
    have s26 := s5.trans s6
    have hb6 : H6 b = some (.lst (u.map V.int)) := b2.mono s26
    have hc6 : H6 c = some (.lst (v.map V.int)) := c2.mono s26
    walk_at "y"
    refine x_seq ?_
    walk_at "y"
    refine x_listL hb6 fun l7 H7 n7 s7 e7 => ?_
    walk_at "y"
    refine x_listL (s7 _ _ hc6) fun l8 H8 n8 s8 e8 => ?_
    walk_at "y"
    refine ⟨by show 2 ≤ sizeLine; decide, fun th H9 n9 s9 e9 => ?_⟩
    have e7' : LiAt H9 l7 u := s9 _ _ (s8 _ _ e7)
    have e8' : LiAt H9 l8 v := s9 _ _ e8
    have s69 := (s7.trans s8).trans s9
    have at9 := (at5.mono s6).mono s69
    walk_at "y"
    refine x_seq ?_
    walk_at "y"
    refine ⟨l7, l8, t, u, v, n, rfl, e7', e8', at9, by omega, by omega, sm, fun d2 H10 i2 s10 => ?_⟩
    have ed : d2 = d1 := Bool.eq_iff_iff.mpr (i2.trans i1.symm)
    subst ed
    have at10 := at9.mono s10
    have e10 := s10 _ _ e9
    have s20 := (s26.trans s69).trans s10
    walk_at "y"
    refine x_seq ?_
    walk_at "y"
    refine x_isi (a := "bool") (r := true) (.base (.bl d2)) (kit_ty (by decide +kernel)) ?_
    walk_at "y"
    rw [decide_eq_true rfl]
    walk_at "y"
    refine x_repr at10 bd ?_
    walk_at "y"
    rw [decide_eq_true rfl]
    walk_at "y"
    refine ⟨by show 2 ≤ sizeLine; decide, fun tq H11 n11 s11 e11 => ?_⟩
    have hb11 : LiAt H11 b u := (b2.mono s20).mono s11
    have hc11 : LiAt H11 c v := (c2.mono s20).mono s11
    have s21 := s20.trans s11
    refine ⟨_, _, .tup (SqT.of (s11 _ _ e10)) (.cons ((e7'.mono s10).mono s11).dp (.cons ((e8'.mono s10).mono s11).dp .nil)), .tup (SqT.of e11) (.cons hb11.dp (.cons hc11.dp .nil)), shaped_two u v, shaped_two u v, ?_⟩
    rw [eqv_two]
    walk_at "y"
    cases d2 with
    | false =>
      walk_at "y"
      exact ⟨_, _, _, _, _, _, _, rfl, s21⟩
    | true =>
      walk_at "y"
      refine ⟨H11, b, u, rfl, Same.refl _, hb11, by omega, fun t1 S12 H12 g12 T12 => ?_⟩
      walk_at "y"
      refine ⟨S12, c, v, rfl, g12.sh, hc11.mono g12.ss, by omega, fun t2 S13 H13 g13 T13 => ?_⟩
      refine ⟨_, _, ((T12.mono g13.ss).mono g13.sh).dp, (T13.mono g13.sh).dp, shaped_tab _, shaped_tab _, ?_⟩
      rw [eqv_tab, decide_eq_false (fun e => Note.parts (i1.mp rfl) e)]
      walk_at "y"
      exact ⟨_, _, _, _, _, _, _, rfl, (s21.trans g12.hh).trans g13.hh⟩
end
section
/-! ### the head -/
/-- the call of the law, by a promise that may lean on this: no guard is set -/
theorem call_lawG {P : Program} {w : World} {K : PySem.W.Frag} {mg mb : Str → Option Value} {k : Nat} {fa a : Addr} {fd : FuncData} {x : Str} {sp : Sp} {sh : Shared} {us : List Value} {ns : List Int}
    (inK : K.In sh.heap) (nsM : sh.heap.Ns mainGlobals mg) (nsB : sh.heap.Ns builtinsNs mb) (bt : ∀ y : Str, y ≠ "__name__" → mb y = bootBuiltins y) (noL : sh.heap.NoLimit) (noG : sh.gens = #[])
    (ob : sh.heap.get? a = some { cls := .type "list", data := .seq us.toArray }) (nums : IntsAre us ns) (lim : ns.length ≤ sizeLine) (room : Room k callerA)
    (F : ∀ base : Heap, K.In base → base.Ns mainGlobals mg → FnG P w K mg base k fa fd [x] sp) (bnd : ∀ (s : Shared) (u : Value), BindsTo s fd ⟨[u], []⟩ [(x, u)])
    (pre : ∀ H : Hp, SqL K H a (ns.map V.int) → sp [.ref a] H (fun v _ => v = .bl true) fun _ _ _ => False) :
    codeAny (model P w) callerA (.call (.ref fa) ⟨[.ref a], []⟩) (fun r t => r = .ok (.ret (.bool true)) ∧ OldK sh.heap t.heap ∧ t.os = sh.os ∧ AllBare t.gens) sh := by
  have vals := vals_ints nums
  have len := nums.length
  have main : ∀ H : Hp, Only H → SqL K H a (ns.map V.int) → HOk P w H sh.heap → (∀ c, H c ≠ none → c = a) → (H a ≠ none → K.lookup a = none) →
      codeAny (model P w) callerA (.call (.ref fa) ⟨[.ref a], []⟩) (fun r t => r = .ok (.ret (.bool true)) ∧ OldK sh.heap t.heap ∧ t.os = sh.os ∧ AllBare t.gens) sh := by
    intro H only sq hok own notK
    have free : ∀ {c : Addr}, c ≠ a → H c = none := fun {c} ne => Classical.byContradiction fun z => ne (own c z)
    have keepD : ∀ {c : Addr} {o : Obj} {es : Array DictEntry} {ep : Nat}, sh.heap.get? c = some o → o.data = .dict es ep → (hidT sh.heap H).get? c = some o := fun {c o es ep} e d => by
      refine hidT_get e (free fun z => ?_)
      subst z
      rw [ob] at e
      cases e
      have d2 : Data.seq us.toArray _ = Data.dict es ep := d
      cases d2
    have nsH : ∀ {c : Addr} {m : Str → Option Value}, sh.heap.Ns c m → (hidT sh.heap H).Ns c m := by
      rintro c m ⟨o, es, ep, e, d, r⟩
      exact ⟨o, es, ep, keepD e d, d, r⟩
    have inH : K.In (hidT sh.heap H) := fun c o e => hidT_get (inK c o e) (Classical.byContradiction fun z => by
      have ec := own c z
      subst ec
      rw [notK z] at e
      cases e)
    obtain ⟨mc, l1, l2⟩ := noL
    have md : Mod K mg (hidT sh.heap H) := ⟨inH, nsH nsM, ⟨mb, nsH nsB, bt⟩, ⟨mc, nsH l1, l2⟩⟩
    have env : Env0 P w K mg (hidT sh.heap H) callerA [] sh H := ⟨rfl, md, fun _ _ e => of_hidT e, Nat.le_of_eq (hidT_size _ _), trivial, fun c hc => absurd (show c ∈ ([] : List Addr) from hc) (by simp), hok, .of_eq noG⟩
    refine codeAny_mono ((F _ inH (nsH nsM)).go callerA [] sh H ⟨[.ref a], []⟩ [.ref a] [.ref a] _ _ rfl room env (bnd sh (.ref a)) (.cons rfl .nil) (pre H sq)) fun r t z => ?_
    match r, z with
    | .error _, z => exact (show False from z).elim
    | .ok .next, z => exact (show False from z).elim
    | .ok .brk, z => exact (show False from z).elim
    | .ok .cont, z => exact (show False from z).elim
    | .ok (.ret res), z =>
      obtain ⟨v, H2, os, bare, un, hok2, rr, isT⟩ := z
      have isT' : v = .bl true := isT
      subst isT'
      obtain rfl : res = Value.bool true := rr
      refine ⟨rfl, OldK.of_keep fun c o e => ?_, os, bare⟩
      rcases only c with no | ⟨ob2, xs, fz⟩
      · exact un.keep c o e no (by intro hm; exact absurd (show c ∈ ([] : List Addr) from hm) (by simp)) (by simp)
      · obtain ⟨g1, _⟩ := hok c _ fz
        obtain ⟨g2, _⟩ := hok2 c _ (un.frzs c ob2 _ fz)
        rw [e] at g1
        cases g1
        exact g2
  cases at_ : K.lookup a with
  | some o =>
    have e := inK a o at_
    rw [ob] at e
    cases e
    exact main (fun _ => none) (fun _ => .inl rfl) (.inr ⟨_, us.toArray, _, at_, rfl, rfl, rfl, by rw [List.size_toArray, len]; exact lim, by simpa using vals⟩) (fun c u z => nomatch (show (none : Option HO) = some u from z)) (fun c z => absurd rfl z) fun z => absurd rfl z
  | none =>
    have here : (fun c => if c = a then some (HO.frz { cls := .type "list", data := .seq us.toArray } (.lst (ns.map V.int))) else none : Hp) a = some (HO.frz { cls := .type "list", data := .seq us.toArray } (.lst (ns.map V.int))) := if_pos rfl
    refine main (fun c => if c = a then some (.frz { cls := .type "list", data := .seq us.toArray } (.lst (ns.map V.int))) else none) (fun c => ?_) (.inl (.inr ⟨_, here⟩)) (fun c u z => ?_) (fun c z => ?_) fun _ => at_
    · by_cases ec : c = a
      · exact .inr ⟨_, _, if_pos ec⟩
      · exact .inl (if_neg ec)
    · by_cases ec : c = a
      · have z2 := (if_pos ec).symm.trans z
        cases z2
        subst ec
        exact ⟨ob, by rw [List.length_map]; exact lim, us, _, vals, ob⟩
      · nomatch (if_neg ec).symm.trans z
    · by_cases ec : c = a
      · exact ec
      · exact absurd (if_neg ec) z
theorem walkG {l : PySem.W.OpenLaw} {q : Program} {loose : List Str} {XP : (Str → Option Value) → Heap → Prop} {YP : World → Heap → Prop} {d : DefRec} {K : Params → PySem.W.Frag} (hn : l.most = some 63) (hdf : d.params.defaults = [])
    (hY : ∀ (w : World) (h : Heap), YP w h → (K w.params).In h)
    (F : ∀ (w : World) (mg : Str → Option Value) (fa : Addr) (h : Heap), (K w.params).In h → h.Ns mainGlobals mg → mg d.name = some (.ref fa) →
      ∃ fd : FuncData, (∀ (s : Shared) (u : Value), BindsTo s fd ⟨[u], []⟩ [("_law_script", u)]) ∧ ∀ base : Heap, (K w.params).In base → base.Ns mainGlobals mg → FnG l.prog w (K w.params) mg base 20 fa fd ["_law_script"] (spLaw (K w.params))) :
    PySem.W.WalkO q loose XP YP l.row.toRowW d [] (fun f vs => PySem.call f vs) := by
  refine Att.attach_call hn hdf fun w s0 sh mg mb fa o pm cd doc a us ns Gr Y ho hd hcd hmg ob nums len noG => ?_
  have inK := hY w _ Y
  obtain ⟨fd, bnd, F2⟩ := F w mg fa _ inK Gr.T.g hmg
  exact call_lawG inK Gr.T.g Gr.T.b Gr.T.builtins Gr.T.nolimit noG ob nums (Nat.le_trans len (by decide)) ⟨rfl, by decide, by decide⟩ F2 bnd fun H sq => ⟨a, ns, rfl, sq, fun _ => rfl⟩
/-- a def of the text in the written part -/
structure At (K : PySem.W.Frag) (x : Str) (st : Stmt) : Prop where
  ex : ∃ (f : Addr) (oc : Value) (od : Option Addr) (kV doc pm : Value) (an : Option Addr) (cdv ct : Value) (osl : Array (Option Value)), PySem.W.nsIn K mainGlobals x = some (some (.ref f)) ∧ K.lookup f = some ⟨oc, od, .func (PySem.W.fnOf x x (defArgs st) (defBody st) (defScope st) .none kV doc pm an cdv ct), osl⟩ ∧
    PySem.W.codeIn K cdv x = true ∧ PySem.W.keepIn K (.ref f) = true
theorem At.df {K : PySem.W.Frag} {x : Str} {st : Stmt} {ps : List Str} {h : Heap} {mg : Str → Option Value} (D : At K x st) (inK : K.In h) (G : h.Ns mainGlobals mg)
    (b : ∀ (kV doc pm : Value) (an : Option Addr) (cdv ct : Value) (us : List Value), us.length = ps.length → bindArgs (PySem.W.fnOf x x (defArgs st) (defBody st) (defScope st) .none kV doc pm an cdv ct) ⟨us, []⟩ = pure (ps.zip us)) : Df K mg x st ps := by
  obtain ⟨f, oc, od, kV, doc, pm, an, cdv, ct, osl, a1, a2, a3, a4⟩ := D.ex
  have F := fun_mk (st := st) a2 a3 a4
  exact ⟨f, _, F, PySem.W.mg_of inK G a1, F.binds b⟩
end
section
/-! ### all that the top has left -/
theorem at_mk {K : PySem.W.Frag} {x : Str} {st : Stmt} {f : Addr} {oc : Value} {od : Option Addr} {kV doc pm : Value} {an : Option Addr} {cdv ct : Value} {osl : Array (Option Value)} (a : PySem.W.nsIn K mainGlobals x = some (some (.ref f)))
    (l : K.lookup f = some ⟨oc, od, .func (PySem.W.fnOf x x (defArgs st) (defBody st) (defScope st) .none kV doc pm an cdv ct), osl⟩) (c : PySem.W.codeIn K cdv x = true) (k : PySem.W.keepIn K (.ref f) = true) : At K x st := ⟨⟨f, oc, od, kV, doc, pm, an, cdv, ct, osl, a, l, c, k⟩⟩
theorem all_mk {P : Program} {w : World} {K : PySem.W.Frag} {h : Heap} {mg : Str → Option Value} {fa : Addr} (X : K.In h) (G : h.Ns mainGlobals mg) (hfa : mg "law" = some (.ref fa)) (L : At K "law" s_law)
    (D0 : At K "place_of" s_place_of)
    (D1 : At K "list_with" s_list_with)
    (D2 : At K "exchanged" s_exchanged)
    (D3 : At K "tail_from" s_tail_from)
    (D4 : At K "head_before" s_head_before)
    (D5 : At K "carried" s_carried)
    (D6 : At K "shape_of" s_shape_of)
    (D7 : At K "row_length" s_row_length)
    (D8 : At K "with_letter" s_with_letter)
    (D9 : At K "first_greater" s_first_greater)
    (D10 : At K "insert_into_row" s_insert_into_row)
    (D11 : At K "insert_by_rows" s_insert_by_rows)
    (D12 : At K "pair_of" s_pair_of)
    (D13 : At K "table_of" s_table_of)
    (D14 : At K "insertion_moves" s_insertion_moves)
    (D15 : At K "path_to_table" s_path_to_table)
    (D16 : At K "check_count" s_check_count)
    (D17 : At K "rises" s_rises)
    (D18 : At K "row_lists" s_row_lists)
    (D19 : At K "column_lists" s_column_lists)
    (D20 : At K "paper" s_paper)
    (D21 : At K "rising_paper" s_rising_paper)
    (D22 : At K "is_index_family" s_is_index_family)
    (D23 : At K "is_rising_family" s_is_rising_family)
    (D24 : At K "is_falling_family" s_is_falling_family)
    (D25 : At K "cover" s_cover)
    (D26 : At K "judge" s_judge)
    (D27 : At K "letters_up_to" s_letters_up_to)
    (D28 : At K "judge_note" s_judge_note)
    (D29 : At K "_law_cell" s__law_cell)
    (D30 : At K "_law_stream" s__law_stream)
    (D31 : At K "_law_next" s__law_next)
    (D32 : At K "_law_is_integer" s__law_is_integer)
    (D33 : At K "_law_word" s__law_word)
    (D34 : At K "_law_insert" s__law_insert)
    (D35 : At K "_law_table" s__law_table)
    (D36 : At K "_law_is_allowed" s__law_is_allowed)
    (D37 : At K "_law_allowed" s__law_allowed)
    (D38 : At K "_law_moved" s__law_moved)
    (D39 : At K "_law_is_family" s__law_is_family)
    (D40 : At K "_law_cover" s__law_cover)
    (D41 : At K "_law_drawn_family" s__law_drawn_family)
    (D42 : At K "_law_is_note" s__law_is_note)
    (D43 : At K "_law_order" s__law_order)
    (D44 : At K "_law_spoilt" s__law_spoilt)
    (D45 : At K "_law_longer" s__law_longer)
    (D46 : At K "_law_made" s__law_made)
    (B0 : PySem.W.nsIn K mainGlobals "len" = some none)
    (B1 : PySem.W.nsIn K mainGlobals "range" = some none)
    (B2 : PySem.W.nsIn K mainGlobals "sum" = some none)
    (B3 : PySem.W.nsIn K mainGlobals "sorted" = some none)
    (B4 : PySem.W.nsIn K mainGlobals "min" = some none)
    (B5 : PySem.W.nsIn K mainGlobals "max" = some none)
    (B6 : PySem.W.nsIn K mainGlobals "repr" = some none)
    (B7 : PySem.W.nsIn K mainGlobals "isinstance" = some none)
    (B8 : PySem.W.nsIn K mainGlobals "int" = some none)
    (B9 : PySem.W.nsIn K mainGlobals "bool" = some none)
    (B10 : PySem.W.nsIn K mainGlobals "list" = some none)
    (B11 : PySem.W.nsIn K mainGlobals "tuple" = some none) :
    ∃ fd : FuncData, (∀ (s : Shared) (u : Value), BindsTo s fd ⟨[u], []⟩ [("_law_script", u)]) ∧ ∀ base : Heap, K.In base → base.Ns mainGlobals mg → FnG P w K mg base 20 fa fd ["_law_script"] (spLaw K) := by
  have T : Txt K mg := {
    d_place_of := D0.df X G fun _ _ _ _ _ _ us hl => match us, hl with | [_], _ => rfl
    d_list_with := D1.df X G fun _ _ _ _ _ _ us hl => match us, hl with | [_, _], _ => rfl
    d_exchanged := D2.df X G fun _ _ _ _ _ _ us hl => match us, hl with | [_, _], _ => rfl
    d_tail_from := D3.df X G fun _ _ _ _ _ _ us hl => match us, hl with | [_, _], _ => rfl
    d_head_before := D4.df X G fun _ _ _ _ _ _ us hl => match us, hl with | [_, _], _ => rfl
    d_carried := D5.df X G fun _ _ _ _ _ _ us hl => match us, hl with | [_, _], _ => rfl
    d_shape_of := D6.df X G fun _ _ _ _ _ _ us hl => match us, hl with | [_], _ => rfl
    d_row_length := D7.df X G fun _ _ _ _ _ _ us hl => match us, hl with | [_, _], _ => rfl
    d_with_letter := D8.df X G fun _ _ _ _ _ _ us hl => match us, hl with | [_, _, _], _ => rfl
    d_first_greater := D9.df X G fun _ _ _ _ _ _ us hl => match us, hl with | [_, _], _ => rfl
    d_insert_into_row := D10.df X G fun _ _ _ _ _ _ us hl => match us, hl with | [_, _], _ => rfl
    d_insert_by_rows := D11.df X G fun _ _ _ _ _ _ us hl => match us, hl with | [_, _], _ => rfl
    d_pair_of := D12.df X G fun _ _ _ _ _ _ us hl => match us, hl with | [_], _ => rfl
    d_table_of := D13.df X G fun _ _ _ _ _ _ us hl => match us, hl with | [_], _ => rfl
    d_insertion_moves := D14.df X G fun _ _ _ _ _ _ us hl => match us, hl with | [_, _, _], _ => rfl
    d_path_to_table := D15.df X G fun _ _ _ _ _ _ us hl => match us, hl with | [_], _ => rfl
    d_check_count := D16.df X G fun _ _ _ _ _ _ us hl => match us, hl with | [_], _ => rfl
    d_rises := D17.df X G fun _ _ _ _ _ _ us hl => match us, hl with | [_], _ => rfl
    d_row_lists := D18.df X G fun _ _ _ _ _ _ us hl => match us, hl with | [_, _], _ => rfl
    d_column_lists := D19.df X G fun _ _ _ _ _ _ us hl => match us, hl with | [_, _], _ => rfl
    d_paper := D20.df X G fun _ _ _ _ _ _ us hl => match us, hl with | [_, _, _], _ => rfl
    d_rising_paper := D21.df X G fun _ _ _ _ _ _ us hl => match us, hl with | [_, _], _ => rfl
    d_is_index_family := D22.df X G fun _ _ _ _ _ _ us hl => match us, hl with | [_, _], _ => rfl
    d_is_rising_family := D23.df X G fun _ _ _ _ _ _ us hl => match us, hl with | [_, _], _ => rfl
    d_is_falling_family := D24.df X G fun _ _ _ _ _ _ us hl => match us, hl with | [_, _], _ => rfl
    d_cover := D25.df X G fun _ _ _ _ _ _ us hl => match us, hl with | [_], _ => rfl
    d_judge := D26.df X G fun _ _ _ _ _ _ us hl => match us, hl with | [_, _, _], _ => rfl
    d_letters_up_to := D27.df X G fun _ _ _ _ _ _ us hl => match us, hl with | [_, _], _ => rfl
    d_judge_note := D28.df X G fun _ _ _ _ _ _ us hl => match us, hl with | [_, _, _], _ => rfl
    d__law_cell := D29.df X G fun _ _ _ _ _ _ us hl => match us, hl with | [_, _], _ => rfl
    d__law_stream := D30.df X G fun _ _ _ _ _ _ us hl => match us, hl with | [_], _ => rfl
    d__law_next := D31.df X G fun _ _ _ _ _ _ us hl => match us, hl with | [_, _], _ => rfl
    d__law_is_integer := D32.df X G fun _ _ _ _ _ _ us hl => match us, hl with | [_], _ => rfl
    d__law_word := D33.df X G fun _ _ _ _ _ _ us hl => match us, hl with | [_, _], _ => rfl
    d__law_insert := D34.df X G fun _ _ _ _ _ _ us hl => match us, hl with | [_, _], _ => rfl
    d__law_table := D35.df X G fun _ _ _ _ _ _ us hl => match us, hl with | [_], _ => rfl
    d__law_is_allowed := D36.df X G fun _ _ _ _ _ _ us hl => match us, hl with | [_, _, _], _ => rfl
    d__law_allowed := D37.df X G fun _ _ _ _ _ _ us hl => match us, hl with | [_], _ => rfl
    d__law_moved := D38.df X G fun _ _ _ _ _ _ us hl => match us, hl with | [_, _], _ => rfl
    d__law_is_family := D39.df X G fun _ _ _ _ _ _ us hl => match us, hl with | [_, _, _], _ => rfl
    d__law_cover := D40.df X G fun _ _ _ _ _ _ us hl => match us, hl with | [_], _ => rfl
    d__law_drawn_family := D41.df X G fun _ _ _ _ _ _ us hl => match us, hl with | [_, _, _, _], _ => rfl
    d__law_is_note := D42.df X G fun _ _ _ _ _ _ us hl => match us, hl with | [_, _, _], _ => rfl
    d__law_order := D43.df X G fun _ _ _ _ _ _ us hl => match us, hl with | [_, _], _ => rfl
    d__law_spoilt := D44.df X G fun _ _ _ _ _ _ us hl => match us, hl with | [_, _, _], _ => rfl
    d__law_longer := D45.df X G fun _ _ _ _ _ _ us hl => match us, hl with | [_, _], _ => rfl
    d__law_made := D46.df X G fun _ _ _ _ _ _ us hl => match us, hl with | [_, _, _], _ => rfl
    n_len := PySem.W.mg_none_of X G B0
    n_range := PySem.W.mg_none_of X G B1
    n_sum := PySem.W.mg_none_of X G B2
    n_sorted := PySem.W.mg_none_of X G B3
    n_min := PySem.W.mg_none_of X G B4
    n_max := PySem.W.mg_none_of X G B5
    n_repr := PySem.W.mg_none_of X G B6
    n_isinstance := PySem.W.mg_none_of X G B7
    n_int := PySem.W.mg_none_of X G B8
    n_bool := PySem.W.mg_none_of X G B9
    n_list := PySem.W.mg_none_of X G B10
    n_tuple := PySem.W.mg_none_of X G B11 }
  obtain ⟨f, oc, od, kV, doc, pm, an, cdv, ct, osl, a1, a2, a3, a4⟩ := L.ex
  have e := hfa.symm.trans (PySem.W.mg_of X G a1)
  cases e
  exact ⟨_, fun s v => .of_eq rfl, fun base _ _ => ok_law T (fun_mk (st := s_law) a2 a3 a4)⟩
end
end Kw

open PySem PySem.W PyProof.Rows
set_option maxHeartbeats 0 in
theorem PySem.Challenge.cw_coverpapers_k21_whole_notes_are_judged_holds : PySem.Challenge.rw_coverpapers_k21_whole_notes_are_judged.Holds := by
  w_on; o_law; k_head; (case hw => w_witness2)
  k_fill
  refine Kw.walkG (l := PySem.Challenge.rw_coverpapers_k21_whole_notes_are_judged) rfl rfl (fun w h Y => PySem.W.kIn_of Y) ?F
  case F =>
    intro w mg fa h KX G hmg
    refine' Kw.all_mk KX G hmg ?L ?D0 ?D1 ?D2 ?D3 ?D4 ?D5 ?D6 ?D7 ?D8 ?D9 ?D10 ?D11 ?D12 ?D13 ?D14 ?D15 ?D16 ?D17 ?D18 ?D19 ?D20 ?D21 ?D22 ?D23 ?D24 ?D25 ?D26 ?D27 ?D28 ?D29 ?D30 ?D31 ?D32 ?D33 ?D34 ?D35 ?D36 ?D37 ?D38 ?D39 ?D40 ?D41 ?D42 ?D43 ?D44 ?D45 ?D46 ?B0 ?B1 ?B2 ?B3 ?B4 ?B5 ?B6 ?B7 ?B8 ?B9 ?B10 ?B11
    (case L => refine' Kw.at_mk ?a ?l ?c ?k; (case a => k_is); (case l => k_is); (case c => k_is); (case k => k_is))
    (case D0 => refine' Kw.at_mk ?a ?l ?c ?k; (case a => k_is); (case l => k_is); (case c => k_is); (case k => k_is))
    (case D1 => refine' Kw.at_mk ?a ?l ?c ?k; (case a => k_is); (case l => k_is); (case c => k_is); (case k => k_is))
    (case D2 => refine' Kw.at_mk ?a ?l ?c ?k; (case a => k_is); (case l => k_is); (case c => k_is); (case k => k_is))
    (case D3 => refine' Kw.at_mk ?a ?l ?c ?k; (case a => k_is); (case l => k_is); (case c => k_is); (case k => k_is))
    (case D4 => refine' Kw.at_mk ?a ?l ?c ?k; (case a => k_is); (case l => k_is); (case c => k_is); (case k => k_is))
    (case D5 => refine' Kw.at_mk ?a ?l ?c ?k; (case a => k_is); (case l => k_is); (case c => k_is); (case k => k_is))
    (case D6 => refine' Kw.at_mk ?a ?l ?c ?k; (case a => k_is); (case l => k_is); (case c => k_is); (case k => k_is))
    (case D7 => refine' Kw.at_mk ?a ?l ?c ?k; (case a => k_is); (case l => k_is); (case c => k_is); (case k => k_is))
    (case D8 => refine' Kw.at_mk ?a ?l ?c ?k; (case a => k_is); (case l => k_is); (case c => k_is); (case k => k_is))
    (case D9 => refine' Kw.at_mk ?a ?l ?c ?k; (case a => k_is); (case l => k_is); (case c => k_is); (case k => k_is))
    (case D10 => refine' Kw.at_mk ?a ?l ?c ?k; (case a => k_is); (case l => k_is); (case c => k_is); (case k => k_is))
    (case D11 => refine' Kw.at_mk ?a ?l ?c ?k; (case a => k_is); (case l => k_is); (case c => k_is); (case k => k_is))
    (case D12 => refine' Kw.at_mk ?a ?l ?c ?k; (case a => k_is); (case l => k_is); (case c => k_is); (case k => k_is))
    (case D13 => refine' Kw.at_mk ?a ?l ?c ?k; (case a => k_is); (case l => k_is); (case c => k_is); (case k => k_is))
    (case D14 => refine' Kw.at_mk ?a ?l ?c ?k; (case a => k_is); (case l => k_is); (case c => k_is); (case k => k_is))
    (case D15 => refine' Kw.at_mk ?a ?l ?c ?k; (case a => k_is); (case l => k_is); (case c => k_is); (case k => k_is))
    (case D16 => refine' Kw.at_mk ?a ?l ?c ?k; (case a => k_is); (case l => k_is); (case c => k_is); (case k => k_is))
    (case D17 => refine' Kw.at_mk ?a ?l ?c ?k; (case a => k_is); (case l => k_is); (case c => k_is); (case k => k_is))
    (case D18 => refine' Kw.at_mk ?a ?l ?c ?k; (case a => k_is); (case l => k_is); (case c => k_is); (case k => k_is))
    (case D19 => refine' Kw.at_mk ?a ?l ?c ?k; (case a => k_is); (case l => k_is); (case c => k_is); (case k => k_is))
    (case D20 => refine' Kw.at_mk ?a ?l ?c ?k; (case a => k_is); (case l => k_is); (case c => k_is); (case k => k_is))
    (case D21 => refine' Kw.at_mk ?a ?l ?c ?k; (case a => k_is); (case l => k_is); (case c => k_is); (case k => k_is))
    (case D22 => refine' Kw.at_mk ?a ?l ?c ?k; (case a => k_is); (case l => k_is); (case c => k_is); (case k => k_is))
    (case D23 => refine' Kw.at_mk ?a ?l ?c ?k; (case a => k_is); (case l => k_is); (case c => k_is); (case k => k_is))
    (case D24 => refine' Kw.at_mk ?a ?l ?c ?k; (case a => k_is); (case l => k_is); (case c => k_is); (case k => k_is))
    (case D25 => refine' Kw.at_mk ?a ?l ?c ?k; (case a => k_is); (case l => k_is); (case c => k_is); (case k => k_is))
    (case D26 => refine' Kw.at_mk ?a ?l ?c ?k; (case a => k_is); (case l => k_is); (case c => k_is); (case k => k_is))
    (case D27 => refine' Kw.at_mk ?a ?l ?c ?k; (case a => k_is); (case l => k_is); (case c => k_is); (case k => k_is))
    (case D28 => refine' Kw.at_mk ?a ?l ?c ?k; (case a => k_is); (case l => k_is); (case c => k_is); (case k => k_is))
    (case D29 => refine' Kw.at_mk ?a ?l ?c ?k; (case a => k_is); (case l => k_is); (case c => k_is); (case k => k_is))
    (case D30 => refine' Kw.at_mk ?a ?l ?c ?k; (case a => k_is); (case l => k_is); (case c => k_is); (case k => k_is))
    (case D31 => refine' Kw.at_mk ?a ?l ?c ?k; (case a => k_is); (case l => k_is); (case c => k_is); (case k => k_is))
    (case D32 => refine' Kw.at_mk ?a ?l ?c ?k; (case a => k_is); (case l => k_is); (case c => k_is); (case k => k_is))
    (case D33 => refine' Kw.at_mk ?a ?l ?c ?k; (case a => k_is); (case l => k_is); (case c => k_is); (case k => k_is))
    (case D34 => refine' Kw.at_mk ?a ?l ?c ?k; (case a => k_is); (case l => k_is); (case c => k_is); (case k => k_is))
    (case D35 => refine' Kw.at_mk ?a ?l ?c ?k; (case a => k_is); (case l => k_is); (case c => k_is); (case k => k_is))
    (case D36 => refine' Kw.at_mk ?a ?l ?c ?k; (case a => k_is); (case l => k_is); (case c => k_is); (case k => k_is))
    (case D37 => refine' Kw.at_mk ?a ?l ?c ?k; (case a => k_is); (case l => k_is); (case c => k_is); (case k => k_is))
    (case D38 => refine' Kw.at_mk ?a ?l ?c ?k; (case a => k_is); (case l => k_is); (case c => k_is); (case k => k_is))
    (case D39 => refine' Kw.at_mk ?a ?l ?c ?k; (case a => k_is); (case l => k_is); (case c => k_is); (case k => k_is))
    (case D40 => refine' Kw.at_mk ?a ?l ?c ?k; (case a => k_is); (case l => k_is); (case c => k_is); (case k => k_is))
    (case D41 => refine' Kw.at_mk ?a ?l ?c ?k; (case a => k_is); (case l => k_is); (case c => k_is); (case k => k_is))
    (case D42 => refine' Kw.at_mk ?a ?l ?c ?k; (case a => k_is); (case l => k_is); (case c => k_is); (case k => k_is))
    (case D43 => refine' Kw.at_mk ?a ?l ?c ?k; (case a => k_is); (case l => k_is); (case c => k_is); (case k => k_is))
    (case D44 => refine' Kw.at_mk ?a ?l ?c ?k; (case a => k_is); (case l => k_is); (case c => k_is); (case k => k_is))
    (case D45 => refine' Kw.at_mk ?a ?l ?c ?k; (case a => k_is); (case l => k_is); (case c => k_is); (case k => k_is))
    (case D46 => refine' Kw.at_mk ?a ?l ?c ?k; (case a => k_is); (case l => k_is); (case c => k_is); (case k => k_is))
    (case B0 => k_is)
    (case B1 => k_is)
    (case B2 => k_is)
    (case B3 => k_is)
    (case B4 => k_is)
    (case B5 => k_is)
    (case B6 => k_is)
    (case B7 => k_is)
    (case B8 => k_is)
    (case B9 => k_is)
    (case B10 => k_is)
    (case B11 => k_is)
