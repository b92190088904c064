import PyProof.Rows.All
import Wide.All
import OpenK.AllK
import Wide.FinOn
import PyProof.EqAt
import PyProof.EqKinds
import PyProof.TupleCall
import Open.SpecLaws
import KE.OsGo
import PySem.Challenge.RW_lettercubes_s01_answers
import HandS.ForSpec
import HandS.ForMost
import HandS.TupAny
import HandS.Conv
import HandS.Zip
import HandS.SortInts
import HandS.More
import HandS.ExcInit
import HandS.ExcField
import PyFlatLaws
set_option Elab.async false
namespace Lc
/-! Counting, and the marriage theorem. -/
theorem cnt_split (p q : Nat → Bool) : ∀ U : List Nat, U.countP (fun c => p c || q c) = U.countP p + U.countP (fun c => !p c && q c)
  | [] => rfl
  | a :: U => by
    have ih := cnt_split p q U
    simp only [List.countP_cons, ih]
    cases p a <;> cases q a <;> simp <;> omega
theorem cnt_mono {p q : Nat → Bool} {U : List Nat} (h : ∀ c ∈ U, p c = true → q c = true) : U.countP p ≤ U.countP q := List.countP_mono_left h
theorem cnt_congr {p q : Nat → Bool} {U : List Nat} (h : ∀ c ∈ U, p c = q c) : U.countP p = U.countP q := by
  apply Nat.le_antisymm
  · exact cnt_mono fun c hc e => by rw [← h c hc]; exact e
  · exact cnt_mono fun c hc e => by rw [h c hc]; exact e
theorem cnt_filter (p q : Nat → Bool) (U : List Nat) : (U.filter p).countP q = U.countP (fun c => p c && q c) := by
  rw [List.countP_filter]
  exact cnt_congr fun c _ => Bool.and_comm _ _
/-- at most one item is a given one -/
theorem cnt_one (a : Nat) : ∀ {U : List Nat}, U.Nodup → U.countP (fun c => c == a) ≤ 1
  | [], _ => by simp
  | b :: U, h => by
    have hb := List.nodup_cons.mp h
    rw [List.countP_cons]
    by_cases e : b = a
    · subst e
      have : U.countP (fun c => c == b) = 0 := by
        rw [List.countP_eq_zero]
        intro c hc
        have : c ≠ b := fun z => hb.1 (z ▸ hc)
        simpa using this
      simp [this]
    · have := cnt_one a hb.2
      simp [e]
      exact this
theorem cnt_but {U : List Nat} (hU : U.Nodup) (a : Nat) (p : Nat → Bool) : U.countP p ≤ (U.filter fun c => !(c == a)).countP p + 1 := by
  rw [cnt_filter]
  have h1 : U.countP p ≤ U.countP (fun c => (c == a) || p c) := cnt_mono fun c _ e => by simp [e]
  rw [cnt_split] at h1
  have := cnt_one a hU
  omega
theorem cnt_pos {U : List Nat} {p : Nat → Bool} (h : 1 ≤ U.countP p) : ∃ c ∈ U, p c = true := by
  have : 0 < U.countP p := h
  rw [List.countP_pos_iff] at this
  exact this

theorem hall : ∀ (n : Nat) (I U : List Nat) (adj : Nat → Nat → Bool), I.length ≤ n → I.Nodup → U.Nodup →
    (∀ J : Nat → Bool, I.countP J ≤ U.countP (fun c => I.any fun i => J i && adj i c)) →
    ∃ f : Nat → Nat, (∀ i ∈ I, f i ∈ U ∧ adj i (f i) = true) ∧ ∀ i ∈ I, ∀ j ∈ I, f i = f j → i = j
  | _, [], _, _, _, _, _, _ => ⟨fun _ => 0, by simp, by simp⟩
  | 0, _ :: _, _, _, h, _, _, _ => by simp at h
  | n + 1, i0 :: I', U, adj, hn, hI, hU, H => by
    by_cases hB : ∃ J : Nat → Bool, (∃ i ∈ i0 :: I', J i = true) ∧ (∃ i ∈ i0 :: I', J i = false) ∧ U.countP (fun c => (i0 :: I').any fun i => J i && adj i c) ≤ (i0 :: I').countP J
    · obtain ⟨J, ⟨a, ha, ja⟩, ⟨b, hb, jb⟩, hle⟩ := hB
      generalize i0 :: I' = I at *
      have l1 : I.countP J + I.countP (fun i => !J i) = I.length := by
        have := cnt_split J (fun i => !J i) I
        have e : I.countP (fun c => J c || !J c) = I.length := by
          rw [List.countP_eq_length]
          intro c _
          cases J c <;> rfl
        have e2 : I.countP (fun c => !J c && !J c) = I.countP (fun c => !J c) := cnt_congr fun c _ => by cases J c <;> rfl
        omega
      have p1 : 0 < I.countP J := List.countP_pos_iff.mpr ⟨a, ha, ja⟩
      have p2 : 0 < I.countP (fun i => !J i) := List.countP_pos_iff.mpr ⟨b, hb, by simp [jb]⟩
      have f1 : (I.filter J).length = I.countP J := List.countP_eq_length_filter.symm
      have f2 : (I.filter fun i => !J i).length = I.countP (fun i => !J i) := List.countP_eq_length_filter.symm
      obtain ⟨g, g1, g2⟩ := hall n (I.filter J) U adj (by omega) (hI.filter _) hU (fun J1 => by
        rw [cnt_filter]
        refine Nat.le_trans (H fun i => J i && J1 i) (cnt_mono fun c _ e => ?_)
        rw [List.any_eq_true] at e ⊢
        obtain ⟨i, hi, e⟩ := e
        simp only [Bool.and_eq_true] at e
        exact ⟨i, List.mem_filter.mpr ⟨hi, e.1.1⟩, by simp [e.1.2, e.2]⟩)
      obtain ⟨k, k1, k2⟩ := hall n (I.filter fun i => !J i) (U.filter fun c => !(I.any fun i => J i && adj i c)) adj (by omega) (hI.filter _) (hU.filter _) (fun J2 => by
        rw [cnt_filter, cnt_filter]
        have h1 := H fun i => J i || (!J i && J2 i)
        rw [cnt_split] at h1
        have h2 : I.countP (fun c => !J c && (!J c && J2 c)) = I.countP (fun c => !J c && J2 c) := cnt_congr fun c _ => by cases J c <;> rfl
        have h3 : U.countP (fun c => I.any fun i => (J i || (!J i && J2 i)) && adj i c) ≤ U.countP (fun c => (I.any fun i => J i && adj i c) || (I.filter fun i => !J i).any fun i => J2 i && adj i c) := cnt_mono fun c _ e => by
          rw [List.any_eq_true] at e
          obtain ⟨i, hi, e⟩ := e
          simp only [Bool.and_eq_true, Bool.or_eq_true] at e
          rw [Bool.or_eq_true, List.any_eq_true, List.any_eq_true]
          rcases e with ⟨e | ⟨e, e'⟩, e2⟩
          · exact .inl ⟨i, hi, by simp [e, e2]⟩
          · exact .inr ⟨i, List.mem_filter.mpr ⟨hi, e⟩, by simp [e', e2]⟩
        rw [cnt_split] at h3
        omega)
      refine ⟨fun i => if J i = true then g i else k i, fun i hi => ?_, fun i hi j hj e => ?_⟩
      · by_cases c : J i = true
        · simp only [c, if_true]
          exact g1 i (List.mem_filter.mpr ⟨hi, c⟩)
        · have c' : J i = false := by simpa using c
          simp only [c']
          have z := k1 i (List.mem_filter.mpr ⟨hi, by simp [c']⟩)
          exact ⟨(List.mem_filter.mp z.1).1, z.2⟩
      · have no : ∀ i ∈ I, ∀ j ∈ I, J i = true → J j = false → g i = k j → False := fun i hi j hj ci cj e => by
          have z := k1 j (List.mem_filter.mpr ⟨hj, by simp [cj]⟩)
          have z2 := (List.mem_filter.mp z.1).2
          have z3 := g1 i (List.mem_filter.mpr ⟨hi, ci⟩)
          rw [Bool.not_eq_true', ← Bool.not_eq_true] at z2
          apply z2
          rw [List.any_eq_true]
          exact ⟨i, hi, by rw [← e]; simp [ci, z3.2]⟩
        cases ci : J i <;> cases cj : J j <;> simp only [ci, cj, if_true, Bool.false_eq_true, if_false] at e
        · exact k2 i (List.mem_filter.mpr ⟨hi, by simp [ci]⟩) j (List.mem_filter.mpr ⟨hj, by simp [cj]⟩) e
        · exact (no j hj i hi cj ci e.symm).elim
        · exact (no i hi j hj ci cj e).elim
        · exact g2 i (List.mem_filter.mpr ⟨hi, ci⟩) j (List.mem_filter.mpr ⟨hj, cj⟩) e
    · have hi0 := (List.nodup_cons.mp hI).1
      have hI' := (List.nodup_cons.mp hI).2
      have h0 := H fun i => i == i0
      have h1 : 1 ≤ (i0 :: I').countP (fun i => i == i0) := by
        have : 0 < (i0 :: I').countP (fun i => i == i0) := List.countP_pos_iff.mpr ⟨i0, List.mem_cons_self, by simp⟩
        exact this
      obtain ⟨c, hc, ec⟩ := cnt_pos (Nat.le_trans h1 h0)
      rw [List.any_eq_true] at ec
      obtain ⟨i, hi, ec⟩ := ec
      simp only [Bool.and_eq_true, beq_iff_eq] at ec
      obtain ⟨rfl, ec⟩ := ec
      obtain ⟨g, g1, g2⟩ := hall n I' (U.filter fun d => !(d == c)) adj (by simpa using hn) hI' (hU.filter _) (fun J => by
        by_cases z : I'.countP J = 0
        · omega
        · have z' : 0 < I'.countP J := by omega
          obtain ⟨a, ha, ja⟩ := List.countP_pos_iff.mp z'
          have ne : ∀ b ∈ I', (b == i) = false := fun b hb => by
            have : b ≠ i := fun q => hi0 (q ▸ hb)
            simpa using this
          have h2 : ¬ U.countP (fun c => (i :: I').any fun k => (J k && !(k == i)) && adj k c) ≤ (i :: I').countP (fun k => J k && !(k == i)) := fun q =>
            hB ⟨fun k => J k && !(k == i), ⟨a, List.mem_cons_of_mem _ ha, by simp [ja, ne a ha]⟩, ⟨i, List.mem_cons_self, by simp⟩, q⟩
          have h3 : (i :: I').countP (fun k => J k && !(k == i)) = I'.countP J := by
            rw [List.countP_cons]
            have : I'.countP (fun k => J k && !(k == i)) = I'.countP J := cnt_congr fun b hb => by rw [ne b hb]; simp
            simp [this]
          have h4 := cnt_but hU c (fun c => (i :: I').any fun k => (J k && !(k == i)) && adj k c)
          have h5 : (U.filter fun d => !(d == c)).countP (fun c => (i :: I').any fun k => (J k && !(k == i)) && adj k c) ≤ (U.filter fun d => !(d == c)).countP (fun c => I'.any fun k => J k && adj k c) := cnt_mono fun d _ e => by
            rw [List.any_eq_true] at e ⊢
            obtain ⟨k, hk, e⟩ := e
            simp only [Bool.and_eq_true, Bool.not_eq_true', beq_eq_false_iff_ne] at e
            rcases List.mem_cons.mp hk with q | q
            · exact absurd q e.1.2
            · exact ⟨k, q, by simp [e.1.1, e.2]⟩
          omega)
      refine ⟨fun k => if k = i then c else g k, fun k hk => ?_, fun k hk l hl e => ?_⟩
      · by_cases q : k = i
        · simp only [q, if_true]; exact ⟨hc, ec⟩
        · simp only [q, if_false]
          have hk' : k ∈ I' := (List.mem_cons.mp hk).resolve_left q
          exact ⟨(List.mem_filter.mp (g1 k hk').1).1, (g1 k hk').2⟩
      · have mem : ∀ k, k ∈ i :: I' → k ≠ i → k ∈ I' := fun k hk q => (List.mem_cons.mp hk).resolve_left q
        have nc : ∀ k, k ∈ I' → g k ≠ c := fun k hk q => by
          have := (List.mem_filter.mp (g1 k hk).1).2
          simp [q] at this
        by_cases q : k = i <;> by_cases q' : l = i <;> simp only [q, q', if_true, if_false] at e
        · rw [q, q']
        · exact absurd e.symm (nc l (mem l hl q'))
        · exact absurd e (nc k (mem k hk q))
        · exact g2 k (mem k hk q) l (mem l hl q') e
end Lc
set_option Elab.async false
namespace Lc
open Uw57
/-! Ways to spell; what is to blame. -/
/-- the cubes that show a letter -/
def showingM (x : Box) (a : Nat) : List Nat := (List.range x.cubes.length).filter fun c => x.shows c a
/-- one letter more: the ways grow -/
def growM (sh : List Nat) (found : List (List Nat)) : List (List Nat) := found.flatMap fun way => (sh.filter fun c => !way.contains c).map fun c => way ++ [c]
def waysM (rows : List (List Nat)) : List (List Nat) := rows.foldl (fun found sh => growM sh found) [[]]

theorem ways_grow (x : Box) : ∀ (w : List Nat) (found : List (List Nat)), (w.map (showingM x)).foldl (fun found sh => growM sh found) found = found.flatMap fun way => (x.ways way w).map fun r => way ++ r
  | [], found => by
    simp [Box.ways]
  | a :: w, found => by
    rw [List.map_cons, List.foldl_cons, ways_grow x w]
    unfold growM showingM
    rw [List.flatMap_assoc]
    congr 1
    funext way
    rw [List.flatMap_map, List.filter_filter]
    simp only [Box.ways]
    rw [List.map_flatMap]
    congr 1
    · funext c
      rw [List.map_map]
      congr 1
      funext r
      simp
    · congr 1
      funext c
      rw [Bool.and_comm]
theorem ways_is (x : Box) (w : List Nat) : waysM (w.map (showingM x)) = x.ways [] w := by
  unfold waysM
  rw [ways_grow]
  simp
theorem ways_snoc (rows : List (List Nat)) (sh : List Nat) : waysM (rows ++ [sh]) = growM sh (waysM rows) := by
  unfold waysM
  rw [List.foldl_append]
  rfl
/-- what a way is -/
theorem way_is (x : Box) : ∀ (w taken r : List Nat), r ∈ x.ways taken w → r.length = w.length ∧ r.Nodup ∧ (∀ c ∈ r, c ∉ taken) ∧ ∀ i, i < w.length → r.getD i 0 < x.cubes.length ∧ x.shows (r.getD i 0) (w.getD i 0) = true
  | [], taken, r, h => by
    simp only [Box.ways, List.mem_singleton] at h
    subst h
    simp
  | a :: w, taken, r, h => by
    simp only [Box.ways, List.mem_flatMap, List.mem_filter, List.mem_map, List.mem_range, Bool.and_eq_true, Bool.not_eq_true'] at h
    obtain ⟨c, ⟨hc, hs, ht⟩, r', hr, rfl⟩ := h
    obtain ⟨h1, h2, h3, h4⟩ := way_is x w (taken ++ [c]) r' hr
    refine ⟨by simp [h1], List.nodup_cons.mpr ⟨fun q => ?_, h2⟩, fun d hd => ?_, fun i hi => ?_⟩
    · exact h3 c q (by simp)
    · rcases List.mem_cons.mp hd with rfl | hd
      · intro q
        have : taken.contains d = true := by simpa using q
        rw [ht] at this
        cases this
      · intro q
        exact h3 d hd (List.mem_append_left _ q)
    · cases i with
      | zero => exact ⟨hc, hs⟩
      | succ i =>
        have := h4 i (by simpa using hi)
        simpa using this
theorem ways_some (x : Box) (w : List Nat) (f : Nat → Nat) (h1 : ∀ i, i < w.length → f i < x.cubes.length ∧ x.shows (f i) (w.getD i 0) = true) (h2 : ∀ i, i < w.length → ∀ j, j < w.length → f i = f j → i = j) :
    ∀ (m k : Nat), k + m = w.length → x.ways ((List.range k).map f) (w.drop k) ≠ []
  | 0, k, e => by
    have : w.drop k = [] := List.drop_eq_nil_of_le (by omega)
    rw [this]
    simp [Box.ways]
  | m + 1, k, e => by
    have hk : k < w.length := by omega
    have ih := ways_some x w f h1 h2 m (k + 1) (by omega)
    rw [List.drop_eq_getElem_cons hk]
    simp only [Box.ways]
    obtain ⟨r, hr⟩ := List.exists_mem_of_ne_nil _ ih
    have hw : w.getD k 0 = w[k] := by simp [List.getD, hk]
    apply List.ne_nil_of_mem (a := f k :: r)
    simp only [List.mem_flatMap, List.mem_filter, List.mem_map, List.mem_range, Bool.and_eq_true, Bool.not_eq_true']
    refine ⟨f k, ⟨(h1 k hk).1, by rw [← hw]; exact (h1 k hk).2, ?_⟩, r, ?_, rfl⟩
    · rw [← Bool.not_eq_true]
      intro q
      have : f k ∈ (List.range k).map f := by simpa using q
      obtain ⟨j, hj, ej⟩ := List.mem_map.mp this
      have hj := List.mem_range.mp hj
      have := h2 j (by omega) k hk ej
      omega
    · rw [List.range_succ, List.map_append] at hr
      exact hr
/-! choosing -/
theorem choose_is : ∀ (k : Nat) (l ps : List Nat), ps ∈ choose k l → ps.Sublist l ∧ ps.length = k
  | 0, l, ps, h => by
    simp only [choose, List.mem_singleton] at h
    subst h
    exact ⟨List.nil_sublist _, rfl⟩
  | k + 1, [], ps, h => by simp [choose] at h
  | k + 1, a :: l, ps, h => by
    simp only [choose, List.mem_append, List.mem_map] at h
    rcases h with ⟨r, hr, rfl⟩ | h
    · obtain ⟨h1, h2⟩ := choose_is k l r hr
      exact ⟨h1.cons_cons _, by simp [h2]⟩
    · obtain ⟨h1, h2⟩ := choose_is (k + 1) l ps h
      exact ⟨h1.cons _, h2⟩
theorem choose_filter (J : Nat → Bool) : ∀ l : List Nat, l.filter J ∈ choose (l.filter J).length l
  | [] => by simp [choose]
  | a :: l => by
    have ih := choose_filter J l
    rw [List.filter_cons]
    split
    · simp only [List.length_cons, choose, List.mem_append, List.mem_map]
      exact .inl ⟨_, ih, rfl⟩
    · cases e : l.filter J with
      | nil => simp [choose]
      | cons b r =>
        rw [e] at ih
        simp only [List.length_cons, choose, List.mem_append] at ih ⊢
        exact .inr ih
theorem choose_len : ∀ (k : Nat) (l : List Nat), (choose k l).length ≤ 2 ^ l.length
  | 0, l => by
    simp only [choose, List.length_singleton]
    exact Nat.one_le_two_pow
  | k + 1, [] => by simp [choose]
  | k + 1, a :: l => by
    simp only [choose, List.length_append, List.length_map, List.length_cons]
    have h1 := choose_len k l
    have h2 := choose_len (k + 1) l
    have : 2 ^ (l.length + 1) = 2 ^ l.length + 2 ^ l.length := by rw [Nat.pow_succ]; omega
    omega
/-- too few cubes -/
def few (x : Box) (w ps : List Nat) : Bool := decide ((x.show_ w ps).length < ps.length)
theorem lack_eq (x : Box) (w : List Nat) : x.lack w = ((List.range (w.length + 1)).flatMap fun k => choose k (List.range w.length)).find? (few x w) := rfl
theorem nodup_map {f : Nat → Nat} : ∀ {l : List Nat}, (∀ i ∈ l, ∀ j ∈ l, f i = f j → i = j) → l.Nodup → (l.map f).Nodup
  | [], _, _ => List.nodup_nil
  | a :: l, h, nd => by
    have q := List.nodup_cons.mp nd
    rw [List.map_cons]
    refine List.nodup_cons.mpr ⟨fun z => ?_, nodup_map (fun i hi j hj => h i (List.mem_cons_of_mem _ hi) j (List.mem_cons_of_mem _ hj)) q.2⟩
    obtain ⟨b, hb, e⟩ := List.mem_map.mp z
    have := h b (List.mem_cons_of_mem _ hb) a List.mem_cons_self e
    exact q.1 (this ▸ hb)
theorem no_few_of_way {x : Box} {w r : List Nat} (h : r ∈ x.ways [] w) {k : Nat} {ps : List Nat} (hp : ps ∈ choose k (List.range w.length)) : few x w ps = false := by
  obtain ⟨h1, h2, _, h4⟩ := way_is x w [] r h
  obtain ⟨s1, s2⟩ := choose_is k _ ps hp
  have nd : ps.Nodup := List.Nodup.sublist s1 List.nodup_range
  have lt : ∀ i ∈ ps, i < w.length := fun i hi => List.mem_range.mp (s1.subset hi)
  have le : ps.length ≤ (x.show_ w ps).length := by
    have e : (ps.map fun i => r.getD i 0).length = ps.length := List.length_map _
    rw [← e]
    refine List.Nodup.length_le_of_subset ?_ ?_
    · refine nodup_map ?_ nd
      intro i hi j hj e
      have hi' := lt i hi
      have hj' := lt j hj
      rw [← h1] at hi' hj'
      simp only [List.getD, List.getElem?_eq_getElem hi', List.getElem?_eq_getElem hj', Option.getD_some] at e
      exact (List.getElem_inj h2).mp e
    · intro c hc
      obtain ⟨i, hi, rfl⟩ := List.mem_map.mp hc
      have q := h4 i (lt i hi)
      refine List.mem_filter.mpr ⟨List.mem_range.mpr q.1, ?_⟩
      rw [List.any_eq_true]
      exact ⟨i, hi, q.2⟩
  unfold few
  simp only [decide_eq_false_iff_not]
  omega
theorem lack_none {x : Box} {w : List Nat} (h : x.ways [] w ≠ []) : x.lack w = none := by
  obtain ⟨r, hr⟩ := List.exists_mem_of_ne_nil _ h
  rw [lack_eq, List.find?_eq_none]
  intro ps hp
  obtain ⟨k, _, hk⟩ := List.mem_flatMap.mp hp
  rw [no_few_of_way hr hk]
  simp
theorem lack_some {x : Box} {w : List Nat} (h : x.lack w = none) : x.ways [] w ≠ [] := by
  rw [lack_eq, List.find?_eq_none] at h
  obtain ⟨f, f1, f2⟩ := hall w.length (List.range w.length) (List.range x.cubes.length) (fun i c => x.shows c (w.getD i 0)) (by simp) List.nodup_range List.nodup_range (fun J => by
    have q := h ((List.range w.length).filter J) (List.mem_flatMap.mpr ⟨_, List.mem_range.mpr (Nat.lt_succ_of_le (Nat.le_trans (List.length_filter_le _ _) (by simp))), choose_filter J _⟩)
    simp only [few, decide_eq_true_eq] at q
    rw [List.countP_eq_length_filter, List.countP_eq_length_filter]
    refine Nat.le_trans (Nat.le_of_not_lt q) (Nat.le_of_eq ?_)
    unfold Box.show_
    congr 1
    congr 1
    funext c
    rw [List.any_filter])
  have := ways_some x w f (fun i hi => ⟨List.mem_range.mp (f1 i (List.mem_range.mpr hi)).1, (f1 i (List.mem_range.mpr hi)).2⟩) (fun i hi j hj e => f2 i (List.mem_range.mpr hi) j (List.mem_range.mpr hj) e) w.length 0 (by omega)
  simpa using this
/-- the first that lacks -/
theorem lack_at {x : Box} {w ps : List Nat} {i j : Nat} (hi : i ≤ w.length) (h1 : ∀ k, k < i → ∀ q ∈ choose k (List.range w.length), few x w q = false) (hj : (choose i (List.range w.length))[j]? = some ps)
    (h2 : ∀ q ∈ (choose i (List.range w.length)).take j, few x w q = false) (hp : few x w ps = true) : x.lack w = some ps := by
  rw [lack_eq, List.find?_eq_some_iff_append]
  refine ⟨hp, ((List.range i).flatMap fun k => choose k (List.range w.length)) ++ (choose i (List.range w.length)).take j,
    (choose i (List.range w.length)).drop (j + 1) ++ ((List.range' (i + 1) (w.length - i)).flatMap fun k => choose k (List.range w.length)), ?_, ?_⟩
  · have e1 : List.range (w.length + 1) = List.range i ++ i :: List.range' (i + 1) (w.length - i) := by
      have : w.length + 1 = i + (1 + (w.length - i)) := by omega
      rw [List.range_eq_range', this, ← List.range'_append_1, List.range_eq_range']
      congr 1
      rw [Nat.zero_add, Nat.add_comm 1, List.range'_succ]
    have e2 : choose i (List.range w.length) = (choose i (List.range w.length)).take j ++ ps :: (choose i (List.range w.length)).drop (j + 1) := by
      obtain ⟨hlt, he⟩ := List.getElem?_eq_some_iff.mp hj
      conv => lhs; rw [← List.take_append_drop j (choose i (List.range w.length))]
      rw [List.drop_eq_getElem_cons hlt, he]
    rw [e1, List.flatMap_append, List.flatMap_cons]
    conv => lhs; rw [e2]
    simp
  · intro q hq
    rw [Bool.not_eq_true']
    rcases List.mem_append.mp hq with hq | hq
    · obtain ⟨k, hk, hq⟩ := List.mem_flatMap.mp hq
      exact h1 k (List.mem_range.mp hk) q hq
    · exact h2 q hq
theorem lack_no {x : Box} {w : List Nat} (h1 : ∀ k, k ≤ w.length → ∀ q ∈ choose k (List.range w.length), few x w q = false) : x.lack w = none := by
  rw [lack_eq, List.find?_eq_none]
  intro ps hp
  obtain ⟨k, hk, hq⟩ := List.mem_flatMap.mp hp
  rw [h1 k (Nat.le_of_lt_succ (List.mem_range.mp hk)) ps hq]
  simp
/-! rows: rising, by their ends -/
def firstM (lo : Nat) (row : List Nat) : Nat := match row.getLast? with
  | none => lo
  | some a => a + 1
def extM (lo many : Nat) (row : List Nat) : List (List Nat) := (List.range' (firstM lo row) (many - firstM lo row)).map fun n => row ++ [n]
theorem ext_cons (lo many : Nat) (row : List Nat) : extM lo many (lo :: row) = (extM (lo + 1) many row).map fun r => lo :: r := by
  have e : firstM lo (lo :: row) = firstM (lo + 1) row := by
    unfold firstM
    cases row with
    | nil => rfl
    | cons b r =>
      rw [List.getLast?_cons_cons]
      cases q : (b :: r).getLast? with
      | none => simp at q
      | some a => rfl
  unfold extM
  rw [e, List.map_map]
  rfl
theorem choose_step : ∀ (n lo k : Nat), (choose k (List.range' lo n)).flatMap (extM lo (lo + n)) = choose (k + 1) (List.range' lo n)
  | 0, lo, 0 => by
    simp [choose, extM, firstM]
  | 0, lo, k + 1 => by simp [choose]
  | n + 1, lo, 0 => by
    have ih := choose_step n (lo + 1) 0
    rw [List.range'_succ]
    simp only [choose, List.flatMap_cons, List.flatMap_nil, List.append_nil, List.map_cons, List.map_nil] at ih ⊢
    rw [← ih]
    unfold extM firstM
    simp only [List.getLast?_nil]
    have e1 : lo + (n + 1) - lo = n + 1 := by omega
    have e2 : lo + 1 + n - (lo + 1) = n := by omega
    rw [e1, e2, List.range'_succ]
    simp
  | n + 1, lo, k + 1 => by
    have ih1 := choose_step n (lo + 1) k
    have ih2 := choose_step n (lo + 1) (k + 1)
    have e : lo + (n + 1) = lo + 1 + n := by omega
    rw [List.range'_succ]
    simp only [choose, List.flatMap_append]
    rw [e]
    congr 1
    · rw [List.flatMap_map, ← ih1, List.map_flatMap]
      congr 1
      funext row
      exact ext_cons lo _ row
    · have e3 : ∀ row ∈ choose (k + 1) (List.range' (lo + 1) n), extM lo (lo + 1 + n) row = extM (lo + 1) (lo + 1 + n) row := fun row hr => by
        have hl := (choose_is _ _ _ hr).2
        unfold extM firstM
        cases q : row.getLast? with
        | none =>
          rw [List.getLast?_eq_none_iff] at q
          rw [q] at hl
          simp at hl
        | some a => rfl
      have ih2' : (choose (k + 1) (List.range' (lo + 1) n)).flatMap (extM (lo + 1) (lo + 1 + n)) = choose (k + 1 + 1) (List.range' (lo + 1) n) := ih2
      rw [← ih2', List.flatMap_def, List.flatMap_def]
      congr 1
      exact List.map_congr_left e3
theorem rows_step (many k : Nat) : (choose k (List.range many)).flatMap (extM 0 many) = choose (k + 1) (List.range many) := by
  have := choose_step many 0 k
  rw [Nat.zero_add, ← List.range_eq_range'] at this
  exact this
end Lc
set_option Elab.async false
namespace Lc
open Uw57
/-! All words of one length. -/
theorem showing_any (x : Box) (a : Nat) : ((List.range x.cubes.length).any fun c => x.shows c a) = !(showingM x a).isEmpty := by
  unfold showingM
  cases h : (List.range x.cubes.length).any fun c => x.shows c a with
  | true =>
    rw [List.any_eq_true] at h
    obtain ⟨c, hc, e⟩ := h
    have : c ∈ (List.range x.cubes.length).filter fun c => x.shows c a := List.mem_filter.mpr ⟨hc, e⟩
    cases q : (List.range x.cubes.length).filter fun c => x.shows c a with
    | nil => rw [q] at this; cases this
    | cons b r => rfl
  | false =>
    rw [List.any_eq_false] at h
    have : ((List.range x.cubes.length).filter fun c => x.shows c a) = [] := by
      rw [List.filter_eq_nil_iff]
      exact h
    rw [this]
    rfl
theorem letters_is (x : Box) : x.letters = (List.range LETTERS).filter fun a => !(showingM x a).isEmpty := by
  unfold Box.letters
  congr 1
  funext a
  exact showing_any x a
theorem letters_len (x : Box) : x.letters.length ≤ 36 := by
  unfold Box.letters
  refine Nat.le_trans (List.length_filter_le _ _) ?_
  simp [LETTERS]
theorem words_snoc (l : List Nat) : ∀ n : Nat, wordsOf l (n + 1) = (wordsOf l n).flatMap fun w => l.map fun a => w ++ [a]
  | 0 => by
    simp [wordsOf]
    induction l with
    | nil => rfl
    | cons b r ih => simp [List.flatMap_cons, ih]
  | n + 1 => by
    have ih := words_snoc l n
    show (l.flatMap fun a => (wordsOf l (n + 1)).map fun w => a :: w) = (l.flatMap fun a => (wordsOf l n).map fun w => a :: w).flatMap fun w => l.map fun a => w ++ [a]
    rw [ih, List.flatMap_assoc]
    congr 1
    funext a
    rw [List.flatMap_map, List.map_flatMap]
    congr 1
    funext w
    rw [List.map_map]
    rfl
theorem words_len (l : List Nat) : ∀ n : Nat, (wordsOf l n).length = l.length ^ n
  | 0 => rfl
  | n + 1 => by
    rw [words_snoc, List.length_flatMap]
    have : (fun w : List Nat => (l.map fun a => w ++ [a]).length) = fun _ => l.length := by funext w; simp
    rw [this, List.map_const', List.sum_replicate_nat, words_len l n, Nat.pow_succ]
theorem spells_is (x : Box) (w : List Nat) : x.spells w = !(waysM (w.map (showingM x))).isEmpty := by
  unfold Box.spells
  rw [ways_is]
theorem spells_short (x : Box) (w : List Nat) (a : Nat) (h : x.spells w = false) : x.spells (w ++ [a]) = false := by
  rw [spells_is] at h ⊢
  rw [List.map_append, List.map_cons, List.map_nil, ways_snoc]
  have e : waysM (w.map (showingM x)) = [] := by
    cases q : waysM (w.map (showingM x)) with
    | nil => rfl
    | cons b r => rw [q] at h; cases h
  rw [e]
  rfl
theorem flat_some {α β : Type} (g : α → List β) (q : α → Bool) (h : ∀ a, q a = false → g a = []) : ∀ l : List α, l.flatMap g = (l.filter q).flatMap g
  | [] => rfl
  | a :: l => by
    rw [List.flatMap_cons, List.filter_cons, flat_some g q h l]
    cases e : q a with
    | true => simp
    | false => simp [h a e]
/-- one letter more -/
def moreM (x : Box) (found : List (List Nat)) : List (List Nat) := found.flatMap fun w => (x.letters.filter fun a => x.spells (w ++ [a])).map fun a => w ++ [a]
theorem all_zero (x : Box) : x.all 0 = [[]] := by
  unfold Box.all
  simp [wordsOf, Box.spells, Box.ways]
theorem all_succ (x : Box) (n : Nat) : x.all (n + 1) = moreM x (x.all n) := by
  unfold Box.all moreM
  rw [words_snoc, List.filter_flatMap]
  rw [flat_some _ x.spells]
  · congr 1
    funext w
    rw [List.filter_map]
    rfl
  · intro w hw
    rw [List.filter_map]
    have : (x.letters.filter (x.spells ∘ fun a => w ++ [a])) = [] := by
      rw [List.filter_eq_nil_iff]
      intro a _
      simp [spells_short x w a hw]
    rw [this]
    rfl
theorem all_len (x : Box) (n : Nat) : (x.all n).length ≤ 36 ^ n := by
  unfold Box.all
  refine Nat.le_trans (List.length_filter_le _ _) ?_
  rw [words_len]
  exact Nat.pow_le_pow_left (letters_len x) n
theorem all_word (x : Box) : ∀ (n : Nat) (w : List Nat), w ∈ x.all n → w.length = n
  | 0, w, h => by
    rw [all_zero] at h
    simp at h
    simp [h]
  | n + 1, w, h => by
    rw [all_succ] at h
    obtain ⟨v, hv, hw⟩ := List.mem_flatMap.mp h
    obtain ⟨a, _, rfl⟩ := List.mem_map.mp hw
    simp [all_word x n v hv]
/-! How many ways there are -/
theorem grow_len (sh : List Nat) (found : List (List Nat)) (m : Nat) (h : sh.length ≤ m) : (growM sh found).length ≤ found.length * m := by
  unfold growM
  rw [List.length_flatMap]
  induction found with
  | nil => simp
  | cons w r ih =>
    rw [List.map_cons, List.sum_cons, List.length_cons, Nat.succ_mul]
    have : ((sh.filter fun c => !w.contains c).map fun c => w ++ [c]).length ≤ m := by
      rw [List.length_map]
      exact Nat.le_trans (List.length_filter_le _ _) h
    omega
theorem ways_from (m : Nat) : ∀ (rows found : List (List Nat)), (∀ sh ∈ rows, sh.length ≤ m) → (rows.foldl (fun found sh => growM sh found) found).length ≤ found.length * m ^ rows.length
  | [], found, _ => by simp
  | sh :: rows, found, h => by
    rw [List.foldl_cons]
    refine Nat.le_trans (ways_from m rows _ fun s hs => h s (List.mem_cons_of_mem _ hs)) ?_
    rw [List.length_cons, Nat.pow_succ, Nat.mul_comm (m ^ rows.length) m, ← Nat.mul_assoc]
    exact Nat.mul_le_mul_right _ (grow_len sh found m (h sh List.mem_cons_self))
theorem ways_len (m : Nat) (rows : List (List Nat)) (h : ∀ sh ∈ rows, sh.length ≤ m) : (waysM rows).length ≤ m ^ rows.length := by
  have := ways_from m rows [[]] h
  simpa [waysM] using this
theorem showing_len (x : Box) (a : Nat) : (showingM x a).length ≤ x.cubes.length := by
  unfold showingM
  refine Nat.le_trans (List.length_filter_le _ _) ?_
  simp
theorem ways_most {x : Box} {w r : List Nat} (h : r ∈ x.ways [] w) : w.length ≤ x.cubes.length := by
  obtain ⟨h1, h2, _, h4⟩ := way_is x w [] r h
  have : r.length ≤ (List.range x.cubes.length).length := List.Nodup.length_le_of_subset h2 fun c hc => by
    obtain ⟨i, hi, rfl⟩ := List.getElem_of_mem hc
    have := (h4 i (by omega)).1
    simp only [List.getD, List.getElem?_eq_getElem hi, Option.getD_some] at this
    exact List.mem_range.mpr this
  simpa [h1] using this
theorem ways_few {x : Box} (hx : x.cubes.length ≤ 5) (w : List Nat) : (waysM (w.map (showingM x))).length ≤ 3125 := by
  by_cases hw : w.length ≤ 5
  · refine Nat.le_trans (ways_len 5 _ fun sh hs => ?_) ?_
    · obtain ⟨a, _, rfl⟩ := List.mem_map.mp hs
      exact Nat.le_trans (showing_len x a) hx
    · rw [List.length_map]
      exact Nat.le_trans (Nat.pow_le_pow_right (by decide) hw) (by decide)
  · rw [ways_is]
    cases q : x.ways [] w with
    | nil => simp
    | cons r rs =>
      have := ways_most (x := x) (w := w) (r := r) (by rw [q]; simp)
      omega
/-- each way of found is as long as the letters gone through -/
theorem way_len (rows : List (List Nat)) : ∀ w ∈ waysM rows, w.length = rows.length := by
  have go : ∀ (rows found : List (List Nat)) (n : Nat), (∀ w ∈ found, w.length = n) → ∀ w ∈ rows.foldl (fun found sh => growM sh found) found, w.length = n + rows.length := by
    intro rows
    induction rows with
    | nil => intro found n h w hw; simpa using h w hw
    | cons sh rows ih =>
      intro found n h w hw
      have := ih (growM sh found) (n + 1) (fun v hv => by
        unfold growM at hv
        obtain ⟨u, hu, hv⟩ := List.mem_flatMap.mp hv
        obtain ⟨c, _, rfl⟩ := List.mem_map.mp hv
        simp [h u hu]) w hw
      rw [this, List.length_cons]
      omega
  intro w hw
  have := go rows [[]] 0 (by simp) w hw
  simpa using this
end Lc
set_option Elab.async false
namespace Lc
open Uw57
/-! Words out of a row -/
theorem cut_flat (n : Nat) (hn : 0 < n) : ∀ (f : Nat) (l : List Nat), l.length < f → (cut n f l).flatten = l
  | 0, l, h => by omega
  | f + 1, l, h => by
    unfold cut
    split
    · rename_i e
      rw [List.isEmpty_iff] at e
      subst e
      rfl
    · rename_i e
      have hl : 0 < l.length := by
        cases l with
        | nil => simp at e
        | cons a r => simp
      rw [List.flatten_cons, cut_flat n hn f (l.drop n) (by rw [List.length_drop]; omega), List.take_append_drop]
theorem split_flat (n : Nat) (hn : 0 < n) (l : List Nat) : (split n l).flatten = l := cut_flat n hn _ l (Nat.lt_succ_self _)
theorem split_map (n : Nat) (hn : 0 < n) (l : List Nat) (f : Nat → Nat) : ((split n l).flatMap fun w => w.map f) = l.map f := by
  rw [List.flatMap_def, ← List.map_flatten, split_flat n hn]
theorem cut_get (n : Nat) (hn : 0 < n) : ∀ (f : Nat) (l : List Nat) (k : Nat), l.length < f → k * n < l.length → (cut n f l)[k]? = some ((l.drop (k * n)).take n)
  | 0, l, k, h, _ => by omega
  | f + 1, l, k, h, hk => by
    unfold cut
    split
    · rename_i e
      rw [List.isEmpty_iff] at e
      subst e
      simp at hk
    · cases k with
      | zero => simp
      | succ k =>
        rw [List.getElem?_cons_succ]
        have e : (k + 1) * n = k * n + n := Nat.succ_mul k n
        rw [cut_get n hn f (l.drop n) k (by rw [List.length_drop]; omega) (by rw [List.length_drop]; omega), List.drop_drop]
        rw [e, Nat.add_comm n]
theorem cut_len (n : Nat) (hn : 0 < n) : ∀ (f : Nat) (l : List Nat) (k : Nat), l.length < f → l.length = k * n → (cut n f l).length = k
  | 0, l, k, h, _ => by omega
  | f + 1, l, k, h, hk => by
    unfold cut
    split
    · rename_i e
      rw [List.isEmpty_iff] at e
      subst e
      have : k * n = 0 := hk.symm
      rcases Nat.mul_eq_zero.mp this with q | q
      · simp [q]
      · omega
    · rename_i e
      have hl : 0 < l.length := by
        cases l with
        | nil => simp at e
        | cons a r => simp
      cases k with
      | zero => rw [Nat.zero_mul] at hk; omega
      | succ k =>
        have e : (k + 1) * n = k * n + n := Nat.succ_mul k n
        rw [List.length_cons, cut_len n hn f (l.drop n) k (by rw [List.length_drop]; omega) (by rw [List.length_drop]; omega)]
theorem split_get {n : Nat} (hn : 0 < n) {l : List Nat} {k : Nat} (hk : k * n < l.length) : (split n l)[k]? = some ((l.drop (k * n)).take n) := cut_get n hn _ l k (Nat.lt_succ_self _) hk
theorem split_len {n : Nat} (hn : 0 < n) {l : List Nat} {k : Nat} (hk : l.length = k * n) : (split n l).length = k := cut_len n hn _ l k (Nat.lt_succ_self _) hk
theorem split_word {n : Nat} (hn : 0 < n) {l : List Nat} (h : l.length % n = 0) {w : List Nat} (hw : w ∈ split n l) : w.length = n := by
  have hl : l.length = (l.length / n) * n := by
    have := Nat.div_add_mod l.length n
    rw [h, Nat.add_zero, Nat.mul_comm] at this
    exact this.symm
  obtain ⟨k, hk, rfl⟩ := List.getElem_of_mem hw
  rw [split_len hn hl] at hk
  have h1 : (k + 1) * n ≤ (l.length / n) * n := Nat.mul_le_mul_right n hk
  have e : (k + 1) * n = k * n + n := Nat.succ_mul k n
  have q := split_get hn (l := l) (k := k) (by omega)
  obtain ⟨_, q⟩ := List.getElem?_eq_some_iff.mp q
  rw [q, List.length_take, List.length_drop]
  omega
/-! Letters, rising -/
theorem put_mem (a b : Nat) : ∀ l : List Nat, b ∈ put a l ↔ b = a ∨ b ∈ l
  | [] => by simp [put]
  | c :: l => by
    unfold put
    split
    · simp
    · split
      · rename_i e
        subst e
        simp
      · simp only [List.mem_cons, put_mem a b l]
        constructor
        · rintro (h | h | h)
          · exact .inr (.inl h)
          · exact .inl h
          · exact .inr (.inr h)
        · rintro (h | h | h)
          · exact .inr (.inl h)
          · exact .inl h
          · exact .inr (.inr h)
theorem put_sorted (a : Nat) : ∀ l : List Nat, l.Pairwise (· < ·) → (put a l).Pairwise (· < ·)
  | [], _ => by simp [put]
  | c :: l, h => by
    have q := List.pairwise_cons.mp h
    unfold put
    split
    · rename_i e
      refine List.pairwise_cons.mpr ⟨fun b hb => ?_, h⟩
      rcases List.mem_cons.mp hb with rfl | hb
      · exact e
      · exact Nat.lt_trans e (q.1 b hb)
    · split
      · exact h
      · rename_i e1 e2
        refine List.pairwise_cons.mpr ⟨fun b hb => ?_, put_sorted a l q.2⟩
        rcases (put_mem a b l).mp hb with rfl | hb
        · omega
        · exact q.1 b hb
theorem put_all : ∀ (l s : List Nat), s.Pairwise (· < ·) → (l.foldl (fun s a => put a s) s).Pairwise (· < ·) ∧ ∀ b, b ∈ l.foldl (fun s a => put a s) s ↔ b ∈ l ∨ b ∈ s
  | [], s, h => ⟨h, by simp⟩
  | a :: l, s, h => by
    have ih := put_all l (put a s) (put_sorted a s h)
    rw [List.foldl_cons]
    refine ⟨ih.1, fun b => ?_⟩
    rw [ih.2 b, put_mem, List.mem_cons]
    constructor
    · rintro (h | h | h)
      · exact .inl (.inr h)
      · exact .inl (.inl h)
      · exact .inr h
    · rintro ((h | h) | h)
      · exact .inr (.inl h)
      · exact .inl h
      · exact .inr (.inr h)
theorem rising_same : ∀ {l m : List Nat}, l.Pairwise (· < ·) → m.Pairwise (· < ·) → (∀ b, b ∈ l ↔ b ∈ m) → l = m
  | [], [], _, _, _ => rfl
  | [], b :: m, _, _, h => by have := (h b).mpr (by simp); simp at this
  | a :: l, [], _, _, h => by have := (h a).mp (by simp); simp at this
  | a :: l, b :: m, hl, hm, h => by
    have ql := List.pairwise_cons.mp hl
    have qm := List.pairwise_cons.mp hm
    have e : a = b := by
      rcases List.mem_cons.mp ((h a).mp (by simp)) with e | e
      · exact e
      · rcases List.mem_cons.mp ((h b).mpr (by simp)) with e' | e'
        · exact e'.symm
        · have := qm.1 a e
          have := ql.1 b e'
          omega
    subst e
    congr 1
    refine rising_same ql.2 qm.2 fun b => ⟨fun hb => ?_, fun hb => ?_⟩
    · rcases List.mem_cons.mp ((h b).mp (List.mem_cons_of_mem _ hb)) with e | e
      · have := ql.1 b hb
        omega
      · exact e
    · rcases List.mem_cons.mp ((h b).mpr (List.mem_cons_of_mem _ hb)) with e | e
      · have := qm.1 b hb
        omega
      · exact e
theorem used_rising (x : Box) (ws : List (List Nat)) : (x.used ws).Pairwise (· < ·) := (put_all _ [] List.Pairwise.nil).1
theorem used_mem (x : Box) (letters : List Nat) (b : Nat) : b ∈ x.used (split 2 letters) ↔ b ∈ letters.map x.one_ := by
  unfold Box.used
  rw [(put_all _ [] List.Pairwise.nil).2 b, split_map 2 (by decide)]
  simp
theorem used_is {x : Box} {letters l : List Nat} (h1 : l.Pairwise (· < ·)) (h2 : ∀ b, b ∈ l ↔ b ∈ letters.map x.one_) : l = x.used (split 2 letters) :=
  rising_same h1 (used_rising x _) fun b => by rw [h2 b, used_mem]
/-! The search -/
def onc (k way : Nat) : Bool := way == k || way == 3
def countM (k : Nat) (wh : List Nat) : Nat := (wh.filter (onc k)).length
def sizeM (wh : List Nat) : Nat := countM 1 wh + countM 2 wh
def spelledM (a b : Nat) : Bool := (onc 1 a && onc 2 b) || (onc 2 a && onc 1 b)
/-- the words that end at the last place -/
def lastOk (W : List (Nat × Nat)) (wh : List Nat) : Bool := W.all fun p => !(p.1 + 1 == wh.length) || spelledM (wh.getD p.1 0) (wh.getD p.2 0)
def rightM (W : List (Nat × Nat)) (n : Nat) (wh : List Nat) (best : Option (List Nat)) : Bool :=
  (decide (countM 1 wh ≤ 6) && decide (countM 2 wh ≤ 6)) && (lastOk W wh && match best with
    | none => true
    | some b => decide (sizeM wh + (n - wh.length) < sizeM b))
def searchM (W : List (Nat × Nat)) (n : Nat) : Nat → List Nat → Option (List Nat) → Option (List Nat)
  | 0, wh, _ => some wh
  | d + 1, wh, best => [1, 2, 3].foldl (fun b k => if rightM W n (wh ++ [k]) b = true then searchM W n d (wh ++ [k]) b else b) best
def goodM (W : List (Nat × Nat)) (r : List Nat) : Bool := (W.all fun p => spelledM (r.getD p.1 0) (r.getD p.2 0)) && (decide (countM 1 r ≤ 6) && decide (countM 2 r ≤ 6))
def takeM (W : List (Nat × Nat)) (m : Option (List Nat)) (r : List Nat) : Option (List Nat) := if goodM W r = false then m else match m with
  | none => some r
  | some b => if sizeM r < sizeM b then some r else some b
theorem count_app (k : Nat) (a b : List Nat) : countM k (a ++ b) = countM k a + countM k b := by
  unfold countM
  rw [List.filter_append, List.length_append]
theorem rows_is : ∀ (n : Nat) (r : List Nat), r ∈ rows n → r.length = n ∧ ∀ k ∈ r, k = 1 ∨ k = 2 ∨ k = 3
  | 0, r, h => by
    simp only [rows, List.mem_singleton] at h
    subst h
    simp
  | n + 1, r, h => by
    simp only [rows, List.mem_flatMap, List.mem_map] at h
    obtain ⟨k, hk, s, hs, rfl⟩ := h
    obtain ⟨h1, h2⟩ := rows_is n s hs
    refine ⟨by simp [h1], fun j hj => ?_⟩
    rcases List.mem_cons.mp hj with rfl | hj
    · simpa using hk
    · exact h2 j hj
theorem size_ge : ∀ r : List Nat, (∀ k ∈ r, k = 1 ∨ k = 2 ∨ k = 3) → r.length ≤ sizeM r
  | [], _ => by simp
  | k :: r, h => by
    have ih := size_ge r fun j hj => h j (List.mem_cons_of_mem _ hj)
    have e : sizeM (k :: r) = sizeM [k] + sizeM r := by
      unfold sizeM
      have e1 := count_app 1 [k] r
      have e2 := count_app 2 [k] r
      simp only [List.singleton_append] at e1 e2
      omega
    have : 1 ≤ sizeM [k] := by
      rcases h k List.mem_cons_self with rfl | rfl | rfl <;> decide
    rw [e, List.length_cons]
    omega
theorem size_app (a b : List Nat) : sizeM (a ++ b) = sizeM a + sizeM b := by
  unfold sizeM
  rw [count_app, count_app]
  omega
/-- what is not right so far can't be mended: the rows behind it change nothing -/
theorem not_right {W : List (Nat × Nat)} {n d : Nat} {wh : List Nat} {best : Option (List Nat)} (hW : ∀ p ∈ W, p.2 ≤ p.1) (hl : wh.length + d = n) (h : rightM W n wh best = false) :
    (rows d).foldl (fun m r => takeM W m (wh ++ r)) best = best := by
  have go : ∀ L : List (List Nat), (∀ r ∈ L, r ∈ rows d) → L.foldl (fun m r => takeM W m (wh ++ r)) best = best := by
    intro L
    induction L with
    | nil => intro _; rfl
    | cons r L ih =>
      intro hL
      rw [List.foldl_cons]
      have hr := rows_is d r (hL r List.mem_cons_self)
      have e : takeM W best (wh ++ r) = best := by
        unfold takeM
        split
        · rfl
        · rename_i hg
          rw [Bool.not_eq_false] at hg
          unfold goodM at hg
          simp only [Bool.and_eq_true, decide_eq_true_eq, List.all_eq_true] at hg
          obtain ⟨g1, g2, g3⟩ := hg
          have c1 : countM 1 wh ≤ 6 := by have := count_app 1 wh r; omega
          have c2 : countM 2 wh ≤ 6 := by have := count_app 2 wh r; omega
          have lo : lastOk W wh = true := by
            unfold lastOk
            rw [List.all_eq_true]
            intro p hp
            rw [Bool.or_eq_true]
            by_cases q : p.1 + 1 = wh.length
            · right
              have h1 : p.1 < wh.length := by omega
              have h2 : p.2 < wh.length := by have := hW p hp; omega
              have z := g1 p hp
              simp only [List.getD, List.getElem?_append_left h1, List.getElem?_append_left h2] at z
              exact z
            · left
              simp [q]
          unfold rightM at h
          simp only [c1, c2, lo, decide_true, Bool.and_self, Bool.true_and] at h
          cases best with
          | none => cases h
          | some b =>
            simp only [decide_eq_false_iff_not] at h
            have := size_ge r hr.2
            have := size_app wh r
            simp only
            rw [if_neg (by omega)]
      rw [e]
      exact ih fun s hs => hL s (List.mem_cons_of_mem _ hs)
  exact go _ fun r hr => hr
/-- all words within are spelled -/
def soFar (W : List (Nat × Nat)) (wh : List Nat) : Prop := countM 1 wh ≤ 6 ∧ countM 2 wh ≤ 6 ∧ ∀ p ∈ W, p.1 < wh.length → spelledM (wh.getD p.1 0) (wh.getD p.2 0) = true
theorem search_is {W : List (Nat × Nat)} {n : Nat} (hW : ∀ p ∈ W, p.2 ≤ p.1 ∧ p.1 < n) : ∀ (d : Nat) (wh : List Nat) (best : Option (List Nat)), wh.length + d = n → soFar W wh →
    (∀ b, best = some b → sizeM wh + d < sizeM b) → searchM W n d wh best = (rows d).foldl (fun m r => takeM W m (wh ++ r)) best
  | 0, wh, best, hl, hs, hb => by
    show some wh = takeM W best (wh ++ [])
    rw [List.append_nil]
    have g : goodM W wh = true := by
      unfold goodM
      simp only [Bool.and_eq_true, decide_eq_true_eq, List.all_eq_true]
      exact ⟨fun p hp => hs.2.2 p hp (by have := (hW p hp).2; omega), hs.1, hs.2.1⟩
    unfold takeM
    rw [if_neg (by rw [g]; decide)]
    cases best with
    | none => rfl
    | some b =>
      have := hb b rfl
      simp only
      rw [if_pos (by omega)]
  | d + 1, wh, best, hl, hs, hb => by
    have one : ∀ (k : Nat) (b : Option (List Nat)), (if rightM W n (wh ++ [k]) b = true then searchM W n d (wh ++ [k]) b else b) = (rows d).foldl (fun m r => takeM W m (wh ++ (k :: r))) b := by
      intro k b
      have e : (fun (m : Option (List Nat)) (r : List Nat) => takeM W m (wh ++ (k :: r))) = fun m r => takeM W m ((wh ++ [k]) ++ r) := by
        funext m r
        simp
      rw [e]
      have hl' : (wh ++ [k]).length + d = n := by
        rw [List.length_append, List.length_singleton]
        omega
      by_cases c : rightM W n (wh ++ [k]) b = true
      · rw [if_pos c]
        have c' := c
        unfold rightM at c'
        simp only [Bool.and_eq_true, decide_eq_true_eq] at c'
        obtain ⟨⟨c1, c2⟩, c3, c4⟩ := c'
        refine search_is hW d (wh ++ [k]) b hl' ⟨c1, c2, fun p hp hlt => ?_⟩ fun b' e => ?_
        · unfold lastOk at c3
          rw [List.all_eq_true] at c3
          have z := c3 p hp
          rw [Bool.or_eq_true] at z
          rcases z with z | z
          · have z' : p.1 + 1 ≠ (wh ++ [k]).length := by simpa using z
            rw [List.length_append, List.length_singleton] at hlt z'
            have h1 : p.1 < wh.length := by omega
            have h2 : p.2 < wh.length := by have := (hW p hp).1; omega
            have := hs.2.2 p hp h1
            simp only [List.getD, List.getElem?_append_left h1, List.getElem?_append_left h2]
            simpa only [List.getD] using this
          · exact z
        · subst e
          simp only [decide_eq_true_eq] at c4
          omega
      · rw [if_neg c]
        have c' : rightM W n (wh ++ [k]) b = false := by simpa using c
        exact (not_right (fun p hp => (hW p hp).1) hl' c').symm
    show [1, 2, 3].foldl (fun b k => if rightM W n (wh ++ [k]) b = true then searchM W n d (wh ++ [k]) b else b) best = ([1, 2, 3].flatMap fun k => (rows d).map fun r => k :: r).foldl (fun m r => takeM W m (wh ++ r)) best
    simp only [List.foldl_cons, List.foldl_nil, List.flatMap_cons, List.flatMap_nil, List.append_nil, List.foldl_append, List.foldl_map]
    rw [one 1 best, one 2, one 3]
theorem search_top {W : List (Nat × Nat)} {n : Nat} (hW : ∀ p ∈ W, p.2 ≤ p.1 ∧ p.1 < n) : searchM W n n [] none = (rows n).foldl (takeM W) none := by
  rw [search_is hW n [] none (by simp) ⟨by decide, by decide, fun p _ h => by simp at h⟩ (fun b e => by cases e)]
  rfl
/-! .. is the document's -/
theorem size_is : ∀ (r : List Nat), (∀ k ∈ r, k = 1 ∨ k = 2 ∨ k = 3) → size r = sizeM r := by
  have go : ∀ (r : List Nat) (n : Nat), (∀ k ∈ r, k = 1 ∨ k = 2 ∨ k = 3) → r.foldl (fun n k => n + (if k = 3 then 2 else 1)) n = n + sizeM r := by
    intro r
    induction r with
    | nil => intro n _; simp [sizeM, countM]
    | cons k r ih =>
      intro n h
      rw [List.foldl_cons, ih _ fun j hj => h j (List.mem_cons_of_mem _ hj)]
      have e : sizeM (k :: r) = sizeM [k] + sizeM r := size_app [k] r
      have : sizeM [k] = if k = 3 then 2 else 1 := by
        rcases h k List.mem_cons_self with rfl | rfl | rfl <;> decide
      omega
  intro r h
  have := go r 0 h
  unfold size
  omega
theorem on_is (k : Nat) (hk : k = 1 ∨ k = 2) (l r : List Nat) (h : ∀ j ∈ r, j = 1 ∨ j = 2 ∨ j = 3) : on k l r = ((l.zip r).filter fun z => onc k z.2).map fun z => z.1 := by
  unfold on
  congr 1
  apply List.filter_congr
  intro z hz
  have := h z.2 (List.of_mem_zip hz).2
  unfold onc
  rcases hk with rfl | rfl <;> rcases this with e | e | e <;> rw [e] <;> decide
theorem on_len (k : Nat) (hk : k = 1 ∨ k = 2) : ∀ (l r : List Nat), l.length = r.length → (∀ j ∈ r, j = 1 ∨ j = 2 ∨ j = 3) → (on k l r).length = countM k r := by
  intro l r hl h
  rw [on_is k hk l r h, List.length_map]
  unfold countM
  have e : r = (l.zip r).map fun z => z.2 := by
    rw [List.map_snd_zip]
    omega
  conv => rhs; rw [e]
  rw [List.filter_map, List.length_map]
  rfl
/-- the words by the places of their letters -/
def wordsM (l : List Nat) (ws : List (List Nat)) : List (Nat × Nat) := ws.map fun w => (max (l.idxOf (w.getD 0 0)) (l.idxOf (w.getD 1 0)), min (l.idxOf (w.getD 0 0)) (l.idxOf (w.getD 1 0)))
theorem spelled_comm (a b : Nat) : spelledM a b = spelledM b a := by
  unfold spelledM
  cases onc 1 a <;> cases onc 2 a <;> cases onc 1 b <;> cases onc 2 b <;> rfl
theorem fits_is {l r w : List Nat} (h : ∀ j ∈ r, j = 1 ∨ j = 2 ∨ j = 3) (h0 : l.idxOf (w.getD 0 0) < r.length) (h1 : l.idxOf (w.getD 1 0) < r.length) :
    fits l r w = spelledM (r.getD (max (l.idxOf (w.getD 0 0)) (l.idxOf (w.getD 1 0))) 0) (r.getD (min (l.idxOf (w.getD 0 0)) (l.idxOf (w.getD 1 0))) 0) := by
  unfold fits
  generalize l.idxOf (w.getD 0 0) = i at *
  generalize l.idxOf (w.getD 1 0) = j at *
  have ha : r.getD i 0 = 1 ∨ r.getD i 0 = 2 ∨ r.getD i 0 = 3 := by
    simp only [List.getD, List.getElem?_eq_getElem h0, Option.getD_some]
    exact h _ (List.getElem_mem h0)
  have hb : r.getD j 0 = 1 ∨ r.getD j 0 = 2 ∨ r.getD j 0 = 3 := by
    simp only [List.getD, List.getElem?_eq_getElem h1, Option.getD_some]
    exact h _ (List.getElem_mem h1)
  have base : (let a := r.getD i 0; let b := r.getD j 0; (a % 2 == 1 && b / 2 == 1) || (b % 2 == 1 && a / 2 == 1)) = spelledM (r.getD i 0) (r.getD j 0) := by
    rcases ha with e | e | e <;> rcases hb with e' | e' | e' <;> simp only [e, e'] <;> decide
  rw [base]
  by_cases q : i ≤ j
  · rw [Nat.max_eq_right q, Nat.min_eq_left q, spelled_comm]
  · rw [Nat.max_eq_left (by omega), Nat.min_eq_right (by omega)]
theorem idx_used {x : Box} {letters : List Nat} {a : Nat} (h : a ∈ letters) : (x.used (split 2 letters)).idxOf (x.one_ a) < (x.used (split 2 letters)).length :=
  List.idxOf_lt_length_of_mem ((used_mem x letters _).mpr (List.mem_map.mpr ⟨a, h, rfl⟩))
theorem mem_split {letters w : List Nat} {a : Nat} (hw : w ∈ split 2 letters) (ha : a ∈ w) : a ∈ letters := by
  rw [← split_flat 2 (by decide) letters]
  exact List.mem_flatten.mpr ⟨w, hw, ha⟩
theorem word_two {letters w : List Nat} (he : letters.length % 2 = 0) (hw : w ∈ split 2 letters) : ∃ a b, w = [a, b] ∧ a ∈ letters ∧ b ∈ letters := by
  have := split_word (by decide) he hw
  match w, this with
  | [a, b], _ => exact ⟨a, b, rfl, mem_split hw (by simp), mem_split hw (by simp)⟩
theorem good_is {x : Box} {letters r : List Nat} (he : letters.length % 2 = 0) (hr : r ∈ rows (x.used (split 2 letters)).length) :
    x.good (x.used (split 2 letters)) (split 2 letters) r = goodM (wordsM (x.used (split 2 letters)) ((split 2 letters).map fun w => w.map x.one_)) r := by
  obtain ⟨h1, h2⟩ := rows_is _ r hr
  unfold Box.good goodM wordsM
  rw [on_len 1 (.inl rfl) _ _ h1.symm h2, on_len 2 (.inr rfl) _ _ h1.symm h2, List.map_map, List.all_map]
  congr 1
  rw [Bool.eq_iff_iff, List.all_eq_true, List.all_eq_true]
  have one : ∀ w ∈ split 2 letters, fits (x.used (split 2 letters)) r (w.map x.one_) = spelledM (r.getD (max ((x.used (split 2 letters)).idxOf ((w.map x.one_).getD 0 0)) ((x.used (split 2 letters)).idxOf ((w.map x.one_).getD 1 0))) 0)
      (r.getD (min ((x.used (split 2 letters)).idxOf ((w.map x.one_).getD 0 0)) ((x.used (split 2 letters)).idxOf ((w.map x.one_).getD 1 0))) 0) := fun w hw => by
    obtain ⟨a, b, rfl, ha, hb⟩ := word_two he hw
    refine fits_is h2 ?_ ?_
    · rw [h1]
      exact idx_used ha
    · rw [h1]
      exact idx_used hb
  constructor
  · intro h w hw
    have := h w hw
    rw [one w hw] at this
    exact this
  · intro h w hw
    rw [one w hw]
    exact h w hw
def takeS (x : Box) (l : List Nat) (ws : List (List Nat)) (m : Option (List Nat)) (r : List Nat) : Option (List Nat) := if x.good l ws r = false then m else match m with
    | none => some r
    | some b => if size r < size b then some r else some b
theorem design_def (x : Box) (ws : List (List Nat)) : x.design ws = ((rows (x.used ws).length).foldl (takeS x (x.used ws) ws) none).map fun r => ⟨on 1 (x.used ws) r, on 2 (x.used ws) r⟩ := rfl
/-- the document's lettering is the search's -/
theorem design_is {x : Box} {letters : List Nat} (he : letters.length % 2 = 0) :
    x.design (split 2 letters) = (searchM (wordsM (x.used (split 2 letters)) ((split 2 letters).map fun w => w.map x.one_)) (x.used (split 2 letters)).length (x.used (split 2 letters)).length [] none).map
      fun r => ⟨on 1 (x.used (split 2 letters)) r, on 2 (x.used (split 2 letters)) r⟩ := by
  rw [search_top]
  · rw [design_def]
    congr 1
    have go : ∀ (L : List (List Nat)) (m : Option (List Nat)), (∀ r ∈ L, r ∈ rows (x.used (split 2 letters)).length) → (∀ b, m = some b → b ∈ rows (x.used (split 2 letters)).length) →
        L.foldl (takeS x (x.used (split 2 letters)) (split 2 letters)) m = L.foldl (takeM (wordsM (x.used (split 2 letters)) ((split 2 letters).map fun w => w.map x.one_))) m := by
      intro L
      induction L with
      | nil => intro m _ _; rfl
      | cons r L ih =>
        intro m hL hm
        rw [List.foldl_cons, List.foldl_cons]
        have hr := hL r List.mem_cons_self
        have e : takeS x (x.used (split 2 letters)) (split 2 letters) m r = takeM (wordsM (x.used (split 2 letters)) ((split 2 letters).map fun w => w.map x.one_)) m r := by
          unfold takeM takeS
          rw [good_is he hr]
          cases m with
          | none => rfl
          | some b =>
            simp only
            rw [size_is r (rows_is _ r hr).2, size_is b (rows_is _ b (hm b rfl)).2]
        rw [e]
        refine ih _ (fun s hs => hL s (List.mem_cons_of_mem _ hs)) fun b hb => ?_
        unfold takeM at hb
        split at hb
        · exact hm b hb
        · cases m with
          | none => cases hb; exact hr
          | some c =>
            simp only at hb
            split at hb
            · cases hb; exact hr
            · exact hm b hb
    exact go _ none (fun r hr => hr) (fun b e => by cases e)
  · intro p hp
    unfold wordsM at hp
    rw [List.map_map] at hp
    obtain ⟨w, hw, rfl⟩ := List.mem_map.mp hp
    obtain ⟨a, b, rfl, ha, hb⟩ := word_two he hw
    have h1 := idx_used (x := x) ha
    have h2 := idx_used (x := x) hb
    simp only [Function.comp]
    show min _ _ ≤ max _ _ ∧ max ((x.used (split 2 letters)).idxOf (x.one_ a)) ((x.used (split 2 letters)).idxOf (x.one_ b)) < _
    omega
theorem search_mem {W : List (Nat × Nat)} {n : Nat} {b : List Nat} (hW : ∀ p ∈ W, p.2 ≤ p.1 ∧ p.1 < n) (h : searchM W n n [] none = some b) : b.length = n ∧ ∀ k ∈ b, k = 1 ∨ k = 2 ∨ k = 3 := by
  rw [search_top hW] at h
  have go : ∀ (L : List (List Nat)) (m : Option (List Nat)), (∀ r ∈ L, r ∈ rows n) → (∀ b, m = some b → b ∈ rows n) → ∀ b, L.foldl (takeM W) m = some b → b ∈ rows n := by
    intro L
    induction L with
    | nil => intro m _ hm b hb; exact hm b hb
    | cons r L ih =>
      intro m hL hm b hb
      rw [List.foldl_cons] at hb
      refine ih _ (fun s hs => hL s (List.mem_cons_of_mem _ hs)) (fun c hc => ?_) b hb
      unfold takeM at hc
      split at hc
      · exact hm c hc
      · cases m with
        | none => cases hc; exact hL _ List.mem_cons_self
        | some e =>
          simp only at hc
          split at hc
          · cases hc; exact hL _ List.mem_cons_self
          · exact hm c hc
  exact rows_is n b (go _ none (fun r hr => hr) (fun b e => by cases e) b h)
end Lc
set_option Elab.async false
namespace Lc
open Uw57
/-! A list of calls: how it is read -/
inductive GoodC : Nat → List Nat → List (List Nat) → Uw57.Call → Prop
  | begins (n : Nat) : GoodC 0 [n] [] (.begins n)
  | cube (i : Nat) (l : List Nat) (h : l.length ≤ 8) : GoodC 1 [i] [l] (.cube i l)
  | alike (a b : Nat) : GoodC 2 [a, b] [] (.alike a b)
  | spells (l : List Nat) (h : l.length ≤ 10) : GoodC 3 [] [l] (.spells l)
  | list (n : Nat) (l : List Nat) (hn : n ≤ 4294967295) (h : l.length ≤ 60) : GoodC 4 [n] [l] (.list n l)
  | all (n : Nat) : GoodC 5 [n] [] (.all n)
  | design (l : List Nat) (h : l.length ≤ 80) : GoodC 6 [] [l] (.design l)
  | shows (a : Nat) : GoodC 7 [a] [] (.shows a)
/-- a call as numbers: its place, its whole numbers, its rows -/
structure NC where
  k : Nat
  ws : List Nat
  ls : List (List Nat)
  cl : Uw57.Call
def flatL (ls : List (List Nat)) : List Nat := ls.flatMap fun l => l.length :: l
def flat1 (c : NC) : List Nat := c.k :: (c.ws ++ flatL c.ls)
def flatC (cs : List NC) : List Nat := cs.flatMap flat1
def asInts (l : List Nat) : List Int := l.map fun (n : Nat) => (n : Int)
def toldM : Box → List NC → List Int
  | _, [] => []
  | x, c :: r => ((Uw57Neutral.out (step x c.cl).2).length : Int) :: (Uw57Neutral.out (step x c.cl).2 ++ toldM (step x c.cl).1 r)
def Small (l : List Int) : Prop := ∀ z ∈ l, 0 ≤ z ∧ z ≤ 4294967295
theorem asInts_of {l : List Int} (h : Small l) : asInts (l.map Int.toNat) = l := by
  unfold asInts
  rw [List.map_map]
  conv => rhs; rw [← List.map_id l]
  apply List.map_congr_left
  intro z hz
  have := h z hz
  simp only [id, Function.comp]
  omega
theorem small_app {a b : List Int} (h : Small (a ++ b)) : Small a ∧ Small b := ⟨fun z hz => h z (List.mem_append_left _ hz), fun z hz => h z (List.mem_append_right _ hz)⟩
theorem small_cons {z : Int} {b : List Int} (h : Small (z :: b)) : (0 ≤ z ∧ z ≤ 4294967295) ∧ Small b := ⟨h z List.mem_cons_self, fun y hy => h y (List.mem_cons_of_mem _ hy)⟩
theorem all_nat {l : List Int} (h : Small l) : l.all Uw57Neutral.nat = true := by
  rw [List.all_eq_true]
  intro z hz
  have := h z hz
  unfold Uw57Neutral.nat
  rw [Bool.and_eq_true]
  exact ⟨decide_eq_true this.1, decide_eq_true (by omega)⟩
theorem call_of {l : List Int} (h : Small l) : Uw57Neutral.callOf l = Uw57Neutral.callIn (l.map Int.toNat) := by
  unfold Uw57Neutral.callOf
  rw [all_nat h, if_neg (by decide)]
/-- one call -/
theorem one_call {c : List (List Int)} (ok : PyFlat.okCall PyUw57.shape c) (sm : Small (PyFlat.put1 c)) (ins : PyInside.call PyUw57.bound c = true) :
    ∃ n : NC, asInts (flat1 n) = PyFlat.put1 c ∧ GoodC n.k n.ws n.ls n.cl ∧ Uw57Neutral.callOf ((PyUw57.whole c).headD []) = some n.cl := by
  obtain ⟨p, a, xs, rfl, hs⟩ := ok
  have sm' : Small ((p :: a) ++ PyFlat.putRows xs) := sm
  obtain ⟨s1, s2⟩ := small_app sm'
  obtain ⟨sp, sa⟩ := small_cons s1
  have ins' : (PyInside.each (PyUw57.bound p).1 a && PyInside.lists (PyUw57.bound p).2 xs) = true := ins
  have il : PyInside.lists (PyUw57.bound p).2 xs = true := (Bool.and_eq_true_iff.mp ins').2
  unfold PyUw57.shape at hs
  -- a row of numbers
  have row : ∀ r : List Int, xs = [r] → Small r ∧ PyFlat.putRows xs = (r.length : Int) :: r := fun r e => by
    subst e
    have e2 : PyFlat.putRows [r] = ((r.length : Int) :: r) ++ [] := rfl
    rw [List.append_nil] at e2
    rw [e2] at s2
    exact ⟨(small_cons s2).2, e2⟩
  have no : a.length = 1 → ∃ z, a = [z] := fun h => by
    match a, h with
    | [z], _ => exact ⟨z, rfl⟩
  have two : a.length = 2 → ∃ z y, a = [z, y] := fun h => by
    match a, h with
    | [z, y], _ => exact ⟨z, y, rfl⟩
  have nil : ∀ {β : Type} {l : List β}, l.length = 0 → l = [] := fun h => List.eq_nil_of_length_eq_zero h
  have onex : xs.length = 1 → ∃ r, xs = [r] := fun h => by
    match xs, h with
    | [r], _ => exact ⟨r, rfl⟩
  have flatRow : ∀ r : List Int, Small r → asInts (flatL [r.map Int.toNat]) = (r.length : Int) :: r := fun r h => by
    unfold flatL
    show asInts (((r.map Int.toNat).length :: r.map Int.toNat) ++ []) = _
    rw [List.append_nil]
    show (((r.map Int.toNat).length : Nat) : Int) :: asInts (r.map Int.toNat) = _
    rw [asInts_of h, List.length_map]
  by_cases p0 : p = 0
  · rw [if_pos p0] at hs
    have hs := Option.some.inj hs
    obtain ⟨z, rfl⟩ := no (congrArg Prod.fst hs).symm
    have := nil (congrArg Prod.snd hs).symm
    subst this p0
    have hz := (small_cons sa).1
    refine ⟨⟨0, [z.toNat], [], .begins z.toNat⟩, ?_, .begins _, ?_⟩
    · show [(0 : Int), ((z.toNat : Nat) : Int)] = [0, z]
      rw [Int.toNat_of_nonneg hz.1]
    · show Uw57Neutral.callOf [0, z] = _
      rw [call_of s1]
      rfl
  rw [if_neg p0] at hs
  by_cases p1 : p = 1
  · rw [if_pos p1] at hs
    have hs := Option.some.inj hs
    obtain ⟨z, rfl⟩ := no (congrArg Prod.fst hs).symm
    obtain ⟨r, rfl⟩ := onex (congrArg Prod.snd hs).symm
    obtain ⟨sr, er⟩ := row r rfl
    subst p1
    have hz := (small_cons sa).1
    have hl : r.length ≤ 8 := by
      have il' : (decide (0 ≤ r.length) && decide (r.length ≤ 8) && r.all (PyInside.within 0 4294967295) && PyInside.lists [] []) = true := il
      simp only [Bool.and_eq_true, decide_eq_true_eq] at il'
      exact il'.1.1.2
    have hl2 : (r.map Int.toNat).length ≤ 8 := by rw [List.length_map]; exact hl
    refine ⟨⟨1, [z.toNat], [r.map Int.toNat], .cube z.toNat (r.map Int.toNat)⟩, ?_, .cube _ _ hl2, ?_⟩
    · show (1 : Int) :: ((z.toNat : Nat) : Int) :: asInts (flatL [r.map Int.toNat]) = [1, z] ++ PyFlat.putRows [r]
      rw [Int.toNat_of_nonneg hz.1, er, flatRow r sr]
      rfl
    · show Uw57Neutral.callOf ([1] ++ [z] ++ r) = _
      rw [call_of (fun y hy => by
        rcases List.mem_append.mp hy with hy | hy
        · exact s1 y hy
        · exact sr y hy)]
      show Uw57Neutral.upTo 8 (r.map Int.toNat) _ = _
      unfold Uw57Neutral.upTo
      rw [if_pos hl2]
      rfl
  rw [if_neg p1] at hs
  by_cases p2 : p = 2
  · rw [if_pos p2] at hs
    have hs := Option.some.inj hs
    obtain ⟨z, y, rfl⟩ := two (congrArg Prod.fst hs).symm
    have := nil (congrArg Prod.snd hs).symm
    subst this p2
    have hz := (small_cons sa).1
    have hy := (small_cons (small_cons sa).2).1
    refine ⟨⟨2, [z.toNat, y.toNat], [], .alike z.toNat y.toNat⟩, ?_, .alike _ _, ?_⟩
    · show [(2 : Int), ((z.toNat : Nat) : Int), ((y.toNat : Nat) : Int)] = [2, z, y]
      rw [Int.toNat_of_nonneg hz.1, Int.toNat_of_nonneg hy.1]
    · show Uw57Neutral.callOf [2, z, y] = _
      rw [call_of s1]
      rfl
  rw [if_neg p2] at hs
  by_cases p3 : p = 3
  · rw [if_pos p3] at hs
    have hs := Option.some.inj hs
    have := nil (congrArg Prod.fst hs).symm
    obtain ⟨r, rfl⟩ := onex (congrArg Prod.snd hs).symm
    obtain ⟨sr, er⟩ := row r rfl
    subst this p3
    have hl : r.length ≤ 10 := by
      have il' : (decide (0 ≤ r.length) && decide (r.length ≤ 10) && r.all (PyInside.within 0 4294967295) && PyInside.lists [] []) = true := il
      simp only [Bool.and_eq_true, decide_eq_true_eq] at il'
      exact il'.1.1.2
    have hl2 : (r.map Int.toNat).length ≤ 10 := by rw [List.length_map]; exact hl
    refine ⟨⟨3, [], [r.map Int.toNat], .spells (r.map Int.toNat)⟩, ?_, .spells _ hl2, ?_⟩
    · show (3 : Int) :: asInts (flatL [r.map Int.toNat]) = [3] ++ PyFlat.putRows [r]
      rw [er, flatRow r sr]
      rfl
    · show Uw57Neutral.callOf ([3] ++ r) = _
      rw [call_of (fun y hy => by
        rcases List.mem_append.mp hy with hy | hy
        · exact s1 y hy
        · exact sr y hy)]
      show Uw57Neutral.upTo 10 (r.map Int.toNat) _ = _
      unfold Uw57Neutral.upTo
      rw [if_pos hl2]
      rfl
  rw [if_neg p3] at hs
  by_cases p4 : p = 4
  · rw [if_pos p4] at hs
    have hs := Option.some.inj hs
    obtain ⟨z, rfl⟩ := no (congrArg Prod.fst hs).symm
    obtain ⟨r, rfl⟩ := onex (congrArg Prod.snd hs).symm
    obtain ⟨sr, er⟩ := row r rfl
    subst p4
    have hz := (small_cons sa).1
    have hl : r.length ≤ 60 := by
      have il' : (decide (0 ≤ r.length) && decide (r.length ≤ 60) && r.all (PyInside.within 0 4294967295) && PyInside.lists [] []) = true := il
      simp only [Bool.and_eq_true, decide_eq_true_eq] at il'
      exact il'.1.1.2
    have hl2 : (r.map Int.toNat).length ≤ 60 := by rw [List.length_map]; exact hl
    refine ⟨⟨4, [z.toNat], [r.map Int.toNat], .list z.toNat (r.map Int.toNat)⟩, ?_, .list _ _ (show z.toNat ≤ 4294967295 by omega) hl2, ?_⟩
    · show (4 : Int) :: ((z.toNat : Nat) : Int) :: asInts (flatL [r.map Int.toNat]) = [4, z] ++ PyFlat.putRows [r]
      rw [Int.toNat_of_nonneg hz.1, er, flatRow r sr]
      rfl
    · show Uw57Neutral.callOf ([4] ++ [z] ++ r) = _
      rw [call_of (fun y hy => by
        rcases List.mem_append.mp hy with hy | hy
        · exact s1 y hy
        · exact sr y hy)]
      show Uw57Neutral.upTo 60 (r.map Int.toNat) _ = _
      unfold Uw57Neutral.upTo
      rw [if_pos hl2]
      rfl
  rw [if_neg p4] at hs
  by_cases p5 : p = 5
  · rw [if_pos p5] at hs
    have hs := Option.some.inj hs
    obtain ⟨z, rfl⟩ := no (congrArg Prod.fst hs).symm
    have := nil (congrArg Prod.snd hs).symm
    subst this p5
    have hz := (small_cons sa).1
    refine ⟨⟨5, [z.toNat], [], .all z.toNat⟩, ?_, .all _, ?_⟩
    · show [(5 : Int), ((z.toNat : Nat) : Int)] = [5, z]
      rw [Int.toNat_of_nonneg hz.1]
    · show Uw57Neutral.callOf [5, z] = _
      rw [call_of s1]
      rfl
  rw [if_neg p5] at hs
  by_cases p6 : p = 6
  · rw [if_pos p6] at hs
    have hs := Option.some.inj hs
    have := nil (congrArg Prod.fst hs).symm
    obtain ⟨r, rfl⟩ := onex (congrArg Prod.snd hs).symm
    obtain ⟨sr, er⟩ := row r rfl
    subst this p6
    have hl : r.length ≤ 80 := by
      have il' : (decide (0 ≤ r.length) && decide (r.length ≤ 80) && r.all (PyInside.within 0 4294967295) && PyInside.lists [] []) = true := il
      simp only [Bool.and_eq_true, decide_eq_true_eq] at il'
      exact il'.1.1.2
    have hl2 : (r.map Int.toNat).length ≤ 80 := by rw [List.length_map]; exact hl
    refine ⟨⟨6, [], [r.map Int.toNat], .design (r.map Int.toNat)⟩, ?_, .design _ hl2, ?_⟩
    · show (6 : Int) :: asInts (flatL [r.map Int.toNat]) = [6] ++ PyFlat.putRows [r]
      rw [er, flatRow r sr]
      rfl
    · show Uw57Neutral.callOf ([6] ++ r) = _
      rw [call_of (fun y hy => by
        rcases List.mem_append.mp hy with hy | hy
        · exact s1 y hy
        · exact sr y hy)]
      show Uw57Neutral.upTo 80 (r.map Int.toNat) _ = _
      unfold Uw57Neutral.upTo
      rw [if_pos hl2]
      rfl
  rw [if_neg p6] at hs
  by_cases p7 : p = 7
  · rw [if_pos p7] at hs
    have hs := Option.some.inj hs
    obtain ⟨z, rfl⟩ := no (congrArg Prod.fst hs).symm
    have := nil (congrArg Prod.snd hs).symm
    subst this p7
    have hz := (small_cons sa).1
    refine ⟨⟨7, [z.toNat], [], .shows z.toNat⟩, ?_, .shows _, ?_⟩
    · show [(7 : Int), ((z.toNat : Nat) : Int)] = [7, z]
      rw [Int.toNat_of_nonneg hz.1]
    · show Uw57Neutral.callOf [7, z] = _
      rw [call_of s1]
      rfl
  rw [if_neg p7] at hs
  cases hs
theorem asInts_app (a b : List Nat) : asInts (a ++ b) = asInts a ++ asInts b := List.map_append
/-- all calls -/
theorem all_calls : ∀ (raw : List (List (List Int))) (x : Box), (∀ c ∈ raw, PyFlat.okCall PyUw57.shape c) → Small (PyFlat.put raw) → PyInside.calls PyUw57.bound raw = true →
    ∃ cs : List NC, asInts (flatC cs) = PyFlat.put raw ∧ (∀ c ∈ cs, GoodC c.k c.ws c.ls c.cl) ∧ PyFlat.told (PyFlat.played (fun s c => Uw57Neutral.step s (c.headD [])) x (raw.map PyUw57.whole)) = toldM x cs
  | [], x, _, _, _ => ⟨[], rfl, by simp, rfl⟩
  | c :: raw, x, ok, sm, ins => by
    have sm' : Small (PyFlat.put1 c ++ PyFlat.put raw) := sm
    obtain ⟨s1, s2⟩ := small_app sm'
    have ins' : (PyInside.call PyUw57.bound c && raw.all (PyInside.call PyUw57.bound)) = true := ins
    obtain ⟨i1, i2⟩ := Bool.and_eq_true_iff.mp ins'
    obtain ⟨n, e1, g1, c1⟩ := one_call (ok c List.mem_cons_self) s1 i1
    obtain ⟨cs, e2, g2, t2⟩ := all_calls raw (step x n.cl).1 (fun d hd => ok d (List.mem_cons_of_mem _ hd)) s2 i2
    refine ⟨n :: cs, ?_, ?_, ?_⟩
    · show asInts (flat1 n ++ flatC cs) = PyFlat.put1 c ++ PyFlat.put raw
      rw [asInts_app, e1, e2]
    · intro d hd
      rcases List.mem_cons.mp hd with rfl | hd
      · exact g1
      · exact g2 d hd
    · have st : Uw57Neutral.step x ((PyUw57.whole c).headD []) = ((step x n.cl).1, Uw57Neutral.out (step x n.cl).2) := by
        unfold Uw57Neutral.step
        rw [c1]
      show ((((Uw57Neutral.step x ((PyUw57.whole c).headD [])).2).length : Int) :: (Uw57Neutral.step x ((PyUw57.whole c).headD [])).2) ++ PyFlat.told (PyFlat.played (fun s c => Uw57Neutral.step s (c.headD [])) (Uw57Neutral.step x ((PyUw57.whole c).headD [])).1 (raw.map PyUw57.whole)) = _
      rw [st]
      show _ :: (_ ++ _) = _
      rw [t2]
      rfl
theorem parse {l : List Int} (sm : Small l) (h : PyUw57.answers_asked l = true) : ∃ cs : List NC, l = asInts (flatC cs) ∧ (∀ c ∈ cs, GoodC c.k c.ws c.ls c.cl) ∧ PyUw57.answers l = toldM Uw57.init cs ∧ (PyUw57.answers l).length ≤ 10000000 := by
  unfold PyUw57.answers_asked at h
  cases e : PyFlat.calls PyUw57.shape l.length l with
  | none => rw [e] at h; cases h
  | some raw =>
    rw [e] at h
    have h' : (!raw.isEmpty && PyFlat.atMost 40 raw && PyInside.calls PyUw57.bound raw && Uw57Neutral.asked ((raw.map PyUw57.whole).map fun c => c.headD []) && PyFlat.short 10000000 (PyUw57.answers l)) = true := h
    simp only [Bool.and_eq_true] at h'
    obtain ⟨⟨⟨⟨_, _⟩, ins⟩, _⟩, sh⟩ := h'
    obtain ⟨el, ok⟩ := PyFlat.put_calls _ _ _ e
    obtain ⟨cs, e1, g1, t1⟩ := all_calls raw Uw57.init ok (by rw [← el]; exact sm) ins
    refine ⟨cs, ?_, g1, ?_, of_decide_eq_true sh⟩
    · rw [e1]
      exact el
    · have ea : PyUw57.answers l = PyFlat.told (PyFlat.played (fun s c => Uw57Neutral.step s (c.headD [])) Uw57Neutral.start (raw.map PyUw57.whole)) := by
        unfold PyUw57.answers PyUw57.calls
        rw [e]
      rw [ea]
      exact t1
/-- a refusal: all is as it was; the number alone -/
theorem refused {x : Box} {k : Nat} {ws : List Nat} {ls : List (List Nat)} {cl : Uw57.Call} (g : GoodC k ws ls cl) (h : (step x cl).2.v < 0) : (step x cl).1 = x ∧ (step x cl).2.l = [] := by
  cases cl with
  | begins n =>
    unfold step at h ⊢
    simp only at h ⊢
    split
    · exact ⟨rfl, rfl⟩
    · rename_i q
      rw [if_neg q] at h
      have : ((n : Int)) < 0 := h
      omega
  | cube i l =>
    unfold step at h ⊢
    simp only at h ⊢
    split
    · exact ⟨rfl, rfl⟩
    · rename_i q
      rw [if_neg q] at h
      split
      · exact ⟨rfl, rfl⟩
      · rename_i q2
        rw [if_neg q2] at h
        have h' : (((_ : Nat)) : Int) < 0 := h
        omega
  | alike a b =>
    unfold step at h ⊢
    simp only at h ⊢
    split
    · exact ⟨rfl, rfl⟩
    · rename_i q
      rw [if_neg q] at h
      split
      · exact ⟨rfl, rfl⟩
      · rename_i q2
        rw [if_neg q2] at h
        split
        · exact ⟨rfl, rfl⟩
        · rename_i q3
          rw [if_neg q3] at h
          have h' : (((_ : Nat)) : Int) < 0 := h
          omega
  | spells wd =>
    unfold step at h ⊢
    simp only at h ⊢
    refine ⟨trivial, ?_⟩
    split
    · rfl
    · rename_i q
      rw [if_neg q] at h
      cases e : x.lack wd with
      | none =>
        rw [e] at h
        have h' : (((_ : Nat)) : Int) < 0 := h
        omega
      | some ps =>
        rw [e] at h
        have h' : (0 : Int) < 0 := h
        omega
  | list n l =>
    unfold step at h ⊢
    simp only at h ⊢
    refine ⟨trivial, ?_⟩
    split
    · rfl
    · rename_i q
      rw [if_neg q] at h
      have h' : (((_ : Nat)) : Int) < 0 := h
      omega
  | all n =>
    unfold step at h ⊢
    simp only at h ⊢
    refine ⟨trivial, ?_⟩
    split
    · rfl
    · rename_i q
      rw [if_neg q] at h
      have h' : (((_ : Nat)) : Int) < 0 := h
      omega
  | design l =>
    unfold step at h ⊢
    simp only at h ⊢
    refine ⟨trivial, ?_⟩
    split
    · rfl
    · rename_i q
      rw [if_neg q] at h
      split
      · rfl
      · rename_i q2
        rw [if_neg q2] at h
        cases e : x.design (split 2 l) with
        | none => rfl
        | some d =>
          rw [e] at h
          have h' : (((_ : Nat)) : Int) < 0 := h
          omega
  | shows a =>
    unfold step at h ⊢
    simp only at h ⊢
    refine ⟨trivial, ?_⟩
    split
    · rfl
    · rename_i q
      rw [if_neg q] at h
      have h' : (((_ : Nat)) : Int) < 0 := h
      omega
end Lc
set_option Elab.async false
set_option linter.all false
set_option maxRecDepth 100000
set_option maxHeartbeats 2000000
namespace Lc
open PySem L2 PySem.Spec PyProof.Rows
/-! The text by places -/
def top (i : Nat) : Stmt := PySem.Challenge.pw_lettercubes_s01_answers.main.body.getD i (.Pass ⟨0, 0, 0, 0⟩)
/-! A def that stands in the module, by its name; one that keeps its promise -/
structure DefAt (K : PySem.W.Frag) (mg : Str → Option Value) (x qual : Str) (st : Stmt) (ps : List Str) : Prop where
  ex : ∃ f fd, Fun K qual qual st f fd ∧ Binds K fd ps [] ∧ mg x = some (.ref f)
def Cal (P : Program) (w : World) (K : PySem.W.Frag) (mg : Str → Option Value) (base : Heap) (CX : CXT) (k : Nat) (x : Str) (ps : List Str) (sp : Sp) : Prop :=
  ∃ f fd, FnOk P w K mg base CX k f fd ps sp ∧ Binds K fd ps [] ∧ mg x = some (.ref f) ∧ PySem.W.keepIn K (.ref f) = true
theorem pe_cal {X : Cx} {CX : CXT} {k : Nat} {ps : List Str} {sp : Sp} {E : XK} {x : Str} {p pos : Pos} {e : Expr} {es : List Expr} {t : TA} (C : Cal X.prog X.w X.K X.mg X.base CX k x ps sp) (hr : Room k X.A) (hx : Passes CX X E) (ha : PA X (e :: es) t)
    (hg : Gl X x := by rfl) (hdb : (x == ("__debug__" : Str)) = false := by decide) (he : starEach (e :: es) X.env = (false, eval e X.env) :: starEach es X.env := by rfl) (hpl : (backTo pos (starEach es X.env)).any (·.1) = false := by rfl) :
    PE X (.Call (.Name x p) (e :: es) [] pos) (tCall sp [] E t) := by
  obtain ⟨f, fd, F, b, hm, hk⟩ := C
  exact pe_call F hr hg hm hk b .nil hx ha hdb he hpl
section
variable {P : Program} {w : World} {K : PySem.W.Frag} {mg : Str → Option Value} {base : Heap}
/-- a def that lets no error out -/
theorem DefAt.ok {x qual : Str} {st : Stmt} {N ps : List Str} {k : Nat} {sp : Sp} (D : DefAt K mg x qual st ps) (S : FnScope N ps (defScope st)) (len : ∀ vs H Q E, sp vs H Q E → vs.length = ps.length)
    (hbody : ∀ (f : Addr) (cdv : Value) (A : Around) (outer : List Env) (s : Shared) (H : Hp) (vs : List V) (Q : VK) (E : XK), Room k (A.deeper (envOfC qual (defScope st) s.heap.objs.size f cdv)) → sp vs H Q E →
      ∃ t, PSs (cxOf CX0 P w K mg base N qual (defScope st) f cdv A outer s H E).nox (defBody st) t ∧ t { nx := fun _ H' => Q .non H', rt := Q } (start N vs) H) : Cal P w K mg base CX0 (k + 1) x ps sp := by
  obtain ⟨f, fd, F, b, hm⟩ := D.ex
  exact ⟨f, fd, F.ok S len (hbody f), b, hm, F.kp⟩
/-- one that may raise -/
theorem DefAt.okX {x qual : Str} {st : Stmt} {N ps : List Str} {k : Nat} {sp : Sp} (D : DefAt K mg x qual st ps) (S : FnScope N ps (defScope st)) (len : ∀ vs H Q E, sp vs H Q E → vs.length = ps.length)
    (hbody : ∀ (f : Addr) (cdv : Value) (A : Around) (outer : List Env) (s : Shared) (H : Hp) (vs : List V) (Q : VK) (E : XK), Room k (A.deeper (envOfC qual (defScope st) s.heap.objs.size f cdv)) → sp vs H Q E →
      ∃ t, PSs (cxOf (L2.CX P w) P w K mg base N qual (defScope st) f cdv A outer s H E) (defBody st) t ∧ t { nx := fun _ H' => Q .non H', rt := Q } (start N vs) H) : Cal P w K mg base (L2.CX P w) (k + 1) x ps sp := by
  obtain ⟨f, fd, F, b, hm⟩ := D.ex
  exact ⟨f, fd, F.okX S len (hbody f), b, hm, F.kp⟩
end
/-! Numbers -/
def nv (n : Nat) : V := .int (n : Int)
def nvs (l : List Nat) : List V := l.map nv
theorem nvs_len (l : List Nat) : (nvs l).length = l.length := List.length_map _
theorem nvs_app (a b : List Nat) : nvs (a ++ b) = nvs a ++ nvs b := List.map_append
theorem nvs_get {l : List Nat} {i n : Nat} (h : l[i]? = some n) : (nvs l)[i]? = some (nv n) := by
  unfold nvs
  rw [List.getElem?_map, h]
  rfl
theorem nvs_flat (l : List Nat) : (nvs l).all flatV = true := by
  rw [List.all_eq_true]
  intro v hv
  obtain ⟨n, _, rfl⟩ := List.mem_map.mp hv
  rfl
theorem eqV_nv (a b : Nat) : eqV (nv a) (nv b) = (a == b) := by
  show ((a : Int) == (b : Int)) = (a == b)
  rw [Bool.eq_iff_iff, beq_iff_eq, beq_iff_eq]
  exact Int.ofNat_inj
theorem inV_nvs (a : Nat) (l : List Nat) : inV (nv a) (nvs l) = l.contains a := by
  unfold inV nvs
  rw [List.any_map]
  induction l with
  | nil => rfl
  | cons b r ih =>
    rw [List.any_cons, List.contains_cons, ih]
    show (eqV (nv b) (nv a) || _) = _
    rw [eqV_nv]
    congr 1
    rw [Bool.eq_iff_iff]
    simp only [beq_iff_eq]
    exact eq_comm
/-! Heaps -/
theorem same_new {H : Hp} {p : Addr} (h : H p = none) (o : HO) : Same H (upd H p o) := fun b u q => by
  rw [upd_ne (ne_of_none q h)]
  exact q
/-- the heap without one object -/
def del (H : Hp) (l : Addr) : Hp := fun b => if b = l then none else H b
theorem del_self (H : Hp) (l : Addr) : del H l l = none := by simp [del]
theorem del_ne {H : Hp} {l b : Addr} (h : b ≠ l) : del H l b = H b := by simp [del, h]
theorem del_upd (H : Hp) (l : Addr) (o : HO) : del (upd H l o) l = del H l := by
  funext b
  unfold del upd
  split
  · rfl
  · rfl
theorem del_same (H : Hp) (l : Addr) : Same (del H l) H := fun b o h => by
  unfold del at h
  split at h
  · cases h
  · exact h
theorem same_del {H H' : Hp} (e : Same H H') (l : Addr) : Same (del H l) (del H' l) := fun b o h => by
  unfold del at h ⊢
  split at h
  · cases h
  · rename_i q
    rw [if_neg q]
    exact e b o h
theorem same_del_of {H H' : Hp} {l : Addr} (e : Same H H') (h : H l = none) : Same H (del H' l) := fun b o q => by
  rw [del_ne (ne_of_none q h)]
  exact e b o q
theorem del_some {H : Hp} {l b : Addr} {o : HO} (h : del H l b = some o) : b ≠ l ∧ H b = some o := by
  unfold del at h
  split at h
  · cases h
  · rename_i q
    exact ⟨q, h⟩
theorem SqT.same {K : PySem.W.Frag} {H H' : Hp} {a : Addr} {xs : List V} (e : Same H H') (h : SqT K H a xs) : SqT K H' a xs := by
  rcases h with (p | ⟨ob, p⟩) | p
  · exact .inl (.inl (e _ _ p))
  · exact .inl (.inr ⟨ob, e _ _ p⟩)
  · exact .inr p
/-- a list of objects made by mk out of rows of numbers -/
def Deep (mk : List V → HO) (H : Hp) (vs : List V) (ws : List (List Nat)) : Prop := vs.length = ws.length ∧ ∀ (i : Nat) (w : List Nat), ws[i]? = some w → ∃ p, vs[i]? = some (.ref p) ∧ H p = some (mk (nvs w))
theorem Deep.nil {mk : List V → HO} {H : Hp} : Deep mk H [] [] := ⟨rfl, fun i w h => by simp at h⟩
theorem Deep.same {mk : List V → HO} {H H' : Hp} {vs : List V} {ws : List (List Nat)} (d : Deep mk H vs ws) (e : Same H H') : Deep mk H' vs ws := ⟨d.1, fun i w h => by
  obtain ⟨p, h1, h2⟩ := d.2 i w h
  exact ⟨p, h1, e p _ h2⟩⟩
theorem Deep.one {mk : List V → HO} {H : Hp} {p : Addr} {w : List Nat} (h : H p = some (mk (nvs w))) : Deep mk H [.ref p] [w] := ⟨rfl, fun i u q => by
  cases i with
  | zero =>
    have e : w = u := Option.some.inj q
    subst e
    exact ⟨p, rfl, h⟩
  | succ i => simp at q⟩
theorem Deep.app {mk : List V → HO} {H : Hp} {vs us : List V} {ws zs : List (List Nat)} (d : Deep mk H vs ws) (e : Deep mk H us zs) : Deep mk H (vs ++ us) (ws ++ zs) := by
  refine ⟨by rw [List.length_append, List.length_append, d.1, e.1], fun i w h => ?_⟩
  by_cases hi : i < ws.length
  · rw [List.getElem?_append_left hi] at h
    obtain ⟨p, h1, h2⟩ := d.2 i w h
    exact ⟨p, by rw [List.getElem?_append_left (by rw [d.1]; exact hi)]; exact h1, h2⟩
  · rw [List.getElem?_append_right (by omega)] at h
    obtain ⟨p, h1, h2⟩ := e.2 _ w h
    exact ⟨p, by rw [List.getElem?_append_right (by rw [d.1]; omega), d.1]; exact h1, h2⟩
theorem Deep.get {mk : List V → HO} {H : Hp} {vs : List V} {ws : List (List Nat)} (d : Deep mk H vs ws) {i : Nat} {v : V} (h : vs[i]? = some v) : ∃ w p, ws[i]? = some w ∧ v = .ref p ∧ H p = some (mk (nvs w)) := by
  have hi : i < ws.length := by
    rw [← d.1]
    exact (List.getElem?_eq_some_iff.mp h).1
  obtain ⟨p, h1, h2⟩ := d.2 i ws[i] (List.getElem?_eq_getElem hi)
  rw [h] at h1
  exact ⟨ws[i], p, List.getElem?_eq_getElem hi, Option.some.inj h1, h2⟩
/-! Comparing with the empty list, the empty tuple -/
def dNum (l : List Nat) : List PyData := l.map fun (n : Nat) => PyData.int (n : Int)
theorem dp_nums {K : PySem.W.Frag} {H : Hp} : ∀ l : List Nat, DpAll K H (nvs l) (dNum l)
  | [] => .nil
  | n :: l => .cons (.int _) (dp_nums l)
theorem lay_nums : ∀ l : List Nat, PyData.canLayAll0 (dNum l) = true
  | [] => by simp [dNum, PyData.canLayAll0]
  | n :: l => by
    have := lay_nums l
    unfold dNum at this ⊢
    rw [List.map_cons]
    simp only [PyData.canLayAll0, PyData.canLay0, this, Bool.and_self]
theorem depth_nums : ∀ l : List Nat, PyData.depthAll (dNum l) = 0
  | [] => by simp [dNum, PyData.depthAll]
  | n :: l => by
    have := depth_nums l
    unfold dNum at this ⊢
    rw [List.map_cons]
    simp only [PyData.depthAll, PyData.depth, this, Nat.max_self]
theorem shaped_nums (l : List Nat) : SeqAt.shaped (.list (dNum l)) = true := by
  unfold SeqAt.shaped
  simp only [PyData.canLay0, PyData.depth, lay_nums, depth_nums, Bool.true_and]
  decide
theorem shaped_tnums (l : List Nat) : SeqAt.shaped (.tuple (dNum l)) = true := by
  unfold SeqAt.shaped
  simp only [PyData.canLay0, PyData.depth, lay_nums, depth_nums, Bool.true_and]
  decide
theorem eqv_nil (ds : List PyData) : PyData.eqv (.list ds) (.list []) = ds.isEmpty := by
  cases ds with
  | nil => simp [PyData.eqv, PyData.eqvAll]
  | cons a r => simp [PyData.eqv, PyData.eqvAll]
theorem eqv_tnil (ds : List PyData) : PyData.eqv (.tuple ds) (.tuple []) = ds.isEmpty := by
  cases ds with
  | nil => simp [PyData.eqv, PyData.eqvAll]
  | cons a r => simp [PyData.eqv, PyData.eqvAll]
theorem dnum_empty (l : List Nat) : (dNum l).isEmpty = l.isEmpty := by cases l <;> rfl
def dLists (ws : List (List Nat)) : List PyData := ws.map fun w => PyData.list (dNum w)
def dTups (ws : List (List Nat)) : List PyData := ws.map fun w => PyData.tuple (dNum w)
theorem dp_lists {K : PySem.W.Frag} {H : Hp} : ∀ {ws : List (List Nat)} {vs : List V}, Deep .lst H vs ws → DpAll K H vs (dLists ws)
  | [], vs, d => by
    have : vs = [] := List.eq_nil_of_length_eq_zero d.1
    subst this
    exact .nil
  | w :: ws, [], d => by have := d.1; simp at this
  | w :: ws, v :: vs, d => by
    obtain ⟨p, h1, h2⟩ := d.2 0 w rfl
    have e : v = .ref p := Option.some.inj h1
    subst e
    exact .cons (.lst (SqL.of h2) (dp_nums w)) (dp_lists ⟨by have := d.1; simpa using this, fun i u h => by
      obtain ⟨p, h1, h2⟩ := d.2 (i + 1) u h
      exact ⟨p, h1, h2⟩⟩)
theorem dp_tups {K : PySem.W.Frag} {H : Hp} : ∀ {ws : List (List Nat)} {vs : List V}, Deep .tup H vs ws → DpAll K H vs (dTups ws)
  | [], vs, d => by
    have : vs = [] := List.eq_nil_of_length_eq_zero d.1
    subst this
    exact .nil
  | w :: ws, [], d => by have := d.1; simp at this
  | w :: ws, v :: vs, d => by
    obtain ⟨p, h1, h2⟩ := d.2 0 w rfl
    have e : v = .ref p := Option.some.inj h1
    subst e
    exact .cons (.tup (SqT.of h2) (dp_nums w)) (dp_tups ⟨by have := d.1; simpa using this, fun i u h => by
      obtain ⟨p, h1, h2⟩ := d.2 (i + 1) u h
      exact ⟨p, h1, h2⟩⟩)
theorem lay_lists : ∀ ws : List (List Nat), PyData.canLayAll0 (dLists ws) = true ∧ PyData.depthAll (dLists ws) ≤ 1
  | [] => by simp [dLists, PyData.canLayAll0, PyData.depthAll]
  | w :: ws => by
    have := lay_lists ws
    unfold dLists at this ⊢
    rw [List.map_cons]
    simp only [PyData.canLayAll0, PyData.canLay0, PyData.depthAll, PyData.depth, lay_nums, depth_nums, this.1, Bool.and_self, true_and]
    omega
theorem lay_tups : ∀ ws : List (List Nat), PyData.canLayAll0 (dTups ws) = true ∧ PyData.depthAll (dTups ws) ≤ 1
  | [] => by simp [dTups, PyData.canLayAll0, PyData.depthAll]
  | w :: ws => by
    have := lay_tups ws
    unfold dTups at this ⊢
    rw [List.map_cons]
    simp only [PyData.canLayAll0, PyData.canLay0, PyData.depthAll, PyData.depth, lay_nums, depth_nums, this.1, Bool.and_self, true_and]
    omega
theorem shaped_lists (ws : List (List Nat)) : SeqAt.shaped (.list (dLists ws)) = true := by
  have := lay_lists ws
  unfold SeqAt.shaped
  simp only [PyData.canLay0, PyData.depth, this.1, Bool.true_and]
  exact decide_eq_true (by omega)
theorem shaped_tups (ws : List (List Nat)) : SeqAt.shaped (.list (dTups ws)) = true := by
  have := lay_tups ws
  unfold SeqAt.shaped
  simp only [PyData.canLay0, PyData.depth, this.1, Bool.true_and]
  exact decide_eq_true (by omega)
theorem dlists_empty (l : List (List Nat)) : (dLists l).isEmpty = l.isEmpty := by cases l <;> rfl
theorem dtups_empty (l : List (List Nat)) : (dTups l).isEmpty = l.isEmpty := by cases l <;> rfl
/-- e != [] where e is a list of numbers -/
theorem ne_nums {K : PySem.W.Frag} {H : Hp} {a b : Addr} {l : List Nat} {Q : VK} (ha : H a = some (.lst (nvs l))) (hb : H b = some (.lst [])) (q : Q (.bl (!l.isEmpty)) H) : rNeD K (.ref a) (.ref b) H Q := by
  refine ⟨_, _, .lst (SqL.of ha) (dp_nums l), .lst (SqL.of hb) .nil, shaped_nums l, shaped_nums [], ?_⟩
  rw [eqv_nil, dnum_empty]
  exact q
theorem eq_nums {K : PySem.W.Frag} {H : Hp} {a b : Addr} {l : List Nat} {Q : VK} (ha : H a = some (.lst (nvs l))) (hb : H b = some (.lst [])) (q : Q (.bl l.isEmpty) H) : rEqD K (.ref a) (.ref b) H Q := by
  refine ⟨_, _, .lst (SqL.of ha) (dp_nums l), .lst (SqL.of hb) .nil, shaped_nums l, shaped_nums [], ?_⟩
  rw [eqv_nil, dnum_empty]
  exact q
theorem ne_tnums {K : PySem.W.Frag} {H : Hp} {a b : Addr} {l : List Nat} {Q : VK} (ha : H a = some (.tup (nvs l))) (hb : H b = some (.tup [])) (q : Q (.bl (!l.isEmpty)) H) : rNeD K (.ref a) (.ref b) H Q := by
  refine ⟨_, _, .tup (SqT.of ha) (dp_nums l), .tup (SqT.of hb) .nil, shaped_tnums l, shaped_tnums [], ?_⟩
  rw [eqv_tnil, dnum_empty]
  exact q
theorem ne_lists {K : PySem.W.Frag} {H : Hp} {a b : Addr} {vs : List V} {ws : List (List Nat)} {Q : VK} (ha : H a = some (.lst vs)) (d : Deep .lst H vs ws) (hb : H b = some (.lst [])) (q : Q (.bl (!ws.isEmpty)) H) : rNeD K (.ref a) (.ref b) H Q := by
  refine ⟨_, _, .lst (SqL.of ha) (dp_lists d), .lst (SqL.of hb) .nil, shaped_lists ws, shaped_nums [], ?_⟩
  rw [eqv_nil, dlists_empty]
  exact q
theorem ne_tups {K : PySem.W.Frag} {H : Hp} {a b : Addr} {vs : List V} {ws : List (List Nat)} {Q : VK} (ha : H a = some (.lst vs)) (d : Deep .tup H vs ws) (hb : H b = some (.lst [])) (q : Q (.bl (!ws.isEmpty)) H) : rNeD K (.ref a) (.ref b) H Q := by
  refine ⟨_, _, .lst (SqL.of ha) (dp_tups d), .lst (SqL.of hb) .nil, shaped_tups ws, shaped_nums [], ?_⟩
  rw [eqv_nil, dtups_empty]
  exact q
theorem eq_tups {K : PySem.W.Frag} {H : Hp} {a b : Addr} {vs : List V} {ws : List (List Nat)} {Q : VK} (ha : H a = some (.lst vs)) (d : Deep .tup H vs ws) (hb : H b = some (.lst [])) (q : Q (.bl ws.isEmpty) H) : rEqD K (.ref a) (.ref b) H Q := by
  refine ⟨_, _, .lst (SqL.of ha) (dp_tups d), .lst (SqL.of hb) .nil, shaped_tups ws, shaped_nums [], ?_⟩
  rw [eqv_nil, dtups_empty]
  exact q
/-- a store to an object that H doesn't know -/
theorem same_upd {H H' : Hp} {p : Addr} (e : Same H H') (h : H p = none) (o : HO) : Same H (upd H' p o) := fun b u q => by
  rw [upd_ne (ne_of_none q h)]
  exact e b u q
theorem size_le {n : Nat} (h : n ≤ 16777216) : n ≤ sizeLine := by
  rw [sizeLine_eq]
  exact h
theorem size_lt {n : Nat} (h : n < 16777216) : n < sizeLine := by
  rw [sizeLine_eq]
  exact h
theorem take_more {α : Type} {l : List α} {i : Nat} {x : α} (h : l[i]? = some x) : l.take (i + 1) = l.take i ++ [x] := by
  rw [List.take_succ, h]
  rfl
/-- a constant of the module -/
def Num (mg : Str → Option Value) (x : Str) (n : Int) : Prop := ∃ t, mg x = some (.int n t)
theorem pe_num {X : Cx} {x : Str} {n : Int} {pos : Pos} (h : Num X.mg x n) (hg : Gl X x := by rfl) (hd : (x == ("__debug__" : Str)) = false := by decide) : PE X (.Name x pos) (tC (.int n)) := by
  obtain ⟨t, h⟩ := h
  exact pe_glob hg h ⟨t, rfl⟩ hd
end Lc
set_option Elab.async false
set_option linter.all false
set_option maxRecDepth 100000
set_option maxHeartbeats 2000000
namespace Lc
open PySem L2 PySem.Spec PyProof.Rows
/-! Cubes: the object; what is shown -/
def cf (r o : Addr) : List (Str × V) := putF "others" (.ref o) (putF "rows" (.ref r) [])
theorem ro_ : ¬ (("rows" : Str) = "others") := by decide +kernel
theorem cf_rows (r o : Addr) : (cf r o).lookup ("rows" : Str) = some (.ref r) := by
  unfold cf
  rw [lookup_putF, if_neg ro_, lookup_putF, if_pos rfl]
theorem cf_others (r o : Addr) : (cf r o).lookup ("others" : Str) = some (.ref o) := by
  unfold cf
  rw [lookup_putF, if_pos rfl]
/-- the class Cubes as the module has it -/
structure CubT (K : PySem.W.Frag) (mg : Str → Option Value) (C : Addr) : Prop where
  cl : Cls K C
  nR : NoAttr K C "rows"
  nO : NoAttr K C "others"
  mgC : mg "Cubes" = some (.ref C)
/-- a letter is in a pair -/
def paired (x : Uw57.Box) (a : Nat) : Bool := x.pairs.any fun p => p.1 == a || p.2 == a
/-- the dict of the other letters -/
def Oth (kvs : List (Key × V)) (x : Uw57.Box) : Prop := kvs.length = 2 * x.pairs.length ∧ ∀ a : Nat, valV kvs (Sum.inl (a : Int)) = if paired x a = true then some (nv (x.over a)) else none
theorem over_not {x : Uw57.Box} {a : Nat} (h : paired x a = false) : x.over a = a := by
  unfold Uw57.Box.over
  have : (x.pairs.find? fun p => p.1 == a || p.2 == a) = none := by
    rw [List.find?_eq_none]
    intro p hp
    unfold paired at h
    rw [List.any_eq_false] at h
    exact h p hp
  rw [this]
theorem Oth.get {kvs : List (Key × V)} {x : Uw57.Box} (h : Oth kvs x) (a : Nat) : (valV kvs (Sum.inl (a : Int))).getD (nv a) = nv (x.over a) := by
  rw [h.2 a]
  cases e : paired x a with
  | true => rfl
  | false =>
    rw [over_not e]
    rfl
/-- cubes that are read -/
def CubR (C : Addr) (H : Hp) (c : Addr) (x : Uw57.Box) : Prop := ∃ (dx r o : Addr) (rs : List V) (kvs : List (Key × V)), H c = some (.ins C dx (cf r o)) ∧ H r = some (.lst rs) ∧ Deep .lst H rs x.cubes ∧ H o = some (.dK kvs) ∧ Oth kvs x ∧ x.cubes.length ≤ 5
theorem CubR.same {C : Addr} {H H' : Hp} {c : Addr} {x : Uw57.Box} (h : CubR C H c x) (e : Same H H') : CubR C H' c x := by
  obtain ⟨dx, r, o, rs, kvs, h1, h2, h3, h4, h5⟩ := h
  exact ⟨dx, r, o, rs, kvs, e _ _ h1, e _ _ h2, h3.same e, e _ _ h4, h5⟩
def spDoesShow (C : Addr) : Sp := fun vs H Q _ => ∃ (c : Addr) (x : Uw57.Box) (i a : Nat), vs = [.ref c, nv i, nv a] ∧ CubR C H c x ∧ i < x.cubes.length ∧ Q (.bl (x.shows i a)) H
/-- a list of numbers comes back, new; all else as it was -/
def newNums (l : List Nat) (H : Hp) (Q : VK) : Prop := ∀ (H' : Hp) (p : Addr), Same H H' → H p = none → H' p = some (.lst (nvs l)) → Q (.ref p) H'
def spShowing (C : Addr) : Sp := fun vs H Q _ => ∃ (c : Addr) (x : Uw57.Box) (a : Nat), vs = [.ref c, nv a] ∧ CubR C H c x ∧ newNums (showingM x a) H Q
def spCount (C : Addr) : Sp := fun vs H Q _ => ∃ (c : Addr) (x : Uw57.Box), vs = [.ref c] ∧ CubR C H c x ∧ ∀ H', Same H H' → Q (nv x.letters.length) H'
section
variable {P : Program} {w : World} {K : PySem.W.Frag} {mg : Str → Option Value} {base : Heap} {C : Addr}
theorem sc22 : FnScope ["cubes", "cube", "letter", "row"] ["cubes", "cube", "letter"] (defScope (top 22)) := ⟨rfl, rfl, rfl, by decide +kernel, rfl, by decide +kernel, by decide +kernel⟩
theorem ok_doesShow (D : DefAt K mg "does_show" "does_show" (top 22) ["cubes", "cube", "letter"]) (T : CubT K mg C) : Cal P w K mg base CX0 1 "does_show" ["cubes", "cube", "letter"] (spDoesShow C) := by
  refine D.ok sc22 (fun vs H Q E h => ?_) (fun f cdv A outer s H vs Q E hr h => ?_)
  · obtain ⟨c, x, i, a, rfl, _⟩ := h
    rfl
  obtain ⟨c, x, i, a, rfl, ⟨dx, r, o, rs, kvs, h1, h2, h3, h4, h5, h6⟩, hi, q⟩ := h
  have hu := hu_of hr
  refine ⟨_, pss_cons (ps_set (i := 3) sc22.nd rfl (Or.inl rfl) (pe_ix ix_list (pe_fld (pv 0) rfl) (pv 1) (fun _ _ => rfl)))
    (pss_one (ps_ret (pe_or (pe_cmpR op_in_seq (pv 2) (pv 3) rfl) (pe_one (pe_cmpR op_in_seq (pe_dget2 hu (pe_fld (pv 0) rfl) (pv 2) (pv 2) ⟨rfl, rfl, rfl, rfl⟩) (pv 3) rfl))))), ?_⟩
  obtain ⟨p, g1, g2⟩ := h3.2 i x.cubes[i] (List.getElem?_eq_getElem hi)
  refine ⟨_, rfl, c, C, dx, _, _, rfl, h1, T.cl, T.nR, cf_rows _ _, _, rfl, r, rs, _, _, rfl, rfl, SqL.of h2, atI_nat g1, ?_⟩
  have es : x.shows i a = (x.cubes[i].contains a || x.cubes[i].contains (x.over a)) := by
    unfold Uw57.Box.shows
    rw [List.getElem?_eq_getElem hi]
  rw [es] at q
  refine ⟨_, rfl, _, rfl, p, _, rfl, .inl (SqL.of g2), rfl, nvs_flat _, _, rfl, ?_⟩
  show if inV (nv a) (nvs x.cubes[i]) = true then _ else _
  rw [inV_nvs]
  cases e : x.cubes[i].contains a with
  | true =>
    rw [e] at q
    exact iteT q
  | false =>
    rw [e] at q
    refine iteF ?_
    refine ⟨_, rfl, c, C, dx, _, _, rfl, h1, T.cl, T.nO, cf_others _ _, o, rfl, .inl ⟨kvs, .inl h4⟩, _, rfl, _, rfl, _, DGet.k (k := Sum.inl (a : Int)) h4, ?_⟩
    rw [h5.get a]
    refine ⟨_, rfl, p, _, rfl, .inl (SqL.of g2), rfl, nvs_flat _, ?_⟩
    show Q (.bl (inV (nv (x.over a)) (nvs x.cubes[i]))) H
    rw [inV_nvs]
    exact q
theorem sc23 : FnScope ["cubes", "letter", "cube"] ["cubes", "letter"] (defScope (top 23)) := ⟨rfl, rfl, rfl, by decide +kernel, rfl, by decide +kernel, by decide +kernel⟩
theorem filter_step {p : Nat → Bool} (i : Nat) : ((List.range (i + 1)).filter p) = (List.range i).filter p ++ (if p i = true then [i] else []) := by
  rw [List.range_succ, List.filter_append]
  congr 1
  cases e : p i <;> simp [e]
theorem ok_showing (D : DefAt K mg "showing" "showing" (top 23) ["cubes", "letter"]) (T : CubT K mg C) (mR : mg "range" = none) (mL : mg "len" = none) (C1 : Cal P w K mg base CX0 1 "does_show" ["cubes", "cube", "letter"] (spDoesShow C)) :
    Cal P w K mg base CX0 2 "showing" ["cubes", "letter"] (spShowing C) := by
  refine D.ok sc23 (fun vs H Q E h => ?_) (fun f cdv A outer s H vs Q E hr h => ?_)
  · obtain ⟨c, x, a, rfl, _⟩ := h
    rfl
  obtain ⟨c, x, a, rfl, R, q⟩ := h
  refine ⟨_, pss_one (ps_ret (pe_lc (own := [("cube", 2)]) (g := gName 2) rfl sc23.nd (pi_range1 rfl mR (pa_cons (pe_callB call_len_seq (by rfl) mL PySem.boot_len (pa_cons (pe_fld (pv 0) rfl) pa_nil)) pa_nil))
    (blkOk_by (own := [("cube", 2)]) (N := ["cubes", "letter", "cube"]) (sc := defScope (top 23)) (by decide +kernel)) (fun _ _ _ _ _ => pg_name (i := 2) sc23.nd rfl (Or.inl rfl))
    (fun _ _ _ _ _ => pts_one (pt_val (pe_cal C1 hr pass0 (pa_cons (pv 0) (pa_cons (pv 2) (pa_cons (pv 1) pa_nil)))))) (fun _ _ _ _ _ => pv 2))), ?_⟩
  obtain ⟨dx, r, o, rs, kvs, h1, h2, h3, h4, h5, h6⟩ := id R
  refine ⟨_, rfl, c, C, dx, _, _, rfl, h1, T.cl, T.nR, cf_rows _ _, r, rs, rfl, .inl (SqL.of h2), _, rfl, ?_, ?_, fun D hD => ?_⟩
  · have := h3.1
    omega
  · have := h3.1
    omega
  refine lc_range (lo := 0) (fun i H' => i ≤ x.cubes.length ∧ H' = upd H D (.lst (nvs ((List.range i).filter fun c => x.shows c a)))) ⟨Nat.zero_le _, rfl⟩ ?_ ?_
  · rintro i H' hi ⟨hi', rfl⟩
    have hlt : i < x.cubes.length := by
      have := h3.1
      omega
    refine ⟨rfl, ?_⟩
    refine ⟨_, rfl, _, rfl, _, rfl, c, x, i, a, ?_, R.same (same_new hD _), hlt, _, rfl, ?_⟩
    · show [V.ref c, V.int (0 + (i : Int)), nv a] = [V.ref c, nv i, nv a]
      rw [Int.zero_add]
      rfl
    rw [filter_step]
    refine ite2 (fun e => ?_) (fun e => ?_)
    · refine ⟨_, rfl, _, upd_same, size_lt ?_, hlt, ?_⟩
      · rw [nvs_len]
        have := List.length_filter_le (fun c => x.shows c a) (List.range i)
        rw [List.length_range] at this
        omega
      · rw [upd_upd, if_pos e, nvs_app]
        show upd H D (.lst (_ ++ [V.int (0 + (i : Int))])) = _
        rw [Int.zero_add]
        rfl
    · rw [if_neg e, List.append_nil]
      exact ⟨hlt, rfl⟩
  · rintro H' ⟨hi', rfl⟩
    refine q _ D (same_new hD _) hD ?_
    have e : (rs.length : Int).toNat = x.cubes.length := by
      have := h3.1
      omega
    rw [upd_same, e]
    rfl
theorem sc24 : FnScope ["cubes", "letter"] ["cubes"] (defScope (top 24)) := ⟨rfl, rfl, rfl, by decide +kernel, rfl, by decide +kernel, by decide +kernel⟩
theorem ok_count (D : DefAt K mg "shown_count" "shown_count" (top 24) ["cubes"]) (mR : mg "range" = none) (mL : mg "len" = none) (nL : Num mg "LETTERS" 36) (C1 : Cal P w K mg base CX0 2 "showing" ["cubes", "letter"] (spShowing C)) :
    Cal P w K mg base CX0 3 "shown_count" ["cubes"] (spCount C) := by
  refine D.ok sc24 (fun vs H Q E h => ?_) (fun f cdv A outer s H vs Q E hr h => ?_)
  · obtain ⟨c, x, rfl, _⟩ := h
    rfl
  obtain ⟨c, x, rfl, R, q⟩ := h
  refine ⟨_, pss_one (ps_ret (pe_callB call_len_seq (by rfl) mL PySem.boot_len (pa_cons (pe_lc (own := [("letter", 1)]) (g := gName 1) rfl sc24.nd (pi_range1 rfl mR (pa_cons (pe_num nL) pa_nil))
    (blkOk_by (own := [("letter", 1)]) (N := ["cubes", "letter"]) (sc := defScope (top 24)) (by decide +kernel)) (fun _ _ _ _ _ => pg_name (i := 1) sc24.nd rfl (Or.inl rfl))
    (fun _ _ _ _ _ => pts_one (pt_cmpR (r := rNeD K) (op_neD hr.units) (pe_cal C1 hr pass0 (pa_cons (pv 0) (pa_cons (pv 1) pa_nil))) (pe_lst pa_nil) (nomark _))) (fun _ _ _ _ _ => pv 1)) pa_nil))), ?_⟩
  refine ⟨_, rfl, by decide, by decide, fun D hD => ?_⟩
  refine lc_range (lo := 0) (fun i H' => i ≤ 36 ∧ Same H H' ∧ H' D = some (.lst (nvs ((List.range i).filter fun a => !(showingM x a).isEmpty)))) ⟨Nat.zero_le _, same_new hD _, upd_same⟩ ?_ ?_
  · rintro i H' hi ⟨hi', s1, hD'⟩
    have hlt : i < 36 := hi
    refine ⟨rfl, ?_⟩
    refine ⟨_, rfl, _, rfl, c, x, i, ?_, R.same s1, fun H2 p s2 np hp => ?_⟩
    · show [V.ref c, V.int (0 + (i : Int))] = [V.ref c, nv i]
      rw [Int.zero_add]
      rfl
    refine ⟨size_le (by decide), fun p2 np2 => ?_⟩
    have s3 : Same H2 (upd H2 p2 (.lst [])) := same_new np2 _
    refine ne_nums (s3 _ _ hp) upd_same ?_
    refine ⟨_, rfl, ?_⟩
    rw [filter_step]
    have s4 : Same H (upd H2 p2 (.lst [])) := s1.trans (s2.trans s3)
    have hD4 := s3 _ _ (s2 _ _ hD')
    refine ite2 (fun e => ?_) (fun e => ?_)
    · refine ⟨_, rfl, _, hD4, size_lt ?_, hlt, same_upd s4 hD _, ?_⟩
      · rw [nvs_len]
        have := List.length_filter_le (fun a => !(showingM x a).isEmpty) (List.range i)
        rw [List.length_range] at this
        omega
      · rw [upd_same, if_pos e, nvs_app]
        show some (HO.lst (_ ++ [V.int (0 + (i : Int))])) = _
        rw [Int.zero_add]
        rfl
    · rw [if_neg e, List.append_nil]
      exact ⟨hlt, s4, hD4⟩
  · rintro H' ⟨hi', s1, hD'⟩
    refine ⟨D, _, rfl, .inl (SqL.of hD'), ?_⟩
    rw [nvs_len]
    have e := letters_is x
    have z := q H' s1
    rw [e] at z
    exact z
end
end Lc
set_option Elab.async false
set_option linter.all false
set_option maxRecDepth 100000
set_option maxHeartbeats 2000000
namespace Lc
open PySem L2 PySem.Spec PyProof.Rows
/-! ways_of -/
def spWays (K : PySem.W.Frag) (C : Addr) : Sp := fun vs H Q _ => ∃ (c a : Addr) (x : Uw57.Box) (w : List Nat), vs = [.ref c, .ref a] ∧ CubR C H c x ∧ SqL K H a (nvs w) ∧
  ∀ (H' : Hp) (p : Addr) (rs : List V), Same H H' → H' p = some (.lst rs) → Deep .lst H' rs (x.ways [] w) → Q (.ref p) H'
/-- the ways that grow out of one -/
def extW (sh way : List Nat) : List (List Nat) := (sh.filter fun c => !way.contains c).map fun c => way ++ [c]
theorem grow_take {sh : List Nat} {W : List (List Nat)} {j : Nat} {way : List Nat} (h : W[j]? = some way) : growM sh (W.take (j + 1)) = growM sh (W.take j) ++ extW sh way := by
  rw [take_more h]
  unfold growM
  rw [List.flatMap_append]
  simp [extW]
theorem grow_le (sh : List Nat) (W : List (List Nat)) (j : Nat) : (growM sh (W.take j)).length ≤ (growM sh W).length := by
  conv => rhs; rw [← List.take_append_drop j W]
  unfold growM
  rw [List.flatMap_append, List.length_append]
  omega
theorem ext_step {sh : List Nat} {k c : Nat} {way : List Nat} (h : sh[k]? = some c) : extW (sh.take (k + 1)) way = extW (sh.take k) way ++ (if (!way.contains c) = true then [way ++ [c]] else []) := by
  rw [take_more h]
  unfold extW
  rw [List.filter_append, List.map_append]
  congr 1
  cases e : (!way.contains c) <;> simp only [List.filter_cons, e] <;> rfl
theorem ext_len (sh way : List Nat) : (extW sh way).length ≤ sh.length := by
  unfold extW
  rw [List.length_map]
  exact List.length_filter_le _ _
section
variable {P : Program} {w : World} {K : PySem.W.Frag} {mg : Str → Option Value} {base : Heap} {C : Addr}
theorem sc25 : FnScope ["cubes", "word", "found", "letter", "longer", "way", "cube"] ["cubes", "word"] (defScope (top 25)) := ⟨rfl, rfl, rfl, by decide +kernel, rfl, by decide +kernel, by decide +kernel⟩
theorem ok_ways (D : DefAt K mg "ways_of" "ways_of" (top 25) ["cubes", "word"]) (C1 : Cal P w K mg base CX0 2 "showing" ["cubes", "letter"] (spShowing C)) :
    Cal P w K mg base CX0 3 "ways_of" ["cubes", "word"] (spWays K C) := by
  refine D.ok sc25 (fun vs H Q E h => ?_) (fun f cdv A outer s H vs Q E hr h => ?_)
  · obtain ⟨c, a, x, w, rfl, _⟩ := h
    rfl
  obtain ⟨c, a, x, wd, rfl, R, hS, q⟩ := h
  refine ⟨_, pss_cons (ps_set (i := 2) sc25.nd rfl (Or.inl rfl) (pe_lst (pa_cons (pe_lst pa_nil) pa_nil)))
    (pss_cons (ps_for PassesOwn.never rfl (pi_list (pv 1)) (pg_name (i := 3) sc25.nd rfl (Or.inl rfl))
      (pss_cons (ps_set (i := 4) sc25.nd rfl (Or.inl rfl) (pe_lst pa_nil))
      (pss_cons (ps_for PassesOwn.never rfl (pi_list (pv 2)) (pg_name (i := 5) sc25.nd rfl (Or.inr rfl))
        (pss_one (ps_expr (pe_bm PySem.F.plainAttrs_list PySem.F.slot_list_extend PySem.F.type_list_extend mt_extend (pv 4)
          (pa_cons (pe_lc (own := [("cube", 6)]) (g := gName 6) rfl sc25.nd (pi_list (pe_cal C1 hr pass0 (pa_cons (pv 0) (pa_cons (pv 3) pa_nil))))
            (blkOk_by (own := [("cube", 6)]) (N := ["cubes", "word", "found", "letter", "longer", "way", "cube"]) (sc := defScope (top 25)) (by decide +kernel)) (fun _ _ _ _ _ => pg_name (i := 6) sc25.nd rfl (Or.inl rfl))
            (fun _ _ _ _ _ => pts_one (pt_cmpR (r := rIn K true) op_notIn_seq (pv 6) (pv 5) rfl)) (fun _ _ _ _ _ => pe_op op_cat (pv 5) (pe_lst (pa_cons (pv 6) pa_nil)))) pa_nil)))))
      (pss_one (ps_set (i := 2) sc25.nd rfl (Or.inl rfl) (pv 4))))))
    (pss_one (ps_ret (pv 2)))), ?_⟩
  have h5 : x.cubes.length ≤ 5 := by
    obtain ⟨_, _, _, _, _, _, _, _, _, _, h⟩ := id R
    exact h
  refine ⟨size_le (by decide), fun p0 hp0 => ⟨size_le (show 1 ≤ 16777216 by decide), fun f0 hf0 => ?_⟩⟩
  have s0 : Same H (upd H p0 (.lst [])) := same_new hp0 _
  have s1 : Same (upd H p0 (.lst [])) (upd (upd H p0 (.lst [])) f0 (.lst [.ref p0])) := same_new hf0 _
  refine ⟨_, rfl, a, rfl, ⟨_, (s0.trans s1).seq hS⟩, ?_⟩
  refine for_list (K := K) (a := a) (xs := nvs wd) (fun i σ H' => ∃ (fnd : Addr) (rs : List V) (v3 v4 v5 : Option V), σ = [some (.ref c), some (.ref a), some (.ref fnd), v3, v4, v5, none] ∧ Same H H' ∧ H' fnd = some (.lst rs) ∧
    Deep .lst H' rs (waysM ((wd.take i).map (showingM x)))) ⟨f0, _, none, none, none, rfl, s0.trans s1, upd_same, ?_⟩ (fun i σ H' _ ⟨_, _, _, _, _, _, s, _⟩ => s.seq hS) ?_ ?_
  · exact Deep.one (w := []) (s1 _ _ upd_same)
  · -- one letter
    rintro i y σ H1 hi ⟨fnd, rs, v3, v4, v5, rfl, s2, hf, dW⟩
    obtain ⟨l, hl, rfl⟩ : ∃ l, wd[i]? = some l ∧ y = nv l := by
      unfold nvs at hi
      rw [List.getElem?_map] at hi
      cases e : wd[i]? with
      | none => rw [e] at hi; cases hi
      | some l => rw [e] at hi; exact ⟨l, rfl, (Option.some.inj hi).symm⟩
    have eW : waysM ((wd.take (i + 1)).map (showingM x)) = growM (showingM x l) (waysM ((wd.take i).map (showingM x))) := by
      rw [take_more hl, List.map_append, List.map_cons, List.map_nil, ways_snoc]
    have few := ways_few h5 (wd.take (i + 1))
    rw [eW] at few
    rw [eW]
    have hWl : ∀ way ∈ waysM ((wd.take i).map (showingM x)), way.length ≤ 5 := fun way hm => by
      rw [ways_is] at hm
      have z1 := (way_is x _ [] way hm).1
      have z2 := ways_most hm
      omega
    generalize waysM ((wd.take i).map (showingM x)) = W at dW few hWl
    refine ⟨size_le (by decide), fun lg hlg => ?_⟩
    have nlf : fnd ≠ lg := ne_of_none hf hlg
    refine ⟨_, rfl, fnd, rfl, ⟨_, SqL.of (same_new hlg _ _ _ hf)⟩, ?_⟩
    refine for_list (K := K) (a := fnd) (xs := rs) (fun j σ H' => ∃ (ls : List V) (v5 : Option V), σ = [some (.ref c), some (.ref a), some (.ref fnd), some (nv l), some (.ref lg), v5, none] ∧ Same H1 (del H' lg) ∧
      H' lg = some (.lst ls) ∧ Deep .lst (del H' lg) ls (growM (showingM x l) (W.take j))) ⟨[], v5, rfl, ?_, upd_same, Deep.nil⟩ (fun j σ H' _ ⟨_, _, _, s, _⟩ => SqL.of (del_same _ _ _ _ (s _ _ hf))) ?_ ?_
    · rw [del_upd]
      exact same_del_of (Same.refl _) hlg
    · -- one way
      rintro j y σ H2 hj ⟨ls, v5, rfl, s3, hls, dL⟩
      obtain ⟨way, wp, hw, rfl, hwp⟩ := dW.get hj
      have hwp2 : H2 wp = some (.lst (nvs way)) := del_same _ _ _ _ (s3 _ _ hwp)
      have s23 : Same H1 H2 := s3.trans (del_same _ _)
      refine ⟨_, rfl, .inl ⟨rfl, _, SqL.of hls⟩, _, rfl, _, rfl, c, x, l, rfl, R.same (s2.trans s23), fun H3 sp s4 nsp hsp => ?_⟩
      refine ⟨sp, rfl, ⟨_, SqL.of hsp⟩, fun D hD => ?_⟩
      have nDl : D ≠ lg := fun z => by
        have := s4 _ _ hls
        rw [← z, hD] at this
        cases this
      refine lc_list (K := K) (a := sp) (xs := nvs (showingM x l)) (fun k H' => Same H3 (del H' D) ∧ ∃ ds : List V, H' D = some (.lst ds) ∧ Deep .lst (del (del H' D) lg) ds (extW ((showingM x l).take k) way)) ⟨?_, [], upd_same, Deep.nil⟩
        (fun k H' _ ⟨s, _⟩ => SqL.of (del_same _ _ _ _ (s _ _ hsp))) ?_ ?_
      · rw [del_upd]
        exact same_del_of (Same.refl _) hD
      · -- one cube
        rintro k y H4 hk ⟨s5, ds, hds, dD⟩
        obtain ⟨cu, hcu, rfl⟩ : ∃ cu, (showingM x l)[k]? = some cu ∧ y = nv cu := by
          unfold nvs at hk
          rw [List.getElem?_map] at hk
          cases e : (showingM x l)[k]? with
          | none => rw [e] at hk; cases hk
          | some l => rw [e] at hk; exact ⟨l, rfl, (Option.some.inj hk).symm⟩
        have s35 : Same H3 H4 := s5.trans (del_same _ _)
        have hwp4 : H4 wp = some (.lst (nvs way)) := s35 _ _ (s4 _ _ hwp2)
        refine ⟨rfl, ?_⟩
        refine ⟨_, rfl, _, rfl, wp, _, rfl, .inl (SqL.of hwp4), rfl, nvs_flat _, _, rfl, ?_⟩
        rw [ext_step hcu]
        show if (!inV (nv cu) (nvs way)) = true then _ else _
        rw [inV_nvs]
        refine ite2 (fun e => ?_) (fun e => ?_)
        · rw [if_pos e]
          refine ⟨_, rfl, _, rfl, size_le (show 1 ≤ 16777216 by decide), fun q1 hq1 => ?_⟩
          have s6 : Same H4 (upd H4 q1 (.lst [nv cu])) := same_new hq1 _
          refine ⟨wp, q1, _, _, rfl, rfl, s6 _ _ hwp4, upd_same, ?_, fun q2 hq2 => ?_⟩
          · rw [nvs_len]
            have hwl := hWl way (List.mem_of_getElem? hw)
            exact size_le (by simp only [List.length_singleton]; omega)
          have s7 : Same (upd H4 q1 (.lst [nv cu])) (upd (upd H4 q1 (.lst [nv cu])) q2 (.lst (nvs way ++ [nv cu]))) := same_new hq2 _
          refine ⟨_, s7 _ _ (s6 _ _ hds), ?_, ?_, _, upd_same, ?_⟩
          · have e1 := dD.1
            have e2 := ext_len ((showingM x l).take k) way
            have e3 := showing_len x l
            rw [List.length_take] at e2
            exact size_lt (by omega)
          · rw [del_upd]
            exact s5.trans (same_del (s6.trans s7) D)
          · rw [del_upd]
            refine (dD.same (same_del (same_del (s6.trans s7) D) lg)).app (Deep.one (w := way ++ [cu]) ?_)
            have hlg4 : (upd H4 q1 (.lst [nv cu])) lg = some (.lst ls) := s6 _ _ (s35 _ _ (s4 _ _ hls))
            rw [del_ne (ne_of_none hlg4 hq2).symm, del_ne (ne_of_none (s6 _ _ hds) hq2).symm, upd_same, nvs_app]
            rfl
        · rw [if_neg e, List.append_nil]
          exact ⟨s5, ds, hds, dD⟩
      · -- longer.extend
        rintro H4 ⟨s5, ds, hds, dD⟩
        rw [nvs_len, List.take_length] at dD
        have s35 : Same H3 H4 := s5.trans (del_same _ _)
        have s25 : Same H2 H4 := s4.trans s35
        refine ⟨lg, D, ls, ds, rfl, rfl, s25 _ _ hls, hds, ?_, ?_⟩
        · have e1 := dL.1
          have e2 := dD.1
          have e3 := grow_take (sh := showingM x l) hw
          have e4 := grow_le (showingM x l) W (j + 1)
          rw [e3, List.length_append] at e4
          exact size_le (by omega)
        refine ⟨_, _, rfl, ?_, upd_same, ?_⟩
        · rw [del_upd]
          exact s3.trans (same_del s25 lg)
        · rw [del_upd, grow_take hw]
          exact (dL.same (same_del s25 lg)).app (dD.same (same_del (del_same _ _) lg))
    · rintro σ H2 ⟨ls, v5, rfl, s3, hls, dL⟩
      rw [dW.1, List.take_length] at dL
      exact ⟨_, rfl, lg, ls, _, _, _, rfl, s2.trans (s3.trans (del_same _ _)), hls, dL.same (del_same _ _)⟩
  · rintro σ H' ⟨fnd, rs, v3, v4, v5, rfl, s2, hf, dW⟩
    rw [nvs_len, List.take_length, ways_is] at dW
    exact ⟨_, rfl, q H' fnd rs s2 hf dW⟩
end
end Lc
set_option Elab.async false
set_option linter.all false
set_option maxRecDepth 100000
set_option maxHeartbeats 2000000
namespace Lc
open PySem L2 PySem.Spec PyProof.Rows
/-! rows_of -/
/-- a new list of tuples of numbers -/
def newTups (ws : List (List Nat)) (H : Hp) (Q : VK) : Prop := ∀ (H' : Hp) (p : Addr) (rs : List V), Same H H' → H' p = some (.lst rs) → Deep .tup H' rs ws → Q (.ref p) H'
def spRows : Sp := fun vs H Q _ => ∃ n k : Nat, vs = [nv n, nv k] ∧ n ≤ 10 ∧ k ≤ 10 ∧ newTups (Uw57.choose k (List.range n)) H Q
/-- row + (number,) -/
theorem cat_one {K : PySem.W.Frag} {H : Hp} {a : Addr} {row : List Nat} {n : Nat} {Q : VK} {b : Addr} (ha : H a = some (.tup (nvs row))) (hb : H b = none) (hl : row.length ≤ 1000)
    (q : ∀ (H' : Hp) (p : Addr), Same H H' → H p = none → H' p = some (.tup (nvs (row ++ [n]))) → Q (.ref p) H') : rCatA K (.ref a) (.ref b) (upd H b (.tup [nv n])) Q := by
  refine ⟨a, b, _, _, rfl, rfl, SqT.of (same_new hb _ _ _ ha), SqT.of upd_same, size_le ?_, fun e => ?_, (fun _ e => nomatch e), fun _ _ p hp => ?_⟩
  · rw [nvs_len]
    simp only [List.length_singleton]
    omega
  · refine q _ b (same_new hb _) hb ?_
    have : row = [] := by
      cases row with
      | nil => rfl
      | cons _ _ => cases e
    rw [upd_same, this]
    rfl
  · have s := same_new hb (.tup [nv n])
    refine q _ p (s.trans (same_new hp _)) (s.free hp) ?_
    rw [upd_same, nvs_app]
    rfl
theorem ext_take (row : List Nat) (lo k : Nat) : ((List.range' lo (k + 1)).map fun n => row ++ [n]) = ((List.range' lo k).map fun n => row ++ [n]) ++ [row ++ [lo + k]] := by
  rw [List.range'_concat, List.map_append]
  simp
theorem first_last {row : List Nat} (h : row ≠ []) : ∃ b, atI (nvs row) (-1) = some (nv b) ∧ firstM 0 row = b + 1 := by
  obtain ⟨i, b, rfl⟩ : ∃ i b, row = i ++ [b] := ⟨row.dropLast, row.getLast h, (List.dropLast_concat_getLast h).symm⟩
  refine ⟨b, ?_, ?_⟩
  · rw [nvs_app]
    exact atI_last (nvs i) (nv b)
  · unfold firstM
    rw [List.getLast?_append]
    rfl
theorem choose_zero (l : List Nat) : Uw57.choose 0 l = [[]] := by
  cases l <;> rfl
theorem first_le {n k : Nat} {row : List Nat} (h : row ∈ Uw57.choose k (List.range n)) : firstM 0 row ≤ n := by
  unfold firstM
  cases e : row.getLast? with
  | none => exact Nat.zero_le _
  | some b =>
    have := List.mem_of_getLast? e
    have := List.mem_range.mp ((choose_is k _ row h).1.subset this)
    exact this
section
variable {P : Program} {w : World} {K : PySem.W.Frag} {mg : Str → Option Value} {base : Heap} {C : Addr}
theorem sc26 : FnScope ["many", "size", "found", "k", "longer", "row", "first", "number"] ["many", "size"] (defScope (top 26)) := ⟨rfl, rfl, rfl, by decide +kernel, rfl, by decide +kernel, by decide +kernel⟩
theorem ok_rows (D : DefAt K mg "rows_of" "rows_of" (top 26) ["many", "size"]) (mR : mg "range" = none) : Cal P w K mg base CX0 1 "rows_of" ["many", "size"] spRows := by
  refine D.ok sc26 (fun vs H Q E h => ?_) (fun f cdv A outer s H vs Q E hr h => ?_)
  · obtain ⟨n, k, rfl, _⟩ := h
    rfl
  obtain ⟨n, k, rfl, hn, hk, q⟩ := h
  refine ⟨_, pss_cons (ps_set (i := 2) sc26.nd rfl (Or.inl rfl) (pe_lst (pa_cons (pe_tup pa_nil) pa_nil)))
    (pss_cons (ps_for PassesOwn.never rfl (pi_range1 rfl mR (pa_cons (pv 1) pa_nil)) (pg_name (i := 3) sc26.nd rfl (Or.inl rfl))
      (pss_cons (ps_set (i := 4) sc26.nd rfl (Or.inl rfl) (pe_lst pa_nil))
      (pss_cons (ps_for PassesOwn.never rfl (pi_list (pv 2)) (pg_name (i := 5) sc26.nd rfl (Or.inr rfl))
        (pss_cons (ps_set (i := 6) sc26.nd rfl (Or.inl rfl) pe_int)
        (pss_cons (ps_if (pt_cmpR (op_neD hr.units) (pv 5) (pe_tup pa_nil) (nomark _)) (pss_one (ps_set (i := 6) sc26.nd rfl (Or.inl rfl) (pe_op op_add (pe_ix ix_tup (pv 5) (pe_un un_neg pe_int) (fun _ _ => rfl)) pe_int))) pss_nil)
        (pss_one (ps_expr (pe_bm PySem.F.plainAttrs_list PySem.F.slot_list_extend PySem.F.type_list_extend mt_extend (pv 4)
          (pa_cons (pe_lc (own := [("number", 7)]) (g := gName 7) (tt := tYes) rfl sc26.nd (pi_range2 rfl mR (pa_cons (pv 6) (pa_cons (pv 0) pa_nil)))
            (blkOk_by (own := [("number", 7)]) (N := ["many", "size", "found", "k", "longer", "row", "first", "number"]) (sc := defScope (top 26)) (by decide +kernel)) (fun _ _ _ _ _ => pg_name (i := 7) sc26.nd rfl (Or.inl rfl))
            (fun _ _ _ _ _ => pts_nil) (fun _ _ _ _ _ => pe_op (r := rCatA K) op_catA (pv 5) (pe_tup (pa_cons (pv 7) pa_nil)))) pa_nil)))))))
      (pss_one (ps_set (i := 2) sc26.nd rfl (Or.inl rfl) (pv 4))))))
    (pss_one (ps_ret (pv 2)))), ?_⟩
  refine ⟨size_le (by decide), fun p0 hp0 => ⟨size_le (show 1 ≤ 16777216 by decide), fun f0 hf0 => ?_⟩⟩
  have s0 : Same H (upd H p0 (.tup [])) := same_new hp0 _
  have s1 : Same (upd H p0 (.tup [])) (upd (upd H p0 (.tup [])) f0 (.lst [.ref p0])) := same_new hf0 _
  refine ⟨_, rfl, _, rfl, by omega, by omega, ?_⟩
  refine for_range (lo := 0) (fun i σ H' => ∃ (fnd : Addr) (rs : List V) (v3 v4 v5 v6 : Option V), σ = [some (nv n), some (nv k), some (.ref fnd), v3, v4, v5, v6, none] ∧ Same H H' ∧ H' fnd = some (.lst rs) ∧
    Deep .tup H' rs (Uw57.choose i (List.range n))) ⟨f0, _, none, none, none, none, rfl, s0.trans s1, upd_same, ?_⟩ ?_ ?_
  · rw [choose_zero]
    exact Deep.one (w := []) (s1 _ _ upd_same)
  · rintro i σ H1 hi ⟨fnd, rs, v3, v4, v5, v6, rfl, s2, hf, dW⟩
    have few := choose_len (i + 1) (List.range n)
    rw [List.length_range] at few
    have few2 : (2 : Nat) ^ n ≤ 2 ^ 10 := Nat.pow_le_pow_right (by decide) hn
    rw [← rows_step] at few
    rw [← rows_step]
    have hWl : ∀ row ∈ Uw57.choose i (List.range n), row.length ≤ 10 ∧ firstM 0 row ≤ n := fun row hm => by
      have z := choose_is i _ row hm
      have z2 := z.1.length_le
      rw [List.length_range] at z2
      exact ⟨by omega, first_le hm⟩
    generalize Uw57.choose i (List.range n) = W at dW few hWl
    refine ⟨size_le (by decide), fun lg hlg => ?_⟩
    refine ⟨_, rfl, fnd, rfl, ⟨_, SqL.of (same_new hlg _ _ _ hf)⟩, ?_⟩
    refine for_list (K := K) (a := fnd) (xs := rs) (fun j σ H' => ∃ (ls : List V) (v5 v6 : Option V), σ = [some (nv n), some (nv k), some (.ref fnd), some (.int (0 + (i : Int))), some (.ref lg), v5, v6, none] ∧ Same H1 (del H' lg) ∧
      H' lg = some (.lst ls) ∧ Deep .tup (del H' lg) ls ((W.take j).flatMap (extM 0 n))) ⟨[], v5, v6, rfl, ?_, upd_same, Deep.nil⟩ (fun j σ H' _ ⟨_, _, _, _, s, _⟩ => SqL.of (del_same _ _ _ _ (s _ _ hf))) ?_ ?_
    · rw [del_upd]
      exact same_del_of (Same.refl _) hlg
    · rintro j y σ H2 hj ⟨ls, v5, v6, rfl, s3, hls, dL⟩
      obtain ⟨row, wp, hw, rfl, hwp⟩ := dW.get hj
      have hwp2 : H2 wp = some (.tup (nvs row)) := del_same _ _ _ _ (s3 _ _ hwp)
      have eF : (W.take (j + 1)).flatMap (extM 0 n) = (W.take j).flatMap (extM 0 n) ++ extM 0 n row := by
        rw [take_more hw, List.flatMap_append]
        simp
      have eL : ((W.take (j + 1)).flatMap (extM 0 n)).length ≤ (W.flatMap (extM 0 n)).length := by
        conv => rhs; rw [← List.take_append_drop (j + 1) W]
        rw [List.flatMap_append, List.length_append]
        omega
      have hrl := hWl row (List.mem_of_getElem? hw)
      -- what stands behind the if
      have rest : ∀ (H3 : Hp) (v : Option V), Same H2 H3 → ∀ fi : Nat, fi = firstM 0 row →
          tDrop (tBM K "list" rExtend (tVar 4) (tCons (tLc (iRng2 (tCons (tVar 6) (tCons (tVar 0) tNil))) (gName 7) tYes (tOp (rCatA K) (tVar 5) (tTup (tCons (tVar 7) tNil))) [7]) tNil))
            { nx := fun σ H' => ∃ (ls : List V) (v5 v6 : Option V), σ = [some (nv n), some (nv k), some (.ref fnd), some (.int (0 + (i : Int))), some (.ref lg), v5, v6, none] ∧ Same H1 (del H' lg) ∧ H' lg = some (.lst ls) ∧ Deep .tup (del H' lg) ls ((W.take (j + 1)).flatMap (extM 0 n)),
              rt := Q } [some (nv n), some (nv k), some (.ref fnd), some (.int (0 + (i : Int))), some (.ref lg), some (.ref wp), some (nv fi), none] H3 := by
        intro H3 v s4 fi hfi
        have hls3 := s4 _ _ hls
        have hwp3 := s4 _ _ hwp2
        refine ⟨_, rfl, .inl ⟨rfl, _, SqL.of hls3⟩, _, rfl, _, rfl, _, _, rfl, ?_, fun D hD => ?_⟩
        · have := hrl.2
          omega
        refine lc_range (lo := (fi : Int)) (fun t H' => Same H3 (del H' D) ∧ ∃ ds : List V, H' D = some (.lst ds) ∧ Deep .tup (del (del H' D) lg) ds ((List.range' fi t).map fun m => row ++ [m])) ⟨?_, [], upd_same, Deep.nil⟩ ?_ ?_
        · rw [del_upd]
          exact same_del_of (Same.refl _) hD
        · rintro t H4 ht ⟨s5, ds, hds, dD⟩
          have s35 : Same H3 H4 := s5.trans (del_same _ _)
          refine ⟨rfl, ?_⟩
          refine ⟨_, rfl, _, rfl, size_le (show 1 ≤ 16777216 by decide), fun b hb => ?_⟩
          have ev : (V.int ((fi : Int) + (t : Int))) = nv (fi + t) := by
            unfold nv
            congr 1
          show rCatA K _ _ (upd H4 b (.tup [V.int ((fi : Int) + (t : Int))])) _
          rw [ev]
          refine cat_one (s35 _ _ hwp3) hb (by omega) fun H5 p s6 np hp => ?_
          refine ⟨_, s6 _ _ hds, ?_, ?_, _, upd_same, ?_⟩
          · have e1 := dD.1
            rw [List.length_map, List.length_range'] at e1
            exact size_lt (by omega)
          · rw [del_upd]
            exact s5.trans (same_del s6 D)
          · rw [del_upd, ext_take]
            refine (dD.same (same_del (same_del s6 D) lg)).app (Deep.one (w := row ++ [fi + t]) ?_)
            rw [del_ne (ne_of_none (s35 _ _ hls3) np).symm, del_ne (ne_of_none hds np).symm]
            exact hp
        · rintro H4 ⟨s5, ds, hds, dD⟩
          have s35 : Same H3 H4 := s5.trans (del_same _ _)
          have s25 : Same H2 H4 := s4.trans s35
          have eE : ((List.range' fi ((n : Int) - (fi : Int)).toNat).map fun m => row ++ [m]) = extM 0 n row := by
            unfold extM
            rw [← hfi]
            congr 2
            omega
          rw [eE] at dD
          refine ⟨lg, D, ls, ds, rfl, rfl, s25 _ _ hls, hds, ?_, ?_⟩
          · have e1 := dL.1
            have e2 := dD.1
            rw [eF, List.length_append] at eL
            exact size_le (by omega)
          refine ⟨_, _, _, rfl, ?_, upd_same, ?_⟩
          · rw [del_upd]
            exact s3.trans (same_del s25 lg)
          · rw [del_upd, eF]
            exact (dL.same (same_del s25 lg)).app (dD.same (same_del (del_same _ _) lg))
      refine ⟨_, rfl, size_le (by decide), fun e0 he0 => ?_⟩
      refine ne_tnums (same_new he0 _ _ _ hwp2) upd_same ⟨_, rfl, ?_⟩
      refine ite2 (fun e => ?_) (fun e => ?_)
      · have hne : row ≠ [] := fun z => by rw [z] at e; cases e
        obtain ⟨b, hb, hfb⟩ := first_last hne
        refine ⟨_, rfl, _, rfl, wp, _, _, _, rfl, rfl, SqT.of (same_new he0 _ _ _ hwp2), hb, _, _, rfl, rfl, ?_⟩
        exact rest _ none (same_new he0 _) (b + 1) hfb.symm
      · have hz : row = [] := by
          cases row with
          | nil => rfl
          | cons _ _ => exact absurd rfl e
        refine rest _ none (same_new he0 _) 0 ?_
        rw [hz]
        rfl
    · rintro σ H2 ⟨ls, v5, v6, rfl, s3, hls, dL⟩
      rw [dW.1, List.take_length] at dL
      exact ⟨_, rfl, lg, ls, _, _, _, _, rfl, s2.trans (s3.trans (del_same _ _)), hls, dL.same (del_same _ _)⟩
  · rintro σ H' ⟨fnd, rs, v3, v4, v5, v6, rfl, s2, hf, dW⟩
    exact ⟨_, rfl, q H' fnd rs s2 hf dW⟩
end
end Lc
set_option Elab.async false
set_option linter.all false
set_option maxRecDepth 100000
set_option maxHeartbeats 2000000
namespace Lc
open PySem L2 PySem.Spec PyProof.Rows
/-! shown_by -/
def shownM (x : Uw57.Box) (ls : List Nat) : List Nat := (List.range x.cubes.length).filter fun cu => ls.any fun l => x.shows cu l
def spShownBy (K : PySem.W.Frag) (C : Addr) : Sp := fun vs H Q _ => ∃ (c a : Addr) (x : Uw57.Box) (ls : List Nat), vs = [.ref c, .ref a] ∧ CubR C H c x ∧ SqL K H a (nvs ls) ∧ ls.length ≤ 1000 ∧ newNums (shownM x ls) H Q
def onesM (x : Uw57.Box) (cu : Nat) (ls : List Nat) : List Nat := (ls.filter fun l => x.shows cu l).map fun _ => 1
theorem ones_any (x : Uw57.Box) (cu : Nat) (ls : List Nat) : (!(onesM x cu ls).isEmpty) = ls.any fun l => x.shows cu l := by
  induction ls with
  | nil => rfl
  | cons a r ih =>
    unfold onesM at ih ⊢
    rw [List.filter_cons, List.any_cons]
    cases e : x.shows cu a with
    | true => rfl
    | false => simpa using ih
theorem ones_step {x : Uw57.Box} {cu k l : Nat} {ls : List Nat} (h : ls[k]? = some l) : onesM x cu (ls.take (k + 1)) = onesM x cu (ls.take k) ++ (if x.shows cu l = true then [1] else []) := by
  rw [take_more h]
  unfold onesM
  rw [List.filter_append, List.map_append]
  congr 1
  cases e : x.shows cu l <;> simp only [List.filter_cons, e] <;> rfl
theorem ones_len (x : Uw57.Box) (cu : Nat) (ls : List Nat) : (onesM x cu ls).length ≤ ls.length := by
  unfold onesM
  rw [List.length_map]
  exact List.length_filter_le _ _
/-- the scope of a comprehension that is handed back -/
def retLc (st : Stmt) : Scope := match (defBody st).getD 0 (.Pass ⟨0, 0, 0, 0⟩) with
  | .Return (some (.ListComp _ _ sc _)) _ => sc
  | _ => defScope st
section
variable {P : Program} {w : World} {K : PySem.W.Frag} {mg : Str → Option Value} {base : Heap} {C : Addr}
theorem sc27 : FnScope ["cubes", "letters", "cube", "own"] ["cubes", "letters"] (defScope (top 27)) := ⟨rfl, rfl, rfl, by decide +kernel, rfl, by decide +kernel, by decide +kernel⟩
theorem ok_shownBy (D : DefAt K mg "shown_by" "shown_by" (top 27) ["cubes", "letters"]) (T : CubT K mg C) (mR : mg "range" = none) (mL : mg "len" = none) (C1 : Cal P w K mg base CX0 1 "does_show" ["cubes", "cube", "letter"] (spDoesShow C)) :
    Cal P w K mg base CX0 2 "shown_by" ["cubes", "letters"] (spShownBy K C) := by
  refine D.ok sc27 (fun vs H Q E h => ?_) (fun f cdv A outer s H vs Q E hr h => ?_)
  · obtain ⟨c, a, x, ls, rfl, _⟩ := h
    rfl
  obtain ⟨c, a, x, ls, rfl, R, hS, hls, q⟩ := h
  refine ⟨_, pss_one (ps_ret (pe_lc (own := [("cube", 2)]) (g := gName 2) rfl sc27.nd (pi_range1 rfl mR (pa_cons (pe_callB call_len_seq (by rfl) mL PySem.boot_len (pa_cons (pe_fld (pv 0) rfl) pa_nil)) pa_nil))
    (blkOk_by (own := [("cube", 2)]) (N := ["cubes", "letters", "cube", "own"]) (sc := defScope (top 27)) (by decide +kernel)) (fun _ _ _ _ _ => pg_name (i := 2) sc27.nd rfl (Or.inr rfl))
    (fun _ _ _ _ _ => pts_one (pt_cmpR (r := rNeD K) (op_neD hr.units)
      (pe_lc (own := [("own", 3)]) (g := gName 3) (wi := iList K (tVar 1)) (tt := tTest (tCall (spDoesShow C) [] E0 (tCons (tVar 0) (tCons (tVar 2) (tCons (tVar 3) tNil))))) (te := tC (.int 1)) rfl sc27.nd (pi_list (pv 1))
        (blkOk_by (own := [("own", 3)]) (N := ["cubes", "letters", "cube", "own"]) (sc := relS (retLc (top 27)) (defScope (top 27))) (by decide +kernel)) (fun _ _ _ _ _ => pg_name (i := 3) sc27.nd rfl (Or.inl rfl))
        (fun _ _ _ _ _ => pts_one (pt_val (pe_cal C1 hr pass0 (pa_cons (pv 0) (pa_cons (pv 2) (pa_cons (pv 3) pa_nil)))))) (fun _ _ _ _ _ => pe_int))
      (pe_lst pa_nil) (nomark _))) (fun _ _ _ _ _ => pv 2))), ?_⟩
  obtain ⟨dx, r, o, rs, kvs, h1, h2, h3, h4, h5, h6⟩ := id R
  refine ⟨_, rfl, c, C, dx, _, _, rfl, h1, T.cl, T.nR, cf_rows _ _, r, rs, rfl, .inl (SqL.of h2), _, rfl, ?_, ?_, fun D hD => ?_⟩
  · have := h3.1
    omega
  · have := h3.1
    omega
  refine lc_range (lo := 0) (fun i H' => i ≤ x.cubes.length ∧ Same H H' ∧ H' D = some (.lst (nvs ((List.range i).filter fun cu => ls.any fun l => x.shows cu l)))) ⟨Nat.zero_le _, same_new hD _, upd_same⟩ ?_ ?_
  · rintro i H' hi ⟨hi', s1, hD'⟩
    have hlt : i < x.cubes.length := by
      have := h3.1
      omega
    refine ⟨rfl, ?_⟩
    refine ⟨_, rfl, a, rfl, ⟨_, s1.seq hS⟩, fun D2 hD2 => ?_⟩
    have n2 : D ≠ D2 := ne_of_none hD' hD2
    refine lc_list (K := K) (a := a) (xs := nvs ls) (fun k H2 => Same H' H2 ∧ H2 D2 = some (.lst (nvs (onesM x i (ls.take k))))) ⟨same_new hD2 _, upd_same⟩ (fun k H2 _ ⟨s2, _⟩ => s2.seq (s1.seq hS)) ?_ ?_
    · rintro k y H2 hk ⟨s2, hD22⟩
      obtain ⟨l, hl, rfl⟩ : ∃ l, ls[k]? = some l ∧ y = nv l := by
        unfold nvs at hk
        rw [List.getElem?_map] at hk
        cases e : ls[k]? with
        | none => rw [e] at hk; cases hk
        | some l => rw [e] at hk; exact ⟨l, rfl, (Option.some.inj hk).symm⟩
      refine ⟨rfl, ?_⟩
      refine ⟨_, rfl, _, rfl, _, rfl, c, x, i, l, ?_, R.same (s1.trans s2), hlt, _, rfl, ?_⟩
      · show [V.ref c, V.int (0 + (i : Int)), nv l] = [V.ref c, nv i, nv l]
        rw [Int.zero_add]
        rfl
      rw [ones_step hl]
      refine ite2 (fun e => ?_) (fun e => ?_)
      · rw [if_pos e]
        refine ⟨_, hD22, size_lt ?_, same_upd s2 hD2 _, ?_⟩
        · rw [nvs_len]
          have z1 := ones_len x i (ls.take k)
          rw [List.length_take] at z1
          omega
        · rw [upd_same, nvs_app]
          rfl
      · rw [if_neg e, List.append_nil]
        exact ⟨s2, hD22⟩
    · rintro H2 ⟨s2, hD22⟩
      rw [nvs_len, List.take_length] at hD22
      refine ⟨size_le (by decide), fun e0 he0 => ?_⟩
      refine ne_nums (same_new he0 _ _ _ hD22) upd_same ⟨_, rfl, ?_⟩
      rw [filter_step, ones_any]
      have s4 : Same H' (upd H2 e0 (.lst [])) := s2.trans (same_new he0 _)
      have hD4 := s4 _ _ hD'
      refine ite2 (fun e => ?_) (fun e => ?_)
      · refine ⟨_, rfl, _, hD4, size_lt ?_, hlt, same_upd (s1.trans s4) hD _, ?_⟩
        · rw [nvs_len]
          have := List.length_filter_le (fun cu => ls.any fun l => x.shows cu l) (List.range i)
          rw [List.length_range] at this
          omega
        · rw [upd_same, if_pos e, nvs_app]
          show some (HO.lst (_ ++ [V.int (0 + (i : Int))])) = _
          rw [Int.zero_add]
          rfl
      · rw [if_neg e, List.append_nil]
        exact ⟨hlt, s1.trans s4, hD4⟩
  · rintro H' ⟨hi', s1, hD'⟩
    refine q _ D s1 hD ?_
    have e : (rs.length : Int).toNat = x.cubes.length := by
      have := h3.1
      omega
    rw [hD', e]
    rfl
/-! to_blame -/
def spBlame (K : PySem.W.Frag) (C : Addr) : Sp := fun vs H Q _ => ∃ (c a : Addr) (x : Uw57.Box) (w ps : List Nat), vs = [.ref c, .ref a] ∧ CubR C H c x ∧ SqL K H a (nvs w) ∧ w.length ≤ 10 ∧ x.lack w = some ps ∧
  ∀ (H' : Hp) (t r : Addr), Same H H' → H' t = some (.tup [.ref r, nv (x.show_ w ps).length]) → H' r = some (.tup (nvs ps)) → Q (.ref t) H'
theorem shown_is (x : Uw57.Box) (w ps : List Nat) : shownM x (ps.map fun i => w.getD i 0) = x.show_ w ps := by
  unfold shownM Uw57.Box.show_
  congr 1
  funext cu
  rw [List.any_map]
  rfl
theorem sc28 : FnScope ["cubes", "word", "size", "row", "count", "place"] ["cubes", "word"] (defScope (top 28)) := ⟨rfl, rfl, rfl, by decide +kernel, rfl, by decide +kernel, by decide +kernel⟩
theorem ok_blame (D : DefAt K mg "to_blame" "to_blame" (top 28) ["cubes", "word"]) (mR : mg "range" = none) (mL : mg "len" = none) (C1 : Cal P w K mg base CX0 1 "rows_of" ["many", "size"] spRows)
    (C2 : Cal P w K mg base CX0 2 "shown_by" ["cubes", "letters"] (spShownBy K C)) : Cal P w K mg base CX0 3 "to_blame" ["cubes", "word"] (spBlame K C) := by
  refine D.ok sc28 (fun vs H Q E h => ?_) (fun f cdv A outer s H vs Q E hr h => ?_)
  · obtain ⟨c, a, x, w, ps, rfl, _⟩ := h
    rfl
  obtain ⟨c, a, x, wd, ps, rfl, R, hS, h10, hlack, q⟩ := h
  refine ⟨_, pss_cons (ps_for PassesOwn.never rfl (pi_range2 rfl mR (pa_cons pe_int (pa_cons (pe_op op_add (pe_callB call_len_seq (by rfl) mL PySem.boot_len (pa_cons (pv 1) pa_nil)) pe_int) pa_nil))) (pg_name (i := 2) sc28.nd rfl (Or.inl rfl))
      (pss_one (ps_for PassesOwn.never rfl (pi_list (pe_cal C1 (hr.mono (by decide)) pass0 (pa_cons (pe_callB call_len_seq (by rfl) mL PySem.boot_len (pa_cons (pv 1) pa_nil)) (pa_cons (pv 2) pa_nil)))) (pg_name (i := 3) sc28.nd rfl (Or.inl rfl))
        (pss_cons (ps_set (i := 4) sc28.nd rfl (Or.inl rfl) (pe_callB call_len_seq (by rfl) mL PySem.boot_len (pa_cons (pe_cal C2 hr pass0 (pa_cons (pv 0) (pa_cons
            (pe_lc (own := [("place", 5)]) (g := gName 5) (tt := tYes) rfl sc28.nd (pi_tup (pv 3)) (blkOk_by (own := [("place", 5)]) (N := ["cubes", "word", "size", "row", "count", "place"]) (sc := defScope (top 28)) (by decide +kernel))
              (fun _ _ _ _ _ => pg_name (i := 5) sc28.nd rfl (Or.inl rfl)) (fun _ _ _ _ _ => pts_nil) (fun _ _ _ _ _ => pe_ix (r := rIxL K) ix_list (pv 1) (pv 5) (fun _ _ => rfl))) pa_nil))) pa_nil)))
        (pss_one (ps_if (pt_cmpR op_lt (pv 4) (pv 2) (nomark _)) (pss_one (ps_ret (pe_tup (pa_cons (pv 3) (pa_cons (pv 4) pa_nil))))) pss_nil))))))
    (pss_one (ps_ret (pe_tup (pa_cons (pe_tup pa_nil) (pa_cons pe_int pa_nil))))), ?_⟩
  refine ⟨_, rfl, a, _, rfl, .inl hS, _, _, rfl, rfl, _, _, rfl, ?_, ?_⟩
  · rw [nvs_len]
    omega
  have en : ((((nvs wd).length : Nat) : Int) + 1 - 1).toNat = wd.length := by
    rw [nvs_len]
    omega
  rw [en]
  refine for_range (lo := 1) (n := wd.length) (fun i σ H' => ∃ (v2 v3 v4 : Option V), σ = [some (.ref c), some (.ref a), v2, v3, v4, none] ∧ Same H H' ∧ ∀ k, k ≤ i → ∀ z ∈ Uw57.choose k (List.range wd.length), few x wd z = false)
    ⟨none, none, none, rfl, Same.refl _, ?_⟩ ?_ ?_
  · intro k hk z hz
    have : k = 0 := by omega
    subst this
    rw [choose_zero] at hz
    have : z = [] := by simpa using hz
    subst this
    simp [few]
  · rintro i σ H1 hi ⟨v2, v3, v4, rfl, s1, no⟩
    refine ⟨_, rfl, a, _, rfl, .inl (s1.seq hS), _, rfl, wd.length, i + 1, ?_, h10, by omega, fun H2 p rs s2 hp dW => ?_⟩
    · show [V.int (((nvs wd).length : Nat) : Int), V.int (1 + (i : Int))] = [nv wd.length, nv (i + 1)]
      rw [nvs_len, Int.add_comm]
      rfl
    refine ⟨p, rfl, ⟨_, SqL.of hp⟩, ?_⟩
    refine for_list (K := K) (a := p) (xs := rs) (fun j σ H' => ∃ (v3 v4 : Option V), σ = [some (.ref c), some (.ref a), some (.int (1 + (i : Int))), v3, v4, none] ∧ Same H2 H' ∧ ∀ z ∈ (Uw57.choose (i + 1) (List.range wd.length)).take j, few x wd z = false)
      ⟨v3, v4, rfl, Same.refl _, by simp⟩ (fun j σ H' _ ⟨_, _, _, s, _⟩ => SqL.of (s _ _ hp)) ?_ ?_
    · rintro j y σ H3 hj ⟨v3, v4, rfl, s3, no2⟩
      obtain ⟨row, rp, hw, rfl, hrp⟩ := dW.get hj
      have hrp3 := s3 _ _ hrp
      have hrow := choose_is _ _ row (List.mem_of_getElem? hw)
      have s13 : Same H H3 := s1.trans (s2.trans s3)
      refine ⟨_, rfl, _, rfl, rp, rfl, ⟨_, SqT.of hrp3⟩, fun D hD => ?_⟩
      refine lc_tup (K := K) (a := rp) (xs := nvs row) (fun k H' => Same H3 H' ∧ H' D = some (.lst (nvs ((row.take k).map fun i => wd.getD i 0)))) ⟨same_new hD _, upd_same⟩ (fun k H' _ ⟨s, _⟩ => SqT.of (s _ _ hrp3)) ?_ ?_
      · rintro k y H4 hk ⟨s4, hD4⟩
        obtain ⟨l, hl, rfl⟩ : ∃ l, row[k]? = some l ∧ y = nv l := by
          unfold nvs at hk
          rw [List.getElem?_map] at hk
          cases e : row[k]? with
          | none => rw [e] at hk; cases hk
          | some l => rw [e] at hk; exact ⟨l, rfl, (Option.some.inj hk).symm⟩
        have hll : l < wd.length := List.mem_range.mp (hrow.1.subset (List.mem_of_getElem? hl))
        refine ⟨rfl, ?_⟩
        refine ⟨_, rfl, _, rfl, a, _, _, _, rfl, rfl, (s13.trans s4).seq hS, atI_nat (nvs_get (List.getElem?_eq_getElem hll)), _, hD4, size_lt ?_, same_upd s4 hD _, ?_⟩
        · rw [nvs_len, List.length_map, List.length_take]
          have := hrow.1.length_le
          rw [List.length_range] at this
          omega
        · rw [upd_same, take_more hl, List.map_append, nvs_app]
          have : wd.getD l 0 = wd[l] := by simp [List.getD, hll]
          simp only [List.map_cons, List.map_nil, this]
          rfl
      · rintro H4 ⟨s4, hD4⟩
        rw [nvs_len, List.take_length] at hD4
        refine ⟨c, D, x, _, rfl, R.same (s13.trans s4), SqL.of hD4, ?_, fun H5 sp s5 nsp hsp => ?_⟩
        · rw [List.length_map]
          have := hrow.1.length_le
          rw [List.length_range] at this
          omega
        rw [shown_is] at hsp
        refine ⟨sp, _, rfl, .inl (SqL.of hsp), ?_⟩
        refine ⟨_, rfl, _, rfl, _, _, rfl, rfl, _, rfl, ?_⟩
        rw [nvs_len]
        have s35 : Same H3 H5 := s4.trans s5
        refine ite2 (fun e => ?_) (fun e => ?_)
        · have e' : few x wd row = true := by
            have := of_decide_eq_true e
            unfold few
            rw [hrow.2]
            exact decide_eq_true (by omega)
          have ha := lack_at (i := i + 1) (by omega) (fun k hk z hz => no k (by omega) z hz) hw no2 e'
          rw [hlack] at ha
          have ep : ps = row := Option.some.inj ha
          refine ⟨_, rfl, _, rfl, size_le (show 2 ≤ 16777216 by decide), fun t ht => ?_⟩
          refine q _ t rp ((s13.trans s35).trans (same_new ht _)) ?_ (same_new ht _ _ _ (s35 _ _ ?_))
          · rw [upd_same, ep]
            rfl
          · rw [ep]
            exact hrp3
        · refine ⟨_, _, rfl, s3.trans s35, fun z hz => ?_⟩
          rw [take_more hw] at hz
          rcases List.mem_append.mp hz with hz | hz
          · exact no2 z hz
          · have : z = row := by simpa using hz
            subst this
            unfold few
            rw [hrow.2]
            refine decide_eq_false fun z => e (decide_eq_true ?_)
            omega
    · rintro σ H3 ⟨v3, v4, rfl, s3, no2⟩
      refine ⟨_, _, _, rfl, s1.trans (s2.trans s3), fun k hk z hz => ?_⟩
      by_cases hk' : k ≤ i
      · exact no k hk' z hz
      · have : k = i + 1 := by omega
        subst this
        refine no2 z ?_
        rw [dW.1, List.take_length]
        exact hz
  · rintro σ H' ⟨v2, v3, v4, rfl, s1, no⟩
    rw [lack_no no] at hlack
    cases hlack
end
end Lc
set_option Elab.async false
set_option linter.all false
set_option maxRecDepth 100000
set_option maxHeartbeats 2000000
namespace Lc
open PySem L2 PySem.Spec PyProof.Rows
theorem nvs_at {l : List Nat} {i : Nat} {y : V} (h : (nvs l)[i]? = some y) : ∃ n, l[i]? = some n ∧ y = nv n := by
  unfold nvs at h
  rw [List.getElem?_map] at h
  cases e : l[i]? with
  | none => rw [e] at h; cases h
  | some n => rw [e] at h; exact ⟨n, rfl, (Option.some.inj h).symm⟩
/-! is_spelled, of the words -/
def spSpelledW : Sp := fun vs H Q _ => ∃ (a : Addr) (rs : List V) (rows : List (List Nat)), vs = [.ref a] ∧ H a = some (.lst rs) ∧ Deep .lst H rs rows ∧ rows.length ≤ 3 ∧ (∀ r ∈ rows, r.length ≤ 5) ∧ ∀ H', Same H H' → Q (.bl (!(waysM rows).isEmpty)) H'
section
variable {P : Program} {w : World} {K : PySem.W.Frag} {mg : Str → Option Value} {base : Heap} {C : Addr}
theorem sc29 : FnScope ["rows", "found", "row", "longer", "way", "cube"] ["rows"] (defScope (top 29)) := ⟨rfl, rfl, rfl, by decide +kernel, rfl, by decide +kernel, by decide +kernel⟩
theorem ok_spelledW (D : DefAt K mg "is_spelled_words" "is_spelled" (top 29) ["rows"]) : Cal P w K mg base CX0 1 "is_spelled_words" ["rows"] spSpelledW := by
  refine D.ok sc29 (fun vs H Q E h => ?_) (fun f cdv A outer s H vs Q E hr h => ?_)
  · obtain ⟨a, rs, rows, rfl, _⟩ := h
    rfl
  obtain ⟨a, qs, rows, rfl, ha, dR, h3, h5, q⟩ := h
  refine ⟨_, pss_cons (ps_set (i := 1) sc29.nd rfl (Or.inl rfl) (pe_lst (pa_cons (pe_tup pa_nil) pa_nil)))
    (pss_cons (ps_for PassesOwn.never rfl (pi_list (pv 0)) (pg_name (i := 2) sc29.nd rfl (Or.inl rfl))
      (pss_cons (ps_set (i := 3) sc29.nd rfl (Or.inl rfl) (pe_lst pa_nil))
      (pss_cons (ps_for PassesOwn.never rfl (pi_list (pv 1)) (pg_name (i := 4) sc29.nd rfl (Or.inr rfl))
        (pss_one (ps_expr (pe_bm PySem.F.plainAttrs_list PySem.F.slot_list_extend PySem.F.type_list_extend mt_extend (pv 3)
          (pa_cons (pe_lc (own := [("cube", 5)]) (g := gName 5) rfl sc29.nd (pi_list (pv 2))
            (blkOk_by (own := [("cube", 5)]) (N := ["rows", "found", "row", "longer", "way", "cube"]) (sc := defScope (top 29)) (by decide +kernel)) (fun _ _ _ _ _ => pg_name (i := 5) sc29.nd rfl (Or.inl rfl))
            (fun _ _ _ _ _ => pts_one (pt_cmpR (r := rIn K true) op_notIn_seq (pv 5) (pv 4) rfl)) (fun _ _ _ _ _ => pe_op (r := rCatA K) op_catA (pv 4) (pe_tup (pa_cons (pv 5) pa_nil)))) pa_nil)))))
      (pss_one (ps_set (i := 1) sc29.nd rfl (Or.inl rfl) (pv 3))))))
    (pss_one (ps_ret (pe_cmpR (op_neD hr.units) (pv 1) (pe_lst pa_nil) (nomark _))))), ?_⟩
  refine ⟨size_le (by decide), fun p0 hp0 => ⟨size_le (show 1 ≤ 16777216 by decide), fun f0 hf0 => ?_⟩⟩
  have s0 : Same H (upd H p0 (.tup [])) := same_new hp0 _
  have s1 : Same (upd H p0 (.tup [])) (upd (upd H p0 (.tup [])) f0 (.lst [.ref p0])) := same_new hf0 _
  refine ⟨_, rfl, a, rfl, ⟨_, SqL.of ((s0.trans s1) _ _ ha)⟩, ?_⟩
  refine for_list (K := K) (a := a) (xs := qs) (fun i σ H' => ∃ (fnd : Addr) (rs : List V) (v2 v3 v4 : Option V), σ = [some (.ref a), some (.ref fnd), v2, v3, v4, none] ∧ Same H H' ∧ H' fnd = some (.lst rs) ∧
    Deep .tup H' rs (waysM (rows.take i))) ⟨f0, _, none, none, none, rfl, s0.trans s1, upd_same, ?_⟩ (fun i σ H' _ ⟨_, _, _, _, _, _, s, _⟩ => SqL.of (s _ _ ha)) ?_ ?_
  · exact Deep.one (w := []) (s1 _ _ upd_same)
  · rintro i y σ H1 hi ⟨fnd, rs, v2, v3, v4, rfl, s2, hf, dW⟩
    obtain ⟨sh, sp, hl, rfl, hsp⟩ := dR.get hi
    have hsp1 := s2 _ _ hsp
    have eW : waysM (rows.take (i + 1)) = growM sh (waysM (rows.take i)) := by
      rw [take_more hl, ways_snoc]
    have hsh : sh.length ≤ 5 := h5 sh (List.mem_of_getElem? hl)
    have few : (waysM (rows.take (i + 1))).length ≤ 125 := by
      refine Nat.le_trans (ways_len 5 _ fun r hr => h5 r (List.mem_of_mem_take hr)) ?_
      refine Nat.le_trans (Nat.pow_le_pow_right (by decide) (show (rows.take (i + 1)).length ≤ 3 from ?_)) (by decide)
      rw [List.length_take]
      omega
    rw [eW] at few
    rw [eW]
    have hWl : ∀ way ∈ waysM (rows.take i), way.length ≤ 3 := fun way hm => by
      have z := way_len _ way hm
      rw [List.length_take] at z
      omega
    generalize waysM (rows.take i) = W at dW few hWl
    refine ⟨size_le (by decide), fun lg hlg => ?_⟩
    refine ⟨_, rfl, fnd, rfl, ⟨_, SqL.of (same_new hlg _ _ _ hf)⟩, ?_⟩
    refine for_list (K := K) (a := fnd) (xs := rs) (fun j σ H' => ∃ (ls : List V) (v4 : Option V), σ = [some (.ref a), some (.ref fnd), some (.ref sp), some (.ref lg), v4, none] ∧ Same H1 (del H' lg) ∧
      H' lg = some (.lst ls) ∧ Deep .tup (del H' lg) ls (growM sh (W.take j))) ⟨[], v4, rfl, ?_, upd_same, Deep.nil⟩ (fun j σ H' _ ⟨_, _, _, s, _⟩ => SqL.of (del_same _ _ _ _ (s _ _ hf))) ?_ ?_
    · rw [del_upd]
      exact same_del_of (Same.refl _) hlg
    · rintro j y σ H2 hj ⟨ls, v4, rfl, s3, hls, dL⟩
      obtain ⟨way, wp, hw, rfl, hwp⟩ := dW.get hj
      have s23 : Same H1 H2 := s3.trans (del_same _ _)
      have hwp2 := s23 _ _ hwp
      have hsp2 := s23 _ _ hsp1
      refine ⟨_, rfl, .inl ⟨rfl, _, SqL.of hls⟩, _, rfl, sp, rfl, ⟨_, SqL.of hsp2⟩, fun D hD => ?_⟩
      refine lc_list (K := K) (a := sp) (xs := nvs sh) (fun k H' => Same H2 (del H' D) ∧ ∃ ds : List V, H' D = some (.lst ds) ∧ Deep .tup (del (del H' D) lg) ds (extW (sh.take k) way)) ⟨?_, [], upd_same, Deep.nil⟩
        (fun k H' _ ⟨s, _⟩ => SqL.of (del_same _ _ _ _ (s _ _ hsp2))) ?_ ?_
      · rw [del_upd]
        exact same_del_of (Same.refl _) hD
      · rintro k y H4 hk ⟨s5, ds, hds, dD⟩
        obtain ⟨cu, hcu, rfl⟩ := nvs_at hk
        have s35 : Same H2 H4 := s5.trans (del_same _ _)
        have hwp4 := s35 _ _ hwp2
        refine ⟨rfl, ?_⟩
        refine ⟨_, rfl, _, rfl, wp, _, rfl, .inr (SqT.of hwp4), rfl, nvs_flat _, _, rfl, ?_⟩
        rw [ext_step hcu]
        show if (!inV (nv cu) (nvs way)) = true then _ else _
        rw [inV_nvs]
        refine ite2 (fun e => ?_) (fun e => ?_)
        · rw [if_pos e]
          refine ⟨_, rfl, _, rfl, size_le (show 1 ≤ 16777216 by decide), fun b hb => ?_⟩
          have hwl := hWl way (List.mem_of_getElem? hw)
          refine cat_one (n := cu) hwp4 hb (by omega) fun H5 p s6 np hp => ?_
          refine ⟨_, s6 _ _ hds, ?_, ?_, _, upd_same, ?_⟩
          · have e1 := dD.1
            have e2 := ext_len (sh.take k) way
            rw [List.length_take] at e2
            exact size_lt (by omega)
          · rw [del_upd]
            exact s5.trans (same_del s6 D)
          · rw [del_upd]
            refine (dD.same (same_del (same_del s6 D) lg)).app (Deep.one (w := way ++ [cu]) ?_)
            rw [del_ne (ne_of_none (s35 _ _ hls) np).symm, del_ne (ne_of_none hds np).symm]
            exact hp
        · rw [if_neg e, List.append_nil]
          exact ⟨s5, ds, hds, dD⟩
      · rintro H4 ⟨s5, ds, hds, dD⟩
        rw [nvs_len, List.take_length] at dD
        have s25 : Same H2 H4 := s5.trans (del_same _ _)
        refine ⟨lg, D, ls, ds, rfl, rfl, s25 _ _ hls, hds, ?_, ?_⟩
        · have e1 := dL.1
          have e2 := dD.1
          have e3 := grow_take (sh := sh) hw
          have e4 := grow_le sh W (j + 1)
          rw [e3, List.length_append] at e4
          exact size_le (by omega)
        refine ⟨_, _, rfl, ?_, upd_same, ?_⟩
        · rw [del_upd]
          exact s3.trans (same_del s25 lg)
        · rw [del_upd, grow_take hw]
          exact (dL.same (same_del s25 lg)).app (dD.same (same_del (del_same _ _) lg))
    · rintro σ H2 ⟨ls, v4, rfl, s3, hls, dL⟩
      rw [dW.1, List.take_length] at dL
      exact ⟨_, rfl, lg, ls, _, _, _, rfl, s2.trans (s3.trans (del_same _ _)), hls, dL.same (del_same _ _)⟩
  · rintro σ H' ⟨fnd, rs, v2, v3, v4, rfl, s2, hf, dW⟩
    rw [dR.1, List.take_length] at dW
    refine ⟨_, rfl, size_le (by decide), fun e0 he0 => ?_⟩
    exact ne_tups (same_new he0 _ _ _ hf) (dW.same (same_new he0 _)) upd_same (q _ (s2.trans (same_new he0 _)))
/-! spelled_words -/
def spAllWords (C : Addr) : Sp := fun vs H Q _ => ∃ (c : Addr) (x : Uw57.Box) (n : Nat), vs = [.ref c, nv n] ∧ CubR C H c x ∧ n ≤ 3 ∧ newTups (x.all n) H Q
def extA (x : Uw57.Box) (w : List Nat) (ls : List Nat) : List (List Nat) := (ls.filter fun a => x.spells (w ++ [a])).map fun a => w ++ [a]
theorem more_take {x : Uw57.Box} {W : List (List Nat)} {j : Nat} {v : List Nat} (h : W[j]? = some v) : moreM x (W.take (j + 1)) = moreM x (W.take j) ++ extA x v x.letters := by
  rw [take_more h]
  unfold moreM
  rw [List.flatMap_append]
  simp [extA]
theorem more_le (x : Uw57.Box) (W : List (List Nat)) (j : Nat) : (moreM x (W.take j)).length ≤ (moreM x W).length := by
  conv => rhs; rw [← List.take_append_drop j W]
  unfold moreM
  rw [List.flatMap_append, List.length_append]
  omega
theorem extA_step {x : Uw57.Box} {w ls : List Nat} {k l : Nat} (h : ls[k]? = some l) : extA x w (ls.take (k + 1)) = extA x w (ls.take k) ++ (if x.spells (w ++ [l]) = true then [w ++ [l]] else []) := by
  rw [take_more h]
  unfold extA
  rw [List.filter_append, List.map_append]
  congr 1
  cases e : x.spells (w ++ [l]) <;> simp only [List.filter_cons, e] <;> rfl
theorem extA_le (x : Uw57.Box) (w ls : List Nat) (k : Nat) : (extA x w (ls.take k)).length ≤ (extA x w ls).length := by
  conv => rhs; rw [← List.take_append_drop k ls]
  unfold extA
  rw [List.filter_append, List.map_append, List.length_append]
  omega
theorem letters_lt {x : Uw57.Box} {a : Nat} (h : a ∈ x.letters) : a < 36 := by
  unfold Uw57.Box.letters at h
  exact List.mem_range.mp (List.mem_filter.mp h).1
theorem all_lt (x : Uw57.Box) : ∀ (n : Nat) (w : List Nat), w ∈ x.all n → ∀ a ∈ w, a < 36
  | 0, w, h, a, ha => by
    rw [all_zero] at h
    have : w = [] := by simpa using h
    subst this
    cases ha
  | n + 1, w, h, a, ha => by
    rw [all_succ] at h
    obtain ⟨v, hv, hw⟩ := List.mem_flatMap.mp h
    obtain ⟨b, hb, rfl⟩ := List.mem_map.mp hw
    rcases List.mem_append.mp ha with ha | ha
    · exact all_lt x n v hv a ha
    · have : a = b := by simpa using ha
      subst this
      exact letters_lt (List.mem_filter.mp hb).1
theorem sc31 : FnScope ["cubes", "size", "letter", "rows", "letters", "found", "k", "longer", "word", "own", "other"] ["cubes", "size"] (defScope (top 31)) := ⟨rfl, rfl, rfl, by decide +kernel, rfl, by decide +kernel, by decide +kernel⟩
theorem ok_allWords (D : DefAt K mg "spelled_words" "spelled_words" (top 31) ["cubes", "size"]) (mR : mg "range" = none) (nL : Num mg "LETTERS" 36) (C1 : Cal P w K mg base CX0 2 "showing" ["cubes", "letter"] (spShowing C))
    (C2 : Cal P w K mg base CX0 1 "is_spelled_words" ["rows"] spSpelledW) : Cal P w K mg base CX0 3 "spelled_words" ["cubes", "size"] (spAllWords C) := by
  refine D.ok sc31 (fun vs H Q E h => ?_) (fun f cdv A outer s H vs Q E hr h => ?_)
  · obtain ⟨c, x, n, rfl, _⟩ := h
    rfl
  obtain ⟨c, x, n, rfl, R, hn, q⟩ := h
  refine ⟨_, pss_cons (ps_set (i := 3) sc31.nd rfl (Or.inr rfl) (pe_lc (own := [("letter", 2)]) (g := gName 2) (tt := tYes) rfl sc31.nd (pi_range1 rfl mR (pa_cons (pe_num nL) pa_nil))
      (blkOk_by (own := [("letter", 2)]) (N := ["cubes", "size", "letter", "rows", "letters", "found", "k", "longer", "word", "own", "other"]) (sc := defScope (top 31)) (by decide +kernel)) (fun _ _ _ _ _ => pg_name (i := 2) sc31.nd rfl (Or.inl rfl))
      (fun _ _ _ _ _ => pts_nil) (fun _ _ _ _ _ => pe_cal C1 hr pass0 (pa_cons (pv 0) (pa_cons (pv 2) pa_nil)))))
    (pss_cons (ps_setLc (i := 4) (own := [("letter", 2)]) (g := gName 2) rfl sc31.nd rfl rfl (sw_true rfl rfl rfl (by decide +kernel)) (pi_range1 rfl mR (pa_cons (pe_num nL) pa_nil))
      (blkOk_by (own := [("letter", 2)]) (N := ["cubes", "size", "letter", "rows", "letters", "found", "k", "longer", "word", "own", "other"]) (sc := defScope (top 31)) (by decide +kernel)) (fun _ _ _ _ _ => pg_name (i := 2) sc31.nd rfl (Or.inl rfl))
      (fun _ _ _ _ _ => pts_one (pt_cmpR (r := rNeD K) (op_neD hr.units) (pe_ix (r := rIxL K) ix_list (pv 3) (pv 2) (fun _ _ => rfl)) (pe_lst pa_nil) (nomark _))) (fun _ _ _ _ _ => pv 2))
    (pss_cons (ps_set (i := 5) sc31.nd rfl (Or.inl rfl) (pe_lst (pa_cons (pe_tup pa_nil) pa_nil)))
    (pss_cons (ps_for PassesOwn.never rfl (pi_range1 rfl mR (pa_cons (pv 1) pa_nil)) (pg_name (i := 6) sc31.nd rfl (Or.inl rfl))
      (pss_cons (ps_set (i := 7) sc31.nd rfl (Or.inl rfl) (pe_lst pa_nil))
      (pss_cons (ps_for PassesOwn.never rfl (pi_list (pv 5)) (pg_name (i := 8) sc31.nd rfl (Or.inl rfl))
        (pss_one (ps_for PassesOwn.never rfl (pi_list (pv 4)) (pg_name (i := 2) sc31.nd rfl (Or.inl rfl))
          (pss_cons (ps_set (i := 9) sc31.nd rfl (Or.inl rfl) (pe_op op_catA (pv 8) (pe_tup (pa_cons (pv 2) pa_nil))))
          (pss_one (ps_if (pt_val (pe_cal C2 (hr.mono (by decide)) pass0 (pa_cons (pe_lc (own := [("other", 10)]) (g := gName 10) (tt := tYes) rfl sc31.nd (pi_tup (pv 9))
              (blkOk_by (own := [("other", 10)]) (N := ["cubes", "size", "letter", "rows", "letters", "found", "k", "longer", "word", "own", "other"]) (sc := defScope (top 31)) (by decide +kernel)) (fun _ _ _ _ _ => pg_name (i := 10) sc31.nd rfl (Or.inl rfl))
              (fun _ _ _ _ _ => pts_nil) (fun _ _ _ _ _ => pe_ix (r := rIxL K) ix_list (pv 3) (pv 10) (fun _ _ => rfl))) pa_nil)))
            (pss_one (ps_expr (pe_bm PySem.F.plainAttrs_list PySem.F.slot_list_append PySem.F.type_list_append mt_append (pv 7) (pa_cons (pv 9) pa_nil)))) pss_nil))))))
      (pss_one (ps_set (i := 5) sc31.nd rfl (Or.inl rfl) (pv 7))))))
    (pss_one (ps_ret (pv 5)))))), ?_⟩
  have h5 : x.cubes.length ≤ 5 := by
    obtain ⟨_, _, _, _, _, _, _, _, _, _, h⟩ := id R
    exact h
  -- rows
  refine ⟨_, rfl, by decide, by decide, fun D hD => ?_⟩
  refine lc_range (lo := 0) (fun i H' => i ≤ 36 ∧ Same H (del H' D) ∧ ∃ rs : List V, H' D = some (.lst rs) ∧ Deep .lst (del H' D) rs ((List.range i).map (showingM x))) ⟨Nat.zero_le _, ?_, [], upd_same, Deep.nil⟩ ?_ ?_
  · rw [del_upd]
    exact same_del_of (Same.refl _) hD
  · rintro i H' hi ⟨hi', s1, rs, hD', dR⟩
    have hlt : i < 36 := hi
    refine ⟨rfl, ?_⟩
    refine ⟨_, rfl, _, rfl, c, x, i, ?_, R.same (s1.trans (del_same _ _)), fun H2 p s2 np hp => ?_⟩
    · show [V.ref c, V.int (0 + (i : Int))] = [V.ref c, nv i]
      rw [Int.zero_add]
      rfl
    refine ⟨_, s2 _ _ hD', size_lt ?_, hlt, ?_, _, upd_same, ?_⟩
    · have := dR.1
      rw [List.length_map, List.length_range] at this
      omega
    · rw [del_upd]
      exact s1.trans (same_del s2 D)
    · rw [del_upd, List.range_succ, List.map_append]
      refine (dR.same (same_del s2 D)).app (Deep.one ?_)
      rw [del_ne (ne_of_none hD' np).symm]
      exact hp
  rintro H1 ⟨_, s1, rs, hD1, dR⟩
  -- letters
  refine ⟨_, rfl, by decide, by decide, fun E2 hE2 => ?_⟩
  have dR1 : Deep .lst H1 rs ((List.range 36).map (showingM x)) := dR.same (del_same _ _)
  have s01 : Same H H1 := s1.trans (del_same _ _)
  have rowAt : ∀ a, a < 36 → ∃ p, rs[a]? = some (.ref p) ∧ H1 p = some (.lst (nvs (showingM x a))) := fun a ha => dR1.2 a _ (by
    rw [List.getElem?_map, List.getElem?_range ha]
    rfl)
  refine lc_range (lo := 0) (fun i H' => i ≤ 36 ∧ Same H1 H' ∧ H' E2 = some (.lst (nvs ((List.range i).filter fun a => !(showingM x a).isEmpty)))) ⟨Nat.zero_le _, same_new hE2 _, upd_same⟩ ?_ ?_
  · rintro i H' hi ⟨hi', s2, hE'⟩
    have hlt : i < 36 := hi
    obtain ⟨p, hp, hp1⟩ := rowAt i hlt
    refine ⟨rfl, ?_⟩
    refine ⟨_, rfl, _, rfl, D, _, _, _, rfl, rfl, SqL.of (s2 _ _ hD1), at_of (Int.zero_add _) hp, size_le (by decide), fun e0 he0 => ?_⟩
    have s3 : Same H' (upd H' e0 (.lst [])) := same_new he0 _
    refine ne_nums (s3 _ _ (s2 _ _ hp1)) upd_same ⟨_, rfl, ?_⟩
    rw [filter_step]
    refine ite2 (fun e => ?_) (fun e => ?_)
    · refine ⟨_, rfl, _, s3 _ _ hE', size_lt ?_, hlt, same_upd (s2.trans s3) hE2 _, ?_⟩
      · rw [nvs_len]
        have := List.length_filter_le (fun a => !(showingM x a).isEmpty) (List.range i)
        rw [List.length_range] at this
        omega
      · rw [upd_same, if_pos e, nvs_app]
        show some (HO.lst (_ ++ [V.int (0 + (i : Int))])) = _
        rw [Int.zero_add]
        rfl
    · rw [if_neg e, List.append_nil]
      exact ⟨hlt, s2.trans s3, s3 _ _ hE'⟩
  rintro H2 ⟨_, s2, hE⟩
  have hE : H2 E2 = some (.lst (nvs x.letters)) := by
    rw [hE, letters_is]
    rfl
  -- found
  refine ⟨size_le (by decide), fun p0 hp0 => ⟨size_le (show 1 ≤ 16777216 by decide), fun f0 hf0 => ?_⟩⟩
  have s3 : Same H2 (upd H2 p0 (.tup [])) := same_new hp0 _
  have s4 : Same (upd H2 p0 (.tup [])) (upd (upd H2 p0 (.tup [])) f0 (.lst [.ref p0])) := same_new hf0 _
  refine ⟨_, rfl, _, rfl, by omega, by omega, ?_⟩
  refine for_range (lo := 0) (fun i σ H' => ∃ (fnd : Addr) (fs : List V) (v2 v6 v7 v8 v9 : Option V), σ = [some (.ref c), some (nv n), v2, some (.ref D), some (.ref E2), some (.ref fnd), v6, v7, v8, v9, none] ∧ Same H2 H' ∧ H' fnd = some (.lst fs) ∧
    Deep .tup H' fs (x.all i)) ⟨f0, _, none, none, none, none, none, rfl, s3.trans s4, upd_same, ?_⟩ ?_ ?_
  · rw [all_zero]
    exact Deep.one (w := []) (s4 _ _ upd_same)
  · rintro i σ H3 hi ⟨fnd, fs, v2, v6, v7, v8, v9, rfl, s5, hf, dW⟩
    have hi3 : i < 3 := by omega
    have few := all_len x (i + 1)
    have few2 : 36 ^ (i + 1) ≤ 36 ^ 3 := Nat.pow_le_pow_right (by decide) (by omega)
    have hWl : ∀ v ∈ x.all i, v.length = i ∧ ∀ a ∈ v, a < 36 := fun v hv => ⟨all_word x i v hv, all_lt x i v hv⟩
    rw [all_succ] at few ⊢
    generalize x.all i = W at dW few hWl
    refine ⟨size_le (by decide), fun lg hlg => ?_⟩
    refine ⟨_, rfl, fnd, rfl, ⟨_, SqL.of (same_new hlg _ _ _ hf)⟩, ?_⟩
    refine for_list (K := K) (a := fnd) (xs := fs) (fun j σ H' => ∃ (ls : List V) (v2 v8 v9 : Option V), σ = [some (.ref c), some (nv n), v2, some (.ref D), some (.ref E2), some (.ref fnd), some (.int (0 + (i : Int))), some (.ref lg), v8, v9, none] ∧
      Same H3 (del H' lg) ∧ H' lg = some (.lst ls) ∧ Deep .tup (del H' lg) ls (moreM x (W.take j))) ⟨[], v2, v8, v9, rfl, ?_, upd_same, Deep.nil⟩ (fun j σ H' _ ⟨_, _, _, _, _, s, _⟩ => SqL.of (del_same _ _ _ _ (s _ _ hf))) ?_ ?_
    · rw [del_upd]
      exact same_del_of (Same.refl _) hlg
    · -- one word
      rintro j y σ H4 hj ⟨ls, v2, v8, v9, rfl, s6, hls, dL⟩
      obtain ⟨wd, wp, hw, rfl, hwp⟩ := dW.get hj
      have hwd := hWl wd (List.mem_of_getElem? hw)
      have s24 : Same H2 H4 := s5.trans (s6.trans (del_same _ _))
      refine ⟨_, rfl, E2, rfl, ⟨_, SqL.of (s24 _ _ hE)⟩, ?_⟩
      have e3 := more_take (x := x) hw
      have e4 := more_le x W (j + 1)
      refine for_list (K := K) (a := E2) (xs := nvs x.letters) (fun t σ H' => ∃ (ls : List V) (v2 v9 : Option V), σ = [some (.ref c), some (nv n), v2, some (.ref D), some (.ref E2), some (.ref fnd), some (.int (0 + (i : Int))), some (.ref lg), some (.ref wp), v9, none] ∧
        Same H3 (del H' lg) ∧ H' lg = some (.lst ls) ∧ Deep .tup (del H' lg) ls (moreM x (W.take j) ++ extA x wd (x.letters.take t))) ⟨ls, v2, v9, rfl, s6, hls, ?_⟩
        (fun t σ H' _ ⟨_, _, _, _, s, _⟩ => SqL.of (del_same _ _ _ _ (s _ _ (s5 _ _ hE)))) ?_ ?_
      · have : extA x wd (x.letters.take 0) = [] := rfl
        rw [this, List.append_nil]
        exact dL
      · -- one letter
        rintro t y σ H5 ht ⟨ls5, v2, v9, rfl, s7, hls5, dL5⟩
        obtain ⟨l, hl, rfl⟩ := nvs_at ht
        have hl36 : l < 36 := letters_lt (List.mem_of_getElem? hl)
        have s35 : Same H3 H5 := s7.trans (del_same _ _)
        have s15 : Same H1 H5 := s2.trans (s5.trans s35)
        have hwp5 := s35 _ _ hwp
        refine ⟨_, rfl, _, rfl, size_le (show 1 ≤ 16777216 by decide), fun b hb => ?_⟩
        refine cat_one (n := l) hwp5 hb (by omega) fun H6 ow s8 now how => ?_
        have nol : ow ≠ lg := (ne_of_none hls5 now).symm
        refine ⟨_, rfl, ow, rfl, ⟨_, SqT.of how⟩, fun G hG => ?_⟩
        have hown : ∀ a ∈ wd ++ [l], a < 36 := fun a ha => by
          rcases List.mem_append.mp ha with ha | ha
          · exact hwd.2 a ha
          · have : a = l := by simpa using ha
            omega
        refine lc_tup (K := K) (a := ow) (xs := nvs (wd ++ [l])) (fun k H' => Same H6 H' ∧ ∃ gs : List V, H' G = some (.lst gs) ∧ Deep .lst H6 gs (((wd ++ [l]).take k).map (showingM x))) ⟨same_new hG _, [], upd_same, Deep.nil⟩
          (fun k H' _ ⟨s, _⟩ => SqT.of (s _ _ how)) ?_ ?_
        · rintro k y H7 hk ⟨s9, gs, hGs, dG⟩
          obtain ⟨o, ho, rfl⟩ := nvs_at hk
          obtain ⟨rp, hrp, hrp1⟩ := rowAt o (hown o (List.mem_of_getElem? ho))
          refine ⟨rfl, ?_⟩
          refine ⟨_, rfl, _, rfl, D, _, _, _, rfl, rfl, SqL.of (s9 _ _ (s8 _ _ (s15 _ _ hD1))), atI_nat hrp, _, hGs, size_lt ?_, same_upd s9 hG _, _, upd_same, ?_⟩
          · have := dG.1
            rw [List.length_map, List.length_take, List.length_append, hwd.1] at this
            simp only [List.length_singleton] at this
            omega
          · rw [take_more ho, List.map_append]
            exact dG.app (Deep.one (s8 _ _ (s15 _ _ hrp1)))
        · rintro H7 ⟨s9, gs, hGs, dG⟩
          rw [nvs_len, List.take_length] at dG
          refine ⟨G, gs, _, rfl, hGs, dG.same s9, ?_, ?_, fun H8 s10 => ?_⟩
          · rw [List.length_map, List.length_append, hwd.1]
            simp only [List.length_singleton]
            omega
          · intro r hr
            obtain ⟨a, _, rfl⟩ := List.mem_map.mp hr
            exact Nat.le_trans (showing_len x a) h5
          rw [← spells_is]
          have s58 : Same H5 H8 := s8.trans (s9.trans s10)
          refine ⟨_, rfl, ?_⟩
          rw [extA_step hl]
          refine ite2 (fun e => ?_) (fun e => ?_)
          · rw [if_pos e]
            refine ⟨_, rfl, .inl ⟨rfl, _, SqL.of (s58 _ _ hls5)⟩, _, rfl, lg, ls5, _, rfl, rfl, s58 _ _ hls5, ?_, ?_⟩
            · have z1 := dL5.1
              rw [List.length_append] at z1
              have z2 := extA_le x wd x.letters t
              rw [e3, List.length_append] at e4
              exact size_lt (by omega)
            refine ⟨_, _, _, rfl, ?_, upd_same, ?_⟩
            · rw [del_upd]
              exact s7.trans (same_del s58 lg)
            · rw [del_upd, ← List.append_assoc]
              refine (dL5.same (same_del s58 lg)).app (Deep.one (w := wd ++ [l]) ?_)
              rw [del_ne nol]
              exact s10 _ _ (s9 _ _ how)
          · rw [if_neg e, List.append_nil]
            exact ⟨ls5, _, _, rfl, s7.trans (same_del s58 lg), s58 _ _ hls5, dL5.same (same_del s58 lg)⟩
      · rintro σ H5 ⟨ls5, v2, v9, rfl, s7, hls5, dL5⟩
        rw [nvs_len, List.take_length, ← e3] at dL5
        exact ⟨ls5, _, _, _, rfl, s7, hls5, dL5⟩
    · rintro σ H4 ⟨ls, v2, v8, v9, rfl, s6, hls, dL⟩
      rw [dW.1, List.take_length] at dL
      exact ⟨_, rfl, lg, ls, _, _, _, _, _, rfl, s5.trans (s6.trans (del_same _ _)), hls, dL.same (del_same _ _)⟩
  · rintro σ H' ⟨fnd, fs, v2, v6, v7, v8, v9, rfl, s5, hf, dW⟩
    exact ⟨_, rfl, q H' fnd fs (s01.trans (s2.trans s5)) hf dW⟩
end
end Lc
set_option Elab.async false
set_option linter.all false
set_option maxRecDepth 100000
set_option maxHeartbeats 2000000
namespace Lc
open PySem L2 PySem.Spec PyProof.Rows
/-! lower_one, letters_of, words_of -/
def spLower : Sp := fun vs H Q _ => ∃ (o : Addr) (kvs : List (Key × V)) (x : Uw57.Box) (a : Nat), vs = [.ref o, nv a] ∧ H o = some (.dK kvs) ∧ Oth kvs x ∧ Q (nv (x.one_ a)) H
theorem min_nv (a b : Nat) : V.int (if ((b : Nat) : Int) < ((a : Nat) : Int) then ((b : Nat) : Int) else ((a : Nat) : Int)) = nv (min a b) := by
  unfold nv
  congr 1
  by_cases h : b < a
  · rw [if_pos (by omega), Nat.min_eq_right (by omega)]
  · rw [if_neg (by omega), Nat.min_eq_left (by omega)]
theorem max_nv (a b : Nat) : V.int (if ((b : Nat) : Int) > ((a : Nat) : Int) then ((b : Nat) : Int) else ((a : Nat) : Int)) = nv (max a b) := by
  unfold nv
  congr 1
  by_cases h : b > a
  · rw [if_pos (by omega), Nat.max_eq_right (by omega)]
  · rw [if_neg (by omega), Nat.max_eq_left (by omega)]
/-- a new list of numbers, all else as it was -/
def spLetters (K : PySem.W.Frag) : Sp := fun vs H Q _ => ∃ (o a : Addr) (kvs : List (Key × V)) (x : Uw57.Box) (ls : List Nat), vs = [.ref o, .ref a] ∧ H o = some (.dK kvs) ∧ Oth kvs x ∧ SqL K H a (nvs ls) ∧ ls.length ≤ 1000 ∧
  newNums (x.used (Uw57.split 2 ls)) H Q
/-- a dict of numbers, each once -/
structure Keys (kvs : List (Key × V)) (l : List Nat) : Prop where
  nd : (kvs.map (·.1)).Nodup
  num : ∀ k ∈ kvs.map (·.1), ∃ n : Nat, k = Sum.inl (n : Int)
  mem : ∀ n : Nat, (Sum.inl (n : Int) : Key) ∈ kvs.map (·.1) ↔ n ∈ l
theorem keys_put {kvs : List (Key × V)} {l : List Nat} (h : Keys kvs l) (n : Nat) (v : V) : Keys (putK kvs (Sum.inl (n : Int)) v) (l ++ [n]) := by
  cases e : valV kvs (Sum.inl (n : Int) : Key) with
  | none =>
    have q := putK_new v e
    refine ⟨?_, ?_, ?_⟩
    · exact nd_putK v h.nd e
    · intro k hk
      rw [q, List.map_append] at hk
      rcases List.mem_append.mp hk with hk | hk
      · exact h.num k hk
      · have : k = Sum.inl (n : Int) := by simpa using hk
        exact ⟨n, this⟩
    · intro m
      rw [q, List.map_append, List.mem_append, h.mem m, List.mem_append]
      have : ((Sum.inl (m : Int) : Key) ∈ ([(Sum.inl (n : Int), v)] : List (Key × V)).map (·.1)) ↔ m ∈ [n] := by
        simp only [List.map_cons, List.map_nil, List.mem_singleton]
        constructor
        · intro z
          have := Sum.inl.inj z
          omega
        · intro z
          rw [z]
      rw [this]
  | some u =>
    have hin := valV_in e
    have hk : (putK kvs (Sum.inl (n : Int)) v).map (·.1) = kvs.map (·.1) := by
      unfold putK
      have : (kvs.any fun kv => decide (kv.1 = (Sum.inl (n : Int) : Key))) = true := by
        rw [valV_any, e]
        rfl
      rw [if_pos this, List.map_map]
      apply List.map_congr_left
      intro kv _
      show (if kv.1 = (Sum.inl (n : Int) : Key) then (kv.1, v) else kv).1 = kv.1
      split <;> rfl
    refine ⟨by rw [hk]; exact h.nd, by rw [hk]; exact h.num, fun m => ?_⟩
    rw [hk, h.mem m, List.mem_append, List.mem_singleton]
    constructor
    · exact fun z => .inl z
    · rintro (z | z)
      · exact z
      · rw [z]
        exact (h.mem n).mp hin
theorem keys_nums {kvs : List (Key × V)} {l : List Nat} (h : Keys kvs l) : ∃ ns : List Nat, (kvs.map fun kv => kV kv.1) = nvs ns ∧ ns.Nodup ∧ ∀ n, n ∈ ns ↔ n ∈ l := by
  have go : ∀ (ks : List Key), ks.Nodup → (∀ k ∈ ks, ∃ n : Nat, k = Sum.inl (n : Int)) → ∃ ns : List Nat, ks.map kV = nvs ns ∧ ns.Nodup ∧ ∀ n : Nat, n ∈ ns ↔ (Sum.inl (n : Int) : Key) ∈ ks := by
    intro ks
    induction ks with
    | nil => intro _ _; exact ⟨[], rfl, List.nodup_nil, by simp⟩
    | cons k ks ih =>
      intro nd hn
      have q := List.nodup_cons.mp nd
      obtain ⟨ns, e1, e2, e3⟩ := ih q.2 fun k hk => hn k (List.mem_cons_of_mem _ hk)
      obtain ⟨n, rfl⟩ := hn k List.mem_cons_self
      refine ⟨n :: ns, ?_, List.nodup_cons.mpr ⟨fun z => q.1 ((e3 n).mp z), e2⟩, fun m => ?_⟩
      · rw [List.map_cons, e1]
        rfl
      · rw [List.mem_cons, List.mem_cons, e3 m]
        constructor
        · rintro (z | z)
          · exact .inl (by rw [z])
          · exact .inr z
        · rintro (z | z)
          · exact .inl (by have := Sum.inl.inj z; omega)
          · exact .inr z
  obtain ⟨ns, e1, e2, e3⟩ := go _ h.nd h.num
  refine ⟨ns, ?_, e2, fun n => (e3 n).trans (h.mem n)⟩
  rw [← e1, List.map_map]
  rfl
/-- ints that are numbers -/
theorem perm_nums {ns : List Nat} : ∀ {zs : List Int}, zs.Perm (ns.map fun (n : Nat) => (n : Int)) → ∃ ms : List Nat, zs = ms.map (fun (n : Nat) => (n : Int)) ∧ ms.Perm ns := by
  intro zs h
  refine ⟨zs.map Int.toNat, ?_, ?_⟩
  · rw [List.map_map]
    conv => lhs; rw [← List.map_id zs]
    apply List.map_congr_left
    intro z hz
    obtain ⟨n, _, e⟩ := List.mem_map.mp (h.mem_iff.mp hz)
    simp only [id, Function.comp]
    omega
  · have := h.map Int.toNat
    rw [List.map_map] at this
    have e : (ns.map (Int.toNat ∘ fun (n : Nat) => (n : Int))) = ns := by
      conv => rhs; rw [← List.map_id ns]
      apply List.map_congr_left
      intro n _
      simp
    rw [e] at this
    exact this
theorem sorted_used {x : Uw57.Box} {ls ns : List Nat} {zs : List Int} (hp : zs.Perm (ns.map fun (n : Nat) => (n : Int))) (hs : zs.Pairwise (· ≤ ·)) (nd : ns.Nodup) (hm : ∀ n, n ∈ ns ↔ n ∈ ls.map x.one_) : zs.map V.int = nvs (x.used (Uw57.split 2 ls)) := by
  obtain ⟨ms, rfl, pm⟩ := perm_nums hp
  have nd2 : ms.Nodup := pm.nodup_iff.mpr nd
  have hs2 : ms.Pairwise (· ≤ ·) := by
    rw [List.pairwise_map] at hs
    exact hs.imp (fun h => by omega)
  have hlt : ms.Pairwise (· < ·) := by
    have := List.Pairwise.and hs2 nd2
    exact this.imp (fun h => by omega)
  have e : ms = x.used (Uw57.split 2 ls) := used_is hlt fun b => (pm.mem_iff).trans (hm b)
  rw [e, List.map_map]
  rfl
section
variable {P : Program} {w : World} {K : PySem.W.Frag} {mg : Str → Option Value} {base : Heap} {C : Addr}
theorem sc7 : FnScope ["others", "letter"] ["others", "letter"] (defScope (top 7)) := ⟨rfl, rfl, rfl, by decide +kernel, rfl, by decide +kernel, by decide +kernel⟩
theorem ok_lower (D : DefAt K mg "lower_one" "lower_one" (top 7) ["others", "letter"]) (mM : mg "min" = none) : Cal P w K mg base CX0 1 "lower_one" ["others", "letter"] spLower := by
  refine D.ok sc7 (fun vs H Q E h => ?_) (fun f cdv A outer s H vs Q E hr h => ?_)
  · obtain ⟨o, kvs, x, a, rfl, _⟩ := h
    rfl
  obtain ⟨o, kvs, x, a, rfl, ho, oth, q⟩ := h
  have hu := hu_of hr
  refine ⟨_, pss_one (ps_ret (pe_callB (call_min2 rfl) (by rfl) mM (by decide +kernel) (pa_cons (pv 1) (pa_cons (pe_dget2 hu (pv 0) (pv 1) (pv 1) ⟨rfl, rfl, rfl, rfl⟩) pa_nil)))), ?_⟩
  refine ⟨_, rfl, _, rfl, o, rfl, .inl ⟨kvs, .inl ho⟩, _, rfl, _, rfl, _, DGet.k (k := Sum.inl (a : Int)) ho, ?_⟩
  rw [oth.get a]
  refine ⟨_, _, rfl, ?_⟩
  rw [min_nv]
  exact q
theorem sc8 : FnScope ["others", "letters", "found", "letter"] ["others", "letters"] (defScope (top 8)) := ⟨rfl, rfl, rfl, by decide +kernel, rfl, by decide +kernel, by decide +kernel⟩
theorem ok_letters (D : DefAt K mg "letters_of" "letters_of" (top 8) ["others", "letters"]) (mS : mg "sorted" = none) (mL : mg "list" = none) (C1 : Cal P w K mg base CX0 1 "lower_one" ["others", "letter"] spLower) :
    Cal P w K mg base CX0 2 "letters_of" ["others", "letters"] (spLetters K) := by
  refine D.ok sc8 (fun vs H Q E h => ?_) (fun f cdv A outer s H vs Q E hr h => ?_)
  · obtain ⟨o, a, kvs, x, ls, rfl, _⟩ := h
    rfl
  obtain ⟨o, a, kvs, x, ls, rfl, ho, oth, hS, hls, q⟩ := h
  have hu := hu_of hr
  refine ⟨_, pss_cons (ps_set (i := 2) sc8.nd rfl (Or.inl rfl) pe_dnewK)
    (pss_cons (ps_for PassesOwn.never rfl (pi_list (pv 1)) (pg_name (i := 3) sc8.nd rfl (Or.inl rfl))
      (pss_one (ps_dput hu (pv 2) (pe_cal C1 hr pass0 (pa_cons (pv 0) (pa_cons (pv 3) pa_nil))) pe_bl rfl)))
    (pss_one (ps_ret (pe_callB cr_sortedI (by rfl) mS (by decide +kernel) (pa_cons (pe_callTy (call_list_dK rfl) (by rfl) mL (by decide +kernel) (pa_cons (pv 2) pa_nil)) pa_nil))))), ?_⟩
  intro d hd
  refine ⟨_, rfl, a, rfl, ⟨_, (same_new hd _).seq hS⟩, ?_⟩
  refine for_list (K := K) (a := a) (xs := nvs ls) (fun i σ H' => ∃ (v3 : Option V) (ks : List (Key × V)), σ = [some (.ref o), some (.ref a), some (.ref d), v3] ∧ Same H H' ∧ H' d = some (.dK ks) ∧ Keys ks ((ls.take i).map x.one_) ∧ ks.length ≤ i)
    ⟨none, [], rfl, same_new hd _, upd_same, ⟨List.nodup_nil, by simp, by simp⟩, Nat.le_refl _⟩ (fun i σ H' _ ⟨_, _, _, s, _⟩ => s.seq hS) ?_ ?_
  · rintro i y σ H1 hi ⟨v3, ks, rfl, s1, hd1, hk, hkl⟩
    obtain ⟨l, hl, rfl⟩ := nvs_at hi
    have hil : i < ls.length := (List.getElem?_eq_some_iff.mp hl).1
    refine ⟨_, rfl, _, rfl, _, rfl, o, kvs, x, l, rfl, s1 _ _ ho, oth, d, _, rfl, DPut.k (k := Sum.inl ((x.one_ l : Nat) : Int)) hd1 (size_lt (by omega)), ?_⟩
    refine ⟨_, _, rfl, same_upd s1 hd _, upd_same, ?_, ?_⟩
    · rw [take_more hl, List.map_append]
      exact keys_put hk _ _
    · unfold putK
      split
      · rw [List.length_map]
        omega
      · rw [List.length_append, List.length_singleton]
        omega
  · rintro σ H1 ⟨v3, ks, rfl, s1, hd1, hk, hkl⟩
    rw [nvs_len, List.take_length] at hk
    obtain ⟨ns, e1, e2, e3⟩ := keys_nums hk
    refine ⟨_, rfl, d, ks, rfl, hd1, fun q1 hq1 => ?_⟩
    rw [e1]
    have e4 : nvs ns = (ns.map fun (n : Nat) => (n : Int)).map V.int := by
      rw [List.map_map]
      rfl
    refine ⟨q1, ns.map (fun (n : Nat) => (n : Int)), rfl, SqL.of (by rw [upd_same, e4]), fun zs p pm so hp => ?_⟩
    refine q _ p ((s1.trans (same_new hq1 _)).trans (same_new hp _)) (s1.free ((same_new hq1 _).free hp)) ?_
    rw [upd_same, sorted_used pm so e2 e3]
/-! is_on, is_spelled, count_on, size_of -/
def spIsOn : Sp := fun vs H Q _ => ∃ (way k : Nat), vs = [nv way, nv k] ∧ ∀ H', Same H H' → Q (.bl (onc k way)) H'
def spSpelledL : Sp := fun vs H Q _ => ∃ (a b : Nat), vs = [nv a, nv b] ∧ ∀ H', Same H H' → Q (.bl (spelledM a b)) H'
def spCountOn : Sp := fun vs H Q _ => ∃ (p : Addr) (wh : List Nat) (k : Nat), vs = [.ref p, nv k] ∧ H p = some (.lst (nvs wh)) ∧ wh.length ≤ 1000 ∧ ∀ H', Same H H' → Q (nv (countM k wh)) H'
def spSizeOf : Sp := fun vs H Q _ => ∃ (p : Addr) (wh : List Nat), vs = [.ref p] ∧ H p = some (.lst (nvs wh)) ∧ wh.length ≤ 1000 ∧ ∀ H', Same H H' → Q (nv (sizeM wh)) H'
theorem sc10 : FnScope ["way", "cube"] ["way", "cube"] (defScope (top 10)) := ⟨rfl, rfl, rfl, by decide +kernel, rfl, by decide +kernel, by decide +kernel⟩
theorem ok_isOn (D : DefAt K mg "is_on" "is_on" (top 10) ["way", "cube"]) (nB : Num mg "BOTH" 3) : Cal P w K mg base CX0 1 "is_on" ["way", "cube"] spIsOn := by
  refine D.ok sc10 (fun vs H Q E h => ?_) (fun f cdv A outer s H vs Q E hr h => ?_)
  · obtain ⟨a, b, rfl, _⟩ := h
    rfl
  obtain ⟨way, k, rfl, q⟩ := h
  refine ⟨_, pss_one (ps_ret (pe_cmpR op_in_seq (pv 0) (pe_tup (pa_cons (pv 1) (pa_cons (pe_num nB) pa_nil))) rfl)), ?_⟩
  refine ⟨_, rfl, _, rfl, size_le (show 2 ≤ 16777216 by decide), fun t ht => ?_⟩
  refine ⟨t, _, rfl, .inr (SqT.of upd_same), rfl, rfl, ?_⟩
  have e : inV (nv way) [nv k, V.int 3] = onc k way := by
    have := inV_nvs way [k, 3]
    show inV (nv way) (nvs [k, 3]) = _
    rw [this]
    unfold onc
    simp only [List.contains_cons, List.contains_nil, Bool.or_false]
  show Q (.bl (inV (nv way) [nv k, V.int 3])) _
  rw [e]
  exact q _ (same_new ht _)
theorem sc11 : FnScope ["one", "other"] ["one", "other"] (defScope (top 11)) := ⟨rfl, rfl, rfl, by decide +kernel, rfl, by decide +kernel, by decide +kernel⟩
theorem ok_spelledL (D : DefAt K mg "is_spelled_letterings" "is_spelled" (top 11) ["one", "other"]) (n1 : Num mg "FIRST" 1) (n2 : Num mg "SECOND" 2) (C1 : Cal P w K mg base CX0 1 "is_on" ["way", "cube"] spIsOn) :
    Cal P w K mg base CX0 2 "is_spelled_letterings" ["one", "other"] spSpelledL := by
  refine D.ok sc11 (fun vs H Q E h => ?_) (fun f cdv A outer s H vs Q E hr h => ?_)
  · obtain ⟨a, b, rfl, _⟩ := h
    rfl
  obtain ⟨a, b, rfl, q⟩ := h
  refine ⟨_, pss_one (ps_ret (pe_or (pe_and (pe_cal C1 hr pass0 (pa_cons (pv 0) (pa_cons (pe_num n1) pa_nil))) (pe_one (pe_cal C1 hr pass0 (pa_cons (pv 1) (pa_cons (pe_num n2) pa_nil)))))
    (pe_one (pe_and (pe_cal C1 hr pass0 (pa_cons (pv 0) (pa_cons (pe_num n2) pa_nil))) (pe_one (pe_cal C1 hr pass0 (pa_cons (pv 1) (pa_cons (pe_num n1) pa_nil)))))))), ?_⟩
  unfold spelledM at q
  refine ⟨_, rfl, a, 1, rfl, fun H1 s1 => ⟨_, rfl, ?_⟩⟩
  have second : ∀ H2, Same H H2 → (onc 1 a && onc 2 b) = false → tAndV (tCall spIsOn [] E0 (tCons (tVar 0) (tCons (tC (.int 2)) tNil))) (tCall spIsOn [] E0 (tCons (tVar 1) (tCons (tC (.int 1)) tNil))) (start ["one", "other"] [nv a, nv b]) H2 Q := by
    intro H2 s2 e
    refine ⟨_, rfl, a, 2, rfl, fun H3 s3 => ⟨_, rfl, ?_⟩⟩
    rw [e, Bool.false_or] at q
    refine ite2 (fun e2 => ?_) (fun e2 => ?_)
    · refine ⟨_, rfl, b, 1, rfl, fun H4 s4 => ?_⟩
      have := q H4 (s2.trans (s3.trans s4))
      rw [e2, Bool.true_and] at this
      exact this
    · have := q H3 (s2.trans s3)
      have e2' : onc 2 a = false := by simpa using e2
      rw [e2', Bool.false_and] at this
      exact this
  refine ite2 (fun e1 => ?_) (fun e1 => ?_)
  · refine ⟨_, rfl, b, 2, rfl, fun H2 s2 => ⟨_, rfl, ?_⟩⟩
    refine ite2 (fun e2 => ?_) (fun e2 => ?_)
    · have := q H2 (s1.trans s2)
      rw [e1, e2, Bool.true_and, Bool.true_or] at this
      exact this
    · have e2' : onc 2 b = false := by simpa using e2
      exact second H2 (s1.trans s2) (by rw [e2', Bool.and_false])
  · have e1' : onc 1 a = false := by simpa using e1
    refine ⟨_, rfl, iteF ?_⟩
    exact second H1 s1 (by rw [e1', Bool.false_and])
theorem sc13 : FnScope ["where", "cube", "way"] ["where", "cube"] (defScope (top 13)) := ⟨rfl, rfl, rfl, by decide +kernel, rfl, by decide +kernel, by decide +kernel⟩
theorem count_step {k i way : Nat} {wh : List Nat} (h : wh[i]? = some way) : (wh.take (i + 1)).filter (onc k) = (wh.take i).filter (onc k) ++ (if onc k way = true then [way] else []) := by
  rw [take_more h, List.filter_append]
  congr 1
  cases e : onc k way <;> simp only [List.filter_cons, e] <;> rfl
theorem ok_countOn (D : DefAt K mg "count_on" "count_on" (top 13) ["where", "cube"]) (mL : mg "len" = none) (C1 : Cal P w K mg base CX0 1 "is_on" ["way", "cube"] spIsOn) : Cal P w K mg base CX0 2 "count_on" ["where", "cube"] spCountOn := by
  refine D.ok sc13 (fun vs H Q E h => ?_) (fun f cdv A outer s H vs Q E hr h => ?_)
  · obtain ⟨p, wh, k, rfl, _⟩ := h
    rfl
  obtain ⟨p, wh, k, rfl, hp, hl, q⟩ := h
  refine ⟨_, pss_one (ps_ret (pe_callB call_len_seq (by rfl) mL PySem.boot_len (pa_cons (pe_lc (own := [("way", 2)]) (g := gName 2) rfl sc13.nd (pi_list (pv 0))
    (blkOk_by (own := [("way", 2)]) (N := ["where", "cube", "way"]) (sc := defScope (top 13)) (by decide +kernel)) (fun _ _ _ _ _ => pg_name (i := 2) sc13.nd rfl (Or.inl rfl))
    (fun _ _ _ _ _ => pts_one (pt_val (pe_cal C1 hr pass0 (pa_cons (pv 2) (pa_cons (pv 1) pa_nil))))) (fun _ _ _ _ _ => pv 2)) pa_nil))), ?_⟩
  refine ⟨_, rfl, p, rfl, ⟨_, SqL.of hp⟩, fun D hD => ?_⟩
  refine lc_list (K := K) (a := p) (xs := nvs wh) (fun i H' => Same H H' ∧ H' D = some (.lst (nvs ((wh.take i).filter (onc k))))) ⟨same_new hD _, upd_same⟩ (fun i H' _ ⟨s, _⟩ => SqL.of (s _ _ hp)) ?_ ?_
  · rintro i y H1 hi ⟨s1, hD1⟩
    obtain ⟨way, hw, rfl⟩ := nvs_at hi
    refine ⟨rfl, ?_⟩
    refine ⟨_, rfl, _, rfl, way, k, rfl, fun H2 s2 => ⟨_, rfl, ?_⟩⟩
    rw [count_step hw]
    refine ite2 (fun e => ?_) (fun e => ?_)
    · rw [if_pos e]
      refine ⟨_, rfl, _, s2 _ _ hD1, size_lt ?_, same_upd (s1.trans s2) hD _, ?_⟩
      · rw [nvs_len]
        have := List.length_filter_le (onc k) (wh.take i)
        rw [List.length_take] at this
        omega
      · rw [upd_same, nvs_app]
        rfl
    · rw [if_neg e, List.append_nil]
      exact ⟨s1.trans s2, s2 _ _ hD1⟩
  · rintro H1 ⟨s1, hD1⟩
    rw [nvs_len, List.take_length] at hD1
    refine ⟨D, _, rfl, .inl (SqL.of hD1), ?_⟩
    rw [nvs_len]
    exact q H1 s1
theorem sc14 : FnScope ["where"] ["where"] (defScope (top 14)) := ⟨rfl, rfl, rfl, by decide +kernel, rfl, by decide +kernel, by decide +kernel⟩
theorem ok_sizeOf (D : DefAt K mg "size_of" "size_of" (top 14) ["where"]) (n1 : Num mg "FIRST" 1) (n2 : Num mg "SECOND" 2) (C1 : Cal P w K mg base CX0 2 "count_on" ["where", "cube"] spCountOn) : Cal P w K mg base CX0 3 "size_of" ["where"] spSizeOf := by
  refine D.ok sc14 (fun vs H Q E h => ?_) (fun f cdv A outer s H vs Q E hr h => ?_)
  · obtain ⟨p, wh, rfl, _⟩ := h
    rfl
  obtain ⟨p, wh, rfl, hp, hl, q⟩ := h
  refine ⟨_, pss_one (ps_ret (pe_op op_add (pe_cal C1 hr pass0 (pa_cons (pv 0) (pa_cons (pe_num n1) pa_nil))) (pe_cal C1 hr pass0 (pa_cons (pv 0) (pa_cons (pe_num n2) pa_nil))))), ?_⟩
  refine ⟨_, rfl, p, wh, 1, rfl, hp, hl, fun H1 s1 => ?_⟩
  refine ⟨_, rfl, p, wh, 2, rfl, s1 _ _ hp, hl, fun H2 s2 => ?_⟩
  exact ⟨_, _, rfl, rfl, q H2 (s1.trans s2)⟩
end
end Lc
set_option Elab.async false
set_option linter.all false
set_option maxRecDepth 100000
set_option maxHeartbeats 2000000
namespace Lc
open PySem L2 PySem.Spec PyProof.Rows
/-! range(0, n, c): every step of a whole number of turns -/
theorem whole_turns {c k : Nat} (hc : 0 < c) : Builtin.Range.rangeSize 0 ((k * c : Nat) : Int) (c : Int) = (k : Int) := by
  unfold Builtin.Range.rangeSize
  rw [if_pos (by omega)]
  cases k with
  | zero => simp
  | succ k =>
    have e : (k + 1) * c = k * c + c := Nat.succ_mul k c
    rw [if_pos (by omega)]
    have : (((k + 1) * c : Nat) : Int) - 0 - 1 = ((c : Int) - 1) + (c : Int) * (k : Int) := by
      rw [e, Nat.mul_comm]
      omega
    rw [this, Int.add_mul_ediv_left _ _ (by omega), Int.ediv_eq_zero_of_lt (by omega) (by omega)]
    omega
theorem turns_small {c k : Nat} (hc : 0 < c) (h1 : k * c ≤ 1000000) (h2 : c ≤ 4294967295) : Builtin.Range.small 0 ((k * c : Nat) : Int) (c : Int) = true := by
  have hk : k ≤ 1000000 := Nat.le_trans (Nat.le_mul_of_pos_right k hc) h1
  have fits : ∀ z : Int, -1 ≤ z → z ≤ 5000000000 → Builtin.Range.rangeFitsLong z = true := fun z l u => by
    unfold Builtin.Range.rangeFitsLong
    rw [Bool.and_eq_true]
    exact ⟨decide_eq_true (by omega), decide_eq_true (by omega)⟩
  unfold Builtin.Range.small
  rw [whole_turns hc, fits 0 (by omega) (by omega), fits _ (by omega) (by omega), fits _ (by omega) (by omega), fits _ (by omega) (by omega), if_pos (by omega), fits _ (by omega) (by omega)]
  simp
def iStep (ta : TA) : TI := fun σ H R => ta σ H fun vs H1 => ∃ (c k : Nat), vs = [.int 0, .int ((k * c : Nat) : Int), .int (c : Int)] ∧ 0 < c ∧ k * c ≤ 1000000 ∧ c ≤ 4294967295 ∧ R (Itc 0 (c : Int) k) H1
theorem pi_step {X : Cx} {tg a b c : Expr} {ta : TA} {p pos : Pos} (hg : Gl X "range") (hm : X.mg "range" = none) (ha : PA X [a, b, c] ta)
    (hs : starEach [a, b, c] X.env = (false, eval a X.env) :: starEach [b, c] X.env := by rfl) (hp : (backTo pos (starEach [b, c] X.env)).any (·.1) = false := by rfl) :
    PI X tg (.Call (.Name "range" p) [a, b, c] [] pos) (iStep ta) := by
  constructor
  intro pins s σ H R I h
  refine Call_ (ld_blt I hg hm boot_range (PyProof.Rows.callWith_type1 (thn (ha.run pos pins s σ H _ I h) ?_) hs hp))
  rintro us s1 ⟨vs, H1, I1, r1, st, k, rfl, c0, c1, c2, q⟩
  obtain ⟨u0, u1, u2, rfl, r0, ra, rb⟩ : ∃ u0 u1 u2, us = [u0, u1, u2] ∧ RelV (.int 0) u0 ∧ RelV (.int ((k * st : Nat) : Int)) u1 ∧ RelV (.int (st : Int)) u2 := by
    cases r1 with
    | cons x0 t0 =>
      cases t0 with
      | cons x1 t1 =>
        cases t1 with
        | cons x2 t2 =>
          cases t2
          exact ⟨_, _, _, rfl, x0, x1, x2⟩
  obtain ⟨t0, rfl⟩ := r0
  obtain ⟨t1, rfl⟩ := ra
  obtain ⟨t2, rfl⟩ := rb
  have big : ((st : Int)).natAbs.log2 < 9000 := by
    have e : ((st : Int)).natAbs = st := by omega
    rw [e]
    by_cases z : st = 0
    · omega
    · have := (Nat.log2_lt z (k := 33)).mpr (by omega)
      omega
  refine call_range_3 (by omega) (wpAny_pyIter_range (IsRange.new ..) (turns_small c0 c1 c2) ?_) (.inl (PyProof.noPylong_of_log2 big))
  have J := I1.kept (t' := s1.toks) (h' := s1.heap.push { cls := .type "range", data := .fields #[.int 0 t0, .int ((k * st : Nat) : Int) t1, .int (st : Int) t2] }) fun b o e => Heap.get?_push_of_some _ e
  refine pi_one (tk := s1.toks) J _ (turn_rangeC _ 0 (st : Int) k) ?_ q
  have z0 : (0 : Int) + ((0 : Nat) : Int) * (st : Int) = 0 := by simp
  have z1 : (k : Int) - ((0 : Nat) : Int) = Builtin.Range.rangeSize 0 ((k * st : Nat) : Int) (st : Int) := by
    rw [whole_turns c0]
    simp
  show IsRangeIter _ _ ((0 : Int) + ((0 : Nat) : Int) * (st : Int)) ((k : Int) - ((0 : Nat) : Int)) (st : Int)
  rw [z0, z1]
  exact (Heap.get?_push_size _ rfl)
/-! words_of -/
def pairRow (p : Nat × Nat) : List Nat := [p.1, p.2]
def spWords (K : PySem.W.Frag) : Sp := fun vs H Q _ => ∃ (o kn a : Addr) (kvs : List (Key × V)) (x : Uw57.Box) (ks ls : List Nat), vs = [.ref o, .ref kn, .ref a] ∧ H o = some (.dK kvs) ∧ Oth kvs x ∧ H kn = some (.lst (nvs ks)) ∧ SqL K H a (nvs ls) ∧ ls.length ≤ 1000 ∧ ls.length % 2 = 0 ∧
  (∀ l ∈ ls, x.one_ l ∈ ks) ∧ newTups ((wordsM ks ((Uw57.split 2 ls).map fun w => w.map x.one_)).map pairRow) H Q
/-- the first place of a number in a list -/
theorem idx_at {ks : List Nat} {n : Nat} (h : n ∈ ks) : (nvs ks)[ks.idxOf n]? = some (nv n) ∧ ∀ (m : Nat) (z : V), m < ks.idxOf n → (nvs ks)[m]? = some z → eqV z (nv n) = false := by
  have hl := List.idxOf_lt_length_of_mem h
  refine ⟨nvs_get (by rw [List.getElem?_eq_getElem hl, List.getElem_idxOf]), fun m z hm hz => ?_⟩
  obtain ⟨k, hk, rfl⟩ := nvs_at hz
  rw [eqV_nv, beq_eq_false_iff_ne]
  rintro rfl
  have := List.not_of_lt_findIdx (p := fun a => a == k) (xs := ks) (i := m) hm
  rw [List.getElem?_eq_some_iff] at hk
  obtain ⟨_, hk⟩ := hk
  simp [hk] at this
section
variable {P : Program} {w : World} {K : PySem.W.Frag} {mg : Str → Option Value} {base : Heap} {C : Addr}
theorem sc9 : FnScope ["others", "known", "letters", "found", "at", "one", "other"] ["others", "known", "letters"] (defScope (top 9)) := ⟨rfl, rfl, rfl, by decide +kernel, rfl, by decide +kernel, by decide +kernel⟩
theorem ok_words (D : DefAt K mg "words_of" "words_of" (top 9) ["others", "known", "letters"]) (mR : mg "range" = none) (mL : mg "len" = none) (mX : mg "max" = none) (mM : mg "min" = none) (C1 : Cal P w K mg base CX0 1 "lower_one" ["others", "letter"] spLower) :
    Cal P w K mg base CX0 2 "words_of" ["others", "known", "letters"] (spWords K) := by
  refine D.ok sc9 (fun vs H Q E h => ?_) (fun f cdv A outer s H vs Q E hr h => ?_)
  · obtain ⟨o, kn, a, kvs, x, ks, ls, rfl, _⟩ := h
    rfl
  obtain ⟨o, kn, a, kvs, x, ks, ls, rfl, ho, oth, hkn, hS, hls, he, hin, q⟩ := h
  refine ⟨_, pss_cons (ps_set (i := 3) sc9.nd rfl (Or.inl rfl) (pe_lst pa_nil))
    (pss_cons (ps_for PassesOwn.never rfl (pi_step rfl mR (pa_cons pe_int (pa_cons (pe_callB call_len_seq (by rfl) mL PySem.boot_len (pa_cons (pv 2) pa_nil)) (pa_cons pe_int pa_nil)))) (pg_name (i := 4) sc9.nd rfl (Or.inl rfl))
      (pss_cons (ps_set (i := 5) sc9.nd rfl (Or.inl rfl) (pe_bm PySem.F.plainAttrs_list PySem.F.slot_list_index PySem.F.type_list_index mt_index (pv 1) (pa_cons (pe_cal C1 hr pass0 (pa_cons (pv 0) (pa_cons (pe_ix ix_list (pv 2) (pv 4) (fun _ _ => rfl)) pa_nil))) pa_nil)))
      (pss_cons (ps_set (i := 6) sc9.nd rfl (Or.inl rfl) (pe_bm PySem.F.plainAttrs_list PySem.F.slot_list_index PySem.F.type_list_index mt_index (pv 1) (pa_cons (pe_cal C1 hr pass0 (pa_cons (pv 0) (pa_cons (pe_ix ix_list (pv 2) (pe_op op_add (pv 4) pe_int) (fun _ _ => rfl)) pa_nil))) pa_nil)))
      (pss_one (ps_expr (pe_bm PySem.F.plainAttrs_list PySem.F.slot_list_append PySem.F.type_list_append mt_append (pv 3) (pa_cons (pe_tup (pa_cons (pe_callB (call_max2 rfl) (by rfl) mX (by decide +kernel) (pa_cons (pv 5) (pa_cons (pv 6) pa_nil)))
        (pa_cons (pe_callB (call_min2 rfl) (by rfl) mM (by decide +kernel) (pa_cons (pv 5) (pa_cons (pv 6) pa_nil))) pa_nil))) pa_nil)))))))
    (pss_one (ps_ret (pv 3)))), ?_⟩
  obtain ⟨n, hn⟩ : ∃ n, ls.length = n * 2 := ⟨ls.length / 2, by omega⟩
  refine ⟨size_le (by decide), fun fd hfd => ?_⟩
  refine ⟨_, rfl, a, _, rfl, .inl ((same_new hfd _).seq hS), 2, n, ?_, by decide, by omega, by decide, ?_⟩
  · rw [nvs_len, hn]
    rfl
  have hWl : (wordsM ks ((Uw57.split 2 ls).map fun w => w.map x.one_)).length = n := by
    unfold wordsM
    rw [List.length_map, List.length_map]
    exact split_len (by decide) hn
  refine for_rangeC (lo := 0) (c := ((2 : Nat) : Int)) (n := n) (fun i σ H' => ∃ (v4 v5 v6 : Option V) (rs : List V), σ = [some (.ref o), some (.ref kn), some (.ref a), some (.ref fd), v4, v5, v6] ∧ Same H (del H' fd) ∧ H' fd = some (.lst rs) ∧
    Deep .tup (del H' fd) rs (((wordsM ks ((Uw57.split 2 ls).map fun w => w.map x.one_)).take i).map pairRow)) ⟨none, none, none, [], rfl, ?_, upd_same, Deep.nil⟩ ?_ ?_
  · rw [del_upd]
    exact same_del_of (Same.refl _) hfd
  · rintro i σ H1 hi ⟨v4, v5, v6, rs, rfl, s1, hf1, dW⟩
    have s01 : Same H H1 := s1.trans (del_same _ _)
    have h0 : i * 2 < ls.length := by omega
    have h1 : i * 2 + 1 < ls.length := by omega
    have g0 := List.getElem?_eq_getElem h0
    have g1 := List.getElem?_eq_getElem h1
    have m0 := hin _ (List.getElem_mem h0)
    have m1 := hin _ (List.getElem_mem h1)
    obtain ⟨i0, j0⟩ := idx_at m0
    obtain ⟨i1, j1⟩ := idx_at m1
    have eW : (wordsM ks ((Uw57.split 2 ls).map fun w => w.map x.one_))[i]? = some (max (ks.idxOf (x.one_ ls[i * 2])) (ks.idxOf (x.one_ ls[i * 2 + 1])), min (ks.idxOf (x.one_ ls[i * 2])) (ks.idxOf (x.one_ ls[i * 2 + 1]))) := by
      unfold wordsM
      rw [List.getElem?_map, List.getElem?_map, split_get (by decide) h0]
      have : (ls.drop (i * 2)).take 2 = [ls[i * 2], ls[i * 2 + 1]] := by
        rw [List.drop_eq_getElem_cons h0, List.drop_eq_getElem_cons h1]
        rfl
      rw [this]
      rfl
    have ix0 : atI (nvs ls) ((0 : Int) + (i : Nat) * ((2 : Nat) : Int)) = some (nv ls[i * 2]) := at_of (j := i * 2) (by omega) (nvs_get g0)
    have ix1 : atI (nvs ls) ((0 : Int) + (i : Nat) * ((2 : Nat) : Int) + 1) = some (nv ls[i * 2 + 1]) := at_of (j := i * 2 + 1) (by omega) (nvs_get g1)
    have hkn1 := s01 _ _ hkn
    refine ⟨_, rfl, .inl ⟨rfl, _, SqL.of hkn1⟩, _, rfl, _, rfl, _, rfl, a, _, _, _, rfl, rfl, s01.seq hS, ix0, o, kvs, x, _, rfl, s01 _ _ ho, oth, ?_⟩
    refine ⟨kn, _, _, _, _, rfl, rfl, SqL.of hkn1, rfl, nvs_flat _, i0, by rw [eqV_nv]; simp, j0, ?_⟩
    refine ⟨_, rfl, .inl ⟨rfl, _, SqL.of hkn1⟩, _, rfl, _, rfl, _, rfl, _, _, rfl, rfl, a, _, _, _, rfl, rfl, s01.seq hS, ix1, o, kvs, x, _, rfl, s01 _ _ ho, oth, ?_⟩
    refine ⟨kn, _, _, _, _, rfl, rfl, SqL.of hkn1, rfl, nvs_flat _, i1, by rw [eqV_nv]; simp, j1, ?_⟩
    refine ⟨_, rfl, .inl ⟨rfl, _, SqL.of hf1⟩, _, rfl, _, rfl, _, _, rfl, _, rfl, _, rfl, _, _, rfl, size_le (show 2 ≤ 16777216 by decide), fun t ht => ?_⟩
    have s2 : ∀ u : HO, Same H1 (upd H1 t u) := fun u => same_new ht u
    refine ⟨fd, rs, _, rfl, rfl, s2 _ _ _ hf1, size_lt ?_, ?_⟩
    · have := dW.1
      rw [List.length_map, List.length_take, hWl] at this
      omega
    refine ⟨_, _, _, _, rfl, ?_, upd_same, ?_⟩
    · rw [del_upd]
      exact s1.trans (same_del (s2 _) fd)
    · rw [del_upd, take_more eW, List.map_append]
      refine (dW.same (same_del (s2 _) fd)).app (Deep.one ?_)
      rw [del_ne (ne_of_none hf1 ht).symm, upd_same, max_nv, min_nv]
      rfl
  · rintro σ H1 ⟨v4, v5, v6, rs, rfl, s1, hf1, dW⟩
    rw [List.take_of_length_le (by omega)] at dW
    exact ⟨_, rfl, q H1 fd rs (s1.trans (del_same _ _)) hf1 (dW.same (del_same _ _))⟩
end
end Lc
set_option Elab.async false
set_option linter.all false
set_option maxRecDepth 100000
set_option maxHeartbeats 2000000
namespace Lc
open PySem L2 PySem.Spec PyProof.Rows
/-! A class with its __init__ -/
structure ClsAt (K : PySem.W.Frag) (mg : Str → Option Value) (x qual : Str) (st : Stmt) (ps : List Str) (C : Addr) : Prop where
  ex : ∃ f fd, Fun K "__init__" qual st f fd ∧ Binds K fd ps [] ∧ Mk K C f
  mg : mg x = some (.ref C)
def Mak (P : Program) (w : World) (K : PySem.W.Frag) (mg : Str → Option Value) (base : Heap) (k : Nat) (x : Str) (ps : List Str) (C : Addr) (sp : Sp) : Prop :=
  ∃ f fd, FnOk P w K mg base CX0 k f fd ps sp ∧ Binds K fd ps [] ∧ mg x = some (.ref C) ∧ Mk K C f
theorem pe_mak {X : Cx} {k : Nat} {ps : List Str} {sp : Sp} {C : Addr} {x : Str} {p pos : Pos} {e : Expr} {es : List Expr} {t : TA} (M : Mak X.prog X.w X.K X.mg X.base k x ps C sp) (hr : Room (k + 1) X.A) (ha : PA X (e :: es) t)
    (hg : Gl X x := by rfl) (hdb : (x == ("__debug__" : Str)) = false := by decide) (he : starEach (e :: es) X.env = (false, eval e X.env) :: starEach es X.env := by rfl) (hpl : (backTo pos (starEach es X.env)).any (·.1) = false := by rfl) :
    PE X (.Call (.Name x p) (e :: es) [] pos) (tMake C sp [] E0 t) := by
  obtain ⟨f, fd, F, b, hm, mk⟩ := M
  exact pe_make mk F hr hg hm b .nil pass0 ha hdb he hpl
theorem pe_mak0 {X : Cx} {k : Nat} {ps : List Str} {sp : Sp} {C : Addr} {x : Str} {p pos : Pos} (M : Mak X.prog X.w X.K X.mg X.base k x ps C sp) (hr : Room (k + 1) X.A) (hg : Gl X x := by rfl) (hdb : (x == ("__debug__" : Str)) = false := by decide) :
    PE X (.Call (.Name x p) [] [] pos) (tMake C sp [] E0 tNil) := by
  obtain ⟨f, fd, F, b, hm, mk⟩ := M
  exact pe_make0 mk F hr hg hm b .nil pass0 hdb
theorem ClsAt.ok {P : Program} {w : World} {K : PySem.W.Frag} {mg : Str → Option Value} {base : Heap} {x qual : Str} {st : Stmt} {N ps : List Str} {k : Nat} {sp : Sp} {C : Addr} (D : ClsAt K mg x qual st ps C) (S : FnScope N ps (defScope st))
    (hlen : ∀ vs H Q E, sp vs H Q E → vs.length = ps.length)
    (hbody : ∀ (f : Addr) (cdv : Value) (A : Around) (outer : List Env) (s : Shared) (H : Hp) (vs : List V) (Q : VK) (E : XK), Room k (A.deeper (envOfC qual (defScope st) s.heap.objs.size f cdv)) → sp vs H Q E →
      ∃ t, PSs (cxOf CX0 P w K mg base N qual (defScope st) f cdv A outer s H E).nox (defBody st) t ∧ t { nx := fun _ H' => Q .non H', rt := Q } (start N vs) H) : Mak P w K mg base (k + 1) x ps C sp := by
  obtain ⟨f, fd, F, b, mk⟩ := D.ex
  exact ⟨f, fd, F.ok S hlen (hbody f), b, D.mg, mk⟩
/-! Lettering: the object -/
theorem ne_letters_words : ¬ (("letters" : Str) = "words") := by decide +kernel
theorem ne_letters_where : ¬ (("letters" : Str) = "where") := by decide +kernel
theorem ne_letters_best : ¬ (("letters" : Str) = "best") := by decide +kernel
theorem ne_letters_size : ¬ (("letters" : Str) = "size") := by decide +kernel
theorem ne_words_letters : ¬ (("words" : Str) = "letters") := by decide +kernel
theorem ne_words_where : ¬ (("words" : Str) = "where") := by decide +kernel
theorem ne_words_best : ¬ (("words" : Str) = "best") := by decide +kernel
theorem ne_words_size : ¬ (("words" : Str) = "size") := by decide +kernel
theorem ne_where_letters : ¬ (("where" : Str) = "letters") := by decide +kernel
theorem ne_where_words : ¬ (("where" : Str) = "words") := by decide +kernel
theorem ne_where_best : ¬ (("where" : Str) = "best") := by decide +kernel
theorem ne_where_size : ¬ (("where" : Str) = "size") := by decide +kernel
theorem ne_best_letters : ¬ (("best" : Str) = "letters") := by decide +kernel
theorem ne_best_words : ¬ (("best" : Str) = "words") := by decide +kernel
theorem ne_best_where : ¬ (("best" : Str) = "where") := by decide +kernel
theorem ne_best_size : ¬ (("best" : Str) = "size") := by decide +kernel
theorem ne_size_letters : ¬ (("size" : Str) = "letters") := by decide +kernel
theorem ne_size_words : ¬ (("size" : Str) = "words") := by decide +kernel
theorem ne_size_where : ¬ (("size" : Str) = "where") := by decide +kernel
theorem ne_size_best : ¬ (("size" : Str) = "best") := by decide +kernel
def lf (la wa ha : Addr) (bv sv : V) : List (Str × V) := putF "size" sv (putF "best" bv (putF "where" (.ref ha) (putF "words" (.ref wa) (putF "letters" (.ref la) []))))
theorem lf_letters (la wa ha : Addr) (bv sv : V) : (lf la wa ha bv sv).lookup ("letters" : Str) = some (.ref la) := by
  unfold lf
  rw [lookup_putF, if_neg ne_letters_size, lookup_putF, if_neg ne_letters_best, lookup_putF, if_neg ne_letters_where, lookup_putF, if_neg ne_letters_words, lookup_putF, if_pos rfl]
theorem lf_words (la wa ha : Addr) (bv sv : V) : (lf la wa ha bv sv).lookup ("words" : Str) = some (.ref wa) := by
  unfold lf
  rw [lookup_putF, if_neg ne_words_size, lookup_putF, if_neg ne_words_best, lookup_putF, if_neg ne_words_where, lookup_putF, if_pos rfl]
theorem lf_where (la wa ha : Addr) (bv sv : V) : (lf la wa ha bv sv).lookup ("where" : Str) = some (.ref ha) := by
  unfold lf
  rw [lookup_putF, if_neg ne_where_size, lookup_putF, if_neg ne_where_best, lookup_putF, if_pos rfl]
theorem lf_best (la wa ha : Addr) (bv sv : V) : (lf la wa ha bv sv).lookup ("best" : Str) = some (bv) := by
  unfold lf
  rw [lookup_putF, if_neg ne_best_size, lookup_putF, if_pos rfl]
theorem lf_size (la wa ha : Addr) (bv sv : V) : (lf la wa ha bv sv).lookup ("size" : Str) = some (sv) := by
  unfold lf
  rw [lookup_putF, if_pos rfl]
theorem lf_eq (la wa ha : Addr) (bv sv : V) : lf la wa ha bv sv = ([("letters", .ref la), ("words", .ref wa), ("where", .ref ha), ("best", bv), ("size", sv)] : List (Str × V)) := by
  unfold lf
  simp only [putF, ne_letters_words, ne_letters_where, ne_letters_best, ne_letters_size, ne_words_letters, ne_words_where, ne_words_best, ne_words_size, ne_where_letters, ne_where_words, ne_where_best, ne_where_size, ne_best_letters, ne_best_words, ne_best_where, ne_best_size, ne_size_letters, ne_size_words, ne_size_where, ne_size_best, if_false]
theorem lf_set_best (la wa ha : Addr) (bv sv v : V) : putF "best" v (lf la wa ha bv sv) = lf la wa ha v sv := by
  rw [lf_eq, lf_eq]
  simp only [putF, ne_letters_words, ne_letters_where, ne_letters_best, ne_letters_size, ne_words_letters, ne_words_where, ne_words_best, ne_words_size, ne_where_letters, ne_where_words, ne_where_best, ne_where_size, ne_best_letters, ne_best_words, ne_best_where, ne_best_size, ne_size_letters, ne_size_words, ne_size_where, ne_size_best, if_false, if_true]
theorem lf_set_size (la wa ha : Addr) (bv sv v : V) : putF "size" v (lf la wa ha bv sv) = lf la wa ha bv v := by
  rw [lf_eq, lf_eq]
  simp only [putF, ne_letters_words, ne_letters_where, ne_letters_best, ne_letters_size, ne_words_letters, ne_words_where, ne_words_best, ne_words_size, ne_where_letters, ne_where_words, ne_where_best, ne_where_size, ne_best_letters, ne_best_words, ne_best_where, ne_best_size, ne_size_letters, ne_size_words, ne_size_where, ne_size_best, if_false, if_true]
theorem lf_len (la wa ha : Addr) (bv sv : V) : (lf la wa ha bv sv).length = 5 := by rw [lf_eq]; rfl
/-- the class Lettering as the module has it -/
structure LetT (K : PySem.W.Frag) (C : Addr) : Prop where
  cl : Cls K C
  nL : NoAttr K C "letters"
  nW : NoAttr K C "words"
  nH : NoAttr K C "where"
  nB : NoAttr K C "best"
  nS : NoAttr K C "size"
/-- the best lettering so far and its size -/
def BestR (H : Hp) (bv sv : V) : Option (List Nat) → Prop
  | none => bv = .non
  | some b => (∃ bp, bv = .ref bp ∧ H bp = some (.lst (nvs b))) ∧ sv = nv (sizeM b)
theorem BestR.same {H H' : Hp} {bv sv : V} {b : Option (List Nat)} (h : BestR H bv sv b) (e : Same H H') : BestR H' bv sv b := by
  cases b with
  | none => exact h
  | some b =>
    obtain ⟨⟨bp, h1, h2⟩, h3⟩ := h
    exact ⟨⟨bp, h1, e _ _ h2⟩, h3⟩
/-- words by places: the later one first, all within n -/
def Within2 (W : List (Nat × Nat)) (n : Nat) : Prop := ∀ p ∈ W, p.2 ≤ p.1 ∧ p.1 < n
/-- where a lettering's parts stand -/
structure LetA where
  L : Addr
  ha : Addr
  dx : Addr
  la : Addr
  wa : Addr
  ws : List V
/-- a lettering in the making: G, what stands still; its letters and words stand in G -/
structure LetS (C : Addr) (A : LetA) (G H : Hp) (ks : List Nat) (W : List (Nat × Nat)) (wh : List Nat) (best : Option (List Nat)) : Prop where
  same : Same G H
  gL : G A.L = none
  gh : G A.ha = none
  gl : G A.la = some (.lst (nvs ks))
  gw : G A.wa = some (.lst A.ws)
  gd : Deep .tup G A.ws (W.map pairRow)
  ob : ∃ (bv sv : V), H A.L = some (.ins C A.dx (lf A.la A.wa A.ha bv sv)) ∧ BestR (del H A.ha) bv sv best
  wa : H A.ha = some (.lst (nvs wh))
section
variable {C : Addr} {A : LetA} {G H H' : Hp} {ks : List Nat} {W : List (Nat × Nat)} {wh : List Nat} {best best' : Option (List Nat)}
/-- the same after what leaves all as it was -/
theorem LetS.go (S : LetS C A G H ks W wh best) (e : Same H H') : LetS C A G H' ks W wh best := by
  obtain ⟨bv, sv, h1, h5⟩ := S.ob
  exact ⟨S.same.trans e, S.gL, S.gh, S.gl, S.gw, S.gd, ⟨bv, sv, e _ _ h1, h5.same (same_del e A.ha)⟩, e _ _ S.wa⟩
theorem LetS.ne (S : LetS C A G H ks W wh best) : A.L ≠ A.ha := by
  obtain ⟨bv, sv, h1, _⟩ := S.ob
  exact ne_of h1 S.wa (by intro z; cases z)
/-- where is stored anew -/
theorem LetS.put (S : LetS C A G H ks W wh best) (wh' : List Nat) : LetS C A G (upd H A.ha (.lst (nvs wh'))) ks W wh' best := by
  obtain ⟨bv, sv, h1, h5⟩ := S.ob
  refine ⟨same_upd S.same S.gh _, S.gL, S.gh, S.gl, S.gw, S.gd, ⟨bv, sv, ?_, ?_⟩, upd_same⟩
  · rw [upd_ne S.ne]
    exact h1
  · rw [del_upd]
    exact h5
/-- a thing more that stands still -/
theorem LetS.more (S : LetS C A G H ks W wh best) {t : Addr} (ht : H t = none) (o : HO) : LetS C A (upd G t o) (upd H t o) ks W wh best := by
  have hg : G t = none := S.same.free ht
  have e : Same G (upd G t o) := same_new hg o
  obtain ⟨bv, sv, h1, h5⟩ := S.ob
  have s := same_new ht o
  refine ⟨fun b u q => ?_, ?_, ?_, e _ _ S.gl, e _ _ S.gw, S.gd.same e, ⟨bv, sv, s _ _ h1, h5.same (same_del s A.ha)⟩, s _ _ S.wa⟩
  · by_cases hb : b = t
    · rw [hb, upd_same] at q ⊢
      exact q
    · rw [upd_ne hb] at q ⊢
      exact S.same b u q
  · rw [upd_ne (ne_of_none h1 ht)]
    exact S.gL
  · rw [upd_ne (ne_of_none S.wa ht)]
    exact S.gh
/-- .. and no more -/
theorem LetS.less {G' : Hp} {wh' : List Nat} (S : LetS C A G H ks W wh best) (e : Same G G') (S' : LetS C A G' H' ks W wh' best') : LetS C A G H' ks W wh' best' :=
  ⟨e.trans S'.same, S.gL, S.gh, S.gl, S.gw, S.gd, S'.ob, S'.wa⟩
end
def lessM (n : Nat) (wh : List Nat) : Option (List Nat) → Bool
  | none => true
  | some b => decide (sizeM wh + (n - wh.length) < sizeM b)
theorem right_eq {W : List (Nat × Nat)} {n : Nat} {wh : List Nat} {best : Option (List Nat)} (c1 : countM 1 wh ≤ 6) (c2 : countM 2 wh ≤ 6) : rightM W n wh best = (lastOk W wh && lessM n wh best) := by
  cases best with
  | none =>
    unfold rightM lessM
    simp only [decide_eq_true c1, decide_eq_true c2, Bool.and_self, Bool.true_and]
  | some b =>
    unfold rightM lessM
    simp only [decide_eq_true c1, decide_eq_true c2, Bool.and_self, Bool.true_and]
def spRight (C : Addr) : Sp := fun vs H Q _ => ∃ (G : Hp) (A : LetA) (ks wh : List Nat) (W : List (Nat × Nat)) (best : Option (List Nat)), vs = [.ref A.L] ∧ LetS C A G H ks W wh best ∧ Within2 W ks.length ∧ ks.length ≤ 10 ∧ wh.length ≤ ks.length ∧
  ∀ H', Same H H' → Q (.bl (rightM W ks.length wh best)) H'
section
variable {P : Program} {w : World} {K : PySem.W.Frag} {mg : Str → Option Value} {base : Heap} {C : Addr}
theorem sc15 : FnScope ["lettering", "where", "last", "later", "earlier", "left"] ["lettering"] (defScope (top 15)) := ⟨rfl, rfl, rfl, by decide +kernel, rfl, by decide +kernel, by decide +kernel⟩
theorem ok_right (D : DefAt K mg "is_right_so_far" "is_right_so_far" (top 15) ["lettering"]) (T : LetT K C) (mL : mg "len" = none) (nF : Num mg "FACES_letterings" 6) (n1 : Num mg "FIRST" 1) (n2 : Num mg "SECOND" 2)
    (C1 : Cal P w K mg base CX0 2 "count_on" ["where", "cube"] spCountOn) (C2 : Cal P w K mg base CX0 3 "size_of" ["where"] spSizeOf) (C3 : Cal P w K mg base CX0 2 "is_spelled_letterings" ["one", "other"] spSpelledL) :
    Cal P w K mg base CX0 4 "is_right_so_far" ["lettering"] (spRight C) := by
  refine D.ok sc15 (fun vs H Q E h => ?_) (fun f cdv A outer s H vs Q E hr h => ?_)
  · obtain ⟨G, B, ks, wh, W, best, rfl, _⟩ := h
    rfl
  obtain ⟨G, ⟨L, ha, dx, la, wa, ws⟩, ks, wh, W, best, rfl, S, hW, hk, hwl, q⟩ := h
  have hr2 : Room 2 _ := hr.mono (by decide)
  refine ⟨_, pss_cons (ps_set (i := 1) sc15.nd rfl (Or.inl rfl) (pe_fld (pv 0) rfl))
    (pss_cons (ps_if (PW.pt (pw_or (pt_cmpR op_gt (pe_cal C1 hr2 pass0 (pa_cons (pv 1) (pa_cons (pe_num n1) pa_nil))) (pe_num nF) (nomark _)) (pw_or1 (pt_cmpR op_gt (pe_cal C1 hr2 pass0 (pa_cons (pv 1) (pa_cons (pe_num n2) pa_nil))) (pe_num nF) (nomark _)))))
      (pss_one (ps_ret pe_bl)) pss_nil)
    (pss_cons (ps_set (i := 2) sc15.nd rfl (Or.inl rfl) (pe_op op_sub (pe_callB call_len_seq (by rfl) mL PySem.boot_len (pa_cons (pv 1) pa_nil)) pe_int))
    (pss_cons (ps_for PassesOwn.never rfl (pi_list (pe_fld (pv 0) rfl)) (pg_tup rfl (pgs_cons (pg_name (i := 3) sc15.nd rfl (Or.inl rfl)) (pgs_cons (pg_name (i := 4) sc15.nd rfl (Or.inl rfl)) pgs_nil)))
      (pss_one (ps_if (PW.pt (pw_and (pt_cmpR op_eq (pv 3) (pv 2) (nomark _)) (pw_and1 (pt_not (pt_val (pe_cal C3 hr2 pass0 (pa_cons (pe_ix ix_list (pv 1) (pv 3) (fun _ _ => rfl)) (pa_cons (pe_ix ix_list (pv 1) (pv 4) (fun _ _ => rfl)) pa_nil)))))))) (pss_one (ps_ret pe_bl)) pss_nil)))
    (pss_cons (ps_set (i := 5) sc15.nd rfl (Or.inl rfl) (pe_op op_sub (pe_callB call_len_seq (by rfl) mL PySem.boot_len (pa_cons (pe_fld (pv 0) rfl) pa_nil)) (pe_callB call_len_seq (by rfl) mL PySem.boot_len (pa_cons (pv 1) pa_nil))))
    (pss_one (ps_ret (pe_or (pe_cmpR op_isN (pe_fld (pv 0) rfl) pe_non (nomark _)) (pe_one (pe_cmpR op_lt (pe_op op_add (pe_cal C2 hr pass0 (pa_cons (pv 1) pa_nil)) (pv 5)) (pe_fld (pv 0) rfl) (nomark _)))))))))), ?_⟩
  obtain ⟨bv, sv, h1, h5⟩ := S.ob
  have h2 := S.gl
  have h3 := S.gw
  have h4 := S.gd
  dsimp only at h1 h2 h3 h4 h5
  have hl1 : wh.length ≤ 1000 := by omega
  refine ⟨_, rfl, L, C, dx, _, _, rfl, h1, T.cl, T.nH, lf_where _ _ _ _ _, ?_⟩
  refine ⟨_, rfl, ha, wh, 1, rfl, S.wa, hl1, fun H1 s1 => ?_⟩
  refine ⟨_, _, rfl, rfl, _, rfl, ?_⟩
  have no1 : ¬ countM 1 wh ≤ 6 → rightM W ks.length wh best = false := fun e => by
    unfold rightM
    rw [decide_eq_false e]
    rfl
  have no2 : ¬ countM 2 wh ≤ 6 → rightM W ks.length wh best = false := fun e => by
    unfold rightM
    rw [decide_eq_false e, Bool.and_false]
    rfl
  refine ite2 (fun e => ?_) (fun e => ?_)
  · refine iteT ?_
    have e' := of_decide_eq_true e
    have := q H1 s1
    rw [no1 (by omega)] at this
    exact this
  have c1 : countM 1 wh ≤ 6 := by
    have : ¬ _ := fun z => e (decide_eq_true z)
    omega
  refine ⟨_, rfl, ha, wh, 2, rfl, s1 _ _ S.wa, hl1, fun H2 s2 => ?_⟩
  refine ⟨_, _, rfl, rfl, _, rfl, ?_⟩
  refine ite2 (fun e => ?_) (fun e => ?_)
  · have e' := of_decide_eq_true e
    have := q H2 (s1.trans s2)
    rw [no2 (by omega)] at this
    exact this
  have c2 : countM 2 wh ≤ 6 := by
    have : ¬ _ := fun z => e (decide_eq_true z)
    omega
  have s12 : Same H H2 := s1.trans s2
  have eR := right_eq (W := W) (n := ks.length) (best := best) c1 c2
  rw [eR] at q
  refine ⟨_, rfl, ha, _, rfl, .inl (SqL.of (s12 _ _ S.wa)), _, _, rfl, rfl, ?_⟩
  refine ⟨_, rfl, L, C, dx, _, _, rfl, s12 _ _ h1, T.cl, T.nW, lf_words _ _ _ _ _, wa, rfl, ⟨_, SqL.of (s12 _ _ (S.same _ _ h3))⟩, ?_⟩
  have d2 := h4.same (S.same.trans s12)
  refine for_list (K := K) (a := wa) (xs := ws) (fun i σ H' => ∃ (v3 v4 : Option V), σ = [some (.ref L), some (.ref ha), some (.int ((((nvs wh).length : Nat) : Int) - 1)), v3, v4, none] ∧ Same H2 H' ∧
    ((W.take i).all fun p => !(p.1 + 1 == wh.length) || spelledM (wh.getD p.1 0) (wh.getD p.2 0)) = true) ⟨none, none, rfl, Same.refl _, rfl⟩ (fun i σ H' _ ⟨_, _, _, s, _⟩ => SqL.of (s _ _ (s12 _ _ (S.same _ _ h3)))) ?_ ?_
  · rintro i y σ H3 hi ⟨v3, v4, rfl, s3, ok⟩
    obtain ⟨row, tp, hw, rfl, htp⟩ := d2.get hi
    rw [List.getElem?_map] at hw
    obtain ⟨p, hp, rfl⟩ : ∃ p, W[i]? = some p ∧ row = pairRow p := by
      cases e : W[i]? with
      | none => rw [e] at hw; cases hw
      | some p => rw [e] at hw; exact ⟨p, rfl, (Option.some.inj hw).symm⟩
    have hpm := List.mem_of_getElem? hp
    have hp2 := hW p hpm
    refine ⟨tp, _, rfl, SqT.of (s3 _ _ htp), rfl, _, _, rfl, _, _, rfl, rfl, ?_⟩
    refine ⟨_, rfl, _, rfl, rfl, _, rfl, ?_⟩
    have step : (W.take (i + 1)).all (fun p => !(p.1 + 1 == wh.length) || spelledM (wh.getD p.1 0) (wh.getD p.2 0)) = (!(p.1 + 1 == wh.length) || spelledM (wh.getD p.1 0) (wh.getD p.2 0)) := by
      rw [take_more hp, List.all_append, ok]
      simp
    refine ite2 (fun e => ?_) (fun e => ?_)
    · have e' : p.1 + 1 = wh.length := by
        have z := of_decide_eq_true e
        rw [nvs_len] at z
        have : ((p.1 : Nat) : Int) = ((wh.length : Nat) : Int) - 1 := by injection z
        omega
      have l1 : p.1 < wh.length := by omega
      have l2 : p.2 < wh.length := by omega
      have g1 : wh.getD p.1 0 = wh[p.1] := by simp [List.getD, l1]
      have g2 : wh.getD p.2 0 = wh[p.2] := by simp [List.getD, l2]
      refine ⟨_, rfl, _, rfl, ha, _, _, _, rfl, rfl, SqL.of (s3 _ _ (s12 _ _ S.wa)), atI_nat (nvs_get (List.getElem?_eq_getElem l1)), _, rfl, _, rfl, ha, _, _, _, rfl, rfl, SqL.of (s3 _ _ (s12 _ _ S.wa)), atI_nat (nvs_get (List.getElem?_eq_getElem l2)), ?_⟩
      refine ⟨_, _, rfl, fun H4 s4 => ⟨_, rfl, ?_⟩⟩
      rw [g1, g2] at step
      refine ite2 (fun e2 => ?_) (fun e2 => ?_)
      · have e2' : spelledM wh[p.1] wh[p.2] = false := by simpa using e2
        have no : lastOk W wh = false := by
          unfold lastOk
          rw [List.all_eq_false]
          refine ⟨p, hpm, ?_⟩
          rw [g1, g2, e2', e']
          simp
        have := q H4 (s12.trans (s3.trans s4))
        rw [no, Bool.false_and] at this
        exact this
      · refine ⟨_, _, rfl, s3.trans s4, ?_⟩
        rw [step]
        have e2' : spelledM wh[p.1] wh[p.2] = true := by simpa using e2
        rw [e2', Bool.or_true]
    · refine iteF ?_
      refine ⟨_, _, rfl, s3, ?_⟩
      rw [step]
      have e' : (p.1 + 1 == wh.length) = false := by
        rw [beq_eq_false_iff_ne]
        intro z
        refine e (decide_eq_true ?_)
        rw [nvs_len]
        show V.int ((p.1 : Nat) : Int) = V.int _
        congr 1
        omega
      rw [e']
      rfl
  · rintro σ H3 ⟨v3, v4, rfl, s3, ok⟩
    have hl : ws.length = W.length := by
      have := d2.1
      rw [List.length_map] at this
      exact this
    rw [hl, List.take_length] at ok
    have ok' : lastOk W wh = true := ok
    rw [ok', Bool.true_and] at q
    have s13 := s12.trans s3
    refine ⟨_, rfl, L, C, dx, _, _, rfl, s13 _ _ h1, T.cl, T.nL, lf_letters _ _ _ _ _, la, _, rfl, .inl (SqL.of (s13 _ _ (S.same _ _ h2))), _, rfl, ha, _, rfl, .inl (SqL.of (s13 _ _ S.wa)), _, _, rfl, rfl, ?_⟩
    refine ⟨_, rfl, L, C, dx, _, _, rfl, s13 _ _ h1, T.cl, T.nB, lf_best _ _ _ _ _, rfl, _, rfl, ?_⟩
    cases best with
    | none =>
      have e : bv = .non := h5
      refine ite2 (fun _ => q H3 s13) (fun z => absurd (decide_eq_true e) z)
    | some b =>
      obtain ⟨⟨bp, e1, e2⟩, e3⟩ := h5
      refine ite2 (fun z => ?_) (fun z => ?_)
      · have := of_decide_eq_true z
        rw [e1] at this
        cases this
      · refine ⟨_, rfl, ha, wh, rfl, s13 _ _ S.wa, hl1, fun H4 s4 => ?_⟩
        refine ⟨_, rfl, _, _, rfl, rfl, _, rfl, L, C, dx, _, _, rfl, s4 _ _ (s13 _ _ h1), T.cl, T.nS, lf_size _ _ _ _ _, _, _, rfl, e3, ?_⟩
        rw [nvs_len, nvs_len]
        have this : Q (.bl (decide (sizeM wh + (ks.length - wh.length) < sizeM b))) H4 := q H4 (s13.trans s4)
        have ed : decide (((sizeM wh : Nat) : Int) + (((ks.length : Nat) : Int) - ((wh.length : Nat) : Int)) < ((sizeM b : Nat) : Int)) = decide (sizeM wh + (ks.length - wh.length) < sizeM b) := by
          rw [decide_eq_decide]
          omega
        rw [← ed] at this
        exact this
end
end Lc
set_option Elab.async false
set_option linter.all false
set_option maxRecDepth 100000
set_option maxHeartbeats 2000000
namespace Lc
open PySem L2 PySem.Spec PyProof.Rows
/-! search -/
def spS (C : Addr) (n : Nat) : Sp := fun vs H Q _ => ∃ (G : Hp) (A : LetA) (ks wh : List Nat) (W : List (Nat × Nat)) (best : Option (List Nat)) (d : Nat), vs = [.ref A.L] ∧ LetS C A G H ks W wh best ∧ Within2 W ks.length ∧ ks.length ≤ 10 ∧
  wh.length + d = ks.length ∧ d + 1 ≤ n ∧ ∀ H', LetS C A G H' ks W wh (searchM W ks.length d wh best) → Q .non H'
/-- the ways tried so far -/
def triedM (W : List (Nat × Nat)) (n d : Nat) (wh : List Nat) (best : Option (List Nat)) (ks : List Nat) : Option (List Nat) := ks.foldl (fun b k => if rightM W n (wh ++ [k]) b = true then searchM W n d (wh ++ [k]) b else b) best
theorem tried_more {W : List (Nat × Nat)} {n d : Nat} {wh : List Nat} {best : Option (List Nat)} {l : List Nat} {i k : Nat} (h : l[i]? = some k) :
    triedM W n d wh best (l.take (i + 1)) = if rightM W n (wh ++ [k]) (triedM W n d wh best (l.take i)) = true then searchM W n d (wh ++ [k]) (triedM W n d wh best (l.take i)) else triedM W n d wh best (l.take i) := by
  rw [take_more h]
  unfold triedM
  rw [List.foldl_append]
  rfl
section
variable {P : Program} {w : World} {K : PySem.W.Frag} {mg : Str → Option Value} {base : Heap} {C : Addr}
theorem sc16 : FnScope ["lettering", "way"] ["lettering"] (defScope (top 16)) := ⟨rfl, rfl, rfl, by decide +kernel, rfl, by decide +kernel, by decide +kernel⟩
theorem ok_search_step (n : Nat) (D : DefAt K mg "search" "search" (top 16) ["lettering"]) (T : LetT K C) (mL : mg "len" = none) (mI : mg "list" = none) (n1 : Num mg "FIRST" 1) (n2 : Num mg "SECOND" 2) (n3 : Num mg "BOTH" 3)
    (C1 : Cal P w K mg base CX0 4 "is_right_so_far" ["lettering"] (spRight C)) (C2 : Cal P w K mg base CX0 3 "size_of" ["where"] spSizeOf) (C3 : Cal P w K mg base CX0 (n + 4) "search" ["lettering"] (spS C n)) :
    Cal P w K mg base CX0 (n + 1 + 4) "search" ["lettering"] (spS C (n + 1)) := by
  have e5 : n + 1 + 4 = (n + 4) + 1 := by omega
  rw [e5]
  refine D.ok sc16 (fun vs H Q E h => ?_) (fun f cdv A outer s H vs Q E hr h => ?_)
  · obtain ⟨G, B, ks, wh, W, best, d, rfl, _⟩ := h
    rfl
  obtain ⟨G, ⟨L, ha, dx, la, wa, ws⟩, ks, wh, W, best, d, rfl, S, hW, hk, hd, hdn, q⟩ := h
  refine ⟨_, pss_cons (ps_if (pt_cmpR op_eq (pe_callB call_len_seq (by rfl) mL PySem.boot_len (pa_cons (pe_fld (pv 0) rfl) pa_nil)) (pe_callB call_len_seq (by rfl) mL PySem.boot_len (pa_cons (pe_fld (pv 0) rfl) pa_nil)) (nomark _))
      (pss_cons (ps_fld (pv 0) (pe_callTy call_list_of (by rfl) mI (by decide +kernel) (pa_cons (pe_fld (pv 0) rfl) pa_nil)) rfl)
      (pss_cons (ps_fld (pv 0) (pe_cal C2 (hr.mono (by omega)) pass0 (pa_cons (pe_fld (pv 0) rfl) pa_nil)) rfl)
      (pss_one ps_retN))) pss_nil)
    (pss_one (ps_for PassesOwn.never rfl (pi_tup (pe_tup (pa_cons (pe_num n1) (pa_cons (pe_num n2) (pa_cons (pe_num n3) pa_nil))))) (pg_name (i := 1) sc16.nd rfl (Or.inl rfl))
      (pss_cons (ps_expr (pe_bm PySem.F.plainAttrs_list PySem.F.slot_list_append PySem.F.type_list_append mt_append (pe_fld (pv 0) rfl) (pa_cons (pv 1) pa_nil)))
      (pss_cons (ps_if (pt_val (pe_cal C1 (hr.mono (by omega)) pass0 (pa_cons (pv 0) pa_nil))) (pss_one (ps_expr (pe_cal C3 hr pass0 (pa_cons (pv 0) pa_nil)))) pss_nil)
      (pss_one (ps_expr (pe_bm0 PySem.F.plainAttrs_list PySem.F.slot_list_pop PySem.F.type_list_pop mt_pop (pe_fld (pv 0) rfl)))))))), ?_⟩
  obtain ⟨bv, sv, h1, h5⟩ := S.ob
  have h2 := S.gl
  have h3 := S.gw
  have hwa := S.wa
  have hne := S.ne
  dsimp only at h1 h2 h3 h5 hwa hne
  refine ⟨_, rfl, L, C, dx, _, _, rfl, h1, T.cl, T.nH, lf_where _ _ _ _ _, ha, _, rfl, .inl (SqL.of hwa), ?_⟩
  refine ⟨_, rfl, L, C, dx, _, _, rfl, h1, T.cl, T.nL, lf_letters _ _ _ _ _, la, _, rfl, .inl (SqL.of (S.same _ _ h2)), rfl, _, rfl, ?_⟩
  rw [nvs_len, nvs_len]
  refine ite2 (fun e => ?_) (fun e => ?_)
  · -- all letters stand
    have e' : wh.length = ks.length := by
      have z := of_decide_eq_true e
      have : ((wh.length : Nat) : Int) = ((ks.length : Nat) : Int) := by injection z
      omega
    have d0 : d = 0 := by omega
    subst d0
    refine ⟨_, rfl, L, C, dx, _, _, rfl, h1, T.cl, T.nH, lf_where _ _ _ _ _, ha, _, rfl, .inl (SqL.of hwa), fun l hl => ?_⟩
    have s1 : Same H (upd H l (.lst (nvs wh))) := same_new hl _
    have nlh : l ≠ ha := (ne_of_none hwa hl).symm
    have nlL : l ≠ L := (ne_of_none h1 hl).symm
    refine ⟨_, rfl, L, C, dx, _, rfl, s1 _ _ h1, T.cl, T.nB, (by rw [lf_len]; decide), ?_⟩
    rw [lf_set_best]
    refine ⟨_, rfl, L, C, dx, _, _, rfl, upd_same, T.cl, T.nH, lf_where _ _ _ _ _, ?_⟩
    refine ⟨ha, wh, rfl, ?_, by omega, fun H2 s2 => ?_⟩
    · rw [upd_ne hne.symm]
      exact s1 _ _ hwa
    refine ⟨_, rfl, L, C, dx, _, rfl, s2 _ _ upd_same, T.cl, T.nS, (by rw [lf_len]; decide), ?_⟩
    rw [lf_set_size]
    refine q _ ⟨same_upd (((same_upd (S.same.trans s1) S.gL _)).trans s2) S.gL _, S.gL, S.gh, S.gl, S.gw, S.gd, ⟨_, _, upd_same, ⟨l, rfl, ?_⟩, rfl⟩, ?_⟩
    · show del (upd H2 L _) ha l = _
      rw [del_ne nlh, upd_ne nlL]
      refine s2 _ _ ?_
      rw [upd_ne nlL, upd_same]
    · show upd H2 L _ ha = _
      rw [upd_ne hne.symm]
      refine s2 _ _ ?_
      rw [upd_ne hne.symm]
      exact s1 _ _ hwa
  · have e' : wh.length ≠ ks.length := fun z => e (decide_eq_true (by rw [z]))
    obtain ⟨d1, rfl⟩ : ∃ d1, d = d1 + 1 := ⟨d - 1, by omega⟩
    refine ⟨size_le (show 3 ≤ 16777216 by decide), fun tp htp => ?_⟩
    have S1 := S.more htp (.tup (nvs [1, 2, 3]))
    have hg : G tp = none := S.same.free htp
    refine ⟨tp, rfl, ⟨_, SqT.of upd_same⟩, ?_⟩
    refine for_tup (K := K) (a := tp) (xs := nvs [1, 2, 3]) (fun i σ H' => ∃ v1 : Option V, σ = [some (.ref L), v1] ∧ LetS C ⟨L, ha, dx, la, wa, ws⟩ (upd G tp (.tup (nvs [1, 2, 3]))) H' ks W wh (triedM W ks.length d1 wh best ([1, 2, 3].take i)))
      ⟨none, rfl, S1⟩ (fun i σ H' _ ⟨_, _, S'⟩ => SqT.of (S'.same _ _ upd_same)) ?_ ?_
    · rintro i y σ H1 hi ⟨v1, rfl, S2⟩
      obtain ⟨k, hk1, rfl⟩ := nvs_at hi
      rw [tried_more hk1]
      generalize triedM W ks.length d1 wh best ([1, 2, 3].take i) = b1 at S2
      obtain ⟨bv2, sv2, g1, g5⟩ := S2.ob
      have gwa := S2.wa
      dsimp only at g1 g5 gwa
      refine ⟨_, rfl, L, C, dx, _, _, rfl, g1, T.cl, T.nH, lf_where _ _ _ _ _, .inl ⟨rfl, _, SqL.of gwa⟩, _, rfl, ha, _, _, rfl, rfl, gwa, size_lt (by rw [nvs_len]; omega), ?_⟩
      have S3 := S2.put (wh ++ [k])
      have e3 : nvs wh ++ [nv k] = nvs (wh ++ [k]) := by rw [nvs_app]; rfl
      rw [e3]
      refine ⟨_, rfl, _, ⟨L, ha, dx, la, wa, ws⟩, ks, wh ++ [k], W, b1, rfl, S3, hW, hk, ?_, fun H2 s2 => ⟨_, rfl, ?_⟩⟩
      · rw [List.length_append, List.length_singleton]
        omega
      have S4 := S3.go s2
      -- where.pop()
      have pop : ∀ (H3 : Hp) (b2 : Option (List Nat)), LetS C ⟨L, ha, dx, la, wa, ws⟩ (upd G tp (.tup (nvs [1, 2, 3]))) H3 ks W (wh ++ [k]) b2 →
          tDrop (tBM0 K "list" rPop (tFld K (tVar 0) "where")) { nx := fun σ H' => ∃ v1 : Option V, σ = [some (.ref L), v1] ∧ LetS C ⟨L, ha, dx, la, wa, ws⟩ (upd G tp (.tup (nvs [1, 2, 3]))) H' ks W wh b2, rt := Q } [some (.ref L), some (nv k)] H3 := by
        intro H3 b2 S5
        obtain ⟨bv3, sv3, f1, f5⟩ := S5.ob
        have fwa := S5.wa
        dsimp only at f1 f5 fwa
        refine ⟨_, rfl, L, C, dx, _, _, rfl, f1, T.cl, T.nH, lf_where _ _ _ _ _, .inl ⟨rfl, _, SqL.of fwa⟩, ha, _, nv k, rfl, rfl, fwa, ?_, ?_⟩
        · rw [nvs_app, List.length_append, nvs_len]
          show (nvs wh ++ [nv k])[wh.length + 1 - 1]? = _
          rw [Nat.add_sub_cancel, List.getElem?_append_right (by rw [nvs_len]; omega), nvs_len]
          simp
        · have e4 : (nvs (wh ++ [k])).dropLast = nvs wh := by
            rw [nvs_app]
            show (nvs wh ++ [nv k]).dropLast = _
            rw [List.dropLast_concat]
          rw [e4]
          exact ⟨_, rfl, S5.put wh⟩
      refine ite2 (fun e1 => ?_) (fun e1 => ?_)
      · rw [if_pos e1]
        refine ⟨_, rfl, _, ⟨L, ha, dx, la, wa, ws⟩, ks, wh ++ [k], W, b1, d1, rfl, S4, hW, hk, ?_, by omega, fun H3 S5 => ?_⟩
        · rw [List.length_append, List.length_singleton]
          omega
        exact pop H3 _ S5
      · rw [if_neg e1]
        exact pop H2 _ S4
    · rintro σ H1 ⟨v1, rfl, S2⟩
      exact q H1 (S.less (same_new hg _) S2)
theorem ok_search_none (D : DefAt K mg "search" "search" (top 16) ["lettering"]) : Cal P w K mg base CX0 (0 + 4) "search" ["lettering"] (spS C 0) := by
  obtain ⟨f, fd, F, b, hm⟩ := D.ex
  have no : ∀ vs H Q E, ¬ spS C 0 vs H Q E := fun vs H Q E h => by
    obtain ⟨_, _, _, _, _, _, d, _, _, _, _, _, z, _⟩ := h
    omega
  exact ⟨f, fd, ⟨fun vs H Q E h => absurd h (no vs H Q E), fun A outer s H args us vs Q E _ _ _ _ h => absurd h (no vs H Q E)⟩, b, hm, F.kp⟩
theorem ok_search (D : DefAt K mg "search" "search" (top 16) ["lettering"]) (T : LetT K C) (mL : mg "len" = none) (mI : mg "list" = none) (n1 : Num mg "FIRST" 1) (n2 : Num mg "SECOND" 2) (n3 : Num mg "BOTH" 3)
    (C1 : Cal P w K mg base CX0 4 "is_right_so_far" ["lettering"] (spRight C)) (C2 : Cal P w K mg base CX0 3 "size_of" ["where"] spSizeOf) : ∀ n : Nat, Cal P w K mg base CX0 (n + 4) "search" ["lettering"] (spS C n)
  | 0 => ok_search_none D
  | n + 1 => ok_search_step n D T mL mI n1 n2 n3 C1 C2 (ok_search D T mL mI n1 n2 n3 C1 C2 n)
end
end Lc
set_option Elab.async false
set_option linter.all false
set_option maxRecDepth 100000
set_option maxHeartbeats 2000000
namespace Lc
open PySem L2 PySem.Spec PyProof.Rows
/-! A comprehension over zip of two lists of one length -/
theorem lc_pairs {K : PySem.W.Frag} {a b : Addr} {xs ys : List V} {g : TG} {tt : TT} {te : TE} {vs : List Nat} {σ : L2.St} {H1 : Hp} {D : Addr} {Qd : Hp → Prop} (hl : xs.length = ys.length) (Pv : Nat → Hp → Prop) (h0 : Pv 0 (upd H1 D (.lst [])))
    (hq : ∀ i H, Pv i H → SqL K H a xs ∧ SqL K H b ys)
    (hs : ∀ (i : Nat) (x y : V) (T : Addr) (H : Hp), xs[i]? = some x → ys[i]? = some y → Pv i H → H T = none → g (.ref T) (wipe σ vs) (upd H T (.tup [x, y])) fun σ2 H2 => wipe σ2 vs = wipe σ vs ∧ tt σ2 H2 fun b H3 =>
      if b = true then te σ2 H3 fun z H4 => ∃ acc, H4 D = some (.lst acc) ∧ acc.length < sizeLine ∧ Pv (i + 1) (upd H4 D (.lst (acc ++ [z]))) else Pv (i + 1) H3)
    (hd : ∀ H, Pv xs.length H → Qd H) :
    ∃ Wt : Nat → Nat → Hp → Prop, (∃ m, Wt 0 m (upd H1 D (.lst []))) ∧ ∀ i m H, Wt i m H →
      ((Itz K a b).stop i H ∧ Qd H) ∨ ((Itz K a b).go i H ∧ ∃ Nx : Hp → Prop, (∀ H', Nx H' → ∃ m', m' < m ∧ Wt (i + 1) m' H') ∧ ∀ v H', (Itz K a b).yld i H v H' → g v (wipe σ vs) H' fun σ2 H2 => wipe σ2 vs = wipe σ vs ∧ tt σ2 H2 fun b H3 =>
        if b = true then te σ2 H3 fun z H4 => ∃ acc, H4 D = some (.lst acc) ∧ acc.length < sizeLine ∧ Nx (upd H4 D (.lst (acc ++ [z]))) else Nx H3) := by
  refine ⟨fun i m H => m + i = xs.length ∧ Pv i H, ⟨xs.length, rfl, h0⟩, fun i m H hw => ?_⟩
  obtain ⟨em, p⟩ := hw
  obtain ⟨qx, qy⟩ := hq i H p
  by_cases hlt : i < xs.length
  · have hx := List.getElem?_eq_getElem hlt
    have hy := List.getElem?_eq_getElem (show i < ys.length by omega)
    refine .inr ⟨⟨xs, ys, _, _, qx, qy, hx, hy⟩, Pv (i + 1), fun H' p' => ⟨m - 1, by omega, by omega, p'⟩, ?_⟩
    rintro v H' ⟨T, x, y, rfl, hT, rfl, f1, f2⟩
    exact hs i x y T H (f1 xs qx) (f2 ys qy) p hT
  · have e : i = xs.length := by omega
    subst e
    exact .inl ⟨⟨xs, ys, qx, qy, .inl (Nat.le_refl _)⟩, hd H p⟩
/-! Lettering's __init__ -/
def spInitL (C : Addr) : Sp := fun vs H Q _ => ∃ (p dx a b : Addr), vs = [.ref p, .ref a, .ref b] ∧ H p = some (.ins C dx []) ∧ ∀ (ha : Addr) (H' : Hp), H ha = none → (∀ c o, H c = some o → c ≠ p → H' c = some o) → H' p = some (.ins C dx (lf a b ha .non (nv 0))) → H' ha = some (.lst []) → Q .non H'
/-- the lettering told -/
def spLettering : Sp := fun vs H Q _ => ∃ (la wa : Addr) (ks : List Nat) (W : List (Nat × Nat)) (ws : List V), vs = [.ref la, .ref wa] ∧ H la = some (.lst (nvs ks)) ∧ H wa = some (.lst ws) ∧ Deep .tup H ws (W.map pairRow) ∧ Within2 W ks.length ∧ ks.length ≤ 10 ∧
  (searchM W ks.length ks.length [] none = none → ∀ H', Same H H' → Q .non H') ∧
  ∀ b, searchM W ks.length ks.length [] none = some b → ∀ (H' : Hp) (t f s : Addr), Same H H' → H' t = some (.tup [.ref f, .ref s]) → H' f = some (.lst (nvs (Uw57.on 1 ks b))) → H' s = some (.lst (nvs (Uw57.on 2 ks b))) → Q (.ref t) H'
/-- the letters on a cube, of the first ones -/
def onM (k : Nat) (ks b : List Nat) : List Nat := ((ks.zip b).filter fun z => onc k z.2).map fun z => z.1
theorem on_step {k i l way : Nat} {ks b : List Nat} (h1 : ks[i]? = some l) (h2 : b[i]? = some way) : onM k (ks.take (i + 1)) (b.take (i + 1)) = onM k (ks.take i) (b.take i) ++ (if onc k way = true then [l] else []) := by
  have hi1 : i < ks.length := (List.getElem?_eq_some_iff.mp h1).1
  have hi2 : i < b.length := (List.getElem?_eq_some_iff.mp h2).1
  unfold onM
  rw [take_more h1, take_more h2, List.zip_append (by rw [List.length_take, List.length_take]; omega), List.filter_append, List.map_append]
  congr 1
  cases e : onc k way <;> simp [e]
theorem onM_len (k : Nat) (ks b : List Nat) : (onM k ks b).length ≤ ks.length := by
  unfold onM
  rw [List.length_map]
  refine Nat.le_trans (List.length_filter_le _ _) ?_
  rw [List.length_zip]
  omega
section
variable {P : Program} {w : World} {K : PySem.W.Frag} {mg : Str → Option Value} {base : Heap} {C : Addr}
theorem sc6 : FnScope ["self", "letters", "words"] ["self", "letters", "words"] (defScope (inClass (top 6) 0)) := ⟨rfl, rfl, rfl, by decide +kernel, rfl, by decide +kernel, by decide +kernel⟩
theorem ok_initL (D : ClsAt K mg "Lettering" "Lettering.__init__" (inClass (top 6) 0) ["self", "letters", "words"] C) (T : LetT K C) : Mak P w K mg base 1 "Lettering" ["self", "letters", "words"] C (spInitL C) := by
  refine D.ok sc6 (fun vs H Q E h => ?_) (fun f cdv A outer s H vs Q E hr h => ?_)
  · obtain ⟨p, dx, a, b, rfl, _⟩ := h
    rfl
  obtain ⟨p, dx, a, b, rfl, hp, q⟩ := h
  refine ⟨_, pss_cons (ps_fld (pv 0) (pv 1) rfl) (pss_cons (ps_fld (pv 0) (pv 2) rfl) (pss_cons (ps_fld (pv 0) (pe_lst pa_nil) rfl) (pss_cons (ps_fld (pv 0) pe_non rfl) (pss_one (ps_fld (pv 0) pe_int rfl))))), ?_⟩
  refine ⟨_, rfl, _, rfl, p, C, dx, [], rfl, hp, T.cl, T.nL, (by show 0 < 1000; decide), ?_⟩
  refine ⟨_, rfl, _, rfl, p, C, dx, _, rfl, upd_same, T.cl, T.nW, (by show 1 < 1000; decide), ?_⟩
  refine ⟨size_le (by decide), fun ha hha => ?_⟩
  have nph : p ≠ ha := ne_of_none upd_same hha
  refine ⟨_, rfl, p, C, dx, _, rfl, Eq.trans (upd_ne nph) upd_same, T.cl, T.nH, ?_, ?_⟩
  · simp only [putF, ne_letters_words, if_false, List.length_cons, List.length_nil]
    decide
  refine ⟨_, rfl, p, C, dx, _, rfl, upd_same, T.cl, T.nB, ?_, ?_⟩
  · simp only [putF, ne_letters_words, ne_letters_where, ne_words_where, if_false, List.length_cons, List.length_nil]
    decide
  refine ⟨_, rfl, p, C, dx, _, rfl, upd_same, T.cl, T.nS, ?_, ?_⟩
  · simp only [putF, ne_letters_words, ne_letters_where, ne_words_where, ne_letters_best, ne_words_best, ne_where_best, if_false, List.length_cons, List.length_nil]
    decide
  refine q ha _ ?_ (fun c o hc hn => ?_) upd_same ?_
  · have h1 := hha
    rw [upd_ne nph.symm, upd_ne nph.symm] at h1
    exact h1
  · have nch : c ≠ ha := by
      rintro rfl
      rw [upd_ne nph.symm, upd_ne nph.symm, hc] at hha
      cases hha
    rw [upd_ne hn, upd_ne hn, upd_ne hn, upd_ne nch, upd_ne hn, upd_ne hn]
    exact hc
  · rw [upd_ne nph.symm, upd_ne nph.symm, upd_ne nph.symm]
    exact upd_same
theorem sc17 : FnScope ["letters", "words", "lettering", "first", "second", "letter", "way"] ["letters", "words"] (defScope (top 17)) := ⟨rfl, rfl, rfl, by decide +kernel, rfl, by decide +kernel, by decide +kernel⟩
/-- one of the two comprehensions: the letters that stand on cube k -/
theorem lc_on {k : Nat} {Kx : PySem.W.Frag} {ks b : List Nat} {la bp : Addr} {σ : L2.St} {H1 : Hp} {D : Addr} {Qd : Hp → Prop} {tt : TT} (hl : ks.length = b.length) (hk : ks.length ≤ 1000) (h1 : H1 la = some (.lst (nvs ks))) (h2 : H1 bp = some (.lst (nvs b))) (hD : H1 D = none) (hσ : 6 < σ.length)
    (ht : ∀ (l way : Nat) (H : Hp) (R : Bool → Hp → Prop), (∀ H', Same H H' → R (onc k way) H') → tt (((wipe σ [5, 6]).set 5 (some (nv l))).set 6 (some (nv way))) H R)
    (hd : ∀ H', Same H1 H' → H' D = some (.lst (nvs (onM k ks b))) → Qd H') :
    ∃ Wt : Nat → Nat → Hp → Prop, (∃ m, Wt 0 m (upd H1 D (.lst []))) ∧ ∀ i m H, Wt i m H →
      ((Itz Kx la bp).stop i H ∧ Qd H) ∨ ((Itz Kx la bp).go i H ∧ ∃ Nx : Hp → Prop, (∀ H', Nx H' → ∃ m', m' < m ∧ Wt (i + 1) m' H') ∧ ∀ v H', (Itz Kx la bp).yld i H v H' → gTup Kx 2 (gCons (gName 5) (gCons (gName 6) gNil)) v (wipe σ [5, 6]) H' fun σ2 H2 =>
        wipe σ2 [5, 6] = wipe σ [5, 6] ∧ tt σ2 H2 fun b H3 => if b = true then tVar 5 σ2 H3 fun z H4 => ∃ acc, H4 D = some (.lst acc) ∧ acc.length < sizeLine ∧ Nx (upd H4 D (.lst (acc ++ [z]))) else Nx H3) := by
  refine lc_pairs (xs := nvs ks) (ys := nvs b) (by rw [nvs_len, nvs_len]; exact hl) (fun i H' => Same H1 H' ∧ H' D = some (.lst (nvs (onM k (ks.take i) (b.take i))))) ⟨same_new hD _, upd_same⟩ (fun i H' ⟨s, _⟩ => ⟨SqL.of (s _ _ h1), SqL.of (s _ _ h2)⟩) ?_ ?_
  · rintro i x y T H hx hy ⟨s1, hD1⟩ hT
    obtain ⟨l, hl1, rfl⟩ := nvs_at hx
    obtain ⟨way, hw1, rfl⟩ := nvs_at hy
    have s2 : Same H (upd H T (.tup [nv l, nv way])) := same_new hT _
    refine ⟨T, _, rfl, SqT.of upd_same, rfl, _, _, rfl, _, _, rfl, rfl, ?_, ?_⟩
    · show ((((((wipe σ [5, 6]).set 5 (some (nv l))).set 6 (some (nv way)))).set 6 none).set 5 none) = ((σ.set 6 none).set 5 none)
      show ((((((((σ.set 6 none).set 5 none)).set 5 (some (nv l))).set 6 (some (nv way)))).set 6 none).set 5 none) = ((σ.set 6 none).set 5 none)
      apply List.ext_getElem?
      intro j
      simp only [List.getElem?_set, List.length_set]
      by_cases j5 : 5 = j
      · simp [j5]
      · by_cases j6 : 6 = j
        · simp [j5, j6]
        · simp [j5, j6]
    refine ht l way _ _ fun H3 s3 => ?_
    have s23 : Same H H3 := s2.trans s3
    rw [on_step hl1 hw1]
    refine ite2 (fun e => ?_) (fun e => ?_)
    · rw [if_pos e]
      refine ⟨nv l, ?_, _, s23 _ _ hD1, size_lt ?_, same_upd (s1.trans s23) hD _, ?_⟩
      · rw [List.getElem?_set_ne (by decide), List.getElem?_set_self]
        show 5 < ((σ.set 6 none).set 5 none).length
        rw [List.length_set, List.length_set]
        omega
      · rw [nvs_len]
        have := onM_len k (ks.take i) (b.take i)
        rw [List.length_take] at this
        omega
      · rw [upd_same, nvs_app]
        rfl
    · rw [if_neg e, List.append_nil]
      exact ⟨s1.trans s23, s23 _ _ hD1⟩
  · rintro H' ⟨s1, hD1⟩
    rw [nvs_len, List.take_length, List.take_of_length_le (by omega)] at hD1
    exact hd H' s1 hD1
theorem ok_lettering (D : DefAt K mg "lettering_of" "lettering_of" (top 17) ["letters", "words"]) (T : LetT K C) (mZ : mg "zip" = none) (n1 : Num mg "FIRST" 1) (n2 : Num mg "SECOND" 2) (M : Mak P w K mg base 1 "Lettering" ["self", "letters", "words"] C (spInitL C))
    (C1 : Cal P w K mg base CX0 1 "is_on" ["way", "cube"] spIsOn) (C2 : Cal P w K mg base CX0 (11 + 4) "search" ["lettering"] (spS C 11)) : Cal P w K mg base CX0 16 "lettering_of" ["letters", "words"] spLettering := by
  refine D.ok sc17 (fun vs H Q E h => ?_) (fun f cdv A outer s H vs Q E hr h => ?_)
  · obtain ⟨la, wa, ks, W, ws, rfl, _⟩ := h
    rfl
  obtain ⟨la, wa, ks, W, ws, rfl, h1, h2, h3, hW, hk, qn, qs⟩ := h
  have hr1 : Room 1 _ := hr.mono (by decide)
  refine ⟨_, pss_cons (ps_set (i := 2) sc17.nd rfl (Or.inl rfl) (pe_mak M (hr.mono (by decide)) (pa_cons (pv 0) (pa_cons (pv 1) pa_nil))))
    (pss_cons (ps_expr (pe_cal C2 hr pass0 (pa_cons (pv 2) pa_nil)))
    (pss_cons (ps_if (pt_cmpR op_isN (pe_fld (pv 2) rfl) pe_non (nomark _)) (pss_one (ps_ret pe_non)) pss_nil)
    (pss_cons (ps_setLc (i := 3) (own := [("letter", 5), ("way", 6)]) (g := gTup K 2 (gCons (gName 5) (gCons (gName 6) gNil))) rfl sc17.nd rfl rfl (sw_true rfl rfl rfl (by decide +kernel)) (pi_zip (by rfl) mZ (pa_cons (pv 0) (pa_cons (pe_fld (pv 2) rfl) pa_nil)))
      (blkOk_by (own := [("letter", 5), ("way", 6)]) (N := ["letters", "words", "lettering", "first", "second", "letter", "way"]) (sc := defScope (top 17)) (by decide +kernel))
      (fun _ _ _ _ _ => pg_tup rfl (pgs_cons (pg_name (i := 5) sc17.nd rfl (Or.inl rfl)) (pgs_cons (pg_name (i := 6) sc17.nd rfl (Or.inl rfl)) pgs_nil)))
      (fun _ _ _ _ _ => pts_one (pt_val (pe_cal C1 hr1 pass0 (pa_cons (pv 6) (pa_cons (pe_num n1) pa_nil))))) (fun _ _ _ _ _ => pv 5))
    (pss_cons (ps_setLc (i := 4) (own := [("letter", 5), ("way", 6)]) (g := gTup K 2 (gCons (gName 5) (gCons (gName 6) gNil))) rfl sc17.nd rfl rfl (sw_true rfl rfl rfl (by decide +kernel)) (pi_zip (by rfl) mZ (pa_cons (pv 0) (pa_cons (pe_fld (pv 2) rfl) pa_nil)))
      (blkOk_by (own := [("letter", 5), ("way", 6)]) (N := ["letters", "words", "lettering", "first", "second", "letter", "way"]) (sc := defScope (top 17)) (by decide +kernel))
      (fun _ _ _ _ _ => pg_tup rfl (pgs_cons (pg_name (i := 5) sc17.nd rfl (Or.inl rfl)) (pgs_cons (pg_name (i := 6) sc17.nd rfl (Or.inl rfl)) pgs_nil)))
      (fun _ _ _ _ _ => pts_one (pt_val (pe_cal C1 hr1 pass0 (pa_cons (pv 6) (pa_cons (pe_num n2) pa_nil))))) (fun _ _ _ _ _ => pv 5))
    (pss_one (ps_ret (pe_tup (pa_cons (pv 3) (pa_cons (pv 4) pa_nil))))))))), ?_⟩
  refine ⟨_, rfl, _, rfl, fun L dx nL ndx nex => ⟨L, dx, la, wa, rfl, upd_same, fun ha H1 nha kp hL hh => ⟨rfl, ?_⟩⟩⟩
  have s01 : Same H H1 := Same.made nL ndx kp
  have nha0 : H ha = none := by
    cases e : H ha with
    | none => rfl
    | some o =>
      rw [upd_ne (ne_of_none e nL), upd_ne (ne_of_none e ndx), e] at nha
      cases nha
  have S : LetS C ⟨L, ha, dx, la, wa, ws⟩ H H1 ks W [] none := ⟨s01, nL, nha0, h1, h2, h3, ⟨_, _, hL, rfl⟩, hh⟩
  refine ⟨_, rfl, H, ⟨L, ha, dx, la, wa, ws⟩, ks, [], W, none, ks.length, rfl, S, hW, hk, by simp, by omega, fun H2 S2 => ?_⟩
  obtain ⟨bv, sv, g1, g5⟩ := S2.ob
  have s02 := S2.same
  dsimp only at g1 g5
  refine ⟨_, rfl, L, C, dx, _, _, rfl, g1, T.cl, T.nB, lf_best _ _ _ _ _, rfl, _, rfl, ?_⟩
  cases hb : searchM W ks.length ks.length [] none with
  | none =>
    rw [hb] at g5
    refine ite2 (fun _ => qn hb H2 s02) (fun z => absurd (decide_eq_true (show bv = V.non from g5)) z)
  | some b =>
    rw [hb] at g5
    obtain ⟨⟨bp, e1, e2⟩, e3⟩ := g5
    obtain ⟨bl, bk⟩ := search_mem hW hb
    have hbp : H2 bp = some (.lst (nvs b)) := del_same _ _ _ _ e2
    refine ite2 (fun z => ?_) (fun z => ?_)
    · have := of_decide_eq_true z
      rw [e1] at this
      cases this
    refine ⟨_, rfl, _, rfl, L, C, dx, _, _, rfl, g1, T.cl, T.nB, lf_best _ _ _ _ _, la, bp, _, _, ?_, SqL.of (s02 _ _ h1), SqL.of hbp, fun D hD => ?_⟩
    · rw [e1]
    refine lc_on (k := 1) (ks := ks) (b := b) (la := la) (bp := bp) bl.symm (by omega) (s02 _ _ h1) hbp hD (show 6 < 7 from Nat.lt_succ_self 6) (fun l way H R hR => ?_) fun H3 s3 hD3 => ?_
    · exact ⟨_, rfl, way, 1, rfl, fun H' s' => ⟨_, rfl, hR H' s'⟩⟩
    have s03 := s02.trans s3
    refine ⟨_, rfl, _, rfl, L, C, dx, _, _, rfl, s3 _ _ g1, T.cl, T.nB, lf_best _ _ _ _ _, la, bp, _, _, ?_, SqL.of (s03 _ _ h1), SqL.of (s3 _ _ hbp), fun D2 hD2 => ?_⟩
    · rw [e1]
    refine lc_on (k := 2) (ks := ks) (b := b) (la := la) (bp := bp) bl.symm (by omega) (s03 _ _ h1) (s3 _ _ hbp) hD2 (show 6 < 7 from Nat.lt_succ_self 6) (fun l way H R hR => ?_) fun H4 s4 hD4 => ?_
    · exact ⟨_, rfl, way, 2, rfl, fun H' s' => ⟨_, rfl, hR H' s'⟩⟩
    refine ⟨_, rfl, _, rfl, size_le (show 2 ≤ 16777216 by decide), fun t ht => ?_⟩
    have s5 := same_new ht (.tup [.ref D, .ref D2])
    refine qs b hb _ t D D2 (s03.trans (s4.trans s5)) upd_same ?_ ?_
    · rw [s5 _ _ (s4 _ _ hD3), on_is 1 (.inl rfl) ks b bk]
      rfl
    · rw [s5 _ _ hD4, on_is 2 (.inr rfl) ks b bk]
      rfl
end
end Lc
set_option Elab.async false
set_option linter.all false
set_option maxRecDepth 100000
set_option maxHeartbeats 2000000
namespace Lc
open PySem L2 PySem.Spec PyProof.Rows
/-! Refused: a call is refused by a number -/
structure RefT (K : PySem.W.Frag) (mg : Str → Option Value) (C : Addr) : Prop where
  oex : OexC K C
  xf : XfC K C
  noN : PySem.W.findIn K (.ref C) "number" = some none
  gC : mg "Refused" = some (.ref C)
  te : PySem.W.exmOne K (.ref C) (.ref C) = some true
  ini : ∃ fI fd, Fun K "__init__" "Refused.__init__" (inClass (top 44) 0) fI fd ∧ Binds K fd ["self", "number"] [] ∧ PySem.W.findIn K (.ref C) "__init__" = some (some (.ref fI)) ∧ PySem.W.typeIn K (.ref fI) = some (.type "function")
/-- what a refusal leaves: an error whose own dict, new, holds the number; all else as it was -/
def Raised (C : Addr) (z : Int) (H : Hp) (E : XK) : Prop := ∀ (d : Addr) (H' : Hp), H d = none → Same H H' → H' d = some (.xd [(("number" : Str), .int z)]) → E (.ref C) (some d) H'
theorem Raised.go {C : Addr} {z : Int} {H H' : Hp} {E : XK} (r : Raised C z H E) (s : Same H H') : Raised C z H' E := fun d H2 hd s2 h => r d H2 (s.free hd) (s.trans s2) h
def spInitR (C : Addr) : Sp := fun vs H Q _ => ∃ (a : Addr) (v : V), vs = [.ref a, v] ∧ H a = some (exo a C none) ∧ ∀ dx, H dx = none → dx ≠ a → Q .non (upd (upd H dx (exd dx [(("number" : Str), v)])) a (exo a C (some dx)))
def spCheck (C : Addr) : Sp := fun vs H Q E => ∃ (b : Bool) (z : Int), vs = [.bl b, .int z] ∧ (b = true → Q .non H) ∧ (b = false → Raised C z H E)
def spCheckL (K : PySem.W.Frag) (C : Addr) : Sp := fun vs H Q E => ∃ (a : Addr) (ls : List Nat), vs = [.ref a] ∧ SqL K H a (nvs ls) ∧ ls.length ≤ 1000 ∧ (Uw57.areLetters ls = true → ∀ H', Same H H' → Q .non H') ∧ (Uw57.areLetters ls = false → Raised C (-1) H E)
theorem not_letters (ls : List Nat) : (ls.filter fun l => decide (36 ≤ l)).isEmpty = Uw57.areLetters ls := by
  unfold Uw57.areLetters
  induction ls with
  | nil => rfl
  | cons a r ih =>
    rw [List.filter_cons, List.all_cons]
    by_cases h : 36 ≤ a
    · have h2 : ¬ a < Uw57.LETTERS := by unfold Uw57.LETTERS; omega
      rw [decide_eq_true h, decide_eq_false h2]
      rfl
    · have h2 : a < Uw57.LETTERS := by unfold Uw57.LETTERS; omega
      rw [decide_eq_false h, decide_eq_true h2, ← ih]
      rfl
section
variable {P : Program} {w : World} {K : PySem.W.Frag} {mg : Str → Option Value} {base : Heap} {C : Addr}
theorem sc44 : FnScope ["self", "number"] ["self", "number"] (defScope (inClass (top 44) 0)) := ⟨rfl, rfl, rfl, by decide +kernel, rfl, by decide +kernel, by decide +kernel⟩
theorem ok_initR {fI : Addr} {fd : FuncData} (F : Fun K "__init__" "Refused.__init__" (inClass (top 44) 0) fI fd) (T : RefT K mg C) : FnOk P w K mg base CX0 1 fI fd ["self", "number"] (spInitR C) := by
  refine F.ok sc44 (fun vs H Q E h => ?_) (fun cdv A outer s H vs Q E hr h => ?_)
  · obtain ⟨a, v, rfl, _⟩ := h
    rfl
  obtain ⟨a, v, rfl, ha, q⟩ := h
  refine ⟨_, pss_one (ps_ost (pv 0) (pv 1)), ?_⟩
  exact ⟨_, rfl, _, rfl, a, C, rfl, T.oex, T.noN, .inl ⟨ha, fun dx hdx hne => q dx hdx hne⟩⟩
theorem sc46 : FnScope ["is_right", "number"] ["is_right", "number"] (defScope (top 46)) := ⟨rfl, rfl, rfl, by decide +kernel, rfl, by decide +kernel, by decide +kernel⟩
theorem ok_check (D : DefAt K mg "check" "check" (top 46) ["is_right", "number"]) (T : RefT K mg C) : Cal P w K mg base (L2.CX P w) 3 "check" ["is_right", "number"] (spCheck C) := by
  obtain ⟨fI, fdI, FI, bI, iC, tI⟩ := T.ini
  have GI : FnOk P w K mg base CX0 1 fI fdI ["self", "number"] (spInitR C) := ok_initR FI T
  refine D.okX sc46 (fun vs H Q E h => ?_) (fun f cdv A outer s H vs Q E hr h => ?_)
  · obtain ⟨b, z, rfl, _⟩ := h
    rfl
  obtain ⟨b, z, rfl, q, r⟩ := h
  refine ⟨_, pss_one (ps_if (pt_not (pt_val (pv 0))) (pss_one (ps_raise rfl (takes_of rfl rfl rfl rfl) (pmk_oex T.oex iC tI GI hr bI .nil pass0 rfl T.gC (pa_cons (pv 1) pa_nil)))) pss_nil), ?_⟩
  refine ⟨_, rfl, b, rfl, ?_⟩
  cases b with
  | true => exact iteF (q rfl)
  | false =>
    refine iteT ?_
    refine ⟨_, rfl, (by show 1 ≤ 1000; decide), fun a ha => ⟨a, _, rfl, upd_same, fun dx hdx hne => ⟨rfl, dx, _, upd_same, Eq.trans (upd_ne hne) upd_same, ?_, ?_⟩⟩⟩
    · rw [upd_ne hne] at hdx
      exact hdx
    · refine r rfl dx _ ?_ (fun c o hc => ?_) upd_same
      · rw [upd_ne hne] at hdx
        exact hdx
      · rw [upd_ne hne] at hdx
        have n1 : c ≠ dx := ne_of_none hc hdx
        have n2 : c ≠ a := ne_of_none hc ha
        rw [upd_ne n1, L2.del_ne n2, upd_ne n2, upd_ne n1, upd_ne n2]
        exact hc
theorem sc47 : FnScope ["letters", "letter"] ["letters"] (defScope (top 47)) := ⟨rfl, rfl, rfl, by decide +kernel, rfl, by decide +kernel, by decide +kernel⟩
theorem ok_checkL (D : DefAt K mg "check_letters" "check_letters" (top 47) ["letters"]) (nL : Num mg "LETTERS" 36) (nN : Num mg "NOT_SO" (-1)) (C1 : Cal P w K mg base (L2.CX P w) 3 "check" ["is_right", "number"] (spCheck C)) :
    Cal P w K mg base (L2.CX P w) 4 "check_letters" ["letters"] (spCheckL K C) := by
  refine D.okX sc47 (fun vs H Q E h => ?_) (fun f cdv A outer s H vs Q E hr h => ?_)
  · obtain ⟨a, ls, rfl, _⟩ := h
    rfl
  obtain ⟨a, ls, rfl, hS, hl, q, r⟩ := h
  refine ⟨_, pss_one (ps_expr (pe_cal (E := E) C1 hr (passes_call (takes_of rfl rfl rfl rfl) fun _ _ _ _ z => z) (pa_cons (pe_cmpR (op_eqD hr.units)
    (pe_lc (own := [("letter", 1)]) (g := gName 1) rfl sc47.nd (pi_list (pv 0)) (blkOk_by (own := [("letter", 1)]) (N := ["letters", "letter"]) (sc := defScope (top 47)) (by decide +kernel)) (fun _ _ _ _ _ => pg_name (i := 1) sc47.nd rfl (Or.inl rfl))
      (fun _ _ _ _ _ => pts_one (pt_cmpR op_ge (pv 1) (pe_num nL) (nomark _))) (fun _ _ _ _ _ => pv 1))
    (pe_lst pa_nil) (nomark _)) (pa_cons (pe_num nN) pa_nil)))), ?_⟩
  refine ⟨_, rfl, a, rfl, ⟨_, hS⟩, fun D hD => ?_⟩
  refine lc_list (K := K) (a := a) (xs := nvs ls) (fun i H' => Same H H' ∧ H' D = some (.lst (nvs ((ls.take i).filter fun l => decide (36 ≤ l))))) ⟨same_new hD _, upd_same⟩ (fun i H' _ ⟨s, _⟩ => s.seq hS) ?_ ?_
  · rintro i y H1 hi ⟨s1, hD1⟩
    obtain ⟨l, hl1, rfl⟩ := nvs_at hi
    refine ⟨rfl, ?_⟩
    refine ⟨_, rfl, _, _, rfl, rfl, _, rfl, ?_⟩
    have step : (ls.take (i + 1)).filter (fun l => decide (36 ≤ l)) = (ls.take i).filter (fun l => decide (36 ≤ l)) ++ (if 36 ≤ l then [l] else []) := by
      rw [take_more hl1, List.filter_append]
      congr 1
      by_cases h : 36 ≤ l
      · simp [h]
      · simp [h]
    rw [step]
    refine ite2 (fun e => ?_) (fun e => ?_)
    · have e' : 36 ≤ l := by
        have := of_decide_eq_true e
        omega
      rw [if_pos e']
      refine ⟨_, rfl, _, hD1, size_lt ?_, same_upd s1 hD _, ?_⟩
      · rw [nvs_len]
        have := List.length_filter_le (fun l => decide (36 ≤ l)) (ls.take i)
        rw [List.length_take] at this
        omega
      · rw [upd_same, nvs_app]
        rfl
    · have e' : ¬ 36 ≤ l := fun z => e (decide_eq_true (by omega))
      rw [if_neg e', List.append_nil]
      exact ⟨s1, hD1⟩
  · rintro H1 ⟨s1, hD1⟩
    rw [nvs_len, List.take_length] at hD1
    refine ⟨size_le (by decide), fun e0 he0 => ?_⟩
    have s2 : Same H1 (upd H1 e0 (.lst [])) := same_new he0 _
    refine eq_nums (s2 _ _ hD1) upd_same ?_
    rw [not_letters]
    exact ⟨_, _, rfl, fun e => q e _ (s1.trans s2), fun e => (r e).go (s1.trans s2)⟩
end
end Lc
set_option Elab.async false
set_option linter.all false
set_option maxRecDepth 100000
set_option maxHeartbeats 2000000
namespace Lc
open PySem L2 PySem.Spec PyProof.Rows
/-! The cubes and the desk as they are changed: G, what stands outside -/
structure CubS (CC : Addr) (G H : Hp) (c : Addr) (x : Uw57.Box) : Prop where
  same : Same G H
  gc : G c = none
  ob : ∃ (dx r o : Addr) (rs : List V) (kvs : List (Key × V)), G r = none ∧ G o = none ∧ (∀ q, V.ref q ∈ rs → G q = none) ∧ H c = some (.ins CC dx (cf r o)) ∧ H r = some (.lst rs) ∧ Deep .lst (del H r) rs x.cubes ∧ H o = some (.dK kvs) ∧ Oth kvs x
  n5 : x.cubes.length ≤ 5
  n3 : x.pairs.length ≤ 3
theorem CubS.read {CC : Addr} {G H : Hp} {c : Addr} {x : Uw57.Box} (S : CubS CC G H c x) : CubR CC H c x := by
  obtain ⟨dx, r, o, rs, kvs, _, _, _, h1, h2, h3, h4, h5⟩ := S.ob
  exact ⟨dx, r, o, rs, kvs, h1, h2, h3.same (del_same _ _), h4, h5, S.n5⟩
theorem CubS.go {CC : Addr} {G H H' : Hp} {c : Addr} {x : Uw57.Box} (S : CubS CC G H c x) (e : Same H H') : CubS CC G H' c x := by
  obtain ⟨dx, r, o, rs, kvs, g1, g2, g3, h1, h2, h3, h4, h5⟩ := S.ob
  exact ⟨S.same.trans e, S.gc, ⟨dx, r, o, rs, kvs, g1, g2, g3, e _ _ h1, e _ _ h2, h3.same (same_del e r), e _ _ h4, h5⟩, S.n5, S.n3⟩
def df (c : Addr) : List (Str × V) := putF "cubes" (.ref c) []
theorem df_cubes (c : Addr) : (df c).lookup ("cubes" : Str) = some (.ref c) := by
  unfold df
  rw [lookup_putF, if_pos rfl]
theorem df_put (c e : Addr) : putF "cubes" (.ref e) (df c) = df e := by
  unfold df
  simp only [putF, if_true]
structure DeskS (CD CC : Addr) (G H : Hp) (d : Addr) (x : Uw57.Box) : Prop where
  gd : G d = none
  ob : ∃ (dx c : Addr), c ≠ d ∧ H d = some (.ins CD dx (df c)) ∧ CubS CC G H c x
theorem DeskS.go {CD CC : Addr} {G H H' : Hp} {d : Addr} {x : Uw57.Box} (S : DeskS CD CC G H d x) (e : Same H H') : DeskS CD CC G H' d x := by
  obtain ⟨dx, c, ne, h1, h2⟩ := S.ob
  exact ⟨S.gd, dx, c, ne, e _ _ h1, h2.go e⟩
structure DeskT (K : PySem.W.Frag) (C : Addr) : Prop where
  cl : Cls K C
  nC : NoAttr K C "cubes"
/-! What is answered -/
def outV (a : Uw57.Ans) : List V := V.int a.v :: nvs a.l
def Done (CC C : Addr) (G : Hp) (c : Addr) (R : Uw57.Box × Uw57.Ans) (H : Hp) (Q : VK) (E : XK) : Prop :=
  (R.2.v < 0 → Raised C R.2.v H E) ∧ (¬ R.2.v < 0 → ∀ (H' : Hp) (p : Addr), CubS CC G H' c R.1 → G p = none → H' p = some (.lst (outV R.2)) → Q (.ref p) H')
/-! Cubes' __init__ -/
def spInitC (CC : Addr) : Sp := fun vs H Q _ => ∃ (p dx : Addr) (n : Nat), vs = [.ref p, nv n] ∧ H p = some (.ins CC dx []) ∧ n ≤ 5 ∧ ∀ (H' : Hp) (r o : Addr) (rs : List V), (∀ b u, H b = some u → b ≠ p → H' b = some u) → H r = none → H o = none →
  H' p = some (.ins CC dx (cf r o)) → H' r = some (.lst rs) → Deep .lst (del H' r) rs (List.replicate n (List.replicate 6 0)) → (∀ q, V.ref q ∈ rs → H q = none) → H' o = some (.dK []) → Q .non H'
theorem rep_step (n : Nat) (w : List Nat) : List.replicate (n + 1) w = List.replicate n w ++ [w] := List.replicate_succ'
section
variable {P : Program} {w : World} {K : PySem.W.Frag} {mg : Str → Option Value} {base : Heap} {CC CD C : Addr}
theorem sc21 : FnScope ["self", "many", "cube"] ["self", "many"] (defScope (inClass (top 21) 0)) := ⟨rfl, rfl, rfl, by decide +kernel, rfl, by decide +kernel, by decide +kernel⟩
theorem ok_initC (D : ClsAt K mg "Cubes" "Cubes.__init__" (inClass (top 21) 0) ["self", "many"] CC) (T : CubT K mg CC) (mR : mg "range" = none) (nF : Num mg "FACES_words" 6) : Mak P w K mg base 1 "Cubes" ["self", "many"] CC (spInitC CC) := by
  refine D.ok sc21 (fun vs H Q E h => ?_) (fun f cdv A outer s H vs Q E hr h => ?_)
  · obtain ⟨p, dx, n, rfl, _⟩ := h
    rfl
  obtain ⟨p, dx, n, rfl, hp, hn, q⟩ := h
  refine ⟨_, pss_cons (ps_fld (pv 0) (pe_lc (own := [("cube", 2)]) (g := gName 2) (tt := tYes) rfl sc21.nd (pi_range1 rfl mR (pa_cons (pv 1) pa_nil))
      (blkOk_by (own := [("cube", 2)]) (N := ["self", "many", "cube"]) (sc := defScope (inClass (top 21) 0)) (by decide +kernel)) (fun _ _ _ _ _ => pg_name (i := 2) sc21.nd rfl (Or.inl rfl))
      (fun _ _ _ _ _ => pts_nil) (fun _ _ _ _ _ => pe_op op_rep (pe_lst (pa_cons pe_int pa_nil)) (pe_num nF))) rfl)
    (pss_one (ps_fld (pv 0) pe_dnewK rfl)), ?_⟩
  refine ⟨_, rfl, _, rfl, by omega, by omega, fun D hD => ?_⟩
  refine lc_range (lo := 0) (fun i H' => i ≤ 5 ∧ Same H (del H' D) ∧ ∃ rs : List V, H' D = some (.lst rs) ∧ Deep .lst (del H' D) rs (List.replicate i (List.replicate 6 0)) ∧ ∀ q, V.ref q ∈ rs → H q = none) ⟨by omega, ?_, [], upd_same, Deep.nil, by simp⟩ ?_ ?_
  · rw [del_upd]
    exact same_del_of (Same.refl _) hD
  · rintro i H1 hi ⟨hi5, s1, rs, hD1, dR, fr⟩
    have hin : i < n := by omega
    refine ⟨rfl, ?_⟩
    refine ⟨size_le (show 1 ≤ 16777216 by decide), fun l hl => ?_⟩
    have s2 : Same H1 (upd H1 l (.lst [.int 0])) := same_new hl _
    refine ⟨l, 6, _, rfl, rfl, upd_same, by decide, by decide, size_le (show 1 * 6 ≤ 16777216 by decide), fun e he => ?_⟩
    have e6 : (List.replicate (6 : Int).toNat [V.int 0]).flatten = nvs (List.replicate 6 0) := rfl
    rw [e6]
    have s3 : Same (upd H1 l (.lst [.int 0])) (upd (upd H1 l (.lst [.int 0])) e (.lst (nvs (List.replicate 6 0)))) := same_new he _
    have s13 := s2.trans s3
    have neD : e ≠ D := (ne_of_none (s2 _ _ hD1) he).symm
    have fe : H e = none := (s1.trans (del_same _ _)).free (s2.free he)
    refine ⟨_, s13 _ _ hD1, size_lt ?_, by omega, ?_, _, upd_same, ?_, fun q hq => ?_⟩
    · have := dR.1
      rw [List.length_replicate] at this
      omega
    · rw [del_upd]
      exact s1.trans (same_del s13 D)
    · rw [del_upd, rep_step]
      refine (dR.same (same_del s13 D)).app (Deep.one ?_)
      rw [del_ne neD, upd_same]
    · rcases List.mem_append.mp hq with hq | hq
      · exact fr q hq
      · have : q = e := by simpa using hq
        rw [this]
        exact fe
  · rintro H1 ⟨_, s1, rs, hD1, dR, fr⟩
    have s01 : Same H H1 := s1.trans (del_same _ _)
    have hp1 := s01 _ _ hp
    have npD : p ≠ D := ne_of_none hp hD
    have en : ((n : Nat) : Int).toNat = n := by omega
    rw [en] at dR
    refine ⟨_, rfl, p, CC, dx, [], rfl, hp1, T.cl, T.nR, (by show 0 < 1000; decide), ?_⟩
    intro o ho
    have npo : p ≠ o := ne_of_none upd_same ho
    have ho1 : H1 o = none := by
      rw [upd_ne npo.symm] at ho
      exact ho
    have nDo : D ≠ o := ne_of_none hD1 ho1
    refine ⟨_, rfl, p, CC, dx, _, rfl, Eq.trans (upd_ne npo) upd_same, T.cl, T.nO, (by show 1 < 1000; decide), ?_⟩
    refine q _ D o rs (fun b u hb hn => ?_) hD (s01.free ho1) upd_same ?_ ?_ fr ?_
    · rw [upd_ne hn, upd_ne (ne_of_none (s01 _ _ hb) ho1), upd_ne hn]
      exact s01 _ _ hb
    · rw [upd_ne npD.symm, upd_ne nDo, upd_ne npD.symm]
      exact hD1
    · refine ⟨dR.1, fun i wd hw => ?_⟩
      obtain ⟨e, g1, g2⟩ := dR.2 i wd hw
      obtain ⟨neD, g3⟩ := del_some g2
      have fe := fr e (List.mem_of_getElem? g1)
      have nep : e ≠ p := (ne_of_none hp fe).symm
      refine ⟨e, g1, ?_⟩
      rw [del_ne neD, upd_ne nep, upd_ne (ne_of_none g3 ho1), upd_ne nep]
      exact g3
    · rw [upd_ne npo.symm]
      exact upd_same
/-- new cubes are the desk's -/
theorem desk_new {G H H' : Hp} {p dx c dc : Addr} {fs : List (Str × V)} {n : Nat} {r o : Addr} {rs : List V} (hn : n ≤ 5) (sG : Same G H) (gp : G p = none) (hp : H p = some (.ins CD dx fs)) (nc : H c = none) (nd : H dc = none)
    (kp : ∀ b u, (upd (upd H dc (.own c)) c (.ins CC dc [])) b = some u → b ≠ c → H' b = some u) (nr : (upd (upd H dc (.own c)) c (.ins CC dc [])) r = none) (no : (upd (upd H dc (.own c)) c (.ins CC dc [])) o = none)
    (h1 : H' c = some (.ins CC dc (cf r o))) (h2 : H' r = some (.lst rs)) (h3 : Deep .lst (del H' r) rs (List.replicate n (List.replicate 6 0))) (h4 : ∀ q, V.ref q ∈ rs → (upd (upd H dc (.own c)) c (.ins CC dc [])) q = none) (h5 : H' o = some (.dK [])) (hf : putF "cubes" (.ref c) fs = df c) :
    DeskS CD CC G (upd H' p (.ins CD dx (putF "cubes" (.ref c) fs))) p (Uw57.blank n) ∧ Same G (upd H' p (.ins CD dx (putF "cubes" (.ref c) fs))) := by
  have s1 : Same H (upd (upd H dc (.own c)) c (.ins CC dc [])) := fun b u e => by
    rw [upd_ne (ne_of_none e nc), upd_ne (ne_of_none e nd)]
    exact e
  have sH : Same H H' := fun b u e => kp b u (s1 b u e) (ne_of_none e nc)
  have npc : c ≠ p := (ne_of_none hp nc).symm
  have npr : r ≠ p := (ne_of_none (s1 _ _ hp) nr).symm
  have npo : o ≠ p := (ne_of_none (s1 _ _ hp) no).symm
  have sG' : Same G (upd H' p (.ins CD dx (putF "cubes" (.ref c) fs))) := same_upd (sG.trans sH) gp _
  refine ⟨⟨gp, dx, c, npc, ?_, ⟨sG', sG.free nc, ⟨dc, r, o, rs, [], sG.free (s1.free nr), sG.free (s1.free no), fun q hq => sG.free (s1.free (h4 q hq)), ?_, ?_, ?_, ?_, ?_⟩, ?_, ?_⟩⟩, sG'⟩
  · rw [upd_same, hf]
  · rw [upd_ne npc]
    exact h1
  · rw [upd_ne npr]
    exact h2
  · refine ⟨h3.1, fun i wd hw => ?_⟩
    obtain ⟨e, g1, g2⟩ := h3.2 i wd hw
    obtain ⟨ner, g3⟩ := del_some g2
    have fe := h4 e (List.mem_of_getElem? g1)
    refine ⟨e, g1, ?_⟩
    rw [del_ne ner, upd_ne (ne_of_none (s1 _ _ hp) fe).symm]
    exact g3
  · rw [upd_ne npo]
    exact h5
  · exact ⟨rfl, fun a => rfl⟩
  · show (List.replicate n (List.replicate 6 0)).length ≤ 5
    rw [List.length_replicate]
    exact hn
  · show 0 ≤ 3
    decide
/-! Desk's __init__ -/
def spInitD (CD CC : Addr) : Sp := fun vs H Q _ => ∃ (G : Hp) (p dx : Addr), vs = [.ref p] ∧ Same G H ∧ G p = none ∧ H p = some (.ins CD dx []) ∧ ∀ H', DeskS CD CC G H' p Uw57.init → Q .non H'
theorem sc45 : FnScope ["self"] ["self"] (defScope (inClass (top 45) 0)) := ⟨rfl, rfl, rfl, by decide +kernel, rfl, by decide +kernel, by decide +kernel⟩
theorem ok_initD (D : ClsAt K mg "Desk" "Desk.__init__" (inClass (top 45) 0) ["self"] CD) (T : DeskT K CD) (M : Mak P w K mg base 1 "Cubes" ["self", "many"] CC (spInitC CC)) : Mak P w K mg base 3 "Desk" ["self"] CD (spInitD CD CC) := by
  refine D.ok sc45 (fun vs H Q E h => ?_) (fun f cdv A outer s H vs Q E hr h => ?_)
  · obtain ⟨G, p, dx, rfl, _⟩ := h
    rfl
  obtain ⟨G, p, dx, rfl, sG, gp, hp, q⟩ := h
  refine ⟨_, pss_one (ps_fld (pv 0) (pe_mak M hr (pa_cons pe_int pa_nil)) rfl), ?_⟩
  refine fun c dc nc nd nex => ⟨c, dc, 2, rfl, upd_same, by decide, fun H1 r o rs kp nr no h1 h2 h3 h4 h5 => ⟨rfl, ?_⟩⟩
  have hp1 : H1 p = some (.ins CD dx []) := kp p _ (by
    rw [upd_ne (ne_of_none hp nc), upd_ne (ne_of_none hp nd)]
    exact hp) (ne_of_none hp nc)
  refine ⟨_, rfl, p, CD, dx, [], rfl, hp1, T.cl, T.nC, (by show 0 < 1000; decide), ?_⟩
  exact q _ (desk_new (by decide) sG gp hp nc nd kp nr no h1 h2 h3 h4 h5 rfl).1
/-! begins -/
def spBegins (CD CC C : Addr) : Sp := fun vs H Q E => ∃ (G : Hp) (d : Addr) (x : Uw57.Box) (n : Nat), vs = [.ref d, nv n] ∧ DeskS CD CC G H d x ∧
  ((Uw57.step x (.begins n)).2.v < 0 → Raised C (Uw57.step x (.begins n)).2.v H E) ∧
  (¬ (Uw57.step x (.begins n)).2.v < 0 → ∀ (H' : Hp) (p : Addr), DeskS CD CC G H' d (Uw57.step x (.begins n)).1 → G p = none → H' p = some (.lst (outV (Uw57.step x (.begins n)).2)) → Q (.ref p) H')
theorem sc48 : FnScope ["desk", "many"] ["desk", "many"] (defScope (top 48)) := ⟨rfl, rfl, rfl, by decide +kernel, rfl, by decide +kernel, by decide +kernel⟩
theorem ok_begins (D : DefAt K mg "begins" "begins" (top 48) ["desk", "many"]) (T : DeskT K CD) (nM : Num mg "MOST_CUBES" 5) (nN : Num mg "NOT_SO" (-1)) (M : Mak P w K mg base 1 "Cubes" ["self", "many"] CC (spInitC CC))
    (C1 : Cal P w K mg base (L2.CX P w) 3 "check" ["is_right", "number"] (spCheck C)) : Cal P w K mg base (L2.CX P w) 4 "begins" ["desk", "many"] (spBegins CD CC C) := by
  refine D.okX sc48 (fun vs H Q E h => ?_) (fun f cdv A outer s H vs Q E hr h => ?_)
  · obtain ⟨G, d, x, n, rfl, _⟩ := h
    rfl
  obtain ⟨G, d, x, n, rfl, S, qr, qs⟩ := h
  refine ⟨_, pss_cons (ps_expr (pe_cal (E := E) C1 hr (passes_call (takes_of rfl rfl rfl rfl) fun _ _ _ _ z => z) (pa_cons (pe_chain op_le op_le pe_int (pv 1) (pe_num nM)) (pa_cons (pe_num nN) pa_nil))))
    (PSs.nox (pss_cons (ps_fld (pv 0) (pe_mak M (hr.mono (by decide)) (pa_cons (pv 1) pa_nil)) rfl) (pss_one (ps_ret (pe_lst (pa_cons (pv 1) pa_nil)))))), ?_⟩
  have no : (n < 1 ∨ 5 < n) → Raised C (-1) H E := fun z => by
    have e : Uw57.step x (.begins n) = (x, Uw57.ok (-1)) := if_pos z
    rw [e] at qr
    exact qr (show (-1 : Int) < 0 by decide)
  refine ⟨_, rfl, _, _, rfl, rfl, _, rfl, ?_⟩
  refine ite2 (fun e1 => ?_) (fun e1 => ?_)
  · have e1' : 1 ≤ n := by
      have := of_decide_eq_true e1
      omega
    refine ⟨_, _, rfl, rfl, _, _, rfl, fun e2 => ?_, fun e2 => ?_⟩
    · have e2' : n ≤ 5 := by
        have := of_decide_eq_true e2
        omega
      have es : Uw57.step x (.begins n) = (Uw57.blank n, Uw57.ok (n : Int)) := if_neg (show ¬ (n < 1 ∨ Uw57.CUBES < n) by unfold Uw57.CUBES; omega)
      rw [es] at qs
      obtain ⟨dx, c0, _, hd, S0⟩ := S.ob
      refine ⟨_, rfl, fun c dc nc nd nex => ⟨c, dc, n, rfl, upd_same, e2', fun H1 r o rs kp nr no h1 h2 h3 h4 h5 => ⟨rfl, ?_⟩⟩⟩
      have hd1 : H1 d = some (.ins CD dx (df c0)) := kp d _ (by
        rw [upd_ne (ne_of_none hd nc), upd_ne (ne_of_none hd nd)]
        exact hd) (ne_of_none hd nc)
      refine ⟨_, rfl, d, CD, dx, _, rfl, hd1, T.cl, T.nC, (by show 1 < 1000; decide), ?_⟩
      obtain ⟨S1, sG⟩ := desk_new e2' S0.same S.gd hd nc nd kp nr no h1 h2 h3 h4 h5 (df_put c0 c)
      refine ⟨_, rfl, size_le (show 1 ≤ 16777216 by decide), fun p hp => ?_⟩
      exact qs (by show ¬ ((n : Int) < 0); omega) _ p (S1.go (same_new hp _)) (sG.free hp) upd_same
    · exact no (.inr (by
        have : ¬ _ := fun z => Bool.eq_false_iff.mp e2 (decide_eq_true z)
        omega))
  · refine ⟨_, _, rfl, (fun z => nomatch z), fun _ => no (.inl ?_)⟩
    have : ¬ _ := fun z => e1 (decide_eq_true z)
    omega
end
end Lc
set_option Elab.async false
set_option linter.all false
set_option maxRecDepth 100000
set_option maxHeartbeats 2000000
namespace Lc
open PySem L2 PySem.Spec PyProof.Rows
/-! cube -/
def spCube (K : PySem.W.Frag) (CC C : Addr) : Sp := fun vs H Q E => ∃ (G : Hp) (c a : Addr) (x : Uw57.Box) (i : Nat) (l : List Nat), vs = [.ref c, nv i, .ref a] ∧ CubS CC G H c x ∧ SqL K H a (nvs l) ∧ l.length ≤ 1000 ∧ Done CC C G c (Uw57.step x (.cube i l)) H Q E
theorem Done.no {CC C : Addr} {G : Hp} {c : Addr} {R : Uw57.Box × Uw57.Ans} {H : Hp} {Q : VK} {E : XK} (d : Done CC C G c R H Q E) {y : Uw57.Box} {z : Int} (e : R = (y, Uw57.ok z)) (hz : z < 0) : Raised C z H E := by
  rw [e] at d
  exact d.1 hz
theorem Done.yes {CC C : Addr} {G : Hp} {c : Addr} {R : Uw57.Box × Uw57.Ans} {H : Hp} {Q : VK} {E : XK} (d : Done CC C G c R H Q E) {y : Uw57.Box} {n : Nat} {l : List Nat} (e : R = (y, ⟨(n : Int), l⟩)) :
    ∀ (H' : Hp) (p : Addr), CubS CC G H' c y → G p = none → H' p = some (.lst (nv n :: nvs l)) → Q (.ref p) H' := by
  rw [e] at d
  exact d.2 (show ¬ ((n : Int) < 0) by omega)
theorem Deep.set {mk : List V → HO} {H : Hp} {vs : List V} {ws : List (List Nat)} (d : Deep mk H vs ws) {i : Nat} {p : Addr} {u : List Nat} (h : H p = some (mk (nvs u))) : Deep mk H (vs.set i (.ref p)) (ws.set i u) := by
  refine ⟨by rw [List.length_set, List.length_set, d.1], fun j wd hj => ?_⟩
  by_cases e : i = j
  · subst e
    have hi : i < ws.length := by
      have := (List.getElem?_eq_some_iff.mp hj).1
      rw [List.length_set] at this
      exact this
    rw [List.getElem?_set_self hi] at hj
    have : u = wd := Option.some.inj hj
    subst this
    exact ⟨p, by rw [List.getElem?_set_self (by rw [d.1]; exact hi)], h⟩
  · rw [List.getElem?_set_ne e] at hj
    obtain ⟨q, h1, h2⟩ := d.2 j wd hj
    exact ⟨q, by rw [List.getElem?_set_ne e]; exact h1, h2⟩
section
variable {P : Program} {w : World} {K : PySem.W.Frag} {mg : Str → Option Value} {base : Heap} {CC CD C : Addr}
theorem sc49 : FnScope ["cubes", "number", "letters"] ["cubes", "number", "letters"] (defScope (top 49)) := ⟨rfl, rfl, rfl, by decide +kernel, rfl, by decide +kernel, by decide +kernel⟩
theorem ok_cube (D : DefAt K mg "cube" "cube" (top 49) ["cubes", "number", "letters"]) (T : CubT K mg CC) (mL : mg "len" = none) (mI : mg "list" = none) (nC : Num mg "NO_CUBE" (-2)) (nN : Num mg "NOT_SO" (-1)) (nF : Num mg "FACES_words" 6)
    (C1 : Cal P w K mg base (L2.CX P w) 3 "check" ["is_right", "number"] (spCheck C)) (C2 : Cal P w K mg base (L2.CX P w) 4 "check_letters" ["letters"] (spCheckL K C)) (C3 : Cal P w K mg base CX0 3 "shown_count" ["cubes"] (spCount CC)) :
    Cal P w K mg base (L2.CX P w) 5 "cube" ["cubes", "number", "letters"] (spCube K CC C) := by
  refine D.okX sc49 (fun vs H Q E h => ?_) (fun f cdv A outer s H vs Q E hr h => ?_)
  · obtain ⟨G, c, a, x, i, l, rfl, _⟩ := h
    rfl
  obtain ⟨G, c, a, x, i, l, rfl, S, hS, hl, dn⟩ := h
  refine ⟨_, pss_cons (ps_expr (pe_cal (E := E) C1 (hr.mono (by decide)) (passes_call (takes_of rfl rfl rfl rfl) fun _ _ _ _ z => z) (pa_cons (pe_cmpR op_lt (pv 1) (pe_callB call_len_seq (by rfl) mL PySem.boot_len (pa_cons (pe_fld (pv 0) rfl) pa_nil)) (nomark _)) (pa_cons (pe_num nC) pa_nil))))
    (pss_cons (ps_expr (pe_cal (E := E) C1 (hr.mono (by decide)) (passes_call (takes_of rfl rfl rfl rfl) fun _ _ _ _ z => z) (pa_cons (pe_cmpR op_eq (pe_callB call_len_seq (by rfl) mL PySem.boot_len (pa_cons (pv 2) pa_nil)) (pe_num nF) (nomark _)) (pa_cons (pe_num nN) pa_nil))))
    (pss_cons (ps_expr (pe_cal (E := E) C2 hr (passes_call (takes_of rfl rfl rfl rfl) fun _ _ _ _ z => z) (pa_cons (pv 2) pa_nil)))
    (PSs.nox (pss_cons (ps_asg (pe_callTy call_list_of (by rfl) mI (by decide +kernel) (pa_cons (pv 2) pa_nil)) (pg_sub (pe_fld (pv 0) rfl) (pv 1) set_list))
    (pss_one (ps_ret (pe_lst (pa_cons (pe_cal C3 (hr.mono (by decide)) pass0 (pa_cons (pv 0) pa_nil)) pa_nil)))))))), ?_⟩
  obtain ⟨dx, r, o, rs, kvs, g1, g2, g3, h1, h2, h3, h4, h5⟩ := S.ob
  refine ⟨_, rfl, _, rfl, c, CC, dx, _, _, rfl, h1, T.cl, T.nR, cf_rows _ _, r, _, rfl, .inl (SqL.of h2), _, _, rfl, rfl, _, _, rfl, fun e1 => ?_, fun e1 => ?_⟩
  · have e1' : i < x.cubes.length := by
      have z := of_decide_eq_true e1
      have := h3.1
      omega
    refine ⟨_, rfl, a, _, rfl, .inl hS, rfl, _, _, rfl, fun e2 => ?_, fun e2 => ?_⟩
    · have e2' : l.length = 6 := by
        have z := of_decide_eq_true e2
        rw [nvs_len] at z
        have : ((l.length : Nat) : Int) = 6 := by injection z
        omega
      refine ⟨_, rfl, a, l, rfl, hS, hl, fun e3 H1 s1 => ?_, fun e3 => ?_⟩
      · have es : Uw57.step x (.cube i l) = ({ x with cubes := x.cubes.set i l }, ⟨((Uw57.Box.letters { x with cubes := x.cubes.set i l }).length : Nat), []⟩) := by
          show (if x.cubes.length ≤ i then _ else if l.length ≠ Uw57.FACES ∨ Uw57.areLetters l = false then _ else _) = _
          rw [if_neg (by omega), if_neg (by unfold Uw57.FACES; rw [e3]; simp [e2'])]
          rfl
        have fin := dn.yes es
        refine ⟨_, rfl, a, _, rfl, .inl (s1.seq hS), fun q hq => ?_⟩
        have s2 : Same H1 (upd H1 q (.lst (nvs l))) := same_new hq _
        have s12 := s1.trans s2
        have nqr : q ≠ r := (ne_of_none (s1 _ _ h2) hq).symm
        refine ⟨_, rfl, c, CC, dx, _, _, rfl, s12 _ _ h1, T.cl, T.nR, cf_rows _ _, _, rfl, r, rs, _, i, rfl, rfl, s12 _ _ h2, ?_, ?_⟩
        · unfold ixN
          rw [if_pos (by omega), if_pos (by have := h3.1; omega)]
          simp
        have S2 : CubS CC G (upd (upd H1 q (.lst (nvs l))) r (.lst (rs.set i (.ref q)))) c { x with cubes := x.cubes.set i l } := by
          have nrc : c ≠ r := ne_of h1 h2 (by intro z; cases z)
          have nro : o ≠ r := ne_of h4 h2 (by intro z; cases z)
          refine ⟨same_upd (S.same.trans s12) g1 _, S.gc, ⟨dx, r, o, _, kvs, g1, g2, fun z hz => ?_, ?_, upd_same, ?_, ?_, h5⟩, ?_, S.n3⟩
          · rcases List.mem_or_eq_of_mem_set hz with hz | hz
            · exact g3 z hz
            · have : z = q := by injection hz
              rw [this]
              exact (S.same.trans s1).free hq
          · rw [upd_ne nrc]
            exact s12 _ _ h1
          · rw [del_upd]
            refine (h3.same (same_del s12 r)).set ?_
            rw [del_ne nqr, upd_same]
          · rw [upd_ne nro]
            exact s12 _ _ h4
          · show (x.cubes.set i l).length ≤ 5
            rw [List.length_set]
            exact S.n5
        refine ⟨_, rfl, c, _, rfl, S2.read, fun H3 s3 => ?_⟩
        have S3 := S2.go s3
        refine ⟨size_le (show 1 ≤ 16777216 by decide), fun p hp => ?_⟩
        exact fin _ p (S3.go (same_new hp _)) (S3.same.free hp) upd_same
      · refine dn.no (y := x) ?_ (by decide)
        show (if x.cubes.length ≤ i then _ else if l.length ≠ Uw57.FACES ∨ Uw57.areLetters l = false then _ else _) = _
        rw [if_neg (by omega), if_pos (.inr e3)]
    · have h6 : l.length ≠ Uw57.FACES := fun z => by
        refine Bool.eq_false_iff.mp e2 (decide_eq_true ?_)
        rw [nvs_len, z]
        rfl
      refine dn.no (y := x) ?_ (by decide)
      show (if x.cubes.length ≤ i then _ else if l.length ≠ Uw57.FACES ∨ Uw57.areLetters l = false then _ else _) = _
      rw [if_neg (by omega), if_pos (.inl h6)]
  · refine dn.no (y := x) ?_ (by decide)
    show (if x.cubes.length ≤ i then _ else _) = _
    rw [if_pos ?_]
    have : ¬ _ := fun z => Bool.eq_false_iff.mp e1 (decide_eq_true z)
    have := h3.1
    omega
/-! alike -/
def spAlike (CC C : Addr) : Sp := fun vs H Q E => ∃ (G : Hp) (c : Addr) (x : Uw57.Box) (a b : Nat), vs = [.ref c, nv a, nv b] ∧ CubS CC G H c x ∧ Done CC C G c (Uw57.step x (.alike a b)) H Q E
theorem any_pair (x : Uw57.Box) (a b : Nat) : (x.pairs.any fun p => p.1 == a || (p.2 == a || (p.1 == b || p.2 == b))) = (paired x a || paired x b) := by
  unfold paired
  induction x.pairs with
  | nil => rfl
  | cons p r ih =>
    rw [List.any_cons, List.any_cons, List.any_cons, ih]
    cases (p.1 == a) <;> cases (p.2 == a) <;> cases (p.1 == b) <;> cases (p.2 == b) <;> simp
/-- one pair more -/
theorem oth_more {kvs : List (Key × V)} {x : Uw57.Box} {a b : Nat} (h : Oth kvs x) (ha : paired x a = false) (hb : paired x b = false) (hab : a ≠ b) :
    Oth (putK (putK kvs (Sum.inl (a : Int)) (nv b)) (Sum.inl (b : Int)) (nv a)) { x with pairs := x.pairs ++ [(a, b)] } := by
  have v1 : valV kvs (Sum.inl (a : Int) : Key) = none := by
    rw [h.2 a, ha]
    rfl
  have v2 : valV kvs (Sum.inl (b : Int) : Key) = none := by
    rw [h.2 b, hb]
    rfl
  have e1 := putK_new (nv b) v1
  have nk : ¬ ((Sum.inl (a : Int) : Key) = Sum.inl (b : Int)) := fun z => hab (by have := Sum.inl.inj z; omega)
  have v3 : valV (kvs ++ [((Sum.inl (a : Int) : Key), nv b)]) (Sum.inl (b : Int)) = none := by
    unfold valV at v2 ⊢
    rw [List.find?_append]
    have : (kvs.find? fun kv => decide (kv.1 = (Sum.inl (b : Int) : Key))) = none := by simpa using v2
    rw [this]
    simp [List.find?_cons, nk]
  rw [e1, putK_new (nv a) v3]
  refine ⟨?_, fun n => ?_⟩
  · simp only [List.length_append, List.length_singleton]
    have := h.1
    omega
  have hn := h.2 n
  have fkv : (kvs.find? fun kv => decide (kv.1 = (Sum.inl (n : Int) : Key))).map (·.2) = if paired x n = true then some (nv (x.over n)) else none := hn
  have pm : paired { x with pairs := x.pairs ++ [(a, b)] } n = (paired x n || (a == n || b == n)) := by
    unfold paired
    rw [List.any_append]
    simp
  rw [pm]
  cases e : paired x n with
  | true =>
    rw [e] at fkv
    have ov : Uw57.Box.over { x with pairs := x.pairs ++ [(a, b)] } n = x.over n := by
      unfold Uw57.Box.over
      show (match (x.pairs ++ [(a, b)]).find? _ with | none => _ | some p => _) = _
      rw [List.find?_append]
      unfold paired at e
      cases q : x.pairs.find? fun p => p.1 == n || p.2 == n with
      | none =>
        rw [List.find?_eq_none] at q
        rw [List.any_eq_true] at e
        obtain ⟨p, hp, e⟩ := e
        exact absurd e (q p hp)
      | some p => rfl
    rw [ov]
    unfold valV
    rw [List.find?_append, List.find?_append]
    cases q : kvs.find? fun kv => decide (kv.1 = (Sum.inl (n : Int) : Key)) with
    | none =>
      rw [q] at fkv
      cases fkv
    | some kv =>
      rw [q] at fkv
      exact fkv
  | false =>
    rw [e] at fkv
    have q : (kvs.find? fun kv => decide (kv.1 = (Sum.inl (n : Int) : Key))) = none := by
      cases q : kvs.find? fun kv => decide (kv.1 = (Sum.inl (n : Int) : Key)) with
      | none => rfl
      | some kv => rw [q] at fkv; cases fkv
    have ov : Uw57.Box.over { x with pairs := x.pairs ++ [(a, b)] } n = if a = n then b else if b = n then a else n := by
      unfold Uw57.Box.over
      show (match (x.pairs ++ [(a, b)]).find? _ with | none => _ | some p => _) = _
      rw [List.find?_append]
      unfold paired at e
      have : (x.pairs.find? fun p => p.1 == n || p.2 == n) = none := by
        rw [List.find?_eq_none]
        rw [List.any_eq_false] at e
        exact e
      rw [this]
      by_cases z1 : a = n
      · simp [z1]
      · by_cases z2 : b = n
        · simp [z1, z2]
        · simp [z1, z2]
    rw [ov]
    unfold valV
    rw [List.find?_append, List.find?_append, q]
    by_cases z1 : a = n
    · subst z1
      simp
    · have k1 : ¬ ((Sum.inl (a : Int) : Key) = Sum.inl (n : Int)) := fun z => z1 (by have := Sum.inl.inj z; omega)
      by_cases z2 : b = n
      · subst z2
        simp [z1, k1]
      · have k2 : ¬ ((Sum.inl (b : Int) : Key) = Sum.inl (n : Int)) := fun z => z2 (by have := Sum.inl.inj z; omega)
        simp [z1, z2, k1, k2]
theorem sc50 : FnScope ["cubes", "one", "other"] ["cubes", "one", "other"] (defScope (top 50)) := ⟨rfl, rfl, rfl, by decide +kernel, rfl, by decide +kernel, by decide +kernel⟩
theorem ok_alike (D : DefAt K mg "alike" "alike" (top 50) ["cubes", "one", "other"]) (T : CubT K mg CC) (mL : mg "len" = none) (nN : Num mg "NOT_SO" (-1)) (nI : Num mg "IN_A_PAIR" (-4)) (nF : Num mg "FULL" (-5)) (nP : Num mg "MOST_PAIRS" 3)
    (C1 : Cal P w K mg base (L2.CX P w) 3 "check" ["is_right", "number"] (spCheck C)) (C2 : Cal P w K mg base (L2.CX P w) 4 "check_letters" ["letters"] (spCheckL K C)) (C3 : Cal P w K mg base CX0 3 "shown_count" ["cubes"] (spCount CC)) :
    Cal P w K mg base (L2.CX P w) 5 "alike" ["cubes", "one", "other"] (spAlike CC C) := by
  refine D.okX sc50 (fun vs H Q E h => ?_) (fun f cdv A outer s H vs Q E hr h => ?_)
  · obtain ⟨G, c, x, a, b, rfl, _⟩ := h
    rfl
  obtain ⟨G, c, x, a, b, rfl, S, dn⟩ := h
  have hu := hu_of hr
  refine ⟨_, pss_cons (ps_expr (pe_cal (E := E) C2 hr (passes_call (takes_of rfl rfl rfl rfl) fun _ _ _ _ z => z) (pa_cons (pe_lst (pa_cons (pv 1) (pa_cons (pv 2) pa_nil))) pa_nil)))
    (pss_cons (ps_expr (pe_cal (E := E) C1 (hr.mono (by decide)) (passes_call (takes_of rfl rfl rfl rfl) fun _ _ _ _ z => z) (pa_cons (pe_cmpR op_ne (pv 1) (pv 2) (nomark _)) (pa_cons (pe_num nN) pa_nil))))
    (pss_cons (ps_expr (pe_cal (E := E) C1 (hr.mono (by decide)) (passes_call (takes_of rfl rfl rfl rfl) fun _ _ _ _ z => z) (pa_cons (pe_and (pe_cmp (pc_dnotin hu (pv 1) (pe_fld (pv 0) rfl)) rfl) (pe_one (pe_cmp (pc_dnotin hu (pv 2) (pe_fld (pv 0) rfl)) rfl))) (pa_cons (pe_num nI) pa_nil))))
    (pss_cons (ps_expr (pe_cal (E := E) C1 (hr.mono (by decide)) (passes_call (takes_of rfl rfl rfl rfl) fun _ _ _ _ z => z) (pa_cons (pe_cmpR op_lt (pe_callB call_lenD (by rfl) mL PySem.boot_len (pa_cons (pe_fld (pv 0) rfl) pa_nil)) (pe_op op_mul pe_int (pe_num nP)) (nomark _)) (pa_cons (pe_num nF) pa_nil))))
    (PSs.nox (pss_cons (ps_dput hu (pe_fld (pv 0) rfl) (pv 1) (pv 2) rfl) (pss_cons (ps_dput hu (pe_fld (pv 0) rfl) (pv 2) (pv 1) rfl)
    (pss_one (ps_ret (pe_lst (pa_cons (pe_cal C3 (hr.mono (by decide)) pass0 (pa_cons (pv 0) pa_nil)) pa_nil)))))))))), ?_⟩
  obtain ⟨dx, r, o, rs, kvs, g1, g2, g3, h1, h2, h3, h4, h5⟩ := S.ob
  have stepE : Uw57.step x (.alike a b) = (if 36 ≤ a ∨ 36 ≤ b ∨ a = b then (x, Uw57.ok (-1)) else if (paired x a || paired x b) = true then (x, Uw57.ok (-4)) else if 3 ≤ x.pairs.length then (x, Uw57.ok (-5)) else
      ({ x with pairs := x.pairs ++ [(a, b)] }, Uw57.ok ((Uw57.Box.letters { x with pairs := x.pairs ++ [(a, b)] }).length : Nat))) := by
    rw [← any_pair]
    rfl
  rw [stepE] at dn
  have hab : Uw57.areLetters [a, b] = (decide (a < 36) && decide (b < 36)) := by
    unfold Uw57.areLetters Uw57.LETTERS
    simp
  refine ⟨_, rfl, _, rfl, size_le (show 2 ≤ 16777216 by decide), fun t ht => ?_⟩
  have s1 : Same H (upd H t (.lst [nv a, nv b])) := same_new ht _
  refine ⟨t, [a, b], rfl, SqL.of upd_same, (by show 2 ≤ 1000; decide), fun e0 H1 s2 => ?_, fun e0 => ?_⟩
  rotate_left
  · refine Raised.go (dn.no (y := x) (if_pos ?_) (by decide)) s1
    rw [hab, Bool.and_eq_false_iff] at e0
    rcases e0 with e0 | e0
    · exact .inl (by have := of_decide_eq_false e0; omega)
    · exact .inr (.inl (by have := of_decide_eq_false e0; omega))
  rw [hab, Bool.and_eq_true] at e0
  have ea := of_decide_eq_true e0.1
  have eb := of_decide_eq_true e0.2
  have s01 : Same H H1 := s1.trans s2
  refine ⟨_, rfl, _, rfl, rfl, _, _, rfl, fun e1 => ?_, fun e1 => ?_⟩
  rotate_left
  · refine Raised.go (dn.no (y := x) (if_pos (.inr (.inr ?_))) (by decide)) s01
    have : decide (nv a = nv b) = true := by simpa using e1
    have := of_decide_eq_true this
    unfold nv at this
    have : ((a : Nat) : Int) = ((b : Nat) : Int) := by injection this
    omega
  have nab : a ≠ b := fun z => by
    subst z
    simp at e1
  rw [if_neg (by omega)] at dn
  refine ⟨_, rfl, _, rfl, c, CC, dx, _, _, rfl, s01 _ _ h1, T.cl, T.nO, cf_others _ _, o, _, rfl, DGet.k (k := Sum.inl (a : Int)) (s01 _ _ h4), _, rfl, ?_⟩
  rw [h5.2 a]
  have no4 : (paired x a || paired x b) = true → Raised C (-4) H1 E := fun e => Raised.go (dn.no (y := x) (if_pos e) (by decide)) s01
  refine ite2 (fun e2 => ?_) (fun e2 => ?_)
  rotate_left
  · refine ⟨_, _, rfl, (fun z => nomatch z), fun _ => no4 ?_⟩
    cases e : paired x a with
    | true => rfl
    | false => rw [e] at e2; exact absurd rfl e2
  have pa : paired x a = false := by
    cases e : paired x a with
    | false => rfl
    | true => rw [e] at e2; cases e2
  refine ⟨_, rfl, _, rfl, c, CC, dx, _, _, rfl, s01 _ _ h1, T.cl, T.nO, cf_others _ _, o, _, rfl, DGet.k (k := Sum.inl (b : Int)) (s01 _ _ h4), ?_⟩
  rw [h5.2 b]
  refine ⟨_, _, rfl, fun e3 => ?_, fun e3 => ?_⟩
  rotate_left
  · refine no4 ?_
    cases e : paired x b with
    | true => rw [Bool.or_true]
    | false => rw [e] at e3; cases e3
  have pb : paired x b = false := by
    cases e : paired x b with
    | false => rfl
    | true => rw [e] at e3; cases e3
  rw [if_neg (by rw [pa, pb]; decide)] at dn
  refine ⟨_, rfl, c, CC, dx, _, _, rfl, s01 _ _ h1, T.cl, T.nO, cf_others _ _, o, kvs, rfl, s01 _ _ h4, _, _, rfl, rfl, .inl ⟨by decide, by decide⟩, _, _, rfl, rfl, _, _, rfl, fun e4 => ?_, fun e4 => ?_⟩
  rotate_left
  · refine Raised.go (dn.no (y := x) (if_pos ?_) (by decide)) s01
    have : ¬ _ := fun z => Bool.eq_false_iff.mp e4 (decide_eq_true z)
    have := h5.1
    omega
  have p2 : x.pairs.length < 3 := by
    have := of_decide_eq_true e4
    have := h5.1
    omega
  rw [if_neg (by omega)] at dn
  have fin := dn.yes (y := { x with pairs := x.pairs ++ [(a, b)] }) rfl
  have nrc : c ≠ o := ne_of h1 h4 (by intro z; cases z)
  have nro : r ≠ o := ne_of h2 h4 (by intro z; cases z)
  refine ⟨_, rfl, _, rfl, c, CC, dx, _, _, rfl, s01 _ _ h1, T.cl, T.nO, cf_others _ _, _, rfl, o, _, rfl, DPut.k (k := Sum.inl (a : Int)) (s01 _ _ h4) (size_lt (by have := h5.1; omega)), ?_⟩
  refine ⟨_, rfl, _, rfl, c, CC, dx, _, _, rfl, Eq.trans (upd_ne nrc) (s01 _ _ h1), T.cl, T.nO, cf_others _ _, _, rfl, o, _, rfl, DPut.k (k := Sum.inl (b : Int)) upd_same (size_lt ?_), ?_⟩
  · unfold putK
    have := h5.1
    split
    · rw [List.length_map]
      omega
    · rw [List.length_append, List.length_singleton]
      omega
  rw [upd_upd]
  have S2 : CubS CC G (upd H1 o (.dK (putK (putK kvs (Sum.inl (a : Int)) (nv b)) (Sum.inl (b : Int)) (nv a)))) c { x with pairs := x.pairs ++ [(a, b)] } := by
    refine ⟨same_upd (S.same.trans s01) g2 _, S.gc, ⟨dx, r, o, rs, _, g1, g2, g3, ?_, ?_, ?_, upd_same, oth_more h5 pa pb nab⟩, S.n5, ?_⟩
    · rw [upd_ne nrc]
      exact s01 _ _ h1
    · rw [upd_ne nro]
      exact s01 _ _ h2
    · refine ⟨h3.1, fun j wd hj => ?_⟩
      obtain ⟨q, k1, k2⟩ := h3.2 j wd hj
      obtain ⟨nqr, k3⟩ := del_some k2
      refine ⟨q, k1, ?_⟩
      rw [del_ne nqr, upd_ne (ne_of k3 h4 (by intro z; cases z))]
      exact s01 _ _ k3
    · show (x.pairs ++ [(a, b)]).length ≤ 3
      rw [List.length_append, List.length_singleton]
      omega
  refine ⟨_, rfl, c, _, rfl, S2.read, fun H3 s3 => ?_⟩
  have S3 := S2.go s3
  refine ⟨size_le (show 1 ≤ 16777216 by decide), fun p hp => ?_⟩
  exact fin _ p (S3.go (same_new hp _)) (S3.same.free hp) upd_same
end
end Lc
set_option Elab.async false
set_option linter.all false
set_option maxRecDepth 100000
set_option maxHeartbeats 2000000
namespace Lc
open PySem L2 PySem.Spec PyProof.Rows
/-! shows, spells, list, all -/
def spShows (CC C : Addr) : Sp := fun vs H Q E => ∃ (G : Hp) (c : Addr) (x : Uw57.Box) (a : Nat), vs = [.ref c, nv a] ∧ CubS CC G H c x ∧ Done CC C G c (Uw57.step x (.shows a)) H Q E
def spSpells (K : PySem.W.Frag) (CC C : Addr) : Sp := fun vs H Q E => ∃ (G : Hp) (c a : Addr) (x : Uw57.Box) (wd : List Nat), vs = [.ref c, .ref a] ∧ CubS CC G H c x ∧ SqL K H a (nvs wd) ∧ wd.length ≤ 10 ∧ Done CC C G c (Uw57.step x (.spells wd)) H Q E
def spListed (K : PySem.W.Frag) (CC C : Addr) : Sp := fun vs H Q E => ∃ (G : Hp) (c a : Addr) (x : Uw57.Box) (n : Nat) (l : List Nat), vs = [.ref c, nv n, .ref a] ∧ CubS CC G H c x ∧ SqL K H a (nvs l) ∧ n ≤ 4294967295 ∧ l.length ≤ 60 ∧ Done CC C G c (Uw57.step x (.list n l)) H Q E
def spAll (CC C : Addr) : Sp := fun vs H Q E => ∃ (G : Hp) (c : Addr) (x : Uw57.Box) (n : Nat), vs = [.ref c, nv n] ∧ CubS CC G H c x ∧ Done CC C G c (Uw57.step x (.all n)) H Q E
def oneIf (b : Bool) : Nat := if b = true then 1 else 0
theorem cut_word {l : List Nat} {i n : Nat} : cutV (nvs l) (some ((i : Nat) : Int)) (some (((i + n : Nat)) : Int)) = nvs ((l.drop i).take n) := by
  unfold cutV
  rw [HT.sIx_nat, HT.sIx_nat, nvs_len]
  unfold nvs
  rw [← List.map_drop, ← List.map_take]
  congr 1
  by_cases h : i ≤ l.length
  · rw [Nat.min_eq_left h]
    by_cases h2 : i + n ≤ l.length
    · rw [Nat.min_eq_left h2, Nat.add_sub_cancel_left]
    · rw [Nat.min_eq_right (by omega), List.take_of_length_le (by rw [List.length_drop]; omega), List.take_of_length_le (by rw [List.length_drop]; omega)]
  · rw [Nat.min_eq_right (show l.length ≤ i + n by omega), Nat.min_eq_right (show l.length ≤ i by omega), List.drop_eq_nil_of_le (Nat.le_refl _), List.drop_eq_nil_of_le (show l.length ≤ i by omega)]
    simp
theorem sum_ones (ks : List Bool) : ((ks.map oneIf).map fun (n : Nat) => (n : Int)).sum = ((ks.filter fun b => b).length : Nat) := by
  induction ks with
  | nil => rfl
  | cons b r ih =>
    rw [List.map_cons, List.map_cons, List.sum_cons, ih, List.filter_cons]
    cases b with
    | true =>
      show (1 : Int) + _ = _
      rw [if_pos rfl, List.length_cons]
      omega
    | false =>
      show (0 : Int) + _ = _
      rw [if_neg Bool.false_ne_true]
      omega
section
variable {P : Program} {w : World} {K : PySem.W.Frag} {mg : Str → Option Value} {base : Heap} {CC CD C : Addr}
theorem sc55 : FnScope ["cubes", "letter", "found"] ["cubes", "letter"] (defScope (top 55)) := ⟨rfl, rfl, rfl, by decide +kernel, rfl, by decide +kernel, by decide +kernel⟩
theorem ok_shows (D : DefAt K mg "shows" "shows" (top 55) ["cubes", "letter"]) (mL : mg "len" = none) (C1 : Cal P w K mg base (L2.CX P w) 4 "check_letters" ["letters"] (spCheckL K C)) (C2 : Cal P w K mg base CX0 2 "showing" ["cubes", "letter"] (spShowing CC)) :
    Cal P w K mg base (L2.CX P w) 5 "shows" ["cubes", "letter"] (spShows CC C) := by
  refine D.okX sc55 (fun vs H Q E h => ?_) (fun f cdv A outer s H vs Q E hr h => ?_)
  · obtain ⟨G, c, x, a, rfl, _⟩ := h
    rfl
  obtain ⟨G, c, x, a, rfl, S, dn⟩ := h
  refine ⟨_, pss_cons (ps_expr (pe_cal (E := E) C1 hr (passes_call (takes_of rfl rfl rfl rfl) fun _ _ _ _ z => z) (pa_cons (pe_lst (pa_cons (pv 1) pa_nil)) pa_nil)))
    (PSs.nox (pss_cons (ps_set (i := 2) sc55.nd rfl (Or.inl rfl) (pe_cal C2 (hr.mono (by decide)) pass0 (pa_cons (pv 0) (pa_cons (pv 1) pa_nil))))
    (pss_one (ps_ret (pe_op op_cat (pe_lst (pa_cons (pe_callB call_len_seq (by rfl) mL PySem.boot_len (pa_cons (pv 2) pa_nil)) pa_nil)) (pv 2)))))), ?_⟩
  have hab : Uw57.areLetters [a] = decide (a < 36) := by
    unfold Uw57.areLetters Uw57.LETTERS
    simp
  refine ⟨_, rfl, size_le (show 1 ≤ 16777216 by decide), fun t ht => ?_⟩
  have s1 : Same H (upd H t (.lst [nv a])) := same_new ht _
  refine ⟨t, [a], rfl, SqL.of upd_same, (by show 1 ≤ 1000; decide), fun e0 H1 s2 => ?_, fun e0 => ?_⟩
  · rw [hab] at e0
    have e0' := of_decide_eq_true e0
    have es : Uw57.step x (.shows a) = (x, ⟨((showingM x a).length : Nat), showingM x a⟩) := by
      show (x, if Uw57.LETTERS ≤ a then _ else _) = _
      rw [if_neg (by unfold Uw57.LETTERS; omega)]
      rfl
    have fin := dn.yes es
    have s01 := s1.trans s2
    refine ⟨_, rfl, _, rfl, c, x, a, rfl, S.read.same s01, fun H2 p s3 np hp => ?_⟩
    have s02 := s01.trans s3
    refine ⟨_, rfl, p, _, rfl, .inl (SqL.of hp), size_le (show 1 ≤ 16777216 by decide), fun q hq => ?_⟩
    have s4 : ∀ u : HO, Same H2 (upd H2 q u) := fun u => same_new hq u
    refine ⟨_, rfl, q, p, _, _, rfl, rfl, upd_same, s4 _ _ _ hp, ?_, fun t2 ht2 => ?_⟩
    · rw [nvs_len]
      have := showing_len x a
      have := S.n5
      exact size_le (by simp only [List.length_singleton]; omega)
    refine fin _ t2 (S.go (s02.trans ((s4 _).trans (same_new ht2 _)))) ((S.same.trans s02).free ((s4 _).free ht2)) ?_
    rw [upd_same, nvs_len]
    rfl
  · refine Raised.go (dn.no (y := x) ?_ (by decide)) s1
    show (x, if Uw57.LETTERS ≤ a then _ else _) = _
    rw [if_pos]
    rw [hab] at e0
    have := of_decide_eq_false e0
    unfold Uw57.LETTERS
    omega
theorem sc51 : FnScope ["cubes", "word", "ways", "places", "count"] ["cubes", "word"] (defScope (top 51)) := ⟨rfl, rfl, rfl, by decide +kernel, rfl, by decide +kernel, by decide +kernel⟩
theorem ok_spells (D : DefAt K mg "spells" "spells" (top 51) ["cubes", "word"]) (mL : mg "len" = none) (mI : mg "list" = none) (C1 : Cal P w K mg base (L2.CX P w) 4 "check_letters" ["letters"] (spCheckL K C))
    (C2 : Cal P w K mg base CX0 3 "ways_of" ["cubes", "word"] (spWays K CC)) (C3 : Cal P w K mg base CX0 3 "to_blame" ["cubes", "word"] (spBlame K CC)) : Cal P w K mg base (L2.CX P w) 5 "spells" ["cubes", "word"] (spSpells K CC C) := by
  refine D.okX sc51 (fun vs H Q E h => ?_) (fun f cdv A outer s H vs Q E hr h => ?_)
  · obtain ⟨G, c, a, x, wd, rfl, _⟩ := h
    rfl
  obtain ⟨G, c, a, x, wd, rfl, S, hS, h10, dn⟩ := h
  refine ⟨_, pss_cons (ps_expr (pe_cal (E := E) C1 hr (passes_call (takes_of rfl rfl rfl rfl) fun _ _ _ _ z => z) (pa_cons (pv 1) pa_nil)))
    (PSs.nox (pss_cons (ps_set (i := 2) sc51.nd rfl (Or.inl rfl) (pe_cal C2 (hr.mono (by decide)) pass0 (pa_cons (pv 0) (pa_cons (pv 1) pa_nil))))
    (pss_cons (ps_if (pt_cmpR (op_neD hr.units) (pv 2) (pe_lst pa_nil) (nomark _)) (pss_one (ps_ret (pe_op op_cat (pe_lst (pa_cons (pe_callB call_len_seq (by rfl) mL PySem.boot_len (pa_cons (pv 2) pa_nil)) pa_nil)) (pe_ix ix_list (pv 2) pe_int (fun _ _ => rfl))))) pss_nil)
    (pss_cons (ps_asg (pe_cal C3 (hr.mono (by decide)) pass0 (pa_cons (pv 0) (pa_cons (pv 1) pa_nil))) (pg_tup rfl (pgs_cons (pg_name (i := 3) sc51.nd rfl (Or.inl rfl)) (pgs_cons (pg_name (i := 4) sc51.nd rfl (Or.inl rfl)) pgs_nil))))
    (pss_one (ps_ret (pe_op op_cat (pe_lst (pa_cons pe_int (pa_cons (pv 4) pa_nil))) (pe_callTy call_list_of (by rfl) mI (by decide +kernel) (pa_cons (pv 3) pa_nil))))))))), ?_⟩
  refine ⟨_, rfl, a, wd, rfl, hS, by omega, fun e0 H1 s1 => ?_, fun e0 => ?_⟩
  · refine ⟨_, rfl, _, rfl, c, a, x, wd, rfl, S.read.same s1, s1.seq hS, fun H2 p rs s2 hp dW => ?_⟩
    have s02 := s1.trans s2
    refine ⟨_, rfl, size_le (by decide), fun e0' he0 => ?_⟩
    have s3 := same_new he0 (.lst [])
    have s03 := s02.trans s3
    refine ne_lists (s3 _ _ hp) (dW.same s3) upd_same ⟨_, rfl, ?_⟩
    have few := ways_few S.n5 wd
    rw [ways_is] at few
    cases hW : x.ways [] wd with
    | cons v vs =>
      have hne : x.ways [] wd ≠ [] := by rw [hW]; exact fun z => nomatch z
      have hv := way_is x wd [] v (by rw [hW]; exact List.mem_cons_self)
      rw [hW] at dW few
      have es : Uw57.step x (.spells wd) = (x, ⟨((v :: vs).length : Nat), v⟩) := by
        show (x, if Uw57.areLetters wd = false then _ else _) = _
        rw [e0, if_neg (by decide), lack_none hne, hW]
        rfl
      have fin := dn.yes es
      refine iteT ?_
      obtain ⟨vp, hv1, hv2⟩ := dW.2 0 v rfl
      have s3v := s3 _ _ hv2
      refine ⟨_, rfl, p, _, rfl, .inl (SqL.of (s3 _ _ hp)), size_le (show 1 ≤ 16777216 by decide), fun q hq => ?_⟩
      have s4 : ∀ u : HO, Same (upd H2 e0' (.lst [])) (upd (upd H2 e0' (.lst [])) q u) := fun u => same_new hq u
      refine ⟨_, rfl, p, _, _, _, rfl, rfl, SqL.of (s4 _ _ _ (s3 _ _ hp)), at_of (j := 0) rfl hv1, ?_⟩
      refine ⟨q, vp, _, _, rfl, rfl, upd_same, s4 _ _ _ s3v, ?_, fun t ht => ?_⟩
      · rw [nvs_len, hv.1]
        exact size_le (by simp only [List.length_singleton]; omega)
      refine fin _ t (S.go (s03.trans ((s4 _).trans (same_new ht _)))) ((S.same.trans s03).free ((s4 _).free ht)) ?_
      rw [upd_same, dW.1]
      rfl
    | nil =>
      refine iteF ?_
      have hl : ∃ ps, x.lack wd = some ps := by
        cases e : x.lack wd with
        | none => exact absurd hW (lack_some e)
        | some ps => exact ⟨ps, rfl⟩
      obtain ⟨ps, hl⟩ := hl
      have es : Uw57.step x (.spells wd) = (x, ⟨((0 : Nat) : Int), (x.show_ wd ps).length :: ps⟩) := by
        show (x, if Uw57.areLetters wd = false then _ else _) = _
        rw [e0, if_neg (by decide), hl]
        rfl
      have fin := dn.yes es
      have hps : ps.length ≤ 10 := by
        have z := List.mem_of_find?_eq_some (lack_eq x wd ▸ hl)
        obtain ⟨k, _, hk⟩ := List.mem_flatMap.mp z
        have := (choose_is k _ ps hk).1.length_le
        rw [List.length_range] at this
        omega
      refine ⟨_, rfl, _, rfl, c, a, x, wd, ps, rfl, S.read.same s03, s03.seq hS, h10, hl, fun H4 t r s4 ht hr4 => ?_⟩
      have s04 := s03.trans s4
      refine ⟨t, _, rfl, SqT.of ht, rfl, _, _, rfl, _, _, rfl, rfl, ?_⟩
      refine ⟨_, rfl, size_le (show 2 ≤ 16777216 by decide), fun q hq => ?_⟩
      have s5 : ∀ u : HO, Same H4 (upd H4 q u) := fun u => same_new hq u
      refine ⟨_, rfl, r, _, rfl, .inr (SqT.of (s5 _ _ _ hr4)), fun l hl2 => ?_⟩
      have s6 : ∀ (z : HO) (u : HO), (upd H4 q z) l = none → Same (upd H4 q z) (upd (upd H4 q z) l u) := fun z u h => same_new h u
      refine ⟨q, l, _, _, rfl, rfl, s6 _ _ hl2 _ _ upd_same, upd_same, ?_, fun t2 ht2 => ?_⟩
      · rw [nvs_len]
        exact size_le (by show 2 + ps.length ≤ _; omega)
      refine fin _ t2 (S.go (s04.trans ((s5 _).trans ((s6 _ _ hl2).trans (same_new ht2 _))))) ((S.same.trans s04).free ((s5 _).free ((s6 _ _ hl2).free ht2))) ?_
      rw [upd_same]
      rfl
  · refine dn.no (y := x) ?_ (by decide)
    show (x, if Uw57.areLetters wd = false then _ else _) = _
    rw [if_pos e0]
theorem sc52 : FnScope ["cubes", "size", "letters", "found", "at"] ["cubes", "size", "letters"] (defScope (top 52)) := ⟨rfl, rfl, rfl, by decide +kernel, rfl, by decide +kernel, by decide +kernel⟩
theorem ok_listed (D : DefAt K mg "listed" "listed" (top 52) ["cubes", "size", "letters"]) (mL : mg "len" = none) (mR : mg "range" = none) (mT : mg "int" = none) (mS : mg "sum" = none) (nN : Num mg "NOT_SO" (-1))
    (C0 : Cal P w K mg base (L2.CX P w) 3 "check" ["is_right", "number"] (spCheck C)) (C1 : Cal P w K mg base (L2.CX P w) 4 "check_letters" ["letters"] (spCheckL K C)) (C2 : Cal P w K mg base CX0 3 "ways_of" ["cubes", "word"] (spWays K CC)) :
    Cal P w K mg base (L2.CX P w) 5 "listed" ["cubes", "size", "letters"] (spListed K CC C) := by
  refine D.okX sc52 (fun vs H Q E h => ?_) (fun f cdv A outer s H vs Q E hr h => ?_)
  · obtain ⟨G, c, a, x, n, l, rfl, _⟩ := h
    rfl
  obtain ⟨G, c, a, x, n, l, rfl, S, hS, hn, hl, dn⟩ := h
  refine ⟨_, pss_cons (ps_expr (pe_cal (E := E) C0 (hr.mono (by decide)) (passes_call (takes_of rfl rfl rfl rfl) fun _ _ _ _ z => z) (pa_cons (pe_and (pe_cmpR op_gt (pv 1) pe_int (nomark _)) (pe_one (pe_cmpR op_eq (pe_op op_mod (pe_callB call_len_seq (by rfl) mL PySem.boot_len (pa_cons (pv 2) pa_nil)) (pv 1)) pe_int (nomark _)))) (pa_cons (pe_num nN) pa_nil))))
    (pss_cons (ps_expr (pe_cal (E := E) C1 hr (passes_call (takes_of rfl rfl rfl rfl) fun _ _ _ _ z => z) (pa_cons (pv 2) pa_nil)))
    (PSs.nox (pss_cons (ps_set (i := 3) sc52.nd rfl (Or.inl rfl) (pe_lst pa_nil))
    (pss_cons (ps_for PassesOwn.never rfl (pi_step rfl mR (pa_cons pe_int (pa_cons (pe_callB call_len_seq (by rfl) mL PySem.boot_len (pa_cons (pv 2) pa_nil)) (pa_cons (pv 1) pa_nil)))) (pg_name (i := 4) sc52.nd rfl (Or.inl rfl))
      (pss_one (ps_expr (pe_bm PySem.F.plainAttrs_list PySem.F.slot_list_append PySem.F.type_list_append mt_append (pv 3) (pa_cons (pe_callTy call_int1 (by rfl) mT (by decide +kernel)
        (pa_cons (pe_cmpR (op_neD hr.units) (pe_cal C2 (hr.mono (by decide)) pass0 (pa_cons (pv 0) (pa_cons (pe_slice sl_list (pv 2) (po_some (pv 4)) (po_some (pe_op op_add (pv 4) (pv 1)))) pa_nil))) (pe_lst pa_nil) (nomark _)) pa_nil)) pa_nil)))))
    (pss_one (ps_ret (pe_op op_cat (pe_lst (pa_cons (pe_callB (cr_sum rfl) (by rfl) mS (by decide +kernel) (pa_cons (pv 3) pa_nil)) pa_nil)) (pv 3)))))))), ?_⟩
  have no : (n = 0 ∨ l.length % n ≠ 0 ∨ Uw57.areLetters l = false) → Raised C (-1) H E := fun z => dn.no (y := x) (by
    show (x, if n = 0 ∨ l.length % n ≠ 0 ∨ Uw57.areLetters l = false then _ else _) = _
    rw [if_pos z]) (by decide)
  refine ⟨_, rfl, _, _, rfl, rfl, _, rfl, ?_⟩
  refine ite2 (fun e1 => ?_) (fun e1 => ?_)
  rotate_left
  · refine ⟨_, _, rfl, (fun z => nomatch z), fun _ => no (.inl ?_)⟩
    have : ¬ _ := fun z => e1 (decide_eq_true z)
    omega
  have n0 : 0 < n := by
    have := of_decide_eq_true e1
    omega
  refine ⟨_, rfl, a, _, rfl, .inl hS, _, rfl, _, _, rfl, rfl, (by omega), rfl, ?_⟩
  rw [nvs_len]
  have em : (((l.length : Nat) : Int) % ((n : Nat) : Int)) = ((l.length % n : Nat) : Int) := by omega
  refine ⟨_, _, rfl, fun e2 => ?_, fun e2 => ?_⟩
  rotate_left
  · refine no (.inr (.inl fun z => ?_))
    refine Bool.eq_false_iff.mp e2 (decide_eq_true ?_)
    show V.int _ = V.int 0
    rw [em, z]
    rfl
  have hm : l.length % n = 0 := by
    have z := of_decide_eq_true e2
    have : (((l.length : Nat) : Int) % ((n : Nat) : Int)) = 0 := by injection z
    omega
  refine ⟨_, rfl, a, l, rfl, hS, by omega, fun e3 H1 s1 => ?_, fun e3 => no (.inr (.inr e3))⟩
  have es : Uw57.step x (.list n l) = (x, ⟨((((Uw57.split n l).map x.spells).filter fun b => b).length : Nat), ((Uw57.split n l).map x.spells).map oneIf⟩) := by
    show (x, if n = 0 ∨ l.length % n ≠ 0 ∨ Uw57.areLetters l = false then _ else _) = _
    rw [if_neg (by rw [e3]; simp; omega)]
    rfl
  have fin := dn.yes es
  obtain ⟨k, hk⟩ : ∃ k, l.length = k * n := ⟨l.length / n, by
    have := Nat.div_add_mod l.length n
    rw [hm, Nat.add_zero, Nat.mul_comm] at this
    exact this.symm⟩
  have hsl := split_len n0 hk
  refine ⟨size_le (by decide), fun fd hfd => ?_⟩
  refine ⟨_, rfl, a, _, rfl, .inl ((s1.trans (same_new hfd _)).seq hS), _, rfl, n, k, ?_, n0, by omega, hn, ?_⟩
  · rw [nvs_len, hk]
    rfl
  refine for_rangeC (lo := 0) (c := ((n : Nat) : Int)) (n := k) (fun i σ H' => ∃ v4 : Option V, σ = [some (.ref c), some (nv n), some (.ref a), some (.ref fd), v4] ∧ Same H1 H' ∧ H' fd = some (.lst (nvs ((((Uw57.split n l).map x.spells).take i).map oneIf))))
    ⟨none, rfl, same_new hfd _, upd_same⟩ ?_ ?_
  · rintro i σ H2 hi ⟨v4, rfl, s2, hf2⟩
    have hlt : i * n < l.length := by
      rw [hk]
      exact Nat.mul_lt_mul_of_pos_right hi n0
    have gi := split_get n0 hlt
    have s02 := s1.trans s2
    refine ⟨_, rfl, .inl ⟨rfl, _, SqL.of hf2⟩, _, rfl, _, rfl, _, rfl, _, rfl, _, rfl, _, rfl, _, _, rfl, rfl, _, rfl, a, _, rfl, s02.seq hS, fun sl hsl2 => ?_⟩
    have ei : ((0 : Int) + ((i : Nat) : Int) * ((n : Nat) : Int)) = ((i * n : Nat) : Int) := by
      rw [Int.zero_add]
      exact (Int.natCast_mul i n).symm
    have ej : (((i * n : Nat) : Int) + ((n : Nat) : Int)) = ((i * n + n : Nat) : Int) := by omega
    rw [ei, ej, cut_word]
    have s3 : ∀ u : HO, Same H2 (upd H2 sl u) := fun u => same_new hsl2 u
    refine ⟨c, sl, x, _, rfl, S.read.same (s02.trans (s3 _)), SqL.of upd_same, fun H3 p rs s4 hp dW => ?_⟩
    refine ⟨size_le (by decide), fun e0 he0 => ?_⟩
    have s5 := same_new he0 (.lst [])
    have s25 : Same H2 (upd H3 e0 (.lst [])) := (s3 _).trans (s4.trans s5)
    refine ne_lists (s5 _ _ hp) (dW.same s5) upd_same ?_
    refine .inr ⟨_, rfl, ?_⟩
    have esp : (!(x.ways [] ((l.drop (i * n)).take n)).isEmpty) = x.spells ((l.drop (i * n)).take n) := rfl
    rw [esp]
    refine ⟨fd, _, _, rfl, rfl, s25 _ _ hf2, size_lt ?_, ?_⟩
    · rw [nvs_len, List.length_map, List.length_take, List.length_map, hsl]
      have : k * 1 ≤ k * n := Nat.mul_le_mul_left k n0
      omega
    refine ⟨_, rfl, same_upd (s2.trans s25) hfd _, ?_⟩
    have gk : ((Uw57.split n l).map x.spells)[i]? = some (x.spells ((l.drop (i * n)).take n)) := by
      rw [List.getElem?_map, gi]
      rfl
    rw [upd_same, take_more gk, List.map_append, nvs_app]
    congr 3
    cases x.spells ((l.drop (i * n)).take n) <;> rfl
  · rintro σ H2 ⟨v4, rfl, s2, hf2⟩
    have s02 := s1.trans s2
    rw [List.take_of_length_le (by rw [List.length_map, hsl]; omega)] at hf2
    generalize hks : (Uw57.split n l).map x.spells = ks at hf2 fin
    have e4 : nvs (ks.map oneIf) = ((ks.map oneIf).map fun (n : Nat) => (n : Int)).map V.int := by
      rw [List.map_map]
      rfl
    have hkl : ks.length ≤ 60 := by
      rw [← hks, List.length_map, hsl]
      have : k * 1 ≤ k * n := Nat.mul_le_mul_left k n0
      omega
    refine ⟨_, rfl, fd, _, rfl, SqL.of (by rw [hf2, e4]), size_le (show 1 ≤ 16777216 by decide), fun q hq => ?_⟩
    have s3 : ∀ u : HO, Same H2 (upd H2 q u) := fun u => same_new hq u
    rw [sum_ones]
    refine ⟨_, rfl, q, fd, _, _, rfl, rfl, upd_same, s3 _ _ _ hf2, ?_, fun t ht => ?_⟩
    · rw [nvs_len, List.length_map]
      exact size_le (by simp only [List.length_singleton]; omega)
    refine fin _ t (S.go (s02.trans ((s3 _).trans (same_new ht _)))) ((S.same.trans s02).free ((s3 _).free ht)) ?_
    rw [upd_same]
    rfl
theorem sc53 : FnScope ["cubes", "size", "words"] ["cubes", "size"] (defScope (top 53)) := ⟨rfl, rfl, rfl, by decide +kernel, rfl, by decide +kernel, by decide +kernel⟩
theorem ok_all (D : DefAt K mg "all_words" "all_words" (top 53) ["cubes", "size"]) (mL : mg "len" = none) (mI : mg "list" = none) (nN : Num mg "NOT_SO" (-1)) (nM : Num mg "MOST_SIZE" 3)
    (C0 : Cal P w K mg base (L2.CX P w) 3 "check" ["is_right", "number"] (spCheck C)) (C1 : Cal P w K mg base CX0 3 "spelled_words" ["cubes", "size"] (spAllWords CC)) : Cal P w K mg base (L2.CX P w) 4 "all_words" ["cubes", "size"] (spAll CC C) := by
  refine D.okX sc53 (fun vs H Q E h => ?_) (fun f cdv A outer s H vs Q E hr h => ?_)
  · obtain ⟨G, c, x, n, rfl, _⟩ := h
    rfl
  obtain ⟨G, c, x, n, rfl, S, dn⟩ := h
  refine ⟨_, pss_cons (ps_expr (pe_cal (E := E) C0 hr (passes_call (takes_of rfl rfl rfl rfl) fun _ _ _ _ z => z) (pa_cons (pe_chain op_le op_le pe_int (pv 1) (pe_num nM)) (pa_cons (pe_num nN) pa_nil))))
    (PSs.nox (pss_cons (ps_set (i := 2) sc53.nd rfl (Or.inl rfl) (pe_cal C1 hr pass0 (pa_cons (pv 0) (pa_cons (pv 1) pa_nil))))
    (pss_cons (ps_if (pt_cmpR (op_eqD hr.units) (pv 2) (pe_lst pa_nil) (nomark _)) (pss_one (ps_ret (pe_lst (pa_cons pe_int pa_nil)))) pss_nil)
    (pss_one (ps_ret (pe_op op_cat (pe_op op_cat (pe_lst (pa_cons (pe_callB call_len_seq (by rfl) mL PySem.boot_len (pa_cons (pv 2) pa_nil)) pa_nil)) (pe_callTy call_list_of (by rfl) mI (by decide +kernel) (pa_cons (pe_ix ix_list (pv 2) pe_int (fun _ _ => rfl)) pa_nil)))
      (pe_callTy call_list_of (by rfl) mI (by decide +kernel) (pa_cons (pe_ix ix_list (pv 2) (pe_un un_neg pe_int) (fun _ _ => rfl)) pa_nil)))))))), ?_⟩
  have no : (n = 0 ∨ Uw57.LONG < n) → Raised C (-1) H E := fun z => dn.no (y := x) (by
    show (x, if n = 0 ∨ Uw57.LONG < n then _ else _) = _
    rw [if_pos z]) (by decide)
  refine ⟨_, rfl, _, _, rfl, rfl, _, rfl, ?_⟩
  refine ite2 (fun e1 => ?_) (fun e1 => ?_)
  rotate_left
  · refine ⟨_, _, rfl, (fun z => nomatch z), fun _ => no (.inl ?_)⟩
    have : ¬ _ := fun z => e1 (decide_eq_true z)
    omega
  have n0 : 0 < n := by
    have := of_decide_eq_true e1
    omega
  refine ⟨_, _, rfl, rfl, _, _, rfl, fun e2 => ?_, fun e2 => ?_⟩
  rotate_left
  · refine no (.inr ?_)
    have : ¬ _ := fun z => Bool.eq_false_iff.mp e2 (decide_eq_true z)
    unfold Uw57.LONG
    omega
  have n3 : n ≤ 3 := by
    have := of_decide_eq_true e2
    omega
  have es : Uw57.step x (.all n) = (x, ⟨((x.all n).length : Nat), (x.all n).headD [] ++ (x.all n).getLastD []⟩) := by
    show (x, if n = 0 ∨ Uw57.LONG < n then _ else _) = _
    rw [if_neg (by unfold Uw57.LONG; omega)]
  have fin := dn.yes es
  have hlen := all_len x n
  have hlen2 : 36 ^ n ≤ 36 ^ 3 := Nat.pow_le_pow_right (by decide) n3
  have hword := all_word x n
  refine ⟨_, rfl, _, rfl, c, x, n, rfl, S.read, n3, fun H1 p rs s1 hp dW => ?_⟩
  refine ⟨_, rfl, size_le (by decide), fun e0 he0 => ?_⟩
  have s2 := same_new he0 (.lst [])
  have s02 := s1.trans s2
  refine eq_tups (s2 _ _ hp) (dW.same s2) upd_same ⟨_, rfl, ?_⟩
  generalize hA : x.all n = A at dW fin hlen hword
  cases A with
  | nil =>
    refine iteT ?_
    refine ⟨size_le (show 1 ≤ 16777216 by decide), fun q hq => ?_⟩
    refine fin _ q (S.go (s02.trans (same_new hq _))) ((S.same.trans s02).free hq) ?_
    rw [upd_same]
    rfl
  | cons v A =>
    refine iteF ?_
    have hp2 := s2 _ _ hp
    have dW2 := dW.same s2
    obtain ⟨vp, hv1, hv2⟩ := dW2.2 0 v rfl
    -- the last one
    have hlast : ∃ u, (v :: A).getLastD [] = u ∧ (v :: A)[(v :: A).length - 1]? = some u := ⟨_, rfl, by
      rw [List.getLastD_cons, List.getElem?_eq_getElem (by simp)]
      congr 1
      rw [← List.getLast_eq_getElem (by simp)]
      cases A with
      | nil => rfl
      | cons b r => simp [List.getLastD, List.getLast_cons]⟩
    obtain ⟨u, hu1, hu2⟩ := hlast
    obtain ⟨up, hup1, hup2⟩ := dW2.2 _ u hu2
    have ixl : atI rs (-1) = some (.ref up) := by
      have hne : rs ≠ [] := fun z => by
        have := dW.1
        rw [z] at this
        simp at this
      obtain ⟨ini, l, rfl⟩ : ∃ ini l, rs = ini ++ [l] := ⟨rs.dropLast, rs.getLast hne, (List.dropLast_concat_getLast hne).symm⟩
      have e := dW.1
      rw [List.length_append, List.length_singleton] at e
      rw [← e, Nat.add_sub_cancel, List.getElem?_append_right (Nat.le_refl _)] at hup1
      have : l = .ref up := by simpa using hup1
      rw [← this]
      exact atI_last ini l
    have hvl : v.length = n := hword v List.mem_cons_self
    have hul : u.length = n := hword u (List.mem_of_getElem? hu2)
    refine ⟨_, rfl, p, _, rfl, .inl (SqL.of hp2), size_le (show 1 ≤ 16777216 by decide), fun q hq => ?_⟩
    have s3 : ∀ z : HO, Same (upd H1 e0 (.lst [])) (upd (upd H1 e0 (.lst [])) q z) := fun z => same_new hq z
    refine ⟨_, rfl, p, _, _, _, rfl, rfl, SqL.of (s3 _ _ _ hp2), at_of (j := 0) rfl hv1, vp, _, rfl, .inr (SqT.of (s3 _ _ _ hv2)), fun l1 hl1 => ?_⟩
    have t1 := upd_same (H := upd H1 e0 (.lst [])) (a := q) (o := .lst [V.int ((rs.length : Nat) : Int)])
    have s4 := same_new hl1 (.lst (nvs v))
    refine ⟨q, l1, _, _, rfl, rfl, s4 _ _ t1, upd_same, ?_, fun t2 ht2 => ?_⟩
    · rw [nvs_len]
      exact size_le (by simp only [List.length_singleton]; omega)
    have s5 := same_new ht2 (.lst ([V.int ((rs.length : Nat) : Int)] ++ nvs v))
    refine ⟨_, rfl, _, rfl, p, _, _, _, rfl, rfl, SqL.of (s5 _ _ (s4 _ _ (s3 _ _ _ hp2))), ixl, up, _, rfl, .inr (SqT.of (s5 _ _ (s4 _ _ (s3 _ _ _ hup2)))), fun l2 hl2 => ?_⟩
    have s6 := same_new hl2 (.lst (nvs u))
    refine ⟨t2, l2, _, _, rfl, rfl, s6 _ _ upd_same, upd_same, ?_, fun t3 ht3 => ?_⟩
    · rw [nvs_len, List.length_append, nvs_len]
      exact size_le (by simp only [List.length_singleton]; omega)
    have s7 : ∀ z : HO, Same _ (upd _ t3 z) := fun z => same_new ht3 z
    have all7 := fun z => (s3 _).trans (s4.trans (s5.trans (s6.trans (s7 z))))
    refine fin _ t3 (S.go (s02.trans (all7 _))) ((S.same.trans s02).free ((s3 _).free (s4.free (s5.free (s6.free ht3))))) ?_
    rw [upd_same, hu1, dW.1]
    show some (HO.lst ((_ ++ _) ++ _)) = some (HO.lst (_ :: nvs (v ++ u)))
    rw [nvs_app]
    rfl
end
end Lc
set_option Elab.async false
set_option linter.all false
set_option maxRecDepth 100000
set_option maxHeartbeats 2000000
namespace Lc
open PySem L2 PySem.Spec PyProof.Rows
/-! design -/
def spDesign (K : PySem.W.Frag) (CC C : Addr) : Sp := fun vs H Q E => ∃ (G : Hp) (c a : Addr) (x : Uw57.Box) (l : List Nat), vs = [.ref c, .ref a] ∧ CubS CC G H c x ∧ SqL K H a (nvs l) ∧ l.length ≤ 80 ∧ Done CC C G c (Uw57.step x (.design l)) H Q E
theorem words_within {x : Uw57.Box} {l : List Nat} (he : l.length % 2 = 0) : Within2 (wordsM (x.used (Uw57.split 2 l)) ((Uw57.split 2 l).map fun w => w.map x.one_)) (x.used (Uw57.split 2 l)).length := by
  intro p hp
  unfold wordsM at hp
  rw [List.map_map] at hp
  obtain ⟨wd, hw, rfl⟩ := List.mem_map.mp hp
  obtain ⟨a, b, rfl, ha, hb⟩ := word_two he hw
  have h1 := idx_used (x := x) ha
  have h2 := idx_used (x := x) hb
  show min _ _ ≤ max _ _ ∧ max ((x.used (Uw57.split 2 l)).idxOf (x.one_ a)) ((x.used (Uw57.split 2 l)).idxOf (x.one_ b)) < _
  omega
section
variable {P : Program} {w : World} {K : PySem.W.Frag} {mg : Str → Option Value} {base : Heap} {CC CD C : Addr}
theorem sc54 : FnScope ["cubes", "letters", "known", "found", "first", "second"] ["cubes", "letters"] (defScope (top 54)) := ⟨rfl, rfl, rfl, by decide +kernel, rfl, by decide +kernel, by decide +kernel⟩
theorem ok_design (D : DefAt K mg "design" "design" (top 54) ["cubes", "letters"]) (T : CubT K mg CC) (mL : mg "len" = none) (nN : Num mg "NOT_SO" (-1)) (nM : Num mg "MOST_LETTERS" 10) (nT : Num mg "TOO_MANY" (-7)) (nO : Num mg "NO_LETTERING" (-6))
    (C0 : Cal P w K mg base (L2.CX P w) 3 "check" ["is_right", "number"] (spCheck C)) (C1 : Cal P w K mg base (L2.CX P w) 4 "check_letters" ["letters"] (spCheckL K C)) (C2 : Cal P w K mg base CX0 2 "letters_of" ["others", "letters"] (spLetters K))
    (C3 : Cal P w K mg base CX0 2 "words_of" ["others", "known", "letters"] (spWords K)) (C4 : Cal P w K mg base CX0 16 "lettering_of" ["letters", "words"] spLettering) : Cal P w K mg base (L2.CX P w) 17 "design" ["cubes", "letters"] (spDesign K CC C) := by
  refine D.okX sc54 (fun vs H Q E h => ?_) (fun f cdv A outer s H vs Q E hr h => ?_)
  · obtain ⟨G, c, a, x, l, rfl, _⟩ := h
    rfl
  obtain ⟨G, c, a, x, l, rfl, S, hS, hl, dn⟩ := h
  refine ⟨_, pss_cons (ps_expr (pe_cal (E := E) C0 (hr.mono (by decide)) (passes_call (takes_of rfl rfl rfl rfl) fun _ _ _ _ z => z) (pa_cons (pe_cmpR op_eq (pe_op op_mod (pe_callB call_len_seq (by rfl) mL PySem.boot_len (pa_cons (pv 1) pa_nil)) pe_int) pe_int (nomark _)) (pa_cons (pe_num nN) pa_nil))))
    (pss_cons (ps_expr (pe_cal (E := E) C1 (hr.mono (by decide)) (passes_call (takes_of rfl rfl rfl rfl) fun _ _ _ _ z => z) (pa_cons (pv 1) pa_nil)))
    (pss_cons (ps_set (i := 2) sc54.nd rfl (Or.inl rfl) (pe_cal C2 (hr.mono (by decide)) pass0 (pa_cons (pe_fld (pv 0) rfl) (pa_cons (pv 1) pa_nil))))
    (pss_cons (ps_expr (pe_cal (E := E) C0 (hr.mono (by decide)) (passes_call (takes_of rfl rfl rfl rfl) fun _ _ _ _ z => z) (pa_cons (pe_cmpR op_le (pe_callB call_len_seq (by rfl) mL PySem.boot_len (pa_cons (pv 2) pa_nil)) (pe_num nM) (nomark _)) (pa_cons (pe_num nT) pa_nil))))
    (pss_cons (ps_set (i := 3) sc54.nd rfl (Or.inl rfl) (pe_cal C4 hr pass0 (pa_cons (pv 2) (pa_cons (pe_cal C3 (hr.mono (by decide)) pass0 (pa_cons (pe_fld (pv 0) rfl) (pa_cons (pv 2) (pa_cons (pv 1) pa_nil)))) pa_nil))))
    (pss_cons (ps_expr (pe_cal (E := E) C0 (hr.mono (by decide)) (passes_call (takes_of rfl rfl rfl rfl) fun _ _ _ _ z => z) (pa_cons (pe_cmpR op_notN (pv 3) pe_non (nomark _)) (pa_cons (pe_num nO) pa_nil))))
    (PSs.nox (pss_cons (ps_asg (pv 3) (pg_tup rfl (pgs_cons (pg_name (i := 4) sc54.nd rfl (Or.inl rfl)) (pgs_cons (pg_name (i := 5) sc54.nd rfl (Or.inl rfl)) pgs_nil))))
    (pss_one (ps_ret (pe_op op_cat (pe_op op_cat (pe_lst (pa_cons (pe_op op_add (pe_callB call_len_seq (by rfl) mL PySem.boot_len (pa_cons (pv 4) pa_nil)) (pe_callB call_len_seq (by rfl) mL PySem.boot_len (pa_cons (pv 5) pa_nil)))
      (pa_cons (pe_callB call_len_seq (by rfl) mL PySem.boot_len (pa_cons (pv 4) pa_nil)) pa_nil))) (pv 4)) (pv 5))))))))))), ?_⟩
  obtain ⟨dx, r, o, rs, kvs, _, _, _, h1, h2, h3, h4, h5⟩ := S.ob
  have no1 : (l.length % 2 ≠ 0 ∨ Uw57.areLetters l = false) → Raised C (-1) H E := fun z => dn.no (y := x) (by
    show (x, if l.length % 2 ≠ 0 ∨ Uw57.areLetters l = false then _ else _) = _
    rw [if_pos z]) (by decide)
  refine ⟨_, rfl, a, _, rfl, .inl hS, _, _, rfl, rfl, (by show (0 : Int) < 2; decide), rfl, ?_⟩
  rw [nvs_len]
  refine ⟨_, _, rfl, fun e1 => ?_, fun e1 => ?_⟩
  rotate_left
  · refine no1 (.inl fun z => ?_)
    refine Bool.eq_false_iff.mp e1 (decide_eq_true ?_)
    show V.int _ = V.int 0
    congr 1
    omega
  have he : l.length % 2 = 0 := by
    have z := of_decide_eq_true e1
    have : (((l.length : Nat) : Int) % 2) = 0 := by injection z
    omega
  refine ⟨_, rfl, a, l, rfl, hS, by omega, fun e2 H1 s1 => ?_, fun e2 => no1 (.inr e2)⟩
  refine ⟨_, rfl, c, CC, dx, _, _, rfl, s1 _ _ h1, T.cl, T.nO, cf_others _ _, _, rfl, o, a, kvs, x, l, rfl, s1 _ _ h4, h5, s1.seq hS, by omega, fun H2 kn s2 nkn hkn => ?_⟩
  have s02 := s1.trans s2
  generalize hks : x.used (Uw57.split 2 l) = ks at hkn
  refine ⟨_, rfl, kn, _, rfl, .inl (SqL.of hkn), _, _, rfl, rfl, ?_⟩
  rw [nvs_len]
  refine ⟨_, _, rfl, fun e3 => ?_, fun e3 => ?_⟩
  rotate_left
  · refine Raised.go (dn.no (y := x) ?_ (by decide)) s02
    show (x, if l.length % 2 ≠ 0 ∨ Uw57.areLetters l = false then _ else if Uw57.KINDS < (x.used (Uw57.split 2 l)).length then _ else _) = _
    rw [if_neg (by rw [e2]; simp [he]), if_pos]
    rw [hks]
    have : ¬ _ := fun z => Bool.eq_false_iff.mp e3 (decide_eq_true z)
    unfold Uw57.KINDS
    omega
  have hk10 : ks.length ≤ 10 := by
    have := of_decide_eq_true e3
    omega
  have hmem : ∀ b ∈ l, x.one_ b ∈ ks := fun b hb => by
    rw [← hks]
    exact (used_mem x l _).mpr (List.mem_map.mpr ⟨b, hb, rfl⟩)
  have hwith := words_within (x := x) he
  have hdes := design_is (x := x) he
  rw [hks] at hwith hdes
  generalize hW : wordsM ks ((Uw57.split 2 l).map fun w => w.map x.one_) = W at hwith hdes
  refine ⟨_, rfl, _, rfl, c, CC, dx, _, _, rfl, s02 _ _ h1, T.cl, T.nO, cf_others _ _, _, rfl, _, rfl, o, kn, a, kvs, x, ks, l, rfl, s02 _ _ h4, h5, hkn, s02.seq hS, by omega, he, hmem, ?_⟩
  rw [hW]
  intro H3 wp ws s3 hwp dW
  have s03 := s02.trans s3
  refine ⟨kn, wp, ks, W, ws, rfl, s3 _ _ hkn, hwp, dW, hwith, hk10, fun en H4 s4 => ?_, fun b eb H4 t f s s4 ht hf hs => ?_⟩
  · -- there's none
    have s04 := s03.trans s4
    refine ⟨_, rfl, rfl, _, _, rfl, fun z => ?_, fun _ => ?_⟩
    · cases z
    · refine Raised.go (dn.no (y := x) ?_ (by decide)) s04
      show (x, if l.length % 2 ≠ 0 ∨ Uw57.areLetters l = false then _ else if Uw57.KINDS < (x.used (Uw57.split 2 l)).length then _ else _) = _
      rw [if_neg (by rw [e2]; simp [he]), if_neg (by rw [hks]; unfold Uw57.KINDS; omega), hdes, en]
      rfl
  · have s04 := s03.trans s4
    have es : Uw57.step x (.design l) = (x, ⟨(((Uw57.on 1 ks b).length + (Uw57.on 2 ks b).length : Nat) : Int), (Uw57.on 1 ks b).length :: (Uw57.on 1 ks b ++ Uw57.on 2 ks b)⟩) := by
      show (x, if l.length % 2 ≠ 0 ∨ Uw57.areLetters l = false then _ else if Uw57.KINDS < (x.used (Uw57.split 2 l)).length then _ else _) = _
      rw [if_neg (by rw [e2]; simp [he]), if_neg (by rw [hks]; unfold Uw57.KINDS; omega), hdes, eb]
      rfl
    have fin := dn.yes es
    obtain ⟨bl, bk⟩ := search_mem hwith eb
    have l1 : (Uw57.on 1 ks b).length ≤ 10 := by
      rw [on_is 1 (.inl rfl) ks b bk]
      exact Nat.le_trans (onM_len 1 ks b) hk10
    have l2 : (Uw57.on 2 ks b).length ≤ 10 := by
      rw [on_is 2 (.inr rfl) ks b bk]
      exact Nat.le_trans (onM_len 2 ks b) hk10
    generalize Uw57.on 1 ks b = A1 at hf fin l1
    generalize Uw57.on 2 ks b = A2 at hs fin l2
    refine ⟨_, rfl, rfl, _, _, rfl, fun _ => ?_, fun z => ?_⟩
    · refine ⟨_, rfl, t, _, rfl, SqT.of ht, rfl, _, _, rfl, _, _, rfl, rfl, ?_⟩
      refine ⟨_, rfl, f, _, rfl, .inl (SqL.of hf), _, rfl, s, _, rfl, .inl (SqL.of hs), _, _, rfl, rfl, _, rfl, f, _, rfl, .inl (SqL.of hf), size_le (show 2 ≤ 16777216 by decide), fun q hq => ?_⟩
      rw [nvs_len, nvs_len]
      have s5 : ∀ u : HO, Same H4 (upd H4 q u) := fun u => same_new hq u
      refine ⟨_, rfl, q, f, _, _, rfl, rfl, upd_same, s5 _ _ _ hf, ?_, fun t2 ht2 => ?_⟩
      · rw [nvs_len]
        exact size_le (by show 2 + _ ≤ _; omega)
      have s6 : ∀ u : HO, Same _ (upd _ t2 u) := fun u => same_new ht2 u
      refine ⟨_, rfl, t2, s, _, _, rfl, rfl, upd_same, s6 _ _ _ (s5 _ _ _ hs), ?_, fun t3 ht3 => ?_⟩
      · rw [List.length_append, nvs_len, nvs_len]
        exact size_le (by show 2 + _ + _ ≤ _; omega)
      refine fin _ t3 (S.go (s04.trans ((s5 _).trans ((s6 _).trans (same_new ht3 _))))) ((S.same.trans s04).free ((s5 _).free ((s6 _).free ht3))) ?_
      rw [upd_same]
      show some (HO.lst ((_ ++ _) ++ _)) = some (HO.lst (_ :: _ :: nvs (A1 ++ A2)))
      rw [nvs_app]
      rfl
    · cases z
end
end Lc
set_option Elab.async false
set_option linter.all false
set_option maxRecDepth 100000
set_option maxHeartbeats 2000000
namespace Lc
open PySem L2 PySem.Spec PyProof.Rows
/-! The desk stands outside the cubes -/
theorem none_of {G : Hp} {d p : Addr} {o : HO} (h : (upd G d o) p = none) : G p = none ∧ p ≠ d := by
  by_cases e : p = d
  · rw [e, upd_same] at h
    cases h
  · rw [upd_ne e] at h
    exact ⟨h, e⟩
theorem CubS.wide {CC : Addr} {G H : Hp} {c d : Addr} {x : Uw57.Box} {CD dx : Addr} {fs : List (Str × V)} (S : CubS CC G H c x) (hd : H d = some (.ins CD dx fs)) (gd : G d = none) (ne : c ≠ d) : CubS CC (upd G d (.ins CD dx fs)) H c x := by
  obtain ⟨dy, r, o, rs, kvs, g1, g2, g3, h1, h2, h3, h4, h5⟩ := S.ob
  refine ⟨fun b u q => ?_, ?_, ⟨dy, r, o, rs, kvs, ?_, ?_, fun q hq => ?_, h1, h2, h3, h4, h5⟩, S.n5, S.n3⟩
  · by_cases e : b = d
    · rw [e, upd_same] at q
      rw [e, hd]
      exact q
    · rw [upd_ne e] at q
      exact S.same b u q
  · rw [upd_ne ne]
    exact S.gc
  · rw [upd_ne (ne_of h2 hd (by intro z; cases z))]
    exact g1
  · rw [upd_ne (ne_of h4 hd (by intro z; cases z))]
    exact g2
  · obtain ⟨i, hi⟩ := List.mem_iff_getElem?.mp hq
    obtain ⟨wd, p, _, e, hp⟩ := h3.get hi
    have : q = p := by injection e
    subst this
    rw [upd_ne (ne_of (del_some hp).2 hd (by intro z; cases z))]
    exact g3 q hq
theorem CubS.thin {CC : Addr} {G H : Hp} {c d : Addr} {x : Uw57.Box} {o : HO} (S : CubS CC (upd G d o) H c x) (gd : G d = none) : CubS CC G H c x := by
  obtain ⟨dy, r, o', rs, kvs, g1, g2, g3, h⟩ := S.ob
  exact ⟨(same_new gd _).trans S.same, (none_of S.gc).1, ⟨dy, r, o', rs, kvs, (none_of g1).1, (none_of g2).1, fun q hq => (none_of (g3 q hq)).1, h⟩, S.n5, S.n3⟩
def DoneD (CD CC C : Addr) (G : Hp) (d : Addr) (R : Uw57.Box × Uw57.Ans) (H : Hp) (Q : VK) (E : XK) : Prop :=
  (R.2.v < 0 → Raised C R.2.v H E) ∧ (¬ R.2.v < 0 → ∀ (H' : Hp) (p : Addr), DeskS CD CC G H' d R.1 → G p = none → H' p = some (.lst (outV R.2)) → Q (.ref p) H')
theorem DoneD.cub {CD CC C : Addr} {G : Hp} {d c dx : Addr} {R : Uw57.Box × Uw57.Ans} {H : Hp} {Q : VK} {E : XK} (dd : DoneD CD CC C G d R H Q E) (gd : G d = none) (ne : c ≠ d) : Done CC C (upd G d (.ins CD dx (df c))) c R H Q E :=
  ⟨dd.1, fun h H' p S gp hp => dd.2 h H' p ⟨gd, dx, c, ne, S.same _ _ upd_same, S.thin gd⟩ (none_of gp).1 hp⟩
/-! answered -/
def spAnswered (K : PySem.W.Frag) (CD CC C : Addr) : Sp := fun vs H Q E => ∃ (G : Hp) (d wa la : Addr) (x : Uw57.Box) (k : Nat) (ws : List Nat) (ls : List (List Nat)) (lvs : List V) (cl : Uw57.Call), vs = [.ref d, nv k, .ref wa, .ref la] ∧ DeskS CD CC G H d x ∧
  H wa = some (.lst (nvs ws)) ∧ H la = some (.lst lvs) ∧ Deep .lst H lvs ls ∧ GoodC k ws ls cl ∧ DoneD CD CC C G d (Uw57.step x cl) H Q E
theorem ifK_ne {k j : Nat} {A B : Prop} (h : k ≠ j) (b : B) : if decide (nv k = V.int ((j : Nat) : Int)) = true then A else B := by
  rw [if_neg]
  · exact b
  · intro z
    have := of_decide_eq_true z
    unfold nv at this
    have : ((k : Nat) : Int) = ((j : Nat) : Int) := by injection this
    omega
theorem ifK_eq {k : Nat} {A B : Prop} (a : A) : if decide (nv k = V.int ((k : Nat) : Int)) = true then A else B := by
  rw [if_pos]
  · exact a
  · exact decide_eq_true rfl
section
variable {P : Program} {w : World} {K : PySem.W.Frag} {mg : Str → Option Value} {base : Heap} {CC CD C : Addr}
theorem sc56 : FnScope ["desk", "kind", "wholes", "lists", "cubes"] ["desk", "kind", "wholes", "lists"] (defScope (top 56)) := ⟨rfl, rfl, rfl, by decide +kernel, rfl, by decide +kernel, by decide +kernel⟩
theorem ok_answered (D : DefAt K mg "answered" "answered" (top 56) ["desk", "kind", "wholes", "lists"]) (T : DeskT K CD)
    (C0 : Cal P w K mg base (L2.CX P w) 4 "begins" ["desk", "many"] (spBegins CD CC C)) (C1 : Cal P w K mg base (L2.CX P w) 5 "cube" ["cubes", "number", "letters"] (spCube K CC C)) (C2 : Cal P w K mg base (L2.CX P w) 5 "alike" ["cubes", "one", "other"] (spAlike CC C))
    (C3 : Cal P w K mg base (L2.CX P w) 5 "spells" ["cubes", "word"] (spSpells K CC C)) (C4 : Cal P w K mg base (L2.CX P w) 5 "listed" ["cubes", "size", "letters"] (spListed K CC C)) (C5 : Cal P w K mg base (L2.CX P w) 4 "all_words" ["cubes", "size"] (spAll CC C))
    (C6 : Cal P w K mg base (L2.CX P w) 17 "design" ["cubes", "letters"] (spDesign K CC C)) (C7 : Cal P w K mg base (L2.CX P w) 5 "shows" ["cubes", "letter"] (spShows CC C)) : Cal P w K mg base (L2.CX P w) 18 "answered" ["desk", "kind", "wholes", "lists"] (spAnswered K CD CC C) := by
  refine D.okX sc56 (fun vs H Q E h => ?_) (fun f cdv A outer s H vs Q E hr h => ?_)
  · obtain ⟨G, d, wa, la, x, k, ws, ls, lvs, cl, rfl, _⟩ := h
    rfl
  obtain ⟨G, d, wa, la, x, k, ws, ls, lvs, cl, rfl, S, hw, hla, dL, g, dd⟩ := h
  have hr4 : Room 4 _ := hr.mono (by decide)
  have hr5 : Room 5 _ := hr.mono (by decide)
  refine ⟨_, pss_cons (ps_set (i := 4) sc56.nd rfl (Or.inl rfl) (pe_fld (pv 0) rfl))
    (pss_cons (ps_if (pt_cmpR op_eq (pv 1) pe_int (nomark _)) (pss_one (ps_ret (pe_cal (E := E) C0 hr4 (passes_call (takes_of rfl rfl rfl rfl) fun _ _ _ _ z => z) (pa_cons (pv 0) (pa_cons (pe_ix ix_list (pv 2) pe_int (fun _ _ => rfl)) pa_nil))))) pss_nil)
    (pss_cons (ps_if (pt_cmpR op_eq (pv 1) pe_int (nomark _)) (pss_one (ps_ret (pe_cal (E := E) C1 hr5 (passes_call (takes_of rfl rfl rfl rfl) fun _ _ _ _ z => z) (pa_cons (pv 4) (pa_cons (pe_ix ix_list (pv 2) pe_int (fun _ _ => rfl)) (pa_cons (pe_ix ix_list (pv 3) pe_int (fun _ _ => rfl)) pa_nil)))))) pss_nil)
    (pss_cons (ps_if (pt_cmpR op_eq (pv 1) pe_int (nomark _)) (pss_one (ps_ret (pe_cal (E := E) C2 hr5 (passes_call (takes_of rfl rfl rfl rfl) fun _ _ _ _ z => z) (pa_cons (pv 4) (pa_cons (pe_ix ix_list (pv 2) pe_int (fun _ _ => rfl)) (pa_cons (pe_ix ix_list (pv 2) pe_int (fun _ _ => rfl)) pa_nil)))))) pss_nil)
    (pss_cons (ps_if (pt_cmpR op_eq (pv 1) pe_int (nomark _)) (pss_one (ps_ret (pe_cal (E := E) C3 hr5 (passes_call (takes_of rfl rfl rfl rfl) fun _ _ _ _ z => z) (pa_cons (pv 4) (pa_cons (pe_ix ix_list (pv 3) pe_int (fun _ _ => rfl)) pa_nil))))) pss_nil)
    (pss_cons (ps_if (pt_cmpR op_eq (pv 1) pe_int (nomark _)) (pss_one (ps_ret (pe_cal (E := E) C4 hr5 (passes_call (takes_of rfl rfl rfl rfl) fun _ _ _ _ z => z) (pa_cons (pv 4) (pa_cons (pe_ix ix_list (pv 2) pe_int (fun _ _ => rfl)) (pa_cons (pe_ix ix_list (pv 3) pe_int (fun _ _ => rfl)) pa_nil)))))) pss_nil)
    (pss_cons (ps_if (pt_cmpR op_eq (pv 1) pe_int (nomark _)) (pss_one (ps_ret (pe_cal (E := E) C5 hr4 (passes_call (takes_of rfl rfl rfl rfl) fun _ _ _ _ z => z) (pa_cons (pv 4) (pa_cons (pe_ix ix_list (pv 2) pe_int (fun _ _ => rfl)) pa_nil))))) pss_nil)
    (pss_cons (ps_if (pt_cmpR op_eq (pv 1) pe_int (nomark _)) (pss_one (ps_ret (pe_cal (E := E) C6 hr (passes_call (takes_of rfl rfl rfl rfl) fun _ _ _ _ z => z) (pa_cons (pv 4) (pa_cons (pe_ix ix_list (pv 3) pe_int (fun _ _ => rfl)) pa_nil))))) pss_nil)
    (pss_one (ps_ret (pe_cal (E := E) C7 hr5 (passes_call (takes_of rfl rfl rfl rfl) fun _ _ _ _ z => z) (pa_cons (pv 4) (pa_cons (pe_ix ix_list (pv 2) pe_int (fun _ _ => rfl)) pa_nil)))))))))))), ?_⟩
  obtain ⟨dx, c, ne, hd, S0⟩ := S.ob
  have S1 := S0.wide hd S.gd ne
  refine ⟨_, rfl, d, CD, dx, _, _, rfl, hd, T.cl, T.nC, df_cubes _, ?_⟩
  cases g with
  | begins n =>
    refine ⟨_, rfl, rfl, _, rfl, ifK_eq (k := 0) ?_⟩
    exact ⟨_, rfl, _, rfl, wa, _, _, _, rfl, rfl, SqL.of hw, at_of (j := 0) rfl rfl, G, d, x, n, rfl, S, dd⟩
  | cube i l h =>
    obtain ⟨lp, g1, g2⟩ := dL.2 0 l rfl
    refine ⟨_, rfl, rfl, _, rfl, ifK_ne (j := 0) (by decide) ?_⟩
    refine ⟨_, rfl, rfl, _, rfl, ifK_eq (k := 1) ?_⟩
    exact ⟨_, rfl, _, rfl, wa, _, _, _, rfl, rfl, SqL.of hw, at_of (j := 0) rfl rfl, _, rfl, la, _, _, _, rfl, rfl, SqL.of hla, at_of (j := 0) rfl g1, _, c, lp, x, i, l, rfl, S1, SqL.of g2, by omega, dd.cub S.gd ne⟩
  | alike a b =>
    refine ⟨_, rfl, rfl, _, rfl, ifK_ne (j := 0) (by decide) ?_⟩
    refine ⟨_, rfl, rfl, _, rfl, ifK_ne (j := 1) (by decide) ?_⟩
    refine ⟨_, rfl, rfl, _, rfl, ifK_eq (k := 2) ?_⟩
    exact ⟨_, rfl, _, rfl, wa, _, _, _, rfl, rfl, SqL.of hw, at_of (j := 0) rfl rfl, _, rfl, wa, _, _, _, rfl, rfl, SqL.of hw, at_of (j := 1) rfl rfl, _, c, x, a, b, rfl, S1, dd.cub S.gd ne⟩
  | spells l h =>
    obtain ⟨lp, g1, g2⟩ := dL.2 0 l rfl
    refine ⟨_, rfl, rfl, _, rfl, ifK_ne (j := 0) (by decide) ?_⟩
    refine ⟨_, rfl, rfl, _, rfl, ifK_ne (j := 1) (by decide) ?_⟩
    refine ⟨_, rfl, rfl, _, rfl, ifK_ne (j := 2) (by decide) ?_⟩
    refine ⟨_, rfl, rfl, _, rfl, ifK_eq (k := 3) ?_⟩
    exact ⟨_, rfl, _, rfl, la, _, _, _, rfl, rfl, SqL.of hla, at_of (j := 0) rfl g1, _, c, lp, x, l, rfl, S1, SqL.of g2, h, dd.cub S.gd ne⟩
  | list n l hn h =>
    obtain ⟨lp, g1, g2⟩ := dL.2 0 l rfl
    refine ⟨_, rfl, rfl, _, rfl, ifK_ne (j := 0) (by decide) ?_⟩
    refine ⟨_, rfl, rfl, _, rfl, ifK_ne (j := 1) (by decide) ?_⟩
    refine ⟨_, rfl, rfl, _, rfl, ifK_ne (j := 2) (by decide) ?_⟩
    refine ⟨_, rfl, rfl, _, rfl, ifK_ne (j := 3) (by decide) ?_⟩
    refine ⟨_, rfl, rfl, _, rfl, ifK_eq (k := 4) ?_⟩
    exact ⟨_, rfl, _, rfl, wa, _, _, _, rfl, rfl, SqL.of hw, at_of (j := 0) rfl rfl, _, rfl, la, _, _, _, rfl, rfl, SqL.of hla, at_of (j := 0) rfl g1, _, c, lp, x, n, l, rfl, S1, SqL.of g2, hn, h, dd.cub S.gd ne⟩
  | all n =>
    refine ⟨_, rfl, rfl, _, rfl, ifK_ne (j := 0) (by decide) ?_⟩
    refine ⟨_, rfl, rfl, _, rfl, ifK_ne (j := 1) (by decide) ?_⟩
    refine ⟨_, rfl, rfl, _, rfl, ifK_ne (j := 2) (by decide) ?_⟩
    refine ⟨_, rfl, rfl, _, rfl, ifK_ne (j := 3) (by decide) ?_⟩
    refine ⟨_, rfl, rfl, _, rfl, ifK_ne (j := 4) (by decide) ?_⟩
    refine ⟨_, rfl, rfl, _, rfl, ifK_eq (k := 5) ?_⟩
    exact ⟨_, rfl, _, rfl, wa, _, _, _, rfl, rfl, SqL.of hw, at_of (j := 0) rfl rfl, _, c, x, n, rfl, S1, dd.cub S.gd ne⟩
  | design l h =>
    obtain ⟨lp, g1, g2⟩ := dL.2 0 l rfl
    refine ⟨_, rfl, rfl, _, rfl, ifK_ne (j := 0) (by decide) ?_⟩
    refine ⟨_, rfl, rfl, _, rfl, ifK_ne (j := 1) (by decide) ?_⟩
    refine ⟨_, rfl, rfl, _, rfl, ifK_ne (j := 2) (by decide) ?_⟩
    refine ⟨_, rfl, rfl, _, rfl, ifK_ne (j := 3) (by decide) ?_⟩
    refine ⟨_, rfl, rfl, _, rfl, ifK_ne (j := 4) (by decide) ?_⟩
    refine ⟨_, rfl, rfl, _, rfl, ifK_ne (j := 5) (by decide) ?_⟩
    refine ⟨_, rfl, rfl, _, rfl, ifK_eq (k := 6) ?_⟩
    exact ⟨_, rfl, _, rfl, la, _, _, _, rfl, rfl, SqL.of hla, at_of (j := 0) rfl g1, _, c, lp, x, l, rfl, S1, SqL.of g2, h, dd.cub S.gd ne⟩
  | shows a =>
    refine ⟨_, rfl, rfl, _, rfl, ifK_ne (j := 0) (by decide) ?_⟩
    refine ⟨_, rfl, rfl, _, rfl, ifK_ne (j := 1) (by decide) ?_⟩
    refine ⟨_, rfl, rfl, _, rfl, ifK_ne (j := 2) (by decide) ?_⟩
    refine ⟨_, rfl, rfl, _, rfl, ifK_ne (j := 3) (by decide) ?_⟩
    refine ⟨_, rfl, rfl, _, rfl, ifK_ne (j := 4) (by decide) ?_⟩
    refine ⟨_, rfl, rfl, _, rfl, ifK_ne (j := 5) (by decide) ?_⟩
    refine ⟨_, rfl, rfl, _, rfl, ifK_ne (j := 6) (by decide) ?_⟩
    exact ⟨_, rfl, _, rfl, wa, _, _, _, rfl, rfl, SqL.of hw, at_of (j := 0) rfl rfl, _, c, x, a, rfl, S1, dd.cub S.gd ne⟩
/-! answer -/
def spAnswer (K : PySem.W.Frag) (CD CC : Addr) : Sp := fun vs H Q _ => ∃ (G : Hp) (d wa la : Addr) (x : Uw57.Box) (k : Nat) (ws : List Nat) (ls : List (List Nat)) (lvs : List V) (cl : Uw57.Call), vs = [.ref d, nv k, .ref wa, .ref la] ∧ DeskS CD CC G H d x ∧
  H wa = some (.lst (nvs ws)) ∧ H la = some (.lst lvs) ∧ Deep .lst H lvs ls ∧ GoodC k ws ls cl ∧
  ∀ (H' : Hp) (p : Addr), DeskS CD CC G H' d (Uw57.step x cl).1 → G p = none → H' p = some (.lst (outV (Uw57.step x cl).2)) → Q (.ref p) H'
theorem pe_calS {X : Cx} {CX : CXT} {k : Nat} {ps : List Str} {sp : Sp} {E : L2.St → XK} {x : Str} {p pos : Pos} {e : Expr} {es : List Expr} {ta : TA} (C : Cal X.prog X.w X.K X.mg X.base CX k x ps sp) (hr : Room k X.A) (hx : ∀ σ, PassesAt CX X σ (E σ)) (ha : PA X (e :: es) ta)
    (hg : Gl X x := by rfl) (hdb : (x == ("__debug__" : Str)) = false := by decide) (he : starEach (e :: es) X.env = (false, eval e X.env) :: starEach es X.env := by rfl) (hpl : (backTo pos (starEach es X.env)).any (·.1) = false := by rfl) :
    PE X (.Call (.Name x p) (e :: es) [] pos) (tCallS sp E ta) := by
  obtain ⟨f, fd, F, b, hm, hk⟩ := C
  exact pe_callS F hr hg hm hk b hx ha hdb he hpl
theorem sc57 : FnScope ["desk", "kind", "wholes", "lists", "found", "refused"] ["desk", "kind", "wholes", "lists"] (defScope (top 57)) := ⟨rfl, rfl, rfl, by decide +kernel, rfl, by decide +kernel, by decide +kernel⟩
theorem ok_answer (D : DefAt K mg "answer" "answer" (top 57) ["desk", "kind", "wholes", "lists"]) (R : RefT K mg C) (C1 : Cal P w K mg base (L2.CX P w) 18 "answered" ["desk", "kind", "wholes", "lists"] (spAnswered K CD CC C)) :
    Cal P w K mg base CX0 19 "answer" ["desk", "kind", "wholes", "lists"] (spAnswer K CD CC) := by
  refine D.ok sc57 (fun vs H Q E h => ?_) (fun f cdv A outer s H vs Q E hr h => ?_)
  · obtain ⟨G, d, wa, la, x, k, ws, ls, lvs, cl, rfl, _⟩ := h
    rfl
  obtain ⟨G, d, wa, la, x, k, ws, ls, lvs, cl, rfl, S, hw, hla, dL, g, q⟩ := h
  refine ⟨_, pss_cons (ps_try_as (i := 5) (tb := fun W => tAsg (tCallS (spAnswered K CD CC C) (WE W) (tCons (tVar 0) (tCons (tVar 1) (tCons (tVar 2) (tCons (tVar 3) tNil))))) (gName 4))
      (ts := fun a cls dd => tRet (tLst (tCons (tXf a cls dd C "number" (tVar 5)) tNil))) (Wout := fun _ _ _ _ => False) rfl rfl sc57.nd rfl rfl ⟨rfl, by decide, Or.inl R.gC⟩ takes0
      (fun W pn xe tk _ => pss_one (ps_set (i := 4) sc57.nd rfl (Or.inl rfl) (by exact (pe_calS C1 hr (fun σ => passAt tk σ) (by exact (pa_cons (pv 0) (pa_cons (pv 1) (pa_cons (pv 2) (pa_cons (pv 3) pa_nil)))))))))
      (fun a oe cls dd pn hz hf => pss_one (ps_ret (by exact (pe_lst (by exact (pa_cons (pe_xf R.xf R.noN hz hf (pv 5)) pa_nil)))))))
    (pss_one (ps_ret (pv 4))), ?_⟩
  refine ⟨_, rfl, _, rfl, _, rfl, _, rfl, G, d, wa, la, x, k, ws, ls, lvs, cl, rfl, S, hw, hla, dL, g, fun neg => ?_, fun pos H' p S' gp hp => ?_⟩
  · obtain ⟨e1, e2⟩ := refused g neg
    intro dd H' hdd s1 hx
    refine ⟨true, R.te, fun _ a0 ha0 => ?_, fun z => Bool.noConfusion z⟩
    refine ⟨_, rfl, rfl, rfl, dd, _, .int (Uw57.step x cl).2.v, rfl, hx, by simp [List.lookup], size_le (show 1 ≤ 16777216 by decide), fun p hp => ?_⟩
    refine q _ p ?_ ?_ ?_
    · rw [e1]
      exact S.go (s1.trans (same_new hp _))
    · obtain ⟨_, _, _, _, S0⟩ := S.ob
      exact (S0.same.trans s1).free hp
    · rw [upd_same]
      unfold outV
      rw [e2]
      rfl
  · exact ⟨_, rfl, q H' p S' gp hp⟩
end
end Lc
set_option Elab.async false
set_option linter.all false
set_option maxRecDepth 100000
set_option maxHeartbeats 4000000
namespace Lc
open PySem L2 PySem.Spec PyProof.Rows
/-! What stands outside grows, is changed -/
theorem same_both {G H : Hp} (s : Same G H) (t : Addr) (o : HO) : Same (upd G t o) (upd H t o) := fun b u q => by
  by_cases e : b = t
  · rw [e, upd_same] at q ⊢
    exact q
  · rw [upd_ne e] at q ⊢
    exact s b u q
/-- a store at t, which is none of the cubes' -/
theorem CubS.store {CC : Addr} {G H : Hp} {c t : Addr} {x : Uw57.Box} (S : CubS CC G H c x) (ht : (∃ u, G t = some u) ∨ H t = none) (o : HO) : CubS CC (upd G t o) (upd H t o) c x ∧ c ≠ t := by
  have far : ∀ {b : Addr} {u : HO}, G b = none → H b = some u → b ≠ t := fun {b u} g h z => by
    subst z
    rcases ht with ⟨v, q⟩ | q
    · rw [g] at q
      cases q
    · rw [h] at q
      cases q
  obtain ⟨dy, r, o', rs, kvs, g1, g2, g3, h1, h2, h3, h4, h5⟩ := S.ob
  refine ⟨⟨same_both S.same t o, ?_, ⟨dy, r, o', rs, kvs, ?_, ?_, fun q hq => ?_, ?_, ?_, ?_, ?_, h5⟩, S.n5, S.n3⟩, far S.gc h1⟩
  · rw [upd_ne (far S.gc h1)]
    exact S.gc
  · rw [upd_ne (far g1 h2)]
    exact g1
  · rw [upd_ne (far g2 h4)]
    exact g2
  · obtain ⟨i, hi⟩ := List.mem_iff_getElem?.mp hq
    obtain ⟨wd, p, _, e, hp⟩ := h3.get hi
    have : q = p := by injection e
    subst this
    rw [upd_ne (far (g3 q hq) (del_some hp).2)]
    exact g3 q hq
  · rw [upd_ne (far S.gc h1)]
    exact h1
  · rw [upd_ne (far g1 h2)]
    exact h2
  · refine ⟨h3.1, fun i wd hw => ?_⟩
    obtain ⟨p, k1, k2⟩ := h3.2 i wd hw
    obtain ⟨n1, k3⟩ := del_some k2
    refine ⟨p, k1, ?_⟩
    rw [del_ne n1, upd_ne (far (g3 p (List.mem_of_getElem? k1)) k3)]
    exact k3
  · rw [upd_ne (far g2 h4)]
    exact h4
theorem DeskS.store {CD CC : Addr} {G H : Hp} {d t : Addr} {x : Uw57.Box} (S : DeskS CD CC G H d x) (ht : (∃ u, G t = some u) ∨ H t = none) (o : HO) : DeskS CD CC (upd G t o) (upd H t o) d x := by
  obtain ⟨dx, c, ne, h1, S0⟩ := S.ob
  have ndt : d ≠ t := fun z => by
    subst z
    rcases ht with ⟨v, q⟩ | q
    · rw [S.gd] at q
      cases q
    · rw [h1] at q
      cases q
  refine ⟨?_, dx, c, ne, ?_, (S0.store ht o).1⟩
  · rw [upd_ne ndt]
    exact S.gd
  · rw [upd_ne ndt]
    exact h1
theorem DeskS.same {CD CC : Addr} {G H : Hp} {d : Addr} {x : Uw57.Box} (S : DeskS CD CC G H d x) : Same G H := by
  obtain ⟨_, _, _, _, S0⟩ := S.ob
  exact S0.same
/-! Reading on -/
theorem drop_step {m : List Nat} {i z : Nat} {r : List Nat} (h : m.drop i = z :: r) : m[i]? = some z ∧ m.drop (i + 1) = r ∧ i < m.length := by
  have hi : i < m.length := by
    have := congrArg List.length h
    rw [List.length_drop, List.length_cons] at this
    omega
  rw [List.drop_eq_getElem_cons hi] at h
  have := List.cons.inj h
  exact ⟨by rw [List.getElem?_eq_getElem hi, this.1], this.2, hi⟩
theorem drop_more {m l r : List Nat} {i : Nat} (h : m.drop i = l ++ r) : (m.drop i).take l.length = l ∧ m.drop (i + l.length) = r := by
  refine ⟨?_, ?_⟩
  · rw [h, List.take_left']
    rfl
  · rw [← List.drop_drop, h, List.drop_left']
    rfl
def wholesN : List Nat := [1, 1, 2, 0, 1, 1, 0, 1]
def listsN : List Nat := [0, 1, 0, 1, 1, 0, 1, 0]
theorem good_counts {k : Nat} {ws : List Nat} {ls : List (List Nat)} {cl : Uw57.Call} (g : GoodC k ws ls cl) : wholesN[k]? = some ws.length ∧ listsN[k]? = some ls.length ∧ ls.length ≤ 1 ∧ ws.length ≤ 2 := by
  cases g <;> exact ⟨rfl, rfl, by simp, by simp⟩
/-- a tuple of the module -/
def TupC (K : PySem.W.Frag) (mg : Str → Option Value) (x : Str) (l : List Nat) : Prop := ∃ a, mg x = some (.ref a) ∧ ∀ H : Hp, SqT K H a (nvs l)
theorem outV_is (a : Uw57.Ans) : outV a = (Uw57Neutral.out a).map V.int := by
  unfold outV Uw57Neutral.out nvs
  rw [List.map_cons, List.map_map]
  rfl
theorem SqL.del {K : PySem.W.Frag} {G H : Hp} {f a : Addr} {xs : List V} (h : SqL K (Lc.del G f) a xs) (s : Same G H) : SqL K H a xs := ((del_same G f).trans s).seq h
def spAnswers (K : PySem.W.Frag) : Sp := fun vs H Q _ => ∃ (a : Addr) (cs : List NC), vs = [.ref a] ∧ SqL K H a (nvs (flatC cs)) ∧ (flatC cs).length ≤ 3400 ∧ (∀ c ∈ cs, GoodC c.k c.ws c.ls c.cl) ∧ (toldM Uw57.init cs).length ≤ 10000000 ∧
  ∀ (H' : Hp) (p : Addr), H' p = some (.lst ((toldM Uw57.init cs).map V.int)) → Q (.ref p) H'
section
variable {P : Program} {w : World} {K : PySem.W.Frag} {mg : Str → Option Value} {base : Heap} {CC CD C : Addr}
theorem sc58 : FnScope ["calls", "desk", "found", "at", "kind", "begin", "wholes", "lists", "k", "end", "numbers"] ["calls"] (defScope (top 58)) := ⟨rfl, rfl, rfl, by decide +kernel, rfl, by decide +kernel, by decide +kernel⟩
theorem ok_answers {fa : Addr} {fda : FuncData} (F : Fun K "answers" "answers" (top 58) fa fda) (mL : mg "len" = none) (mR : mg "range" = none) (tW : TupC K mg "WHOLES" wholesN) (tL : TupC K mg "LISTS" listsN)
    (M : Mak P w K mg base 3 "Desk" ["self"] CD (spInitD CD CC)) (C1 : Cal P w K mg base CX0 19 "answer" ["desk", "kind", "wholes", "lists"] (spAnswer K CD CC)) : FnOk P w K mg base CX0 20 fa fda ["calls"] (spAnswers K) := by
  obtain ⟨aW, gW, sW⟩ := tW
  obtain ⟨aL, gL, sL⟩ := tL
  refine F.ok sc58 (fun vs H Q E h => ?_) (fun cdv A outer s H vs Q E hr h => ?_)
  · obtain ⟨a, cs, rfl, _⟩ := h
    rfl
  obtain ⟨a, cs, rfl, hS, hm, good, hlen, q⟩ := h
  refine ⟨_, pss_cons (ps_set (i := 1) sc58.nd rfl (Or.inl rfl) (pe_mak0 M (hr.mono (by decide))))
    (pss_cons (ps_set (i := 2) sc58.nd rfl (Or.inl rfl) (pe_lst pa_nil))
    (pss_cons (ps_set (i := 3) sc58.nd rfl (Or.inl rfl) pe_int)
    (pss_cons (ps_while PassesOwn.never (pt_cmpR op_lt (pv 3) (pe_callB call_len_seq (by rfl) mL PySem.boot_len (pa_cons (pv 0) pa_nil)) (nomark _))
      (pss_cons (ps_set (i := 4) sc58.nd rfl (Or.inl rfl) (pe_ix ix_list (pv 0) (pv 3) (fun _ _ => rfl)))
      (pss_cons (ps_set (i := 5) sc58.nd rfl (Or.inl rfl) (pe_op op_add (pe_op op_add (pv 3) pe_int) (pe_ix ix_tup (pe_glob (v := .ref aW) rfl gW rfl) (pv 4) (fun _ _ => rfl))))
      (pss_cons (ps_set (i := 6) sc58.nd rfl (Or.inl rfl) (pe_slice sl_list (pv 0) (po_some (pe_op op_add (pv 3) pe_int)) (po_some (pv 5))))
      (pss_cons (ps_set (i := 7) sc58.nd rfl (Or.inl rfl) (pe_lst pa_nil))
      (pss_cons (ps_set (i := 3) sc58.nd rfl (Or.inl rfl) (pv 5))
      (pss_cons (ps_for PassesOwn.never rfl (pi_range1 rfl mR (pa_cons (pe_ix ix_tup (pe_glob (v := .ref aL) rfl gL rfl) (pv 4) (fun _ _ => rfl)) pa_nil)) (pg_name (i := 8) sc58.nd rfl (Or.inl rfl))
        (pss_cons (ps_set (i := 9) sc58.nd rfl (Or.inl rfl) (pe_op op_add (pe_op op_add (pv 3) pe_int) (pe_ix ix_list (pv 0) (pv 3) (fun _ _ => rfl))))
        (pss_cons (ps_expr (pe_bm PySem.F.plainAttrs_list PySem.F.slot_list_append PySem.F.type_list_append mt_append (pv 7) (pa_cons (pe_slice sl_list (pv 0) (po_some (pe_op op_add (pv 3) pe_int)) (po_some (pv 9))) pa_nil)))
        (pss_one (ps_set (i := 3) sc58.nd rfl (Or.inl rfl) (pv 9))))))
      (pss_cons (ps_set (i := 10) sc58.nd rfl (Or.inl rfl) (pe_cal C1 hr pass0 (pa_cons (pv 1) (pa_cons (pv 4) (pa_cons (pv 6) (pa_cons (pv 7) pa_nil))))))
      (pss_cons (ps_expr (pe_bm PySem.F.plainAttrs_list PySem.F.slot_list_append PySem.F.type_list_append mt_append (pv 2) (pa_cons (pe_callB call_len_seq (by rfl) mL PySem.boot_len (pa_cons (pv 10) pa_nil)) pa_nil)))
      (pss_one (ps_expr (pe_bm PySem.F.plainAttrs_list PySem.F.slot_list_extend PySem.F.type_list_extend mt_extend (pv 2) (pa_cons (pv 10) pa_nil)))))))))))))
    (pss_one (ps_ret (pv 2)))))), ?_⟩
  generalize hans : toldM Uw57.init cs = ans at hlen q
  generalize hmm : flatC cs = m at hS hm
  -- desk = Desk(); found = []
  refine fun d dd nd ndd nex => ⟨H, d, dd, rfl, ?_, nd, upd_same, fun H1 S1 => ⟨rfl, ?_⟩⟩
  · intro b o e
    rw [upd_ne (ne_of_none e nd), upd_ne (ne_of_none e ndd)]
    exact e
  refine ⟨size_le (by decide), fun f hf => ?_⟩
  have S2 := S1.store (.inr hf) (.lst [])
  have Hf : H f = none := S1.same.free hf
  -- the while
  refine ⟨fun n σ H' => ∃ (G : Hp) (rest : List NC) (x : Uw57.Box) (at' : Nat) (fnd : List Int) (v4 v5 v6 v7 v8 v9 v10 : Option V), rest.length = n ∧
    σ = [some (.ref a), some (.ref d), some (.ref f), some (nv at'), v4, v5, v6, v7, v8, v9, v10] ∧ DeskS CD CC G H' d x ∧ SqL K (del G f) a (nvs m) ∧ G f = some (.lst (fnd.map V.int)) ∧ m.drop at' = flatC rest ∧ at' ≤ m.length ∧
    (∀ c ∈ rest, GoodC c.k c.ws c.ls c.cl) ∧ fnd ++ toldM x rest = ans, ⟨cs.length, _, cs, Uw57.init, 0, [], none, none, none, none, none, none, none, rfl, rfl, S2, ?_, upd_same, ?_, Nat.zero_le _, good, ?_⟩, ?_⟩
  · rw [del_upd]
    exact (same_del_of (Same.refl H) Hf).seq hS
  · rw [List.drop_zero]
    exact hmm.symm
  · rw [List.nil_append]
    exact hans
  rintro n σ H2 ⟨G, rest, x, at', fnd, v4, v5, v6, v7, v8, v9, v10, rfl, rfl, S, hSG, gf, hdrop, hat, hgood, htold⟩
  have hS2 : SqL K H2 a (nvs m) := SqL.del hSG S.same
  refine ⟨_, rfl, _, rfl, a, _, rfl, .inl hS2, _, _, rfl, rfl, _, rfl, ?_⟩
  rw [nvs_len]
  cases rest with
  | nil =>
    have hge : m.length ≤ at' := by
      have : m.drop at' = [] := hdrop
      have := congrArg List.length this
      rw [List.length_drop] at this
      simp at this
      omega
    rw [if_neg (fun z => by have := of_decide_eq_true z; omega)]
    have : fnd = ans := by
      have z : fnd ++ [] = ans := htold
      rw [List.append_nil] at z
      exact z
    refine ⟨_, rfl, q H2 f ?_⟩
    rw [S.same _ _ gf, this]
  | cons nc rest =>
    have hd0 : m.drop at' = nc.k :: (nc.ws ++ (flatL nc.ls ++ flatC rest)) := by
      rw [hdrop]
      show (nc.k :: (nc.ws ++ flatL nc.ls)) ++ flatC rest = _
      simp
    obtain ⟨gk, hd1, hlt⟩ := drop_step hd0
    obtain ⟨hws, hd2⟩ := drop_more hd1
    rw [if_pos (decide_eq_true (by omega))]
    have gc := hgood nc List.mem_cons_self
    obtain ⟨c1, c2, c3, c4⟩ := good_counts gc
    have hk8 : nc.k < 8 := (List.getElem?_eq_some_iff.mp c1).1
    refine ⟨fun σ' H' => ∃ (G : Hp) (x : Uw57.Box) (at' : Nat) (fnd : List Int) (v4 v5 v6 v7 v8 v9 v10 : Option V),
      σ' = [some (.ref a), some (.ref d), some (.ref f), some (nv at'), v4, v5, v6, v7, v8, v9, v10] ∧ DeskS CD CC G H' d x ∧ SqL K (del G f) a (nvs m) ∧ G f = some (.lst (fnd.map V.int)) ∧ m.drop at' = flatC rest ∧ at' ≤ m.length ∧ fnd ++ toldM x rest = ans, ?_, ?_⟩
    · rintro σ' H' ⟨G, x, at', fnd, v4, v5, v6, v7, v8, v9, v10, e1, e2, e3, e4, e5, e6, e7⟩
      exact ⟨rest.length, Nat.lt_succ_self _, G, rest, x, at', fnd, v4, v5, v6, v7, v8, v9, v10, rfl, e1, e2, e3, e4, e5, e6, fun c hc => hgood c (List.mem_cons_of_mem _ hc), e7⟩
    -- kind, begin, wholes, lists
    refine ⟨_, rfl, _, rfl, a, _, _, _, rfl, rfl, hS2, atI_nat (nvs_get gk), ?_⟩
    refine ⟨_, rfl, _, _, rfl, rfl, _, rfl, aW, _, _, _, rfl, rfl, sW H2, atI_nat (nvs_get c1), _, _, rfl, rfl, ?_⟩
    refine ⟨_, rfl, _, rfl, _, _, rfl, rfl, _, rfl, _, rfl, _, rfl, a, _, rfl, hS2, fun wp hwp => ?_⟩
    have e1 : ((at' : Nat) : Int) + 1 = ((at' + 1 : Nat) : Int) := by omega
    have e2 : ((at' : Nat) : Int) + 1 + ((nc.ws.length : Nat) : Int) = ((at' + 1 + nc.ws.length : Nat) : Int) := by omega
    rw [e2, e1, cut_word, hws]
    have S3 := S.store (.inr hwp) (.lst (nvs nc.ws))
    have Gwp : G wp = none := S.same.free hwp
    have sG1 : Same G (upd G wp (.lst (nvs nc.ws))) := same_new Gwp _
    refine ⟨size_le (by decide), fun lg hlg => ?_⟩
    have S4 := S3.store (.inr hlg) (.lst [])
    have Glg : (upd G wp (.lst (nvs nc.ws))) lg = none := S3.same.free hlg
    have hat2 : at' + 1 + nc.ws.length ≤ m.length := by
      have := congrArg List.length hd1
      rw [List.length_drop, List.length_append] at this
      omega
    refine ⟨_, rfl, ?_⟩
    refine ⟨_, rfl, aL, _, _, _, rfl, rfl, sL _, atI_nat (nvs_get c2), _, rfl, by omega, by omega, ?_⟩
    have en : ((nc.ls.length : Nat) : Int).toNat = nc.ls.length := by omega
    rw [en]
    generalize hGs : upd G wp (.lst (nvs nc.ws)) = Gs at S3 S4 sG1 Glg
    have gfs : Gs f = some (.lst (fnd.map V.int)) := sG1 _ _ gf
    have gws : Gs wp = some (.lst (nvs nc.ws)) := by
      rw [← hGs]
      exact upd_same
    refine for_range (lo := 0) (n := nc.ls.length) (fun i σ' H' => ∃ (G' : Hp) (at2 : Nat) (lvs : List V) (v8 v9 : Option V), σ' = [some (.ref a), some (.ref d), some (.ref f), some (nv at2), some (nv nc.k), some (.int ((at' + 1 + nc.ws.length : Nat) : Int)), some (.ref wp), some (.ref lg), v8, v9, v10] ∧
      DeskS CD CC G' H' d x ∧ Same Gs (del G' lg) ∧ G' lg = some (.lst lvs) ∧ Deep .lst (del G' lg) lvs (nc.ls.take i) ∧ m.drop at2 = flatL (nc.ls.drop i) ++ flatC rest ∧ at2 ≤ m.length)
      ⟨_, at' + 1 + nc.ws.length, [], v8, v9, rfl, S4, ?_, upd_same, Deep.nil, ?_, hat2⟩ ?_ ?_
    · rw [del_upd]
      exact same_del_of (Same.refl _) Glg
    · rw [List.drop_zero]
      exact hd2
    · -- one row
      rintro i σ' H5 hi ⟨G', at2, lvs, v8, v9, rfl, S5, sG5, glg, dL, hd5, hat5⟩
      have hil : i < nc.ls.length := hi
      have gi := List.getElem?_eq_getElem hil
      have hd6 : m.drop at2 = nc.ls[i].length :: (nc.ls[i] ++ (flatL (nc.ls.drop (i + 1)) ++ flatC rest)) := by
        rw [hd5, List.drop_eq_getElem_cons hil]
        show ((nc.ls[i].length :: nc.ls[i]) ++ flatL (nc.ls.drop (i + 1))) ++ flatC rest = _
        simp
      obtain ⟨gl, hd7, hlt5⟩ := drop_step hd6
      obtain ⟨hl8, hd8⟩ := drop_more hd7
      have hS5 : SqL K H5 a (nvs m) := by
        have s1 : Same G Gs := sG1
        exact (((same_del s1 f).trans ((del_same _ _).trans (sG5.trans (del_same _ _)))).trans S5.same).seq hSG
      have hat9 : at2 + 1 + nc.ls[i].length ≤ m.length := by
        have := congrArg List.length hd7
        rw [List.length_drop, List.length_append] at this
        omega
      refine ⟨_, rfl, _, _, rfl, rfl, _, rfl, _, rfl, a, _, _, _, rfl, rfl, hS5, atI_nat (nvs_get gl), _, _, rfl, rfl, ?_⟩
      refine ⟨_, rfl, .inl ⟨rfl, _, SqL.of (S5.same _ _ glg)⟩, _, rfl, _, rfl, _, _, rfl, rfl, _, rfl, _, rfl, _, rfl, a, _, rfl, hS5, fun sp hsp => ?_⟩
      have f1 : ((at2 : Nat) : Int) + 1 = ((at2 + 1 : Nat) : Int) := by omega
      have f2 : ((at2 : Nat) : Int) + 1 + ((nc.ls[i].length : Nat) : Int) = ((at2 + 1 + nc.ls[i].length : Nat) : Int) := by omega
      rw [f2, f1, cut_word, hl8]
      have S6 := S5.store (.inr hsp) (.lst (nvs nc.ls[i]))
      have gsp : G' sp = none := S5.same.free hsp
      have sG6 : Same G' (upd G' sp (.lst (nvs nc.ls[i]))) := same_new gsp _
      have S7 := S6.store (.inl ⟨_, sG6 _ _ glg⟩) (.lst (lvs ++ [.ref sp]))
      have nsl : sp ≠ lg := (ne_of_none glg gsp).symm
      refine ⟨lg, lvs, _, rfl, rfl, S6.same _ _ (sG6 _ _ glg), size_lt ?_, ?_⟩
      · have := dL.1
        rw [List.length_take] at this
        omega
      refine ⟨_, rfl, _, at2 + 1 + nc.ls[i].length, _, _, _, rfl, S7, ?_, upd_same, ?_, hd8, hat9⟩
      · rw [del_upd]
        exact sG5.trans (same_del sG6 lg)
      · rw [del_upd, take_more gi]
        refine (dL.same (same_del sG6 lg)).app (Deep.one ?_)
        rw [del_ne nsl, upd_same]
    · -- the answer
      rintro σ' H5 ⟨G', at2, lvs, v8, v9, rfl, S5, sG5, glg, dL, hd5, hat5⟩
      rw [List.take_length] at dL
      have hd9 : m.drop at2 = flatC rest := by
        rw [hd5, List.drop_length]
        rfl
      have sGH : Same Gs H5 := (sG5.trans (del_same _ _)).trans S5.same
      refine ⟨_, rfl, _, rfl, _, rfl, _, rfl, G', d, wp, lg, x, nc.k, nc.ws, nc.ls, lvs, nc.cl, rfl, S5, sGH _ _ gws, S5.same _ _ glg, dL.same ((del_same _ _).trans S5.same), gc, fun H6 p S6 gp hp => ?_⟩
      rw [outV_is] at hp
      have htold2 : fnd ++ (((Uw57Neutral.out (Uw57.step x nc.cl).2).length : Int) :: (Uw57Neutral.out (Uw57.step x nc.cl).2 ++ toldM (Uw57.step x nc.cl).1 rest)) = ans := htold
      generalize Uw57Neutral.out (Uw57.step x nc.cl).2 = out at hp htold2
      have gf' : G' f = some (.lst (fnd.map V.int)) := del_same _ _ _ _ (sG5 _ _ gfs)
      have hbig : fnd.length + 1 + out.length ≤ 10000000 := by
        have := congrArg List.length htold2
        rw [List.length_append, List.length_cons, List.length_append] at this
        omega
      have npf : p ≠ f := fun z => by
        rw [z, gf'] at gp
        cases gp
      refine ⟨_, rfl, .inl ⟨rfl, _, SqL.of (S6.same _ _ gf')⟩, _, rfl, p, _, rfl, .inl (SqL.of hp), f, _, _, rfl, rfl, S6.same _ _ gf', size_lt (by rw [List.length_map]; omega), ?_⟩
      rw [List.length_map]
      have S7 := S6.store (.inl ⟨_, gf'⟩) (.lst (fnd.map V.int ++ [V.int ((out.length : Nat) : Int)]))
      refine ⟨_, rfl, .inl ⟨rfl, _, SqL.of upd_same⟩, _, rfl, f, p, _, _, rfl, rfl, upd_same, Eq.trans (upd_ne npf) hp, size_le (by rw [List.length_append, List.length_map, List.length_map]; show fnd.length + 1 + out.length ≤ _; omega), ?_⟩
      have S8 := S7.store (t := f) (.inl ⟨_, upd_same⟩) (.lst ((fnd.map V.int ++ [V.int ((out.length : Nat) : Int)]) ++ out.map V.int))
      refine ⟨_, (Uw57.step x nc.cl).1, at2, (fnd ++ [((out.length : Nat) : Int)]) ++ out, _, _, _, _, _, _, _, rfl, S8, ?_, ?_, hd9, hat5, ?_⟩
      · rw [del_upd, del_upd]
        exact ((same_del sG1 f).trans (same_del (sG5.trans (del_same _ _)) f)).seq hSG
      · rw [upd_same, List.map_append, List.map_append]
        rfl
      · rw [← htold2]
        simp
end
end Lc
set_option Elab.async false
set_option linter.all false
set_option maxRecDepth 100000
set_option maxHeartbeats 4000000
namespace Lc
open PySem L2 PySem.Spec PyProof.Rows
/-! What the top has written -/
structure Top (K : PySem.W.Frag) (mg : Str → Option Value) (CL CC CR CD : Addr) : Prop where
  d_lower_one : DefAt K mg "lower_one" "lower_one" (top 7) ["others", "letter"]
  d_letters_of : DefAt K mg "letters_of" "letters_of" (top 8) ["others", "letters"]
  d_words_of : DefAt K mg "words_of" "words_of" (top 9) ["others", "known", "letters"]
  d_is_on : DefAt K mg "is_on" "is_on" (top 10) ["way", "cube"]
  d_is_spelled_letterings : DefAt K mg "is_spelled_letterings" "is_spelled" (top 11) ["one", "other"]
  d_count_on : DefAt K mg "count_on" "count_on" (top 13) ["where", "cube"]
  d_size_of : DefAt K mg "size_of" "size_of" (top 14) ["where"]
  d_is_right_so_far : DefAt K mg "is_right_so_far" "is_right_so_far" (top 15) ["lettering"]
  d_search : DefAt K mg "search" "search" (top 16) ["lettering"]
  d_lettering_of : DefAt K mg "lettering_of" "lettering_of" (top 17) ["letters", "words"]
  d_does_show : DefAt K mg "does_show" "does_show" (top 22) ["cubes", "cube", "letter"]
  d_showing : DefAt K mg "showing" "showing" (top 23) ["cubes", "letter"]
  d_shown_count : DefAt K mg "shown_count" "shown_count" (top 24) ["cubes"]
  d_ways_of : DefAt K mg "ways_of" "ways_of" (top 25) ["cubes", "word"]
  d_rows_of : DefAt K mg "rows_of" "rows_of" (top 26) ["many", "size"]
  d_shown_by : DefAt K mg "shown_by" "shown_by" (top 27) ["cubes", "letters"]
  d_to_blame : DefAt K mg "to_blame" "to_blame" (top 28) ["cubes", "word"]
  d_is_spelled_words : DefAt K mg "is_spelled_words" "is_spelled" (top 29) ["rows"]
  d_spelled_words : DefAt K mg "spelled_words" "spelled_words" (top 31) ["cubes", "size"]
  d_check : DefAt K mg "check" "check" (top 46) ["is_right", "number"]
  d_check_letters : DefAt K mg "check_letters" "check_letters" (top 47) ["letters"]
  d_begins : DefAt K mg "begins" "begins" (top 48) ["desk", "many"]
  d_cube : DefAt K mg "cube" "cube" (top 49) ["cubes", "number", "letters"]
  d_alike : DefAt K mg "alike" "alike" (top 50) ["cubes", "one", "other"]
  d_spells : DefAt K mg "spells" "spells" (top 51) ["cubes", "word"]
  d_listed : DefAt K mg "listed" "listed" (top 52) ["cubes", "size", "letters"]
  d_all_words : DefAt K mg "all_words" "all_words" (top 53) ["cubes", "size"]
  d_design : DefAt K mg "design" "design" (top 54) ["cubes", "letters"]
  d_shows : DefAt K mg "shows" "shows" (top 55) ["cubes", "letter"]
  d_answered : DefAt K mg "answered" "answered" (top 56) ["desk", "kind", "wholes", "lists"]
  d_answer : DefAt K mg "answer" "answer" (top 57) ["desk", "kind", "wholes", "lists"]
  n_MOST_LETTERS : Num mg "MOST_LETTERS" 10
  n_FACES_letterings : Num mg "FACES_letterings" 6
  n_FIRST : Num mg "FIRST" 1
  n_SECOND : Num mg "SECOND" 2
  n_BOTH : Num mg "BOTH" 3
  n_FACES_words : Num mg "FACES_words" 6
  n_LETTERS : Num mg "LETTERS" 36
  n_NOT_SO : Num mg "NOT_SO" (-1)
  n_NO_CUBE : Num mg "NO_CUBE" (-2)
  n_IN_A_PAIR : Num mg "IN_A_PAIR" (-4)
  n_FULL : Num mg "FULL" (-5)
  n_NO_LETTERING : Num mg "NO_LETTERING" (-6)
  n_TOO_MANY : Num mg "TOO_MANY" (-7)
  n_MOST_CUBES : Num mg "MOST_CUBES" 5
  n_MOST_PAIRS : Num mg "MOST_PAIRS" 3
  n_MOST_SIZE : Num mg "MOST_SIZE" 3
  b_min : mg "min" = none
  b_sorted : mg "sorted" = none
  b_list : mg "list" = none
  b_range : mg "range" = none
  b_max : mg "max" = none
  b_len : mg "len" = none
  b_zip : mg "zip" = none
  b_int : mg "int" = none
  b_sum : mg "sum" = none
  c_Lettering : ClsAt K mg "Lettering" "Lettering.__init__" (inClass (top 6) 0) ["self", "letters", "words"] CL
  c_Cubes : ClsAt K mg "Cubes" "Cubes.__init__" (inClass (top 21) 0) ["self", "many"] CC
  c_Desk : ClsAt K mg "Desk" "Desk.__init__" (inClass (top 45) 0) ["self"] CD
  tL : LetT K CL
  tC : CubT K mg CC
  tD : DeskT K CD
  tR : RefT K mg CR
  wh : TupC K mg "WHOLES" wholesN
  li : TupC K mg "LISTS" listsN
/-- answers keeps its promise -/
theorem top_answers {P : Program} {w : World} {K : PySem.W.Frag} {mg : Str → Option Value} {base : Heap} {CL CC CR CD fa : Addr} {fda : FuncData} (T : Top K mg CL CC CR CD) (F : Fun K "answers" "answers" (top 58) fa fda) : FnOk P w K mg base CX0 20 fa fda ["calls"] (spAnswers K) := by
  have kDoes := ok_doesShow (P := P) (w := w) (base := base) T.d_does_show T.tC
  have kShowing := ok_showing T.d_showing T.tC T.b_range T.b_len kDoes
  have kCount := ok_count T.d_shown_count T.b_range T.b_len T.n_LETTERS kShowing
  have kWays := ok_ways T.d_ways_of kShowing
  have kRows := ok_rows (P := P) (w := w) (base := base) T.d_rows_of T.b_range
  have kShownBy := ok_shownBy T.d_shown_by T.tC T.b_range T.b_len kDoes
  have kBlame := ok_blame T.d_to_blame T.b_range T.b_len kRows kShownBy
  have kSpW := ok_spelledW (P := P) (w := w) (base := base) T.d_is_spelled_words
  have kAllW := ok_allWords T.d_spelled_words T.b_range T.n_LETTERS kShowing kSpW
  have kLower := ok_lower (P := P) (w := w) (base := base) T.d_lower_one T.b_min
  have kLetters := ok_letters T.d_letters_of T.b_sorted T.b_list kLower
  have kWords := ok_words T.d_words_of T.b_range T.b_len T.b_max T.b_min kLower
  have kIsOn := ok_isOn (P := P) (w := w) (base := base) T.d_is_on T.n_BOTH
  have kSpL := ok_spelledL T.d_is_spelled_letterings T.n_FIRST T.n_SECOND kIsOn
  have kCountOn := ok_countOn T.d_count_on T.b_len kIsOn
  have kSizeOf := ok_sizeOf T.d_size_of T.n_FIRST T.n_SECOND kCountOn
  have kRight := ok_right T.d_is_right_so_far T.tL T.b_len T.n_FACES_letterings T.n_FIRST T.n_SECOND kCountOn kSizeOf kSpL
  have kSearch := ok_search T.d_search T.tL T.b_len T.b_list T.n_FIRST T.n_SECOND T.n_BOTH kRight kSizeOf 11
  have kInitL := ok_initL (P := P) (w := w) (base := base) T.c_Lettering T.tL
  have kLettering := ok_lettering T.d_lettering_of T.tL T.b_zip T.n_FIRST T.n_SECOND kInitL kIsOn kSearch
  have kCheck := ok_check (P := P) (w := w) (base := base) T.d_check T.tR
  have kCheckL := ok_checkL T.d_check_letters T.n_LETTERS T.n_NOT_SO kCheck
  have kInitC := ok_initC (P := P) (w := w) (base := base) T.c_Cubes T.tC T.b_range T.n_FACES_words
  have kInitD := ok_initD T.c_Desk T.tD kInitC
  have kBegins := ok_begins T.d_begins T.tD T.n_MOST_CUBES T.n_NOT_SO kInitC kCheck
  have kCube := ok_cube T.d_cube T.tC T.b_len T.b_list T.n_NO_CUBE T.n_NOT_SO T.n_FACES_words kCheck kCheckL kCount
  have kAlike := ok_alike T.d_alike T.tC T.b_len T.n_NOT_SO T.n_IN_A_PAIR T.n_FULL T.n_MOST_PAIRS kCheck kCheckL kCount
  have kSpells := ok_spells T.d_spells T.b_len T.b_list kCheckL kWays kBlame
  have kListed := ok_listed T.d_listed T.b_len T.b_range T.b_int T.b_sum T.n_NOT_SO kCheck kCheckL kWays
  have kAll := ok_all T.d_all_words T.b_len T.b_list T.n_NOT_SO T.n_MOST_SIZE kCheck kAllW
  have kDesign := ok_design T.d_design T.tC T.b_len T.n_NOT_SO T.n_MOST_LETTERS T.n_TOO_MANY T.n_NO_LETTERING kCheck kCheckL kLetters kWords kLettering
  have kShows := ok_shows T.d_shows T.b_len kCheckL kShowing
  have kAnswered := ok_answered T.d_answered T.tD kBegins kCube kAlike kSpells kListed kAll kDesign kShows
  have kAnswer := ok_answer T.d_answer T.tR kAnswered
  exact ok_answers F T.b_len T.b_range T.wh T.li kInitD kAnswer
theorem def_mk {K : PySem.W.Frag} {h : Heap} {mg : Str → Option Value} {x n : Str} {st : Stmt} {ps : List Str} {f : Addr} (X : K.In h) (G : h.Ns mainGlobals mg) {od an : Option Addr} {sl : Array (Option Value)} {oc kV dc pm cd ct : Value}
    (a : PySem.W.nsIn K mainGlobals x = some (some (.ref f))) (l : K.lookup f = some ⟨oc, od, .func (PySem.W.fnOf n n (defArgs st) (defBody st) (defScope st) .none kV dc pm an cd ct), sl⟩) (c : PySem.W.codeIn K cd n = true) (k : PySem.W.keepIn K (.ref f) = true)
    (hb : ∀ (kV doc pm : Value) (an : Option Addr) (cdv ct : Value) (us : List Value), us.length = ps.length → bindArgs (PySem.W.fnOf n n (defArgs st) (defBody st) (defScope st) .none kV doc pm an cdv ct) ⟨us, []⟩ = pure (ps.zip us)) : DefAt K mg x n st ps := by
  have F := fun_mk (st := st) l c k
  exact ⟨f, _, F, F.binds hb, PySem.W.mg_of X G a⟩
theorem cls_mk {K : PySem.W.Frag} {h : Heap} {mg : Str → Option Value} {x qual : Str} {st : Stmt} {ps : List Str} {C f : Addr} (X : K.In h) (G : h.Ns mainGlobals mg) {od an : Option Addr} {sl : Array (Option Value)} {oc kV dc pm cd ct : Value}
    (g : PySem.W.nsIn K mainGlobals x = some (some (.ref C))) (a : PySem.W.findIn K (.ref C) "__init__" = some (some (.ref f))) (i : PySem.W.isFn K (.ref f) = true)
    (l : K.lookup f = some ⟨oc, od, .func (PySem.W.fnOf "__init__" qual (defArgs st) (defBody st) (defScope st) .none kV dc pm an cd ct), sl⟩) (c : PySem.W.codeIn K cd qual = true) (k : PySem.W.keepIn K (.ref f) = true)
    (mk : PySem.W.makesIn K C = true) (kc : PySem.W.keepIn K (.ref C) = true)
    (hb : ∀ (kV doc pm : Value) (an : Option Addr) (cdv ct : Value) (us : List Value), us.length = ps.length → bindArgs (PySem.W.fnOf "__init__" qual (defArgs st) (defBody st) (defScope st) .none kV doc pm an cdv ct) ⟨us, []⟩ = pure (ps.zip us)) : ClsAt K mg x qual st ps C := by
  have F := fun_mk (st := st) l c k
  exact ⟨⟨f, _, F, F.binds hb, ⟨mk, a, i, kc⟩⟩, PySem.W.mg_of X G g⟩
theorem num_mk {K : PySem.W.Frag} {h : Heap} {mg : Str → Option Value} {x : Str} {n : Int} {t : Tok} (X : K.In h) (G : h.Ns mainGlobals mg) (a : PySem.W.nsIn K mainGlobals x = some (some (.int n t))) : Num mg x n := ⟨t, PySem.W.mg_of X G a⟩
theorem tup_mk {K : PySem.W.Frag} {h : Heap} {mg : Str → Option Value} {x : Str} {l : List Nat} {a : Addr} {od : Option Addr} {sl : Array (Option Value)} {its : Array Value} {n : Nat} (X : K.In h) (G : h.Ns mainGlobals mg) (g : PySem.W.nsIn K mainGlobals x = some (some (.ref a)))
    (k : K.lookup a = some ⟨.type "tuple", od, .seq its n, sl⟩) (hl : its.size ≤ 100) (r : Vals (nvs l) its.toList) : TupC K mg x l :=
  ⟨a, PySem.W.mg_of X G g, fun _ => .inr ⟨_, its, n, k, rfl, rfl, size_le (by omega), r⟩⟩
/-- an error of the class at S is what its own name catches -/
theorem catches {K : PySem.W.Frag} {S : Addr} (h1 : PySem.W.subIn K (.ref S) (.type "BaseException") = some true) (h2 : PySem.W.isClsIn K S = true) (h3 : PySem.W.typeIn K (.ref S) = some (.type "type")) (h4 : PySem.W.subIn K (.ref S) (.ref S) = some true) :
    PySem.W.exmOne K (.ref S) (.ref S) = some true := by
  have e1 : (PySem.W.subIn K (.ref S) (.type "BaseException") == some true) = true := by rw [h1] <;> rfl
  have e2 : ((PySem.W.clsIn K S).isSome && PySem.W.typeIn K (.ref S) == some (.type "type")) = true := by
    have h2' : (PySem.W.clsIn K S).isSome = true := h2
    rw [h2', h3] <;> rfl
  show (if (PySem.W.subIn K (.ref S) (.type "BaseException") == some true) = true then (if ((PySem.W.clsIn K S).isSome && PySem.W.typeIn K (.ref S) == some (.type "type")) = true then PySem.W.subIn K (.ref S) (.ref S) else none) else none) = some true
  rw [if_pos e1, if_pos e2]
  exact h4
theorem ref_mk {K : PySem.W.Frag} {h : Heap} {mg : Str → Option Value} {C f : Addr} (X : K.In h) (G : h.Ns mainGlobals mg) {nm q : Str} {N : Addr} {bs : List Value} {sn : List Str} {sub : List Value} {ab : Bool} {col : Option Bool} {dd : Option Addr} {m0 m1 m2 m3 m5 : Option Value}
    {od an : Option Addr} {sl : Array (Option Value)} {oc kV dc pm cd ct : Value} (aC : PySem.W.nsIn K mainGlobals "Refused" = some (some (.ref C)))
    (xL : K.lookup C = some (excClassObj nm q C N bs [.type "ValueError", .type "Exception", .type "BaseException", .type "object"] true sn sub ab col dd m0 m1 m2 m3 m5 "ValueError.__new__"))
    (sa : PySem.W.findIn K (.ref C) "__setattr__" = some (some (.builtin "object.__setattr__"))) (ga : PySem.W.findIn K (.ref C) "__getattribute__" = some (some (.builtin "BaseException.__getattribute__"))) (gg : PySem.W.findIn K (.ref C) "__getattr__" = some none) (nb : PySem.W.findIn K (.ref C) "number" = some none)
    (a : PySem.W.findIn K (.ref C) "__init__" = some (some (.ref f))) (t : PySem.W.typeIn K (.ref f) = some (.type "function"))
    (l : K.lookup f = some ⟨oc, od, .func (PySem.W.fnOf "__init__" "Refused.__init__" (defArgs (inClass (top 44) 0)) (defBody (inClass (top 44) 0)) (defScope (inClass (top 44) 0)) .none kV dc pm an cd ct), sl⟩) (c : PySem.W.codeIn K cd "Refused.__init__" = true) (k : PySem.W.keepIn K (.ref f) = true)
    (kC : PySem.W.keepIn K (.ref C) = true) (eC : PySem.W.subIn K (.ref C) (.type "BaseException") = some true) (tC : PySem.W.typeIn K (.ref C) = some (.type "type")) (hC : PySem.W.hasDictIn K C = true) (iC : PySem.W.isClsIn K C = true) (sC : PySem.W.subIn K (.ref C) (.ref C) = some true) : RefT K mg C := by
  have F := fun_mk (st := inClass (top 44) 0) l c k
  refine ⟨⟨⟨nm, q, N, bs, _, sn, sub, ab, col, dd, m0, m1, m2, m3, m5, xL, by decide +kernel⟩, sa, eC, tC, kC⟩, ⟨ga, gg, eC, hC⟩, nb, PySem.W.mg_of X G aC, catches eC iC tC sC, ⟨f, _, F, ?_, a, t⟩⟩
  exact F.binds fun _ _ _ _ _ _ us hl => match us, hl with | [_, _], _ => rfl

theorem all_mk {P : Program} {w : World} {K : PySem.W.Frag} {h : Heap} {mg : Str → Option Value} {fa : Addr} (X : K.In h) (G : h.Ns mainGlobals mg) (hfa : mg "answers" = some (.ref fa))
    {f7 : Addr} {od7 an7 : Option Addr} {sl7 : Array (Option Value)} {oc7 kV7 dc7 pm7 cd7 ct7 : Value}
    {f8 : Addr} {od8 an8 : Option Addr} {sl8 : Array (Option Value)} {oc8 kV8 dc8 pm8 cd8 ct8 : Value}
    {f9 : Addr} {od9 an9 : Option Addr} {sl9 : Array (Option Value)} {oc9 kV9 dc9 pm9 cd9 ct9 : Value}
    {f10 : Addr} {od10 an10 : Option Addr} {sl10 : Array (Option Value)} {oc10 kV10 dc10 pm10 cd10 ct10 : Value}
    {f11 : Addr} {od11 an11 : Option Addr} {sl11 : Array (Option Value)} {oc11 kV11 dc11 pm11 cd11 ct11 : Value}
    {f13 : Addr} {od13 an13 : Option Addr} {sl13 : Array (Option Value)} {oc13 kV13 dc13 pm13 cd13 ct13 : Value}
    {f14 : Addr} {od14 an14 : Option Addr} {sl14 : Array (Option Value)} {oc14 kV14 dc14 pm14 cd14 ct14 : Value}
    {f15 : Addr} {od15 an15 : Option Addr} {sl15 : Array (Option Value)} {oc15 kV15 dc15 pm15 cd15 ct15 : Value}
    {f16 : Addr} {od16 an16 : Option Addr} {sl16 : Array (Option Value)} {oc16 kV16 dc16 pm16 cd16 ct16 : Value}
    {f17 : Addr} {od17 an17 : Option Addr} {sl17 : Array (Option Value)} {oc17 kV17 dc17 pm17 cd17 ct17 : Value}
    {f22 : Addr} {od22 an22 : Option Addr} {sl22 : Array (Option Value)} {oc22 kV22 dc22 pm22 cd22 ct22 : Value}
    {f23 : Addr} {od23 an23 : Option Addr} {sl23 : Array (Option Value)} {oc23 kV23 dc23 pm23 cd23 ct23 : Value}
    {f24 : Addr} {od24 an24 : Option Addr} {sl24 : Array (Option Value)} {oc24 kV24 dc24 pm24 cd24 ct24 : Value}
    {f25 : Addr} {od25 an25 : Option Addr} {sl25 : Array (Option Value)} {oc25 kV25 dc25 pm25 cd25 ct25 : Value}
    {f26 : Addr} {od26 an26 : Option Addr} {sl26 : Array (Option Value)} {oc26 kV26 dc26 pm26 cd26 ct26 : Value}
    {f27 : Addr} {od27 an27 : Option Addr} {sl27 : Array (Option Value)} {oc27 kV27 dc27 pm27 cd27 ct27 : Value}
    {f28 : Addr} {od28 an28 : Option Addr} {sl28 : Array (Option Value)} {oc28 kV28 dc28 pm28 cd28 ct28 : Value}
    {f29 : Addr} {od29 an29 : Option Addr} {sl29 : Array (Option Value)} {oc29 kV29 dc29 pm29 cd29 ct29 : Value}
    {f31 : Addr} {od31 an31 : Option Addr} {sl31 : Array (Option Value)} {oc31 kV31 dc31 pm31 cd31 ct31 : Value}
    {f46 : Addr} {od46 an46 : Option Addr} {sl46 : Array (Option Value)} {oc46 kV46 dc46 pm46 cd46 ct46 : Value}
    {f47 : Addr} {od47 an47 : Option Addr} {sl47 : Array (Option Value)} {oc47 kV47 dc47 pm47 cd47 ct47 : Value}
    {f48 : Addr} {od48 an48 : Option Addr} {sl48 : Array (Option Value)} {oc48 kV48 dc48 pm48 cd48 ct48 : Value}
    {f49 : Addr} {od49 an49 : Option Addr} {sl49 : Array (Option Value)} {oc49 kV49 dc49 pm49 cd49 ct49 : Value}
    {f50 : Addr} {od50 an50 : Option Addr} {sl50 : Array (Option Value)} {oc50 kV50 dc50 pm50 cd50 ct50 : Value}
    {f51 : Addr} {od51 an51 : Option Addr} {sl51 : Array (Option Value)} {oc51 kV51 dc51 pm51 cd51 ct51 : Value}
    {f52 : Addr} {od52 an52 : Option Addr} {sl52 : Array (Option Value)} {oc52 kV52 dc52 pm52 cd52 ct52 : Value}
    {f53 : Addr} {od53 an53 : Option Addr} {sl53 : Array (Option Value)} {oc53 kV53 dc53 pm53 cd53 ct53 : Value}
    {f54 : Addr} {od54 an54 : Option Addr} {sl54 : Array (Option Value)} {oc54 kV54 dc54 pm54 cd54 ct54 : Value}
    {f55 : Addr} {od55 an55 : Option Addr} {sl55 : Array (Option Value)} {oc55 kV55 dc55 pm55 cd55 ct55 : Value}
    {f56 : Addr} {od56 an56 : Option Addr} {sl56 : Array (Option Value)} {oc56 kV56 dc56 pm56 cd56 ct56 : Value}
    {f57 : Addr} {od57 an57 : Option Addr} {sl57 : Array (Option Value)} {oc57 kV57 dc57 pm57 cd57 ct57 : Value}
    {f58 : Addr} {od58 an58 : Option Addr} {sl58 : Array (Option Value)} {oc58 kV58 dc58 pm58 cd58 ct58 : Value}
    {t0 : Tok}
    {t1 : Tok}
    {t2 : Tok}
    {t3 : Tok}
    {t4 : Tok}
    {t5 : Tok}
    {t6 : Tok}
    {t7 : Tok}
    {t8 : Tok}
    {t9 : Tok}
    {t10 : Tok}
    {t11 : Tok}
    {t12 : Tok}
    {t13 : Tok}
    {t14 : Tok}
    {t15 : Tok}
    {CL f6 : Addr} {od6 an6 : Option Addr} {sl6 : Array (Option Value)} {oc6 kV6 dc6 pm6 cd6 ct6 : Value}
    {CC f21 : Addr} {od21 an21 : Option Addr} {sl21 : Array (Option Value)} {oc21 kV21 dc21 pm21 cd21 ct21 : Value}
    {CD f45 : Addr} {od45 an45 : Option Addr} {sl45 : Array (Option Value)} {oc45 kV45 dc45 pm45 cd45 ct45 : Value}
    {aW aL : Addr} {odW odL : Option Addr} {slW slL : Array (Option Value)} {nW nL : Nat} {u0 v0 u1 v1 u2 v2 u3 v3 u4 v4 u5 v5 u6 v6 u7 v7 : Tok}
    {CR f44 : Addr} {nm q : Str} {N : Addr} {bs : List Value} {sn : List Str} {sub : List Value} {ab : Bool} {col : Option Bool} {dd : Option Addr} {m0 m1 m2 m3 m5 : Option Value} {od44 an44 : Option Addr} {sl44 : Array (Option Value)} {oc44 kV44 dc44 pm44 cd44 ct44 : Value}
    (a7 : PySem.W.nsIn K mainGlobals "lower_one" = some (some (.ref f7)))
    (l7 : K.lookup f7 = some ⟨oc7, od7, .func (PySem.W.fnOf "lower_one" "lower_one" (defArgs (top 7)) (defBody (top 7)) (defScope (top 7)) .none kV7 dc7 pm7 an7 cd7 ct7), sl7⟩)
    (c7 : PySem.W.codeIn K cd7 "lower_one" = true)
    (k7 : PySem.W.keepIn K (.ref f7) = true)
    (a8 : PySem.W.nsIn K mainGlobals "letters_of" = some (some (.ref f8)))
    (l8 : K.lookup f8 = some ⟨oc8, od8, .func (PySem.W.fnOf "letters_of" "letters_of" (defArgs (top 8)) (defBody (top 8)) (defScope (top 8)) .none kV8 dc8 pm8 an8 cd8 ct8), sl8⟩)
    (c8 : PySem.W.codeIn K cd8 "letters_of" = true)
    (k8 : PySem.W.keepIn K (.ref f8) = true)
    (a9 : PySem.W.nsIn K mainGlobals "words_of" = some (some (.ref f9)))
    (l9 : K.lookup f9 = some ⟨oc9, od9, .func (PySem.W.fnOf "words_of" "words_of" (defArgs (top 9)) (defBody (top 9)) (defScope (top 9)) .none kV9 dc9 pm9 an9 cd9 ct9), sl9⟩)
    (c9 : PySem.W.codeIn K cd9 "words_of" = true)
    (k9 : PySem.W.keepIn K (.ref f9) = true)
    (a10 : PySem.W.nsIn K mainGlobals "is_on" = some (some (.ref f10)))
    (l10 : K.lookup f10 = some ⟨oc10, od10, .func (PySem.W.fnOf "is_on" "is_on" (defArgs (top 10)) (defBody (top 10)) (defScope (top 10)) .none kV10 dc10 pm10 an10 cd10 ct10), sl10⟩)
    (c10 : PySem.W.codeIn K cd10 "is_on" = true)
    (k10 : PySem.W.keepIn K (.ref f10) = true)
    (a11 : PySem.W.nsIn K mainGlobals "is_spelled_letterings" = some (some (.ref f11)))
    (l11 : K.lookup f11 = some ⟨oc11, od11, .func (PySem.W.fnOf "is_spelled" "is_spelled" (defArgs (top 11)) (defBody (top 11)) (defScope (top 11)) .none kV11 dc11 pm11 an11 cd11 ct11), sl11⟩)
    (c11 : PySem.W.codeIn K cd11 "is_spelled" = true)
    (k11 : PySem.W.keepIn K (.ref f11) = true)
    (a13 : PySem.W.nsIn K mainGlobals "count_on" = some (some (.ref f13)))
    (l13 : K.lookup f13 = some ⟨oc13, od13, .func (PySem.W.fnOf "count_on" "count_on" (defArgs (top 13)) (defBody (top 13)) (defScope (top 13)) .none kV13 dc13 pm13 an13 cd13 ct13), sl13⟩)
    (c13 : PySem.W.codeIn K cd13 "count_on" = true)
    (k13 : PySem.W.keepIn K (.ref f13) = true)
    (a14 : PySem.W.nsIn K mainGlobals "size_of" = some (some (.ref f14)))
    (l14 : K.lookup f14 = some ⟨oc14, od14, .func (PySem.W.fnOf "size_of" "size_of" (defArgs (top 14)) (defBody (top 14)) (defScope (top 14)) .none kV14 dc14 pm14 an14 cd14 ct14), sl14⟩)
    (c14 : PySem.W.codeIn K cd14 "size_of" = true)
    (k14 : PySem.W.keepIn K (.ref f14) = true)
    (a15 : PySem.W.nsIn K mainGlobals "is_right_so_far" = some (some (.ref f15)))
    (l15 : K.lookup f15 = some ⟨oc15, od15, .func (PySem.W.fnOf "is_right_so_far" "is_right_so_far" (defArgs (top 15)) (defBody (top 15)) (defScope (top 15)) .none kV15 dc15 pm15 an15 cd15 ct15), sl15⟩)
    (c15 : PySem.W.codeIn K cd15 "is_right_so_far" = true)
    (k15 : PySem.W.keepIn K (.ref f15) = true)
    (a16 : PySem.W.nsIn K mainGlobals "search" = some (some (.ref f16)))
    (l16 : K.lookup f16 = some ⟨oc16, od16, .func (PySem.W.fnOf "search" "search" (defArgs (top 16)) (defBody (top 16)) (defScope (top 16)) .none kV16 dc16 pm16 an16 cd16 ct16), sl16⟩)
    (c16 : PySem.W.codeIn K cd16 "search" = true)
    (k16 : PySem.W.keepIn K (.ref f16) = true)
    (a17 : PySem.W.nsIn K mainGlobals "lettering_of" = some (some (.ref f17)))
    (l17 : K.lookup f17 = some ⟨oc17, od17, .func (PySem.W.fnOf "lettering_of" "lettering_of" (defArgs (top 17)) (defBody (top 17)) (defScope (top 17)) .none kV17 dc17 pm17 an17 cd17 ct17), sl17⟩)
    (c17 : PySem.W.codeIn K cd17 "lettering_of" = true)
    (k17 : PySem.W.keepIn K (.ref f17) = true)
    (a22 : PySem.W.nsIn K mainGlobals "does_show" = some (some (.ref f22)))
    (l22 : K.lookup f22 = some ⟨oc22, od22, .func (PySem.W.fnOf "does_show" "does_show" (defArgs (top 22)) (defBody (top 22)) (defScope (top 22)) .none kV22 dc22 pm22 an22 cd22 ct22), sl22⟩)
    (c22 : PySem.W.codeIn K cd22 "does_show" = true)
    (k22 : PySem.W.keepIn K (.ref f22) = true)
    (a23 : PySem.W.nsIn K mainGlobals "showing" = some (some (.ref f23)))
    (l23 : K.lookup f23 = some ⟨oc23, od23, .func (PySem.W.fnOf "showing" "showing" (defArgs (top 23)) (defBody (top 23)) (defScope (top 23)) .none kV23 dc23 pm23 an23 cd23 ct23), sl23⟩)
    (c23 : PySem.W.codeIn K cd23 "showing" = true)
    (k23 : PySem.W.keepIn K (.ref f23) = true)
    (a24 : PySem.W.nsIn K mainGlobals "shown_count" = some (some (.ref f24)))
    (l24 : K.lookup f24 = some ⟨oc24, od24, .func (PySem.W.fnOf "shown_count" "shown_count" (defArgs (top 24)) (defBody (top 24)) (defScope (top 24)) .none kV24 dc24 pm24 an24 cd24 ct24), sl24⟩)
    (c24 : PySem.W.codeIn K cd24 "shown_count" = true)
    (k24 : PySem.W.keepIn K (.ref f24) = true)
    (a25 : PySem.W.nsIn K mainGlobals "ways_of" = some (some (.ref f25)))
    (l25 : K.lookup f25 = some ⟨oc25, od25, .func (PySem.W.fnOf "ways_of" "ways_of" (defArgs (top 25)) (defBody (top 25)) (defScope (top 25)) .none kV25 dc25 pm25 an25 cd25 ct25), sl25⟩)
    (c25 : PySem.W.codeIn K cd25 "ways_of" = true)
    (k25 : PySem.W.keepIn K (.ref f25) = true)
    (a26 : PySem.W.nsIn K mainGlobals "rows_of" = some (some (.ref f26)))
    (l26 : K.lookup f26 = some ⟨oc26, od26, .func (PySem.W.fnOf "rows_of" "rows_of" (defArgs (top 26)) (defBody (top 26)) (defScope (top 26)) .none kV26 dc26 pm26 an26 cd26 ct26), sl26⟩)
    (c26 : PySem.W.codeIn K cd26 "rows_of" = true)
    (k26 : PySem.W.keepIn K (.ref f26) = true)
    (a27 : PySem.W.nsIn K mainGlobals "shown_by" = some (some (.ref f27)))
    (l27 : K.lookup f27 = some ⟨oc27, od27, .func (PySem.W.fnOf "shown_by" "shown_by" (defArgs (top 27)) (defBody (top 27)) (defScope (top 27)) .none kV27 dc27 pm27 an27 cd27 ct27), sl27⟩)
    (c27 : PySem.W.codeIn K cd27 "shown_by" = true)
    (k27 : PySem.W.keepIn K (.ref f27) = true)
    (a28 : PySem.W.nsIn K mainGlobals "to_blame" = some (some (.ref f28)))
    (l28 : K.lookup f28 = some ⟨oc28, od28, .func (PySem.W.fnOf "to_blame" "to_blame" (defArgs (top 28)) (defBody (top 28)) (defScope (top 28)) .none kV28 dc28 pm28 an28 cd28 ct28), sl28⟩)
    (c28 : PySem.W.codeIn K cd28 "to_blame" = true)
    (k28 : PySem.W.keepIn K (.ref f28) = true)
    (a29 : PySem.W.nsIn K mainGlobals "is_spelled_words" = some (some (.ref f29)))
    (l29 : K.lookup f29 = some ⟨oc29, od29, .func (PySem.W.fnOf "is_spelled" "is_spelled" (defArgs (top 29)) (defBody (top 29)) (defScope (top 29)) .none kV29 dc29 pm29 an29 cd29 ct29), sl29⟩)
    (c29 : PySem.W.codeIn K cd29 "is_spelled" = true)
    (k29 : PySem.W.keepIn K (.ref f29) = true)
    (a31 : PySem.W.nsIn K mainGlobals "spelled_words" = some (some (.ref f31)))
    (l31 : K.lookup f31 = some ⟨oc31, od31, .func (PySem.W.fnOf "spelled_words" "spelled_words" (defArgs (top 31)) (defBody (top 31)) (defScope (top 31)) .none kV31 dc31 pm31 an31 cd31 ct31), sl31⟩)
    (c31 : PySem.W.codeIn K cd31 "spelled_words" = true)
    (k31 : PySem.W.keepIn K (.ref f31) = true)
    (a46 : PySem.W.nsIn K mainGlobals "check" = some (some (.ref f46)))
    (l46 : K.lookup f46 = some ⟨oc46, od46, .func (PySem.W.fnOf "check" "check" (defArgs (top 46)) (defBody (top 46)) (defScope (top 46)) .none kV46 dc46 pm46 an46 cd46 ct46), sl46⟩)
    (c46 : PySem.W.codeIn K cd46 "check" = true)
    (k46 : PySem.W.keepIn K (.ref f46) = true)
    (a47 : PySem.W.nsIn K mainGlobals "check_letters" = some (some (.ref f47)))
    (l47 : K.lookup f47 = some ⟨oc47, od47, .func (PySem.W.fnOf "check_letters" "check_letters" (defArgs (top 47)) (defBody (top 47)) (defScope (top 47)) .none kV47 dc47 pm47 an47 cd47 ct47), sl47⟩)
    (c47 : PySem.W.codeIn K cd47 "check_letters" = true)
    (k47 : PySem.W.keepIn K (.ref f47) = true)
    (a48 : PySem.W.nsIn K mainGlobals "begins" = some (some (.ref f48)))
    (l48 : K.lookup f48 = some ⟨oc48, od48, .func (PySem.W.fnOf "begins" "begins" (defArgs (top 48)) (defBody (top 48)) (defScope (top 48)) .none kV48 dc48 pm48 an48 cd48 ct48), sl48⟩)
    (c48 : PySem.W.codeIn K cd48 "begins" = true)
    (k48 : PySem.W.keepIn K (.ref f48) = true)
    (a49 : PySem.W.nsIn K mainGlobals "cube" = some (some (.ref f49)))
    (l49 : K.lookup f49 = some ⟨oc49, od49, .func (PySem.W.fnOf "cube" "cube" (defArgs (top 49)) (defBody (top 49)) (defScope (top 49)) .none kV49 dc49 pm49 an49 cd49 ct49), sl49⟩)
    (c49 : PySem.W.codeIn K cd49 "cube" = true)
    (k49 : PySem.W.keepIn K (.ref f49) = true)
    (a50 : PySem.W.nsIn K mainGlobals "alike" = some (some (.ref f50)))
    (l50 : K.lookup f50 = some ⟨oc50, od50, .func (PySem.W.fnOf "alike" "alike" (defArgs (top 50)) (defBody (top 50)) (defScope (top 50)) .none kV50 dc50 pm50 an50 cd50 ct50), sl50⟩)
    (c50 : PySem.W.codeIn K cd50 "alike" = true)
    (k50 : PySem.W.keepIn K (.ref f50) = true)
    (a51 : PySem.W.nsIn K mainGlobals "spells" = some (some (.ref f51)))
    (l51 : K.lookup f51 = some ⟨oc51, od51, .func (PySem.W.fnOf "spells" "spells" (defArgs (top 51)) (defBody (top 51)) (defScope (top 51)) .none kV51 dc51 pm51 an51 cd51 ct51), sl51⟩)
    (c51 : PySem.W.codeIn K cd51 "spells" = true)
    (k51 : PySem.W.keepIn K (.ref f51) = true)
    (a52 : PySem.W.nsIn K mainGlobals "listed" = some (some (.ref f52)))
    (l52 : K.lookup f52 = some ⟨oc52, od52, .func (PySem.W.fnOf "listed" "listed" (defArgs (top 52)) (defBody (top 52)) (defScope (top 52)) .none kV52 dc52 pm52 an52 cd52 ct52), sl52⟩)
    (c52 : PySem.W.codeIn K cd52 "listed" = true)
    (k52 : PySem.W.keepIn K (.ref f52) = true)
    (a53 : PySem.W.nsIn K mainGlobals "all_words" = some (some (.ref f53)))
    (l53 : K.lookup f53 = some ⟨oc53, od53, .func (PySem.W.fnOf "all_words" "all_words" (defArgs (top 53)) (defBody (top 53)) (defScope (top 53)) .none kV53 dc53 pm53 an53 cd53 ct53), sl53⟩)
    (c53 : PySem.W.codeIn K cd53 "all_words" = true)
    (k53 : PySem.W.keepIn K (.ref f53) = true)
    (a54 : PySem.W.nsIn K mainGlobals "design" = some (some (.ref f54)))
    (l54 : K.lookup f54 = some ⟨oc54, od54, .func (PySem.W.fnOf "design" "design" (defArgs (top 54)) (defBody (top 54)) (defScope (top 54)) .none kV54 dc54 pm54 an54 cd54 ct54), sl54⟩)
    (c54 : PySem.W.codeIn K cd54 "design" = true)
    (k54 : PySem.W.keepIn K (.ref f54) = true)
    (a55 : PySem.W.nsIn K mainGlobals "shows" = some (some (.ref f55)))
    (l55 : K.lookup f55 = some ⟨oc55, od55, .func (PySem.W.fnOf "shows" "shows" (defArgs (top 55)) (defBody (top 55)) (defScope (top 55)) .none kV55 dc55 pm55 an55 cd55 ct55), sl55⟩)
    (c55 : PySem.W.codeIn K cd55 "shows" = true)
    (k55 : PySem.W.keepIn K (.ref f55) = true)
    (a56 : PySem.W.nsIn K mainGlobals "answered" = some (some (.ref f56)))
    (l56 : K.lookup f56 = some ⟨oc56, od56, .func (PySem.W.fnOf "answered" "answered" (defArgs (top 56)) (defBody (top 56)) (defScope (top 56)) .none kV56 dc56 pm56 an56 cd56 ct56), sl56⟩)
    (c56 : PySem.W.codeIn K cd56 "answered" = true)
    (k56 : PySem.W.keepIn K (.ref f56) = true)
    (a57 : PySem.W.nsIn K mainGlobals "answer" = some (some (.ref f57)))
    (l57 : K.lookup f57 = some ⟨oc57, od57, .func (PySem.W.fnOf "answer" "answer" (defArgs (top 57)) (defBody (top 57)) (defScope (top 57)) .none kV57 dc57 pm57 an57 cd57 ct57), sl57⟩)
    (c57 : PySem.W.codeIn K cd57 "answer" = true)
    (k57 : PySem.W.keepIn K (.ref f57) = true)
    (a58 : PySem.W.nsIn K mainGlobals "answers" = some (some (.ref f58)))
    (l58 : K.lookup f58 = some ⟨oc58, od58, .func (PySem.W.fnOf "answers" "answers" (defArgs (top 58)) (defBody (top 58)) (defScope (top 58)) .none kV58 dc58 pm58 an58 cd58 ct58), sl58⟩)
    (c58 : PySem.W.codeIn K cd58 "answers" = true)
    (k58 : PySem.W.keepIn K (.ref f58) = true)
    (n0 : PySem.W.nsIn K mainGlobals "MOST_LETTERS" = some (some (.int 10 t0)))
    (n1 : PySem.W.nsIn K mainGlobals "FACES_letterings" = some (some (.int 6 t1)))
    (n2 : PySem.W.nsIn K mainGlobals "FIRST" = some (some (.int 1 t2)))
    (n3 : PySem.W.nsIn K mainGlobals "SECOND" = some (some (.int 2 t3)))
    (n4 : PySem.W.nsIn K mainGlobals "BOTH" = some (some (.int 3 t4)))
    (n5 : PySem.W.nsIn K mainGlobals "FACES_words" = some (some (.int 6 t5)))
    (n6 : PySem.W.nsIn K mainGlobals "LETTERS" = some (some (.int 36 t6)))
    (n7 : PySem.W.nsIn K mainGlobals "NOT_SO" = some (some (.int (-1) t7)))
    (n8 : PySem.W.nsIn K mainGlobals "NO_CUBE" = some (some (.int (-2) t8)))
    (n9 : PySem.W.nsIn K mainGlobals "IN_A_PAIR" = some (some (.int (-4) t9)))
    (n10 : PySem.W.nsIn K mainGlobals "FULL" = some (some (.int (-5) t10)))
    (n11 : PySem.W.nsIn K mainGlobals "NO_LETTERING" = some (some (.int (-6) t11)))
    (n12 : PySem.W.nsIn K mainGlobals "TOO_MANY" = some (some (.int (-7) t12)))
    (n13 : PySem.W.nsIn K mainGlobals "MOST_CUBES" = some (some (.int 5 t13)))
    (n14 : PySem.W.nsIn K mainGlobals "MOST_PAIRS" = some (some (.int 3 t14)))
    (n15 : PySem.W.nsIn K mainGlobals "MOST_SIZE" = some (some (.int 3 t15)))
    (b0 : PySem.W.nsIn K mainGlobals "min" = some none)
    (b1 : PySem.W.nsIn K mainGlobals "sorted" = some none)
    (b2 : PySem.W.nsIn K mainGlobals "list" = some none)
    (b3 : PySem.W.nsIn K mainGlobals "range" = some none)
    (b4 : PySem.W.nsIn K mainGlobals "max" = some none)
    (b5 : PySem.W.nsIn K mainGlobals "len" = some none)
    (b6 : PySem.W.nsIn K mainGlobals "zip" = some none)
    (b7 : PySem.W.nsIn K mainGlobals "int" = some none)
    (b8 : PySem.W.nsIn K mainGlobals "sum" = some none)
    (g6 : PySem.W.nsIn K mainGlobals "Lettering" = some (some (.ref CL)))
    (a6 : PySem.W.findIn K (.ref CL) "__init__" = some (some (.ref f6)))
    (i6 : PySem.W.isFn K (.ref f6) = true)
    (l6 : K.lookup f6 = some ⟨oc6, od6, .func (PySem.W.fnOf "__init__" "Lettering.__init__" (defArgs (inClass (top 6) 0)) (defBody (inClass (top 6) 0)) (defScope (inClass (top 6) 0)) .none kV6 dc6 pm6 an6 cd6 ct6), sl6⟩)
    (c6 : PySem.W.codeIn K cd6 "Lettering.__init__" = true)
    (k6 : PySem.W.keepIn K (.ref f6) = true)
    (mk6 : PySem.W.makesIn K CL = true)
    (kc6 : PySem.W.keepIn K (.ref CL) = true)
    (pg6 : PySem.W.plainGet K CL Str.empty = true)
    (hd6 : PySem.W.hasDictIn K CL = true)
    (po6 : PySem.W.plainOver K CL = true)
    (sa6 : PySem.W.findIn K (.ref CL) "__setattr__" = some (some (.builtin "object.__setattr__")))
    (x6_letters : PySem.W.findIn K (.ref CL) "letters" = some none)
    (x6_words : PySem.W.findIn K (.ref CL) "words" = some none)
    (x6_where : PySem.W.findIn K (.ref CL) "where" = some none)
    (x6_best : PySem.W.findIn K (.ref CL) "best" = some none)
    (x6_size : PySem.W.findIn K (.ref CL) "size" = some none)
    (g21 : PySem.W.nsIn K mainGlobals "Cubes" = some (some (.ref CC)))
    (a21 : PySem.W.findIn K (.ref CC) "__init__" = some (some (.ref f21)))
    (i21 : PySem.W.isFn K (.ref f21) = true)
    (l21 : K.lookup f21 = some ⟨oc21, od21, .func (PySem.W.fnOf "__init__" "Cubes.__init__" (defArgs (inClass (top 21) 0)) (defBody (inClass (top 21) 0)) (defScope (inClass (top 21) 0)) .none kV21 dc21 pm21 an21 cd21 ct21), sl21⟩)
    (c21 : PySem.W.codeIn K cd21 "Cubes.__init__" = true)
    (k21 : PySem.W.keepIn K (.ref f21) = true)
    (mk21 : PySem.W.makesIn K CC = true)
    (kc21 : PySem.W.keepIn K (.ref CC) = true)
    (pg21 : PySem.W.plainGet K CC Str.empty = true)
    (hd21 : PySem.W.hasDictIn K CC = true)
    (po21 : PySem.W.plainOver K CC = true)
    (sa21 : PySem.W.findIn K (.ref CC) "__setattr__" = some (some (.builtin "object.__setattr__")))
    (x21_rows : PySem.W.findIn K (.ref CC) "rows" = some none)
    (x21_others : PySem.W.findIn K (.ref CC) "others" = some none)
    (g45 : PySem.W.nsIn K mainGlobals "Desk" = some (some (.ref CD)))
    (a45 : PySem.W.findIn K (.ref CD) "__init__" = some (some (.ref f45)))
    (i45 : PySem.W.isFn K (.ref f45) = true)
    (l45 : K.lookup f45 = some ⟨oc45, od45, .func (PySem.W.fnOf "__init__" "Desk.__init__" (defArgs (inClass (top 45) 0)) (defBody (inClass (top 45) 0)) (defScope (inClass (top 45) 0)) .none kV45 dc45 pm45 an45 cd45 ct45), sl45⟩)
    (c45 : PySem.W.codeIn K cd45 "Desk.__init__" = true)
    (k45 : PySem.W.keepIn K (.ref f45) = true)
    (mk45 : PySem.W.makesIn K CD = true)
    (kc45 : PySem.W.keepIn K (.ref CD) = true)
    (pg45 : PySem.W.plainGet K CD Str.empty = true)
    (hd45 : PySem.W.hasDictIn K CD = true)
    (po45 : PySem.W.plainOver K CD = true)
    (sa45 : PySem.W.findIn K (.ref CD) "__setattr__" = some (some (.builtin "object.__setattr__")))
    (x45_cubes : PySem.W.findIn K (.ref CD) "cubes" = some none)
    (wW : PySem.W.nsIn K mainGlobals "WHOLES" = some (some (.ref aW)))
    (zW : K.lookup aW = some ⟨.type "tuple", odW, .seq #[.int 1 u0, .int 1 u1, .int 2 u2, .int 0 u3, .int 1 u4, .int 1 u5, .int 0 u6, .int 1 u7] nW, slW⟩)
    (wL : PySem.W.nsIn K mainGlobals "LISTS" = some (some (.ref aL)))
    (zL : K.lookup aL = some ⟨.type "tuple", odL, .seq #[.int 0 v0, .int 1 v1, .int 0 v2, .int 1 v3, .int 1 v4, .int 0 v5, .int 1 v6, .int 0 v7] nL, slL⟩)
    (aC : PySem.W.nsIn K mainGlobals "Refused" = some (some (.ref CR)))
    (xL : K.lookup CR = some (excClassObj nm q CR N bs [.type "ValueError", .type "Exception", .type "BaseException", .type "object"] true sn sub ab col dd m0 m1 m2 m3 m5 "ValueError.__new__"))
    (sa : PySem.W.findIn K (.ref CR) "__setattr__" = some (some (.builtin "object.__setattr__")))
    (ga : PySem.W.findIn K (.ref CR) "__getattribute__" = some (some (.builtin "BaseException.__getattribute__")))
    (gg : PySem.W.findIn K (.ref CR) "__getattr__" = some none)
    (nb : PySem.W.findIn K (.ref CR) "number" = some none)
    (a44 : PySem.W.findIn K (.ref CR) "__init__" = some (some (.ref f44)))
    (t44 : PySem.W.typeIn K (.ref f44) = some (.type "function"))
    (l44 : K.lookup f44 = some ⟨oc44, od44, .func (PySem.W.fnOf "__init__" "Refused.__init__" (defArgs (inClass (top 44) 0)) (defBody (inClass (top 44) 0)) (defScope (inClass (top 44) 0)) .none kV44 dc44 pm44 an44 cd44 ct44), sl44⟩)
    (c44 : PySem.W.codeIn K cd44 "Refused.__init__" = true)
    (k44 : PySem.W.keepIn K (.ref f44) = true)
    (kC : PySem.W.keepIn K (.ref CR) = true)
    (eC : PySem.W.subIn K (.ref CR) (.type "BaseException") = some true)
    (tC : PySem.W.typeIn K (.ref CR) = some (.type "type"))
    (hC : PySem.W.hasDictIn K CR = true)
    (iC : PySem.W.isClsIn K CR = true)
    (sC : PySem.W.subIn K (.ref CR) (.ref CR) = some true) :
    ∃ fd : FuncData, (∀ (s : Shared) (us : List Value), us.length = (["calls"] : List Str).length → BindsTo s fd ⟨us, []⟩ ((["calls"] : List Str).zip us)) ∧ ∀ base : Heap, K.In base → base.Ns mainGlobals mg → FnOk P w K mg base CX0 20 fa fd ["calls"] (spAnswers K) := by
  have e := hfa.symm.trans (PySem.W.mg_of X G a58)
  cases e
  have T : Top K mg CL CC CR CD :=
    {
      d_lower_one := def_mk (st := top 7) (ps := ["others", "letter"]) X G a7 l7 c7 k7 (fun _ _ _ _ _ _ us hl => match us, hl with | [_, _], _ => rfl)
      d_letters_of := def_mk (st := top 8) (ps := ["others", "letters"]) X G a8 l8 c8 k8 (fun _ _ _ _ _ _ us hl => match us, hl with | [_, _], _ => rfl)
      d_words_of := def_mk (st := top 9) (ps := ["others", "known", "letters"]) X G a9 l9 c9 k9 (fun _ _ _ _ _ _ us hl => match us, hl with | [_, _, _], _ => rfl)
      d_is_on := def_mk (st := top 10) (ps := ["way", "cube"]) X G a10 l10 c10 k10 (fun _ _ _ _ _ _ us hl => match us, hl with | [_, _], _ => rfl)
      d_is_spelled_letterings := def_mk (st := top 11) (ps := ["one", "other"]) X G a11 l11 c11 k11 (fun _ _ _ _ _ _ us hl => match us, hl with | [_, _], _ => rfl)
      d_count_on := def_mk (st := top 13) (ps := ["where", "cube"]) X G a13 l13 c13 k13 (fun _ _ _ _ _ _ us hl => match us, hl with | [_, _], _ => rfl)
      d_size_of := def_mk (st := top 14) (ps := ["where"]) X G a14 l14 c14 k14 (fun _ _ _ _ _ _ us hl => match us, hl with | [_], _ => rfl)
      d_is_right_so_far := def_mk (st := top 15) (ps := ["lettering"]) X G a15 l15 c15 k15 (fun _ _ _ _ _ _ us hl => match us, hl with | [_], _ => rfl)
      d_search := def_mk (st := top 16) (ps := ["lettering"]) X G a16 l16 c16 k16 (fun _ _ _ _ _ _ us hl => match us, hl with | [_], _ => rfl)
      d_lettering_of := def_mk (st := top 17) (ps := ["letters", "words"]) X G a17 l17 c17 k17 (fun _ _ _ _ _ _ us hl => match us, hl with | [_, _], _ => rfl)
      d_does_show := def_mk (st := top 22) (ps := ["cubes", "cube", "letter"]) X G a22 l22 c22 k22 (fun _ _ _ _ _ _ us hl => match us, hl with | [_, _, _], _ => rfl)
      d_showing := def_mk (st := top 23) (ps := ["cubes", "letter"]) X G a23 l23 c23 k23 (fun _ _ _ _ _ _ us hl => match us, hl with | [_, _], _ => rfl)
      d_shown_count := def_mk (st := top 24) (ps := ["cubes"]) X G a24 l24 c24 k24 (fun _ _ _ _ _ _ us hl => match us, hl with | [_], _ => rfl)
      d_ways_of := def_mk (st := top 25) (ps := ["cubes", "word"]) X G a25 l25 c25 k25 (fun _ _ _ _ _ _ us hl => match us, hl with | [_, _], _ => rfl)
      d_rows_of := def_mk (st := top 26) (ps := ["many", "size"]) X G a26 l26 c26 k26 (fun _ _ _ _ _ _ us hl => match us, hl with | [_, _], _ => rfl)
      d_shown_by := def_mk (st := top 27) (ps := ["cubes", "letters"]) X G a27 l27 c27 k27 (fun _ _ _ _ _ _ us hl => match us, hl with | [_, _], _ => rfl)
      d_to_blame := def_mk (st := top 28) (ps := ["cubes", "word"]) X G a28 l28 c28 k28 (fun _ _ _ _ _ _ us hl => match us, hl with | [_, _], _ => rfl)
      d_is_spelled_words := def_mk (st := top 29) (ps := ["rows"]) X G a29 l29 c29 k29 (fun _ _ _ _ _ _ us hl => match us, hl with | [_], _ => rfl)
      d_spelled_words := def_mk (st := top 31) (ps := ["cubes", "size"]) X G a31 l31 c31 k31 (fun _ _ _ _ _ _ us hl => match us, hl with | [_, _], _ => rfl)
      d_check := def_mk (st := top 46) (ps := ["is_right", "number"]) X G a46 l46 c46 k46 (fun _ _ _ _ _ _ us hl => match us, hl with | [_, _], _ => rfl)
      d_check_letters := def_mk (st := top 47) (ps := ["letters"]) X G a47 l47 c47 k47 (fun _ _ _ _ _ _ us hl => match us, hl with | [_], _ => rfl)
      d_begins := def_mk (st := top 48) (ps := ["desk", "many"]) X G a48 l48 c48 k48 (fun _ _ _ _ _ _ us hl => match us, hl with | [_, _], _ => rfl)
      d_cube := def_mk (st := top 49) (ps := ["cubes", "number", "letters"]) X G a49 l49 c49 k49 (fun _ _ _ _ _ _ us hl => match us, hl with | [_, _, _], _ => rfl)
      d_alike := def_mk (st := top 50) (ps := ["cubes", "one", "other"]) X G a50 l50 c50 k50 (fun _ _ _ _ _ _ us hl => match us, hl with | [_, _, _], _ => rfl)
      d_spells := def_mk (st := top 51) (ps := ["cubes", "word"]) X G a51 l51 c51 k51 (fun _ _ _ _ _ _ us hl => match us, hl with | [_, _], _ => rfl)
      d_listed := def_mk (st := top 52) (ps := ["cubes", "size", "letters"]) X G a52 l52 c52 k52 (fun _ _ _ _ _ _ us hl => match us, hl with | [_, _, _], _ => rfl)
      d_all_words := def_mk (st := top 53) (ps := ["cubes", "size"]) X G a53 l53 c53 k53 (fun _ _ _ _ _ _ us hl => match us, hl with | [_, _], _ => rfl)
      d_design := def_mk (st := top 54) (ps := ["cubes", "letters"]) X G a54 l54 c54 k54 (fun _ _ _ _ _ _ us hl => match us, hl with | [_, _], _ => rfl)
      d_shows := def_mk (st := top 55) (ps := ["cubes", "letter"]) X G a55 l55 c55 k55 (fun _ _ _ _ _ _ us hl => match us, hl with | [_, _], _ => rfl)
      d_answered := def_mk (st := top 56) (ps := ["desk", "kind", "wholes", "lists"]) X G a56 l56 c56 k56 (fun _ _ _ _ _ _ us hl => match us, hl with | [_, _, _, _], _ => rfl)
      d_answer := def_mk (st := top 57) (ps := ["desk", "kind", "wholes", "lists"]) X G a57 l57 c57 k57 (fun _ _ _ _ _ _ us hl => match us, hl with | [_, _, _, _], _ => rfl)
      n_MOST_LETTERS := num_mk X G n0
      n_FACES_letterings := num_mk X G n1
      n_FIRST := num_mk X G n2
      n_SECOND := num_mk X G n3
      n_BOTH := num_mk X G n4
      n_FACES_words := num_mk X G n5
      n_LETTERS := num_mk X G n6
      n_NOT_SO := num_mk X G n7
      n_NO_CUBE := num_mk X G n8
      n_IN_A_PAIR := num_mk X G n9
      n_FULL := num_mk X G n10
      n_NO_LETTERING := num_mk X G n11
      n_TOO_MANY := num_mk X G n12
      n_MOST_CUBES := num_mk X G n13
      n_MOST_PAIRS := num_mk X G n14
      n_MOST_SIZE := num_mk X G n15
      b_min := PySem.W.mg_none_of X G b0
      b_sorted := PySem.W.mg_none_of X G b1
      b_list := PySem.W.mg_none_of X G b2
      b_range := PySem.W.mg_none_of X G b3
      b_max := PySem.W.mg_none_of X G b4
      b_len := PySem.W.mg_none_of X G b5
      b_zip := PySem.W.mg_none_of X G b6
      b_int := PySem.W.mg_none_of X G b7
      b_sum := PySem.W.mg_none_of X G b8
      c_Lettering := cls_mk (st := inClass (top 6) 0) (ps := ["self", "letters", "words"]) X G g6 a6 i6 l6 c6 k6 mk6 kc6 (fun _ _ _ _ _ _ us hl => match us, hl with | [_, _, _], _ => rfl)
      c_Cubes := cls_mk (st := inClass (top 21) 0) (ps := ["self", "many"]) X G g21 a21 i21 l21 c21 k21 mk21 kc21 (fun _ _ _ _ _ _ us hl => match us, hl with | [_, _], _ => rfl)
      c_Desk := cls_mk (st := inClass (top 45) 0) (ps := ["self"]) X G g45 a45 i45 l45 c45 k45 mk45 kc45 (fun _ _ _ _ _ _ us hl => match us, hl with | [_], _ => rfl)
      tL := ⟨⟨pg6, hd6, po6, sa6⟩, x6_letters, x6_words, x6_where, x6_best, x6_size⟩
      tC := ⟨⟨pg21, hd21, po21, sa21⟩, x21_rows, x21_others, PySem.W.mg_of X G g21⟩
      tD := ⟨⟨pg45, hd45, po45, sa45⟩, x45_cubes⟩
      tR := ref_mk X G aC xL sa ga gg nb a44 t44 l44 c44 k44 kC eC tC hC iC sC
      wh := tup_mk X G wW zW (show 8 ≤ 100 by decide) (.cons ⟨_, rfl⟩ (.cons ⟨_, rfl⟩ (.cons ⟨_, rfl⟩ (.cons ⟨_, rfl⟩ (.cons ⟨_, rfl⟩ (.cons ⟨_, rfl⟩ (.cons ⟨_, rfl⟩ (.cons ⟨_, rfl⟩ (.nil)))))))))
      li := tup_mk X G wL zL (show 8 ≤ 100 by decide) (.cons ⟨_, rfl⟩ (.cons ⟨_, rfl⟩ (.cons ⟨_, rfl⟩ (.cons ⟨_, rfl⟩ (.cons ⟨_, rfl⟩ (.cons ⟨_, rfl⟩ (.cons ⟨_, rfl⟩ (.cons ⟨_, rfl⟩ (.nil))))))))) }
  have F := fun_mk (st := top 58) l58 c58 k58
  exact ⟨_, fun s us hu => match us, hu with | [_], _ => .of_eq rfl, fun base _ _ => top_answers T F⟩
end Lc
set_option Elab.async false
set_option linter.all false
set_option maxRecDepth 100000
set_option maxHeartbeats 4000000
namespace Lc
open PySem L2 PySem.Spec PyProof.Rows
/-- what is handed in, read as calls -/
theorem asked_ok {K : PySem.W.Frag} {H : Hp} {p : Addr} {ns : List Int} {Q : VK} {E : XK} (hS : SqL K H p (ns.map V.int)) (hl : ns.length ≤ 3400) (hb : ∀ z ∈ ns, 0 ≤ z ∧ z ≤ 4294967295) (ha : PyUw57.answers_asked ns = true)
    (q : ∀ (H' : Hp) (t : Addr), H' t = some (.lst ((PyUw57.answers ns).map V.int)) → Q (.ref t) H') : spAnswers K [.ref p] H Q E := by
  obtain ⟨cs, e1, g, e2, e3⟩ := parse hb ha
  have ev : ns.map V.int = nvs (flatC cs) := by
    rw [e1]
    unfold asInts nvs
    rw [List.map_map]
    rfl
  refine ⟨p, cs, rfl, by rw [← ev]; exact hS, ?_, g, by rw [← e2]; exact e3, fun H' t h => q H' t (by rw [e2]; exact h)⟩
  have := congrArg List.length e1
  unfold asInts at this
  rw [List.length_map] at this
  omega
end Lc
open PySem PySem.W PyProof.Rows
set_option maxRecDepth 100000 in
set_option maxHeartbeats 0 in
theorem PySem.Challenge.cw_lettercubes_s01_answers_holds : PySem.Challenge.rw_lettercubes_s01_answers.Holds := by
  w_on; k_headS; (case hw => exact ⟨[.list [.int 7, .int 0]], by decide +kernel, by decide +kernel⟩)
  k_fillS
  refine L2.walk_specK (r := PySem.Challenge.rw_lettercubes_s01_answers) (k := 20) (CX := L2.CX0) (ps := ["calls"]) (sp := Lc.spAnswers) (by decide +kernel) rfl rfl ⟨rfl, by decide, by decide⟩ (fun w h Y => PySem.W.kIn_of Y) ?F ?S (fun _ _ _ _ z => z)
  case F =>
    intro w mg fa h Y KX G hmg
    refine' Lc.all_mk KX G hmg ?a7 ?l7 ?c7 ?k7 ?a8 ?l8 ?c8 ?k8 ?a9 ?l9 ?c9 ?k9 ?a10 ?l10 ?c10 ?k10 ?a11 ?l11 ?c11 ?k11 ?a13 ?l13 ?c13 ?k13 ?a14 ?l14 ?c14 ?k14 ?a15 ?l15 ?c15 ?k15 ?a16 ?l16 ?c16 ?k16 ?a17 ?l17 ?c17 ?k17 ?a22 ?l22 ?c22 ?k22 ?a23 ?l23 ?c23 ?k23 ?a24 ?l24 ?c24 ?k24 ?a25 ?l25 ?c25 ?k25 ?a26 ?l26 ?c26 ?k26 ?a27 ?l27 ?c27 ?k27 ?a28 ?l28 ?c28 ?k28 ?a29 ?l29 ?c29 ?k29 ?a31 ?l31 ?c31 ?k31 ?a46 ?l46 ?c46 ?k46 ?a47 ?l47 ?c47 ?k47 ?a48 ?l48 ?c48 ?k48 ?a49 ?l49 ?c49 ?k49 ?a50 ?l50 ?c50 ?k50 ?a51 ?l51 ?c51 ?k51 ?a52 ?l52 ?c52 ?k52 ?a53 ?l53 ?c53 ?k53 ?a54 ?l54 ?c54 ?k54 ?a55 ?l55 ?c55 ?k55 ?a56 ?l56 ?c56 ?k56 ?a57 ?l57 ?c57 ?k57 ?a58 ?l58 ?c58 ?k58 ?n0 ?n1 ?n2 ?n3 ?n4 ?n5 ?n6 ?n7 ?n8 ?n9 ?n10 ?n11 ?n12 ?n13 ?n14 ?n15 ?b0 ?b1 ?b2 ?b3 ?b4 ?b5 ?b6 ?b7 ?b8 ?g6 ?a6 ?i6 ?l6 ?c6 ?k6 ?mk6 ?kc6 ?pg6 ?hd6 ?po6 ?sa6 ?x6_letters ?x6_words ?x6_where ?x6_best ?x6_size ?g21 ?a21 ?i21 ?l21 ?c21 ?k21 ?mk21 ?kc21 ?pg21 ?hd21 ?po21 ?sa21 ?x21_rows ?x21_others ?g45 ?a45 ?i45 ?l45 ?c45 ?k45 ?mk45 ?kc45 ?pg45 ?hd45 ?po45 ?sa45 ?x45_cubes ?wW ?zW ?wL ?zL ?aC ?xL ?sa ?ga ?gg ?nb ?a44 ?t44 ?l44 ?c44 ?k44 ?kC ?eC ?tC ?hC ?iC ?sC
    (case a7 => k_is)
    (case l7 => k_is)
    (case c7 => k_is)
    (case k7 => k_is)
    (case a8 => k_is)
    (case l8 => k_is)
    (case c8 => k_is)
    (case k8 => k_is)
    (case a9 => k_is)
    (case l9 => k_is)
    (case c9 => k_is)
    (case k9 => k_is)
    (case a10 => k_is)
    (case l10 => k_is)
    (case c10 => k_is)
    (case k10 => k_is)
    (case a11 => k_is)
    (case l11 => k_is)
    (case c11 => k_is)
    (case k11 => k_is)
    (case a13 => k_is)
    (case l13 => k_is)
    (case c13 => k_is)
    (case k13 => k_is)
    (case a14 => k_is)
    (case l14 => k_is)
    (case c14 => k_is)
    (case k14 => k_is)
    (case a15 => k_is)
    (case l15 => k_is)
    (case c15 => k_is)
    (case k15 => k_is)
    (case a16 => k_is)
    (case l16 => k_is)
    (case c16 => k_is)
    (case k16 => k_is)
    (case a17 => k_is)
    (case l17 => k_is)
    (case c17 => k_is)
    (case k17 => k_is)
    (case a22 => k_is)
    (case l22 => k_is)
    (case c22 => k_is)
    (case k22 => k_is)
    (case a23 => k_is)
    (case l23 => k_is)
    (case c23 => k_is)
    (case k23 => k_is)
    (case a24 => k_is)
    (case l24 => k_is)
    (case c24 => k_is)
    (case k24 => k_is)
    (case a25 => k_is)
    (case l25 => k_is)
    (case c25 => k_is)
    (case k25 => k_is)
    (case a26 => k_is)
    (case l26 => k_is)
    (case c26 => k_is)
    (case k26 => k_is)
    (case a27 => k_is)
    (case l27 => k_is)
    (case c27 => k_is)
    (case k27 => k_is)
    (case a28 => k_is)
    (case l28 => k_is)
    (case c28 => k_is)
    (case k28 => k_is)
    (case a29 => k_is)
    (case l29 => k_is)
    (case c29 => k_is)
    (case k29 => k_is)
    (case a31 => k_is)
    (case l31 => k_is)
    (case c31 => k_is)
    (case k31 => k_is)
    (case a46 => k_is)
    (case l46 => k_is)
    (case c46 => k_is)
    (case k46 => k_is)
    (case a47 => k_is)
    (case l47 => k_is)
    (case c47 => k_is)
    (case k47 => k_is)
    (case a48 => k_is)
    (case l48 => k_is)
    (case c48 => k_is)
    (case k48 => k_is)
    (case a49 => k_is)
    (case l49 => k_is)
    (case c49 => k_is)
    (case k49 => k_is)
    (case a50 => k_is)
    (case l50 => k_is)
    (case c50 => k_is)
    (case k50 => k_is)
    (case a51 => k_is)
    (case l51 => k_is)
    (case c51 => k_is)
    (case k51 => k_is)
    (case a52 => k_is)
    (case l52 => k_is)
    (case c52 => k_is)
    (case k52 => k_is)
    (case a53 => k_is)
    (case l53 => k_is)
    (case c53 => k_is)
    (case k53 => k_is)
    (case a54 => k_is)
    (case l54 => k_is)
    (case c54 => k_is)
    (case k54 => k_is)
    (case a55 => k_is)
    (case l55 => k_is)
    (case c55 => k_is)
    (case k55 => k_is)
    (case a56 => k_is)
    (case l56 => k_is)
    (case c56 => k_is)
    (case k56 => k_is)
    (case a57 => k_is)
    (case l57 => k_is)
    (case c57 => k_is)
    (case k57 => k_is)
    (case a58 => k_is)
    (case l58 => k_is)
    (case c58 => k_is)
    (case k58 => k_is)
    (case n0 => k_is)
    (case n1 => k_is)
    (case n2 => k_is)
    (case n3 => k_is)
    (case n4 => k_is)
    (case n5 => k_is)
    (case n6 => k_is)
    (case n7 => k_is)
    (case n8 => k_is)
    (case n9 => k_is)
    (case n10 => k_is)
    (case n11 => k_is)
    (case n12 => k_is)
    (case n13 => k_is)
    (case n14 => k_is)
    (case n15 => k_is)
    (case b0 => k_is)
    (case b1 => k_is)
    (case b2 => k_is)
    (case b3 => k_is)
    (case b4 => k_is)
    (case b5 => k_is)
    (case b6 => k_is)
    (case b7 => k_is)
    (case b8 => k_is)
    (case g6 => k_is)
    (case a6 => k_is)
    (case i6 => k_is)
    (case l6 => k_is)
    (case c6 => k_is)
    (case k6 => k_is)
    (case mk6 => k_is)
    (case kc6 => k_is)
    (case pg6 => k_is)
    (case hd6 => k_is)
    (case po6 => k_is)
    (case sa6 => k_is)
    (case x6_letters => k_is)
    (case x6_words => k_is)
    (case x6_where => k_is)
    (case x6_best => k_is)
    (case x6_size => k_is)
    (case g21 => k_is)
    (case a21 => k_is)
    (case i21 => k_is)
    (case l21 => k_is)
    (case c21 => k_is)
    (case k21 => k_is)
    (case mk21 => k_is)
    (case kc21 => k_is)
    (case pg21 => k_is)
    (case hd21 => k_is)
    (case po21 => k_is)
    (case sa21 => k_is)
    (case x21_rows => k_is)
    (case x21_others => k_is)
    (case g45 => k_is)
    (case a45 => k_is)
    (case i45 => k_is)
    (case l45 => k_is)
    (case c45 => k_is)
    (case k45 => k_is)
    (case mk45 => k_is)
    (case kc45 => k_is)
    (case pg45 => k_is)
    (case hd45 => k_is)
    (case po45 => k_is)
    (case sa45 => k_is)
    (case x45_cubes => k_is)
    (case wW => k_is)
    (case zW => k_is)
    (case wL => k_is)
    (case zL => k_is)
    (case aC => k_is)
    (case xL => k_is)
    (case sa => k_is)
    (case ga => k_is)
    (case gg => k_is)
    (case nb => k_is)
    (case a44 => k_is)
    (case t44 => k_is)
    (case l44 => k_is)
    (case c44 => k_is)
    (case k44 => k_is)
    (case kC => k_is)
    (case eC => k_is)
    (case tC => k_is)
    (case hC => k_is)
    (case iC => k_is)
    (case sC => first | rfl | k_is)
  case S =>
    intro K H xs a hO hwi hask hx
    cases hx with
    | cons h1 h2 =>
      cases h2
      cases h1 with
      | lst hs ha =>
        have e := L2.ints_dw a.1 _ ha
        subst e
        have hw : Codec.within (.list 0 3400 (.int 0 4294967295)) a.1 = true := (Bool.and_eq_true_iff.mp hwi).1
        obtain ⟨w1, w2⟩ := Bool.and_eq_true_iff.mp hw
        have w1' : (decide (0 ≤ List.length a.1) && decide (List.length a.1 ≤ 3400)) = true := w1
        obtain ⟨_, w3⟩ := Bool.and_eq_true_iff.mp w1'
        refine Lc.asked_ok hs (of_decide_eq_true w3) (fun z hz => ?_) hask (fun H' p hp => .lst (L2.SqL.of hp) (L2.dw_ints _))
        obtain ⟨b1, b2⟩ := Bool.and_eq_true_iff.mp (List.all_eq_true.mp w2 z hz)
        exact ⟨of_decide_eq_true b1, of_decide_eq_true b2⟩
#print axioms PySem.Challenge.cw_lettercubes_s01_answers_holds
