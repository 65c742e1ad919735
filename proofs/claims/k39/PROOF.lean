import PyProof.Rows.All
import PySem.Str
import Wide.All
import OpenK.AllK
import Wide.FinOn
import KE.KSuper
import HandS.ForMost
import HandS.Star
import HandS.Exc
import HandS.ClsMeth
import HandS.Words
import HandS.Base
import HandS.Call
import HandS.Defaults
import HandS.HeadHook1
import HandS.HeadHook2
import HandS.Property
import KE.KStateDown
import HandS.Ends
import HandS.More
import HandS.Head0
import HandS.Head1
import HandS.Head2
import HandS.HeadEnd
import PySem.Challenge.RW_alwaysnew_k39_whole_readiness
import KE.GoesEnum
import KE.GoesEnumKw
import KE.GoesMore
import PyProof.EnumMake
import HandS.SetBool
import HandS.TupSets
import HandS.Strs
import HandS.Dict
import KE.KDictKeyed
import HandS.Zip
import KE.KDictZip
import HandS.Deep
import HandS.TupMul
import HandS.TupAny
import HandS.OwnEq
import HandS.Evl
import HandS.IsInst
import HandS.MakeKwOnly
import HandS.MakeKw
import HandS.DictComp
import HandS.WordsDict
import HandS.SetTxt0
import HandS.SetFor

-- ANm1
section
set_option linter.all false
/-! Plain mathematics: machines as rows, classes of states by refinement, true states, standings that are reached. -/
namespace AN
open PySem

abbrev Rows := List (List (Nat × Str))
def nx (R : Rows) (s j : Nat) : Nat := ((R.getD s []).getD j (0, Str.empty)).1
def wd (R : Rows) (s j : Nat) : Str := ((R.getD s []).getD j (0, Str.empty)).2
def hushW (q : List Str) (x : Str) : Str := if x ∈ q then Str.empty else x
def hushR (q : List Str) (r : List (Nat × Str)) : List (Nat × Str) := r.map fun p => (p.1, hushW q p.2)
def hush (q : List Str) (R : Rows) : Rows := R.map (hushR q)

/-- a machine's rows for n letters: one to three states, a pair for each letter, each next one a state -/
structure Wf (n : Nat) (R : Rows) : Prop where
  ne : 0 < R.length
  le : R.length ≤ 3
  row : ∀ r ∈ R, r.length = n
  nxt : ∀ r ∈ R, ∀ p ∈ r, p.1 < R.length

theorem hush_length (q : List Str) (R : Rows) : (hush q R).length = R.length := by simp [hush]
theorem hush_wf {n : Nat} {R : Rows} (h : Wf n R) (q : List Str) : Wf n (hush q R) := by
  refine ⟨by rw [hush_length]; exact h.ne, by rw [hush_length]; exact h.le, fun r hr => ?_, fun r hr p hp => ?_⟩
  · obtain ⟨r0, h0, rfl⟩ := List.mem_map.mp hr
    simp only [hushR, List.length_map]
    exact h.row r0 h0
  · obtain ⟨r0, h0, rfl⟩ := List.mem_map.mp hr
    obtain ⟨p0, hp0, rfl⟩ := List.mem_map.mp hp
    rw [hush_length]
    exact h.nxt r0 h0 p0 hp0
theorem getD_mem {α : Type} {l : List α} {i : Nat} {d : α} (h : i < l.length) : l.getD i d ∈ l := by
  rw [List.getD_eq_getElem?_getD, List.getElem?_eq_getElem h]
  exact List.getElem_mem h
theorem getD_map {α β : Type} {l : List α} {i : Nat} {d : α} {e : β} {f : α → β} (h : i < l.length) : (l.map f).getD i e = f (l.getD i d) := by
  simp [List.getD_eq_getElem?_getD, List.getElem?_eq_getElem h]
theorem getD_range {n i d : Nat} (h : i < n) : (List.range n).getD i d = i := by
  simp [List.getD_eq_getElem?_getD, h]

theorem nx_lt {n : Nat} {R : Rows} (h : Wf n R) {s j : Nat} (hs : s < R.length) (hj : j < n) : nx R s j < R.length := by
  have h1 := getD_mem (d := []) hs
  have h2 := h.row _ h1
  exact h.nxt _ h1 _ (getD_mem (by rw [h2]; exact hj))
theorem nx_hush {R : Rows} (q : List Str) {s j n : Nat} (h : Wf n R) (hs : s < R.length) (hj : j < n) : nx (hush q R) s j = nx R s j := by
  have h1 := h.row _ (getD_mem (d := []) hs)
  unfold nx hush
  rw [getD_map (d := []) hs]
  unfold hushR
  rw [getD_map (d := (0, Str.empty)) (by rw [h1]; exact hj)]
theorem wd_hush {R : Rows} (q : List Str) {s j n : Nat} (h : Wf n R) (hs : s < R.length) (hj : j < n) : wd (hush q R) s j = hushW q (wd R s j) := by
  have h1 := h.row _ (getD_mem (d := []) hs)
  unfold wd hush
  rw [getD_map (d := []) hs]
  unfold hushR
  rw [getD_map (d := (0, Str.empty)) (by rw [h1]; exact hj)]

/-! ### refinement -/
abbrev KeyT := Nat × List Str × List Nat
def keyAt (R : Rows) (c : List Nat) (i : Nat) : KeyT := (c.getD i 0, (R.getD i []).map (·.2), (R.getD i []).map fun p => c.getD p.1 0)
def keys (R : Rows) (c : List Nat) : List KeyT := (List.range R.length).map (keyAt R c)
def rfn (R : Rows) (c : List Nat) : List Nat := (keys R c).map fun k => (keys R c).idxOf k
theorem keys_length (R : Rows) (c : List Nat) : (keys R c).length = R.length := by simp [keys]
theorem rfn_length (R : Rows) (c : List Nat) : (rfn R c).length = R.length := by simp [rfn, keys]
theorem keys_getD {R : Rows} {c : List Nat} {i : Nat} (h : i < R.length) (d : KeyT) : (keys R c).getD i d = keyAt R c i := by
  unfold keys
  rw [getD_map (d := 0) (by simpa using h), getD_range h]
theorem keys_get {R : Rows} {c : List Nat} {i : Nat} (h : i < R.length) : (keys R c)[i]? = some (keyAt R c i) := by
  unfold keys
  simp [h]
theorem rfn_getD {R : Rows} {c : List Nat} {i : Nat} (h : i < R.length) : (rfn R c).getD i 0 = (keys R c).idxOf (keyAt R c i) := by
  unfold rfn
  rw [getD_map (d := (0, [], [])) (by rw [keys_length]; exact h), keys_getD h]
theorem keyAt_mem {R : Rows} {c : List Nat} {i : Nat} (h : i < R.length) : keyAt R c i ∈ keys R c := List.mem_map.mpr ⟨i, List.mem_range.mpr h, rfl⟩
/-- the first place with the key: its key is that one -/
theorem idx_key {R : Rows} {c : List Nat} {i : Nat} (h : i < R.length) : (keys R c).idxOf (keyAt R c i) < R.length ∧ keyAt R c ((keys R c).idxOf (keyAt R c i)) = keyAt R c i := by
  have h1 : (keys R c).idxOf (keyAt R c i) < (keys R c).length := List.idxOf_lt_length_of_mem (keyAt_mem h)
  have h2 : (keys R c).idxOf (keyAt R c i) < R.length := by rw [keys_length] at h1; exact h1
  refine ⟨h2, ?_⟩
  have h3 := List.getElem_idxOf h1
  have h4 := keys_get (c := c) h2
  rw [List.getElem?_eq_getElem h1] at h4
  rw [h3] at h4
  exact (Option.some.inj h4).symm
theorem idx_le {R : Rows} {c : List Nat} {i j : Nat} (h : i < R.length) (hj : j < R.length) (e : keyAt R c j = keyAt R c i) : (keys R c).idxOf (keyAt R c i) ≤ j := by
  refine Nat.le_of_not_lt fun hlt => ?_
  have h1 : j < (keys R c).length := by rw [keys_length]; exact hj
  have h2 := List.not_of_lt_findIdx (show j < (keys R c).findIdx (· == keyAt R c i) from hlt)
  have h3 := keys_get (c := c) hj
  rw [List.getElem?_eq_getElem h1] at h3
  rw [Option.some.inj h3, e] at h2
  simp at h2
theorem rfn_eq_iff {R : Rows} {c : List Nat} {i j : Nat} (hi : i < R.length) (hj : j < R.length) : (rfn R c).getD i 0 = (rfn R c).getD j 0 ↔ keyAt R c i = keyAt R c j := by
  rw [rfn_getD hi, rfn_getD hj]
  constructor
  · intro e
    have a := (idx_key (c := c) hi).2
    have b := (idx_key (c := c) hj).2
    rw [e] at a
    exact a.symm.trans b
  · intro e
    rw [e]

/-- each class is told by its least state -/
def Least (n : Nat) (c : List Nat) : Prop := c.length = n ∧ ∀ i j, i < n → j < n → c.getD j 0 = c.getD i 0 → c.getD i 0 ≤ j
theorem Least.start (n : Nat) : Least n (List.replicate n 0) := by
  refine ⟨by simp, fun i j hi hj _ => ?_⟩
  rw [List.getD_eq_getElem?_getD, List.getElem?_replicate, if_pos hi]
  exact Nat.zero_le _
theorem Least.rfn (R : Rows) (c : List Nat) : Least R.length (rfn R c) := by
  refine ⟨rfn_length R c, fun i j hi hj e => ?_⟩
  rw [rfn_getD hi]
  exact idx_le hi hj ((rfn_eq_iff hj hi).mp e)
theorem Least.up {R : Rows} {c : List Nat} (h : Least R.length c) {i : Nat} (hi : i < R.length) : c.getD i 0 ≤ (AN.rfn R c).getD i 0 := by
  rw [rfn_getD hi]
  obtain ⟨a, b⟩ := idx_key (c := c) hi
  have e : c.getD ((keys R c).idxOf (keyAt R c i)) 0 = c.getD i 0 := congrArg Prod.fst b
  exact h.2 i _ hi a e
theorem Least.lt {n : Nat} {c : List Nat} (h : Least n c) {i : Nat} (hi : i < n) : c.getD i 0 < n := Nat.lt_of_le_of_lt (h.2 i i hi hi rfl) hi

def tot (c : List Nat) : Nat := c.sum
theorem sum_le : ∀ (a b : List Nat), a.length = b.length → (∀ i, i < a.length → a.getD i 0 ≤ b.getD i 0) → a.sum ≤ b.sum ∧ (a.sum = b.sum → a = b)
  | [], [], _, _ => ⟨Nat.le_refl _, fun _ => rfl⟩
  | x :: a, y :: b, hl, h => by
    obtain ⟨h1, h2⟩ := sum_le a b (by simpa using hl) fun i hi => by
      have := h (i + 1) (by simpa using hi)
      simpa using this
    have h0 : x ≤ y := by simpa using h 0 (by simp)
    simp only [List.sum_cons]
    refine ⟨by omega, fun e => ?_⟩
    have e1 : x = y := by omega
    have e2 : a.sum = b.sum := by omega
    rw [e1, h2 e2]
theorem sum_bound : ∀ (n : Nat) (c : List Nat), (∀ x ∈ c, x < n) → c.sum ≤ c.length * n
  | _, [], _ => by simp
  | n, x :: c, h => by
    have h1 := sum_bound n c fun y hy => h y (List.mem_cons_of_mem _ hy)
    have h2 := h x (List.mem_cons_self ..)
    simp only [List.sum_cons, List.length_cons, Nat.add_mul]
    omega
theorem Least.tot_le {n : Nat} {c : List Nat} (h : Least n c) : tot c ≤ n * n := by
  have := sum_bound n c fun x hx => by
    obtain ⟨i, hi, rfl⟩ := List.getElem_of_mem hx
    have := h.lt (i := i) (by rw [← h.1]; exact hi)
    rwa [List.getD_eq_getElem?_getD, List.getElem?_eq_getElem hi] at this
  rw [h.1] at this
  exact this
theorem Least.grow {R : Rows} {c : List Nat} (h : Least R.length c) : tot c ≤ tot (AN.rfn R c) ∧ (AN.rfn R c ≠ c → tot c < tot (AN.rfn R c)) := by
  obtain ⟨a, b⟩ := sum_le c (AN.rfn R c) (by rw [h.1, rfn_length]) fun i hi => h.up (by rw [← h.1]; exact hi)
  refine ⟨a, fun ne => Nat.lt_of_le_of_ne a fun e => ne (b e).symm⟩

/-- the k-th partition -/
def iter (R : Rows) : Nat → List Nat
  | 0 => List.replicate R.length 0
  | k + 1 => AN.rfn R (iter R k)
theorem iter_least (R : Rows) : ∀ k, Least R.length (iter R k)
  | 0 => Least.start _
  | k + 1 => Least.rfn R _
theorem iter_length (R : Rows) (k : Nat) : (iter R k).length = R.length := (iter_least R k).1
theorem iter_fix {R : Rows} {k : Nat} (h : AN.rfn R (iter R k) = iter R k) : ∀ m, iter R (k + m) = iter R k
  | 0 => rfl
  | m + 1 => by
    show AN.rfn R (iter R (k + m)) = _
    rw [iter_fix h m, h]
theorem iter_tot (R : Rows) : ∀ k, (∃ j, j < k ∧ AN.rfn R (iter R j) = iter R j) ∨ k ≤ tot (iter R k)
  | 0 => .inr (Nat.zero_le _)
  | k + 1 => by
    rcases iter_tot R k with ⟨j, hj, e⟩ | h
    · exact .inl ⟨j, Nat.lt_succ_of_lt hj, e⟩
    · by_cases e : AN.rfn R (iter R k) = iter R k
      · exact .inl ⟨k, Nat.lt_succ_self _, e⟩
      · have := (iter_least R k).grow.2 e
        exact .inr (by show k + 1 ≤ tot (AN.rfn R (iter R k)); omega)
/-- the classes of a machine's states -/
def cls (R : Rows) : List Nat := iter R (R.length * R.length + 1)
theorem cls_fix (R : Rows) : AN.rfn R (cls R) = cls R := by
  rcases iter_tot R (R.length * R.length + 1) with ⟨j, hj, e⟩ | h
  · have h1 := iter_fix e (R.length * R.length + 1 - j)
    have h2 : j + (R.length * R.length + 1 - j) = R.length * R.length + 1 := by omega
    rw [h2] at h1
    show AN.rfn R (iter R (R.length * R.length + 1)) = iter R (R.length * R.length + 1)
    rw [h1, e]
  · have := (iter_least R (R.length * R.length + 1)).tot_le
    omega
theorem cls_of_fix {R : Rows} {k : Nat} (h : AN.rfn R (iter R k) = iter R k) : iter R k = cls R := by
  have h1 := iter_fix h (R.length * R.length + 1)
  have h2 := iter_fix (cls_fix R) k
  rw [Nat.add_comm] at h2
  exact h1.symm.trans h2
theorem cls_length (R : Rows) : (cls R).length = R.length := iter_length R _
def cl (R : Rows) (s : Nat) : Nat := (cls R).getD s 0

theorem map_getD {α β : Type} {f : α → β} {l m : List α} (e : l.map f = m.map f) (j : Nat) (d : α) (hl : j < l.length) (hm : j < m.length) : f (l.getD j d) = f (m.getD j d) := by
  rw [← getD_map (d := d) (e := f d) (f := f) hl, ← getD_map (d := d) (e := f d) (f := f) hm, e]
/-- states of one class say the same word and lead to states of one class -/
theorem cl_step {n : Nat} {R : Rows} (h : Wf n R) {p q j : Nat} (hp : p < R.length) (hq : q < R.length) (hj : j < n) (e : cl R p = cl R q) : wd R p j = wd R q j ∧ cl R (nx R p j) = cl R (nx R q j) := by
  have e1 : (AN.rfn R (cls R)).getD p 0 = (AN.rfn R (cls R)).getD q 0 := by rw [cls_fix]; exact e
  have e2 := (rfn_eq_iff hp hq).mp e1
  have rp := h.row _ (getD_mem (d := []) hp)
  have rq := h.row _ (getD_mem (d := []) hq)
  have e3 : (R.getD p []).map (·.2) = (R.getD q []).map (·.2) := congrArg (fun z : KeyT => z.2.1) e2
  have e4 : ((R.getD p []).map fun z => (cls R).getD z.1 0) = (R.getD q []).map fun z => (cls R).getD z.1 0 := congrArg (fun z : KeyT => z.2.2) e2
  exact ⟨map_getD e3 j (0, Str.empty) (by rw [rp]; exact hj) (by rw [rq]; exact hj), map_getD e4 j (0, Str.empty) (by rw [rp]; exact hj) (by rw [rq]; exact hj)⟩
theorem map_eq_of {α β : Type} {f : α → β} (d : α) : ∀ {l m : List α}, l.length = m.length → (∀ j, j < l.length → f (l.getD j d) = f (m.getD j d)) → l.map f = m.map f
  | [], [], _, _ => rfl
  | x :: l, y :: m, hl, h => by
    have h0 : f x = f y := by simpa using h 0 (by simp)
    have h1 := map_eq_of (f := f) d (l := l) (m := m) (by simpa using hl) fun j hj => by
      have := h (j + 1) (by simpa using hj)
      simpa using this
    rw [List.map_cons, List.map_cons, h0, h1]
/-- a relation that keeps words and is kept by the letters lies in the classes -/
theorem cl_coarse {n : Nat} {R : Rows} (h : Wf n R) (r : Nat → Nat → Prop)
    (hr : ∀ p q, p < R.length → q < R.length → r p q → ∀ j, j < n → wd R p j = wd R q j ∧ r (nx R p j) (nx R q j)) :
    ∀ k p q, p < R.length → q < R.length → r p q → (iter R k).getD p 0 = (iter R k).getD q 0
  | 0, p, q, hp, hq, _ => by
    show (List.replicate R.length 0).getD p 0 = (List.replicate R.length 0).getD q 0
    rw [List.getD_eq_getElem?_getD, List.getD_eq_getElem?_getD, List.getElem?_replicate, List.getElem?_replicate, if_pos hp, if_pos hq]
  | k + 1, p, q, hp, hq, e => by
    refine (rfn_eq_iff hp hq).mpr ?_
    have rp := h.row _ (getD_mem (d := []) hp)
    have rq := h.row _ (getD_mem (d := []) hq)
    have a1 := cl_coarse h r hr k p q hp hq e
    have a2 : (R.getD p []).map (·.2) = (R.getD q []).map (·.2) := map_eq_of (0, Str.empty) (rp.trans rq.symm) fun j hj => (hr p q hp hq e j (by rw [← rp]; exact hj)).1
    have a3 : ((R.getD p []).map fun z => (iter R k).getD z.1 0) = (R.getD q []).map fun z => (iter R k).getD z.1 0 :=
      map_eq_of (0, Str.empty) (rp.trans rq.symm) fun j hj => by
        have hj' : j < n := by rw [← rp]; exact hj
        exact cl_coarse h r hr k _ _ (nx_lt h hp hj') (nx_lt h hq hj') (hr p q hp hq e j hj').2
    unfold keyAt
    rw [a1, a2, a3]
/-- with more quiet words the classes grow -/
theorem cl_wider {n : Nat} {R : Rows} (h : Wf n R) {a b : List Str} (hab : ∀ x ∈ a, x ∈ b) {p q : Nat} (hp : p < R.length) (hq : q < R.length) (e : cl (hush a R) p = cl (hush a R) q) : cl (hush b R) p = cl (hush b R) q := by
  have la := hush_length a R
  have lb := hush_length b R
  refine cl_coarse (hush_wf h b) (fun p q => p < R.length ∧ q < R.length ∧ cl (hush a R) p = cl (hush a R) q) ?_ _ p q (by rw [lb]; exact hp) (by rw [lb]; exact hq) ⟨hp, hq, e⟩
  rintro p q _ _ ⟨hp, hq, e⟩ j hj
  obtain ⟨e1, e2⟩ := cl_step (hush_wf h a) (by rw [la]; exact hp) (by rw [la]; exact hq) hj e
  rw [wd_hush a h hp hj, wd_hush a h hq hj] at e1
  rw [nx_hush a h hp hj, nx_hush a h hq hj] at e2
  rw [wd_hush b h hp hj, wd_hush b h hq hj, nx_hush b h hp hj, nx_hush b h hq hj]
  refine ⟨?_, nx_lt h hp hj, nx_lt h hq hj, e2⟩
  unfold hushW at e1 ⊢
  by_cases c1 : wd R p j ∈ b
  · rw [if_pos c1]
    by_cases c2 : wd R q j ∈ b
    · rw [if_pos c2]
    · rw [if_neg c2]
      rw [if_neg fun z => c2 (hab _ z)] at e1
      by_cases c3 : wd R p j ∈ a
      · rw [if_pos c3] at e1; exact e1
      · rw [if_neg c3] at e1
        exact absurd (e1 ▸ c1) c2
  · rw [if_neg c1]
    rw [if_neg fun z => c1 (hab _ z)] at e1
    by_cases c2 : wd R q j ∈ b
    · rw [if_pos c2]
      by_cases c3 : wd R q j ∈ a
      · rw [if_pos c3] at e1; exact e1
      · rw [if_neg c3] at e1
        exact absurd (e1 ▸ c2) c1
    · rw [if_neg c2]
      rw [if_neg fun z => c2 (hab _ z)] at e1
      exact e1

/-! ### true states -/
def trueM (R : Rows) (q : List Str) (P : List Nat) : List Nat := (List.range R.length).filter fun t => P.all fun p => cl (hush q R) p == cl (hush q R) t
theorem mem_trueM {R : Rows} {q : List Str} {P : List Nat} {t : Nat} : t ∈ trueM R q P ↔ t < R.length ∧ ∀ p ∈ P, cl (hush q R) p = cl (hush q R) t := by
  unfold trueM
  simp [List.mem_filter]
theorem trueM_congr {R : Rows} {q : List Str} {P Q : List Nat} (h : ∀ p, p ∈ P ↔ p ∈ Q) : trueM R q P = trueM R q Q := by
  unfold trueM
  refine List.filter_congr fun t _ => ?_
  rw [Bool.eq_iff_iff]
  simp only [List.all_eq_true]
  exact ⟨fun g p hp => g p ((h p).mpr hp), fun g p hp => g p ((h p).mp hp)⟩
theorem trueM_led {n : Nat} {R : Rows} (h : Wf n R) {q : List Str} {P : List Nat} {j : Nat} (hj : j < n) (hP : ∀ p ∈ P, p < R.length) {t : Nat} (ht : t ∈ trueM R q P) : nx R t j ∈ trueM R q (P.map fun p => nx R p j) := by
  obtain ⟨h1, h2⟩ := mem_trueM.mp ht
  refine mem_trueM.mpr ⟨nx_lt h h1 hj, fun p hp => ?_⟩
  obtain ⟨p0, hp0, rfl⟩ := List.mem_map.mp hp
  have lq := hush_length q R
  have := (cl_step (hush_wf h q) (by rw [lq]; exact hP p0 hp0) (by rw [lq]; exact h1) hj (h2 p0 hp0)).2
  rwa [nx_hush q h (hP p0 hp0) hj, nx_hush q h h1 hj] at this
theorem trueM_less {R : Rows} {q : List Str} {P Q : List Nat} (h : ∀ p ∈ Q, p ∈ P) {t : Nat} (ht : t ∈ trueM R q P) : t ∈ trueM R q Q := by
  obtain ⟨h1, h2⟩ := mem_trueM.mp ht
  exact mem_trueM.mpr ⟨h1, fun p hp => h2 p (h p hp)⟩
theorem trueM_one {R : Rows} {q : List Str} {t : Nat} (ht : t < R.length) : t ∈ trueM R q [t] := mem_trueM.mpr ⟨ht, fun p hp => by
  rw [List.mem_singleton.mp hp]⟩
theorem trueM_wider {n : Nat} {R : Rows} (h : Wf n R) {a b : List Str} (hab : ∀ x ∈ a, x ∈ b) {P : List Nat} (hP : ∀ p ∈ P, p < R.length) {t : Nat} (ht : t ∈ trueM R a P) : t ∈ trueM R b P := by
  obtain ⟨h1, h2⟩ := mem_trueM.mp ht
  exact mem_trueM.mpr ⟨h1, fun p hp => cl_wider h hab (hP p hp) h1 (h2 p hp)⟩
/-- the states alike with a true one are the true ones -/
theorem trueM_alike {R : Rows} {q : List Str} {P : List Nat} (hne : P ≠ []) {t : Nat} (ht : t ∈ trueM R q P) : ((List.range R.length).filter fun u => cl (hush q R) t == cl (hush q R) u) = trueM R q P := by
  obtain ⟨h1, h2⟩ := mem_trueM.mp ht
  unfold trueM
  refine List.filter_congr fun u _ => ?_
  rw [Bool.eq_iff_iff]
  simp only [List.all_eq_true, beq_iff_eq]
  constructor
  · intro e p hp
    rw [h2 p hp, e]
  · intro g
    cases P with
    | nil => exact absurd rfl hne
    | cons p P =>
      rw [← h2 p (List.mem_cons_self ..), g p (List.mem_cons_self ..)]
theorem trueM_all {R : Rows} {q : List Str} {P : List Nat} (hne : P ≠ []) {t u : Nat} (ht : t ∈ trueM R q P) (hu : u ∈ trueM R q P) : cl (hush q R) t = cl (hush q R) u := by
  cases P with
  | nil => exact absurd rfl hne
  | cons p P => rw [← (mem_trueM.mp ht).2 p (List.mem_cons_self ..), ← (mem_trueM.mp hu).2 p (List.mem_cons_self ..)]

/-! ### readings -/
def ledM (R : Rows) (s : Nat) : List Nat → Nat
  | [] => s
  | j :: js => ledM R (nx R s j) js
def saidM (R : Rows) (s : Nat) : List Nat → List Str
  | [] => []
  | j :: js => wd R s j :: saidM R (nx R s j) js
theorem ledM_lt {n : Nat} {R : Rows} (h : Wf n R) : ∀ {js : List Nat} {s : Nat}, s < R.length → (∀ j ∈ js, j < n) → ledM R s js < R.length
  | [], _, hs, _ => hs
  | j :: js, s, hs, hj => ledM_lt h (js := js) (nx_lt h hs (hj j (List.mem_cons_self ..))) fun i hi => hj i (List.mem_cons_of_mem _ hi)
theorem said_alike {n : Nat} {R : Rows} (h : Wf n R) {q : List Str} : ∀ {js : List Nat} {s t : Nat}, s < R.length → t < R.length → (∀ j ∈ js, j < n) → cl (hush q R) s = cl (hush q R) t → (saidM R s js).map (hushW q) = (saidM R t js).map (hushW q)
  | [], _, _, _, _, _, _ => rfl
  | j :: js, s, t, hs, ht, hj, e => by
    have hj0 := hj j (List.mem_cons_self ..)
    have lq := hush_length q R
    obtain ⟨e1, e2⟩ := cl_step (hush_wf h q) (by rw [lq]; exact hs) (by rw [lq]; exact ht) hj0 e
    rw [nx_hush q h hs hj0, nx_hush q h ht hj0] at e2
    rw [wd_hush q h hs hj0, wd_hush q h ht hj0] at e1
    have ih := said_alike h (js := js) (nx_lt h hs hj0) (nx_lt h ht hj0) (fun i hi => hj i (List.mem_cons_of_mem _ hi)) e2
    show hushW q (wd R s j) :: _ = hushW q (wd R t j) :: _
    rw [e1]
    exact congrArg _ ih
theorem said_true {n : Nat} {R : Rows} (h : Wf n R) {q : List Str} {P : List Nat} {p t : Nat} {js : List Nat} (hp : p ∈ P) (hP : ∀ p ∈ P, p < R.length) (ht : t ∈ trueM R q P) (hj : ∀ j ∈ js, j < n) : (saidM R t js).map (hushW q) = (saidM R p js).map (hushW q) :=
  said_alike h (mem_trueM.mp ht).1 (hP p hp) hj ((mem_trueM.mp ht).2 p hp).symm
theorem ledM_append (R : Rows) : ∀ (a b : List Nat) (s : Nat), ledM R s (a ++ b) = ledM R (ledM R s a) b
  | [], _, _ => rfl
  | j :: a, b, s => ledM_append R a b (nx R s j)
theorem saidM_length (R : Rows) : ∀ (a : List Nat) (s : Nat), (saidM R s a).length = a.length
  | [], _ => rfl
  | j :: a, s => by
    show (saidM R (nx R s j) a).length + 1 = a.length + 1
    rw [saidM_length R a]
theorem saidM_snoc (R : Rows) (j : Nat) : ∀ (a : List Nat) (s : Nat), saidM R s (a ++ [j]) = saidM R s a ++ [wd R (ledM R s a) j]
  | [], _ => rfl
  | i :: a, s => by
    show wd R s i :: saidM R (nx R s i) (a ++ [j]) = _
    rw [saidM_snoc R j a]
    rfl
end AN
end

-- ANm2
section
set_option Elab.async false
set_option linter.all false
set_option maxRecDepth 100000
set_option maxHeartbeats 4000000
/-! Plain mathematics 2: states of all versions, reached ones. -/
namespace AN
open PySem

def nxS (vs : List Rows) (s : List Nat) (j : Nat) : List Nat := (List.range vs.length).map fun i => nx (vs.getD i []) (s.getD i 0) j
def zeroS (vs : List Rows) : List Nat := List.replicate vs.length 0
def ledS (vs : List Rows) (s : List Nat) : List Nat → List Nat
  | [] => s
  | j :: js => ledS vs (nxS vs s j) js
def Reach (n : Nat) (vs : List Rows) (s : List Nat) : Prop := ∃ js, (∀ j ∈ js, j < n) ∧ ledS vs (zeroS vs) js = s
/-- states of all versions -/
def StOk (vs : List Rows) (s : List Nat) : Prop := s.length = vs.length ∧ ∀ i, i < vs.length → s.getD i 0 < (vs.getD i []).length
theorem ledS_append (vs : List Rows) : ∀ (a b : List Nat) (s : List Nat), ledS vs s (a ++ b) = ledS vs (ledS vs s a) b
  | [], _, _ => rfl
  | j :: a, b, s => ledS_append vs a b (nxS vs s j)
theorem nxS_length (vs : List Rows) (s : List Nat) (j : Nat) : (nxS vs s j).length = vs.length := by simp [nxS]
theorem nxS_getD {vs : List Rows} {s : List Nat} {j i : Nat} (h : i < vs.length) : (nxS vs s j).getD i 0 = nx (vs.getD i []) (s.getD i 0) j := by
  rw [nxS, getD_map (d := 0) (by simpa using h), getD_range h]
theorem StOk.next {n : Nat} {vs : List Rows} (hw : ∀ R ∈ vs, Wf n R) {s : List Nat} (h : StOk vs s) {j : Nat} (hj : j < n) : StOk vs (nxS vs s j) :=
  ⟨nxS_length _ _ _, fun i hi => by rw [nxS_getD hi]; exact nx_lt (hw _ (getD_mem hi)) (h.2 i hi) hj⟩
theorem StOk.led {n : Nat} {vs : List Rows} (hw : ∀ R ∈ vs, Wf n R) {js : List Nat} {s : List Nat} (h : StOk vs s) (hj : ∀ j ∈ js, j < n) : StOk vs (ledS vs s js) := by
  induction js generalizing s with
  | nil => exact h
  | cons j js ih => exact ih (h.next hw (hj j List.mem_cons_self)) fun x hx => hj x (List.mem_cons_of_mem _ hx)
theorem StOk.zero {n : Nat} {vs : List Rows} (hw : ∀ R ∈ vs, Wf n R) : StOk vs (zeroS vs) :=
  ⟨by simp [zeroS], fun i hi => by
    have h1 : (zeroS vs).getD i 0 = 0 := by simp [zeroS, List.getD_eq_getElem?_getD, hi]
    rw [h1]
    exact (hw _ (getD_mem (d := []) hi)).ne⟩
theorem Reach.ok {n : Nat} {vs : List Rows} (hw : ∀ R ∈ vs, Wf n R) {s : List Nat} (h : Reach n vs s) : StOk vs s := by
  obtain ⟨js, h1, rfl⟩ := h
  exact StOk.led hw (StOk.zero hw) h1
theorem Reach.zero (n : Nat) (vs : List Rows) : Reach n vs (zeroS vs) := ⟨[], by simp, rfl⟩
theorem Reach.led {n : Nat} {vs : List Rows} {s : List Nat} (h : Reach n vs s) {js : List Nat} (hj : ∀ j ∈ js, j < n) : Reach n vs (ledS vs s js) := by
  obtain ⟨ks, h1, rfl⟩ := h
  refine ⟨ks ++ js, fun j hm => ?_, ledS_append vs ks js _⟩
  rcases List.mem_append.mp hm with h | h
  · exact h1 j h
  · exact hj j h
theorem Reach.next {n : Nat} {vs : List Rows} {s : List Nat} (h : Reach n vs s) {j : Nat} (hj : j < n) : Reach n vs (nxS vs s j) :=
  h.led (js := [j]) fun x hx => by
    rw [List.mem_singleton] at hx
    rw [hx]
    exact hj
theorem reach_in {n : Nat} {vs : List Rows} {S : List (List Nat)} (h0 : zeroS vs ∈ S) (hs : ∀ s ∈ S, ∀ j, j < n → nxS vs s j ∈ S) {s : List Nat} (h : Reach n vs s) : s ∈ S := by
  obtain ⟨js, h1, rfl⟩ := h
  have : ∀ (js : List Nat) (s : List Nat), s ∈ S → (∀ j ∈ js, j < n) → ledS vs s js ∈ S := by
    intro js
    induction js with
    | nil => exact fun s h _ => h
    | cons j js ih => exact fun s h hj => ih _ (hs s h j (hj j List.mem_cons_self)) fun x hx => hj x (List.mem_cons_of_mem _ hx)
  exact this js _ h0 h1
theorem nodup_bound : ∀ (n : Nat) (l : List Nat), l.Nodup → (∀ x ∈ l, x < n) → l.length ≤ n
  | 0, [], _, _ => Nat.le_refl _
  | 0, a :: l, _, h => absurd (h a List.mem_cons_self) (Nat.not_lt_zero a)
  | n + 1, l, hn, h => by
    have h2 := nodup_bound n (l.erase n) (hn.erase n) fun x hx => by
      have h3 := (List.Nodup.mem_erase_iff hn).mp hx
      have := h x h3.2
      have h4 := h3.1
      omega
    by_cases hm : n ∈ l
    · rw [List.length_erase_of_mem hm] at h2
      omega
    · rw [List.erase_of_not_mem hm] at h2
      omega
def encS (s : List Nat) : Nat := s.getD 0 0 + 3 * s.getD 1 0 + 9 * s.getD 2 0
theorem list_ext0 {a b : List Nat} (hl : a.length = b.length) (h : ∀ i, i < a.length → a.getD i 0 = b.getD i 0) : a = b := by
  apply List.ext_getElem hl
  intro i h1 h2
  have := h i h1
  rw [List.getD_eq_getElem?_getD, List.getD_eq_getElem?_getD, List.getElem?_eq_getElem h1, List.getElem?_eq_getElem h2] at this
  exact this
theorem nodup_map_on {α β : Type} {f : α → β} : ∀ {l : List α}, (∀ x ∈ l, ∀ y ∈ l, f x = f y → x = y) → l.Nodup → (l.map f).Nodup
  | [], _, _ => List.nodup_nil
  | a :: l, h, hn => by
    rw [List.nodup_cons] at hn
    rw [List.map_cons, List.nodup_cons]
    refine ⟨fun m => ?_, nodup_map_on (fun x hx y hy => h x (List.mem_cons_of_mem _ hx) y (List.mem_cons_of_mem _ hy)) hn.2⟩
    obtain ⟨b, hb, e⟩ := List.mem_map.mp m
    have := h b (List.mem_cons_of_mem _ hb) a List.mem_cons_self e
    exact hn.1 (this ▸ hb)
theorem few_states {n : Nat} {vs : List Rows} (hw : ∀ R ∈ vs, Wf n R) (hl : vs.length ≤ 3) {S : List (List Nat)} (hn : S.Nodup) (hs : ∀ s ∈ S, StOk vs s) : S.length ≤ 27 := by
  have hb : ∀ s ∈ S, ∀ i, s.getD i 0 < 3 := by
    intro s h i
    by_cases hi : i < vs.length
    · have h1 := (hs s h).2 i hi
      have h2 := (hw _ (getD_mem (d := []) hi)).le
      omega
    · have : s.getD i 0 = 0 := by
        rw [List.getD_eq_getElem?_getD, List.getElem?_eq_none (by rw [(hs s h).1]; omega)]
        rfl
      omega
  have := nodup_bound 27 (S.map encS) (nodup_map_on (fun x hx y hy e => ?_) hn) fun z hz => ?_
  · rwa [List.length_map] at this
  · have l1 := (hs x hx).1
    have l2 := (hs y hy).1
    refine list_ext0 (l1.trans l2.symm) fun i hi => ?_
    have a0 := hb x hx 0
    have a1 := hb x hx 1
    have a2 := hb x hx 2
    have b0 := hb y hy 0
    have b1 := hb y hy 1
    have b2 := hb y hy 2
    unfold encS at e
    rcases i with _ | _ | _ | i
    · show x.getD 0 0 = y.getD 0 0
      omega
    · show x.getD 1 0 = y.getD 1 0
      omega
    · show x.getD 2 0 = y.getD 2 0
      omega
    · omega
  · obtain ⟨s, h, rfl⟩ := List.mem_map.mp hz
    have a0 := hb s h 0
    have a1 := hb s h 1
    have a2 := hb s h 2
    unfold encS
    omega
end AN
end

-- ANm3
section
set_option Elab.async false
set_option linter.all false
set_option maxRecDepth 100000
set_option maxHeartbeats 4000000
/-! Plain mathematics 3: one version less, one version more. -/
namespace AN
open PySem

theorem getD_erase {α : Type} (l : List α) (i j : Nat) (d : α) : (l.eraseIdx i).getD j d = if j < i then l.getD j d else l.getD (j + 1) d := by
  rw [List.getD_eq_getElem?_getD, List.getElem?_eraseIdx]
  split <;> rw [List.getD_eq_getElem?_getD]
theorem nxS_erase {vs : List Rows} {s : List Nat} {j i : Nat} (hs : s.length = vs.length) (hi : i < vs.length) : (nxS vs s j).eraseIdx i = nxS (vs.eraseIdx i) (s.eraseIdx i) j := by
  have hl : (vs.eraseIdx i).length = vs.length - 1 := List.length_eraseIdx_of_lt hi
  refine list_ext0 ?_ fun m hm => ?_
  · rw [List.length_eraseIdx_of_lt (by rw [nxS_length]; exact hi), nxS_length, nxS_length, hl]
  · rw [List.length_eraseIdx_of_lt (by rw [nxS_length]; exact hi), nxS_length] at hm
    rw [getD_erase, nxS_getD (vs := vs.eraseIdx i) (i := m) (by rw [hl]; exact hm), getD_erase, getD_erase]
    split
    · rw [nxS_getD (by omega)]
    · rw [nxS_getD (by omega)]
theorem ledS_length (vs : List Rows) : ∀ (js : List Nat) {s : List Nat}, s.length = vs.length → (ledS vs s js).length = vs.length
  | [], _, h => h
  | j :: js, s, _ => ledS_length vs js (nxS_length vs s j)
theorem ledS_erase {vs : List Rows} {i : Nat} (hi : i < vs.length) : ∀ (js : List Nat) {s : List Nat}, s.length = vs.length → (ledS vs s js).eraseIdx i = ledS (vs.eraseIdx i) (s.eraseIdx i) js
  | [], _, _ => rfl
  | j :: js, s, h => by
    show (ledS vs (nxS vs s j) js).eraseIdx i = ledS (vs.eraseIdx i) (nxS (vs.eraseIdx i) (s.eraseIdx i) j) js
    rw [ledS_erase hi js (nxS_length vs s j), nxS_erase h hi]
theorem zeroS_erase {vs : List Rows} {i : Nat} (hi : i < vs.length) : (zeroS vs).eraseIdx i = zeroS (vs.eraseIdx i) := by
  have hl : (vs.eraseIdx i).length = vs.length - 1 := List.length_eraseIdx_of_lt hi
  refine list_ext0 ?_ fun m hm => ?_
  · rw [List.length_eraseIdx_of_lt (by simpa [zeroS] using hi)]
    simp [zeroS, hl]
  · rw [List.length_eraseIdx_of_lt (by simpa [zeroS] using hi)] at hm
    have hm : m < vs.length - 1 := by simpa [zeroS] using hm
    rw [getD_erase]
    have z : ∀ (us : List Rows) k, k < us.length → (zeroS us).getD k 0 = 0 := fun us k hk => by simp [zeroS, List.getD_eq_getElem?_getD, hk]
    rw [z (vs.eraseIdx i) m (by omega)]
    split
    · exact z vs m (by omega)
    · exact z vs (m + 1) (by omega)
theorem Reach.erase {n : Nat} {vs : List Rows} {i : Nat} (hi : i < vs.length) {s : List Nat} (h : Reach n vs s) : Reach n (vs.eraseIdx i) (s.eraseIdx i) := by
  obtain ⟨js, h1, rfl⟩ := h
  exact ⟨js, h1, by rw [← zeroS_erase hi, ledS_erase hi js (by simp [zeroS])]⟩
theorem ledS_getD {vs : List Rows} {i : Nat} (hi : i < vs.length) : ∀ (js : List Nat) (s : List Nat), (ledS vs s js).getD i 0 = ledM (vs.getD i []) (s.getD i 0) js
  | [], _ => rfl
  | j :: js, s => by
    show (ledS vs (nxS vs s j) js).getD i 0 = ledM (vs.getD i []) (nx (vs.getD i []) (s.getD i 0) j) js
    rw [ledS_getD hi js (nxS vs s j), nxS_getD hi]
theorem getD_append_l {α : Type} {a b : List α} {i : Nat} {d : α} (h : i < a.length) : (a ++ b).getD i d = a.getD i d := by
  rw [List.getD_eq_getElem?_getD, List.getElem?_append_left h, ← List.getD_eq_getElem?_getD]
theorem getD_append_r {α : Type} {a : List α} {x d : α} {i : Nat} (h : i = a.length) : (a ++ [x]).getD i d = x := by
  subst h
  simp [List.getD_eq_getElem?_getD]
theorem nxS_app {vs : List Rows} {R : Rows} {s : List Nat} {t j : Nat} (h : s.length = vs.length) : nxS (vs ++ [R]) (s ++ [t]) j = nxS vs s j ++ [nx R t j] := by
  refine list_ext0 (by simp [nxS_length]) fun m hm => ?_
  rw [nxS_length, List.length_append, List.length_singleton] at hm
  rw [nxS_getD (by simpa using hm)]
  by_cases hv : m < vs.length
  · rw [getD_append_l hv, getD_append_l (by omega), getD_append_l (by rw [nxS_length]; exact hv), nxS_getD hv]
  · have e : m = vs.length := by omega
    rw [getD_append_r e, getD_append_r (by omega), getD_append_r (by rw [nxS_length]; exact e)]
theorem ledS_app {vs : List Rows} {R : Rows} : ∀ (js : List Nat) {s : List Nat} {t : Nat}, s.length = vs.length → ledS (vs ++ [R]) (s ++ [t]) js = ledS vs s js ++ [ledM R t js]
  | [], _, _, _ => rfl
  | j :: js, s, t, h => by
    show ledS (vs ++ [R]) (nxS (vs ++ [R]) (s ++ [t]) j) js = ledS vs (nxS vs s j) js ++ [ledM R (nx R t j) js]
    rw [nxS_app h, ledS_app js (nxS_length vs s j)]
theorem zeroS_app (vs : List Rows) (R : Rows) : zeroS (vs ++ [R]) = zeroS vs ++ [0] := by
  unfold zeroS
  rw [List.length_append, List.length_singleton, List.replicate_succ']
theorem reach_app {n : Nat} {vs : List Rows} {R : Rows} {s : List Nat} : Reach n (vs ++ [R]) s ↔ ∃ js, (∀ j ∈ js, j < n) ∧ s = ledS vs (zeroS vs) js ++ [ledM R 0 js] := by
  constructor
  · rintro ⟨js, h1, rfl⟩
    exact ⟨js, h1, by rw [zeroS_app, ledS_app js (by simp [zeroS])]⟩
  · rintro ⟨js, h1, rfl⟩
    exact ⟨js, h1, by rw [zeroS_app, ledS_app js (by simp [zeroS])]⟩
theorem Reach.init {n : Nat} {vs : List Rows} {R : Rows} {s : List Nat} (h : Reach n (vs ++ [R]) s) : Reach n vs s.dropLast := by
  obtain ⟨js, h1, rfl⟩ := reach_app.mp h
  exact ⟨js, h1, by rw [List.dropLast_concat]⟩
theorem Reach.up {n : Nat} {vs : List Rows} (R : Rows) {s : List Nat} (h : Reach n vs s) : ∃ t, Reach n (vs ++ [R]) (s ++ [t]) := by
  obtain ⟨js, h1, rfl⟩ := h
  exact ⟨_, reach_app.mpr ⟨js, h1, rfl⟩⟩
end AN
end

-- ANm4
section
set_option Elab.async false
set_option linter.all false
set_option maxRecDepth 100000
set_option maxHeartbeats 4000000
/-! Plain mathematics 4: the checks. -/
namespace AN
open PySem

/-- the places of who among standings -/
abbrev plc (S : List (List Nat)) (n : Nat) : List Nat := S.map fun s => s.getD n 0
theorem plc_lt {vs : List Rows} {S : List (List Nat)} (h : ∀ s ∈ S, StOk vs s) {n : Nat} (hn : n < vs.length) : ∀ p ∈ plc S n, p < (vs.getD n []).length := by
  intro p hp
  obtain ⟨s, hs, rfl⟩ := List.mem_map.mp hp
  exact (h s hs).2 n hn
theorem plc_led {vs : List Rows} {S S' : List (List Nat)} {n j : Nat} (hn : n < vs.length) (h : ∀ s', s' ∈ S' ↔ ∃ s ∈ S, ledS vs s [j] = s') : ∀ p, p ∈ plc S' n ↔ p ∈ (plc S n).map fun p => nx (vs.getD n []) p j := by
  intro p
  rw [List.mem_map, List.mem_map]
  constructor
  · rintro ⟨s', hs', rfl⟩
    obtain ⟨s, hs, rfl⟩ := (h s').mp hs'
    exact ⟨s.getD n 0, List.mem_map.mpr ⟨s, hs, rfl⟩, (nxS_getD hn).symm⟩
  · rintro ⟨p0, hp0, rfl⟩
    obtain ⟨s, hs, rfl⟩ := List.mem_map.mp hp0
    exact ⟨_, (h _).mpr ⟨s, hs, rfl⟩, nxS_getD hn⟩
theorem true_step {m : Nat} {vs : List Rows} {S S' : List (List Nat)} {n j : Nat} {qs : List Str} (hw : Wf m (vs.getD n [])) (hn : n < vs.length) (hj : j < m) (hS : ∀ s ∈ S, StOk vs s) (h : ∀ s', s' ∈ S' ↔ ∃ s ∈ S, ledS vs s [j] = s') {t : Nat} (ht : t ∈ trueM (vs.getD n []) qs (plc S n)) : nx (vs.getD n []) t j ∈ trueM (vs.getD n []) qs (plc S' n) := by
  rw [trueM_congr (plc_led hn h)]
  exact trueM_led hw hj (plc_lt hS hn) ht
theorem zeroS_getD (vs : List Rows) (n : Nat) : (zeroS vs).getD n 0 = 0 := by
  unfold zeroS
  rw [List.getD_eq_getElem?_getD, List.getElem?_replicate]
  split <;> rfl
theorem plc_past {vs : List Rows} {S : List (List Nat)} {n : Nat} (hn : n < vs.length) {js : List Nat} (h : ledS vs (zeroS vs) js ∈ S) : ledM (vs.getD n []) 0 js ∈ plc S n := by
  refine List.mem_map.mpr ⟨_, h, ?_⟩
  rw [ledS_getD hn, zeroS_getD]
theorem words_true {m : Nat} {vs : List Rows} {S : List (List Nat)} {n t : Nat} {qs : List Str} {ja jb : List Nat} (hw : Wf m (vs.getD n [])) (hn : n < vs.length) (hS : ∀ s ∈ S, StOk vs s) (hp : ledS vs (zeroS vs) ja ∈ S) (hj : ∀ j ∈ jb, j < m) (ht : t ∈ trueM (vs.getD n []) qs (plc S n)) : (saidM (vs.getD n []) t jb).map (hushW qs) = (saidM (vs.getD n []) (ledM (vs.getD n []) 0 ja) jb).map (hushW qs) :=
  said_true hw (plc_past hn hp) (plc_lt hS hn) ht hj
theorem past_one {vs : List Rows} {n : Nat} {js : List Nat} {qs : List Str} {m : Nat} (hw : Wf m (vs.getD n [])) (hn : n < vs.length) (hj : ∀ j ∈ js, j < m) : ledM (vs.getD n []) 0 js ∈ trueM (vs.getD n []) qs (plc [vs.map fun R => ledM R 0 js] n) := by
  have e : (vs.map fun R => ledM R 0 js).getD n 0 = ledM (vs.getD n []) 0 js := getD_map (d := []) hn
  show _ ∈ trueM _ _ [(vs.map fun R => ledM R 0 js).getD n 0]
  rw [e]
  exact trueM_one (ledM_lt hw hw.ne hj)
theorem past_all {vs : List Rows} {js : List Nat} : ledS vs (zeroS vs) js = vs.map fun R => ledM R 0 js := by
  refine list_ext0 ?_ fun i hi => ?_
  · rw [ledS_length vs js (by simp [zeroS]), List.length_map]
  · rw [ledS_length vs js (by simp [zeroS])] at hi
    rw [ledS_getD hi, zeroS_getD, getD_map (d := []) hi]
theorem forgot_places {m : Nat} {vs : List Rows} {R : Rows} {S S1 Sw St : List (List Nat)} {n : Nat} (hn : n < vs.length) (h1 : ∀ s', s' ∈ S1 ↔ ∃ s ∈ S, s.eraseIdx n = s')
    (hw : ∀ s, s ∈ Sw ↔ Reach m (vs ++ [R]) s ∧ s.dropLast ∈ S) (ht : ∀ s, s ∈ St ↔ Reach m (vs.eraseIdx n ++ [R]) s ∧ s.dropLast ∈ S1) : ∀ p ∈ plc Sw vs.length, p ∈ plc St (vs.length - 1) := by
  intro p hp
  obtain ⟨s, hs, rfl⟩ := List.mem_map.mp hp
  obtain ⟨hr, hd⟩ := (hw s).mp hs
  obtain ⟨js, hj, rfl⟩ := reach_app.mp hr
  rw [List.dropLast_concat] at hd
  have hl : (vs.eraseIdx n).length = vs.length - 1 := List.length_eraseIdx_of_lt hn
  have e : (ledS vs (zeroS vs) js).eraseIdx n = ledS (vs.eraseIdx n) (zeroS (vs.eraseIdx n)) js := by
    rw [ledS_erase hn js (by simp [zeroS]), zeroS_erase hn]
  refine List.mem_map.mpr ⟨_, (ht _).mpr ⟨reach_app.mpr ⟨js, hj, rfl⟩, ?_⟩, ?_⟩
  · rw [List.dropLast_concat]
    exact (h1 _).mpr ⟨_, hd, e⟩
  · rw [getD_append_r (by rw [ledS_length _ js (by simp [zeroS]), hl]), getD_append_r (by rw [ledS_length _ js (by simp [zeroS])])]
theorem trueM_ne {R : Rows} {q : List Str} {P Q : List Nat} (h : ∀ p ∈ Q, p ∈ P) (hne : trueM R q P ≠ []) : trueM R q Q ≠ [] := by
  obtain ⟨t, ht⟩ := List.exists_mem_of_ne_nil _ hne
  exact List.ne_nil_of_mem (trueM_less h ht)
theorem plc_take {S : List (List Nat)} {n : Nat} : ∀ p ∈ plc (S.take 1) n, p ∈ plc S n := fun p hp => by
  obtain ⟨s, hs, rfl⟩ := List.mem_map.mp hp
  exact List.mem_map.mpr ⟨s, List.mem_of_mem_take hs, rfl⟩
theorem true_first {vs : List Rows} {S : List (List Nat)} {n : Nat} {qs : List Str} (hne : S ≠ []) (hS : ∀ s ∈ S, StOk vs s) (hn : n < vs.length) : trueM (vs.getD n []) qs (plc (S.take 1) n) ≠ [] := by
  cases S with
  | nil => exact absurd rfl hne
  | cons s S => exact List.ne_nil_of_mem (trueM_one (q := qs) ((hS s List.mem_cons_self).2 n hn))
end AN
end

-- ANsu
section
set_option Elab.async false
set_option linter.all false
set_option maxRecDepth 100000
set_option maxHeartbeats 4000000
/-! A def whose first statement is super().m(e) of a plain class. -/
namespace AN
open PySem PySem.Spec PyProof.Rows L2
open ClX
open PySem.W (ksEnv ksFn ks_superIn ks_superObj)

/-- the context of such a def -/
def cxS (CT : CXT) (P : Program) (w : World) (K : PySem.W.Frag) (mg : PySem.Str → Option Value) (base : Heap) (N : List PySem.Str) (qual : PySem.Str) (scope : Scope) (f : Addr) (cd : Value) (cc : Addr) (A : Around) (outer : List Env) (s : Shared) (H : Hp) (E : XK) : Cx :=
  { prog := P, w := w, K := K, mg := mg, base := base, A := A.deeper (ksEnv qual scope s.heap.objs.size f cd cc), N := N, s_0 := s, H_0 := H, env := ksEnv qual scope s.heap.objs.size f cd cc, outer := outer, stack := ksEnv qual scope s.heap.objs.size f cd cc :: outer,
    ex := [], calm := true, fn := fun _ => false, pn := [],
    xe := fun e s' => wpAny (model P w) (A.deeper (ksEnv qual scope s.heap.objs.size f cd cc)) (leaving (ksEnv qual scope s.heap.objs.size f cd cc) e) (fun _ s'' => CT outer H s E e s'') (fun e' s'' => CT outer H s E e' s'') s' }

structure SupScope (N ps : List PySem.Str) (sc : Scope) : Prop where
  kind : sc.kind = .function
  co : sc.isCoroutine = false
  gen : sc.isGenerator = false
  nd : N.Nodup
  pre : N.take ps.length = ps
  par : ∀ x ∈ ps, sc.names.lookup x = some .local
  nocell : ∀ y ∈ sc.names, y.2 ≠ .cell
  free : ∀ y ∈ sc.names, y.2 = .free → y.1 = "__class__"
  cls : sc.names.lookup ("__class__" : PySem.Str) = some .free
  sup : sc.names.lookup ("super" : PySem.Str) = some .globalImplicit
theorem rev_lookup {x : PySem.Str} {v : Value} : ∀ {P : List PySem.Str} {vs : List Value} {i : Nat}, P.Nodup → P[i]? = some x → vs[i]? = some v → (P.zip vs).reverse.lookup x = some v
  | [], _, _, _, h, _ => by simp at h
  | _ :: _, [], _, _, _, h => by simp at h
  | p :: P, w :: vs, 0, nd, h1, h2 => by
    simp only [List.getElem?_cons_zero, Option.some.injEq] at h1 h2
    subst h1 h2
    rw [List.zip_cons_cons, List.reverse_cons, List.lookup_append]
    have : (P.zip vs).reverse.lookup p = none := by
      rw [List.lookup_eq_none_iff]
      rintro ⟨a, b⟩ hab
      have ha := (List.of_mem_zip (List.mem_reverse.mp hab)).1
      have hne : p ≠ a := fun e => (List.nodup_cons.mp nd).1 (by rw [e]; exact ha)
      simpa using hne
    rw [this]
    simp
  | p :: P, w :: vs, i + 1, nd, h1, h2 => by
    rw [List.zip_cons_cons, List.reverse_cons, List.lookup_append, rev_lookup (i := i) (List.nodup_cons.mp nd).2 (by simpa using h1) (by simpa using h2)]
    rfl
theorem invS {CT : CXT} {P : Program} {w : World} {K : PySem.W.Frag} {mg : PySem.Str → Option Value} {base : Heap} {N ps : List PySem.Str} {qual : PySem.Str} {scope : Scope} {f cc : Addr} {cd : Value} {A : Around} {outer : List Env} {s : Shared} {H : Hp} {E : XK} {us : List Value} {vs : List V} {h1 : Heap} {tk : Nat} {cv : Option Value}
    (S : SupScope N ps scope) (hd : A.handled = none) (e0 : Env0 P w K mg base A outer s H) (hl : vs.length = ps.length) (r : Vals vs us) (hcc : base.IsCell cc cv)
    (hns : h1.Ns s.heap.objs.size (fun y => (ps.zip us).reverse.lookup y)) (hk : ∀ b o, s.heap.get? b = some o → h1.get? b = some o) :
    Inv (cxS CT P w K mg base N qual scope f cd cc A outer s H E) [] (L2.start N vs) H { s with heap := h1, toks := tk } := by
  have hpl : ps.length ≤ N.length := by have := congrArg List.length S.pre; rw [List.length_take] at this; omega
  have noA : ∀ b : Addr, b ∉ (cxS CT P w K mg base N qual scope f cd cc A outer s H E).ex := fun b z => absurd (show b ∈ ([] : List Addr) from z) (by simp)
  have one : ∀ y c, ([("__class__", cc)] : List (PySem.Str × Addr)).lookup y = some c → y = "__class__" ∧ c = cc := fun y c h => by
    have := PySem.mem_of_lookup h
    simp only [List.mem_singleton, Prod.mk.injEq] at this
    exact this
  obtain ⟨oc, hoc, hdc⟩ := id hcc
  refine ⟨⟨e0.mod, S.kind, rfl, rfl, Nat.le_refl _, fun y z c a b => ?_, fun y hy => ?_, fun y c z _ => ?_, fun _ => hd, Around.frames_deeper e0.frames, .inr ⟨rfl, rfl⟩, fun b z => absurd z (noA b), e0.bs, e0.bsz, fun b _ _ => noA b, fun b z => absurd z (noA b), e0.funs, e0.frf⟩,
    rfl, e0.bare, Un.kept hk, ⟨_, hns, fun i y v a b c => ?_⟩, fun y c h => ?_, e0.hok.fresh (Nat.le_refl _), fun y c h => ?_, fun p hp => absurd (show p ∈ ([] : List (Addr × Obj)) from hp) (by simp), e0.hok.kept hk, ?_⟩
  · rw [(one y c a).1, (one z c b).1]
  · have hy : scope.names.lookup y = some .cell ∨ scope.names.lookup y = some .free := hy
    rcases hy with hy | hy
    · exact absurd rfl (S.nocell _ (PySem.mem_of_lookup hy))
    · have e := S.free _ (PySem.mem_of_lookup hy) rfl
      have e : y = "__class__" := e
      subst e
      exact ⟨cc, rfl⟩
  · exact absurd (show false = true from z) (by simp)
  · have hi : i < vs.length := by
      unfold L2.start at b
      by_cases hi : i < vs.length
      · exact hi
      · rw [List.getElem?_append_right (by simpa using hi), List.getElem?_replicate] at b
        split at b <;> cases b
    have ha : vs[i]? = some v := by
      unfold L2.start at b
      rw [List.getElem?_append_left (by simpa using hi), List.getElem?_map] at b
      cases e : vs[i]? with
      | none => rw [e] at b; cases b
      | some a => rw [e] at b; cases b; rfl
    obtain ⟨u, hu, rv⟩ := r.get ha
    have hp : ps[i]? = some y := by
      rw [← S.pre, List.getElem?_take_of_lt (by omega)]
      exact a
    have ndP : ps.Nodup := by rw [← S.pre]; exact S.nd.sublist (List.take_sublist _ _)
    exact ⟨u, rv, .inl ⟨S.par y (List.mem_of_getElem? hp), rev_lookup ndP hp hu⟩⟩
  · obtain ⟨_, rfl⟩ := one y c h
    exact ⟨cv, oc, hk _ _ (e0.bs _ _ hoc).1, hdc⟩
  · obtain ⟨_, rfl⟩ := one y c h
    exact (e0.bs _ _ hoc).2
  · unfold L2.start
    show _ = N.length
    rw [List.length_append, List.length_map, List.length_replicate]
    omega

/-- what the class statement left -/
structure SupF (P : Program) (K : PySem.W.Frag) (D cda cc f2 : Addr) (name : PySem.Str) : Prop where
  cell : ∃ cl cld csl, K.lookup cc = some ⟨cl, cld, .cell (some (.ref D)), csl⟩
  code : ∃ ccl cdd ccs vs file tf, K.lookup cda = some ⟨ccl, cdd, .fields vs, ccs⟩ ∧ vs[2]? = some (.str file tf) ∧ ((P.main.file : PySem.Str) == file) = true
  top : (P.main.scope.names.lookup ("super" : PySem.Str)).isSome = false
  stat : PySem.W.nsIn K cStatics "thirdparty.any" = some none
  meth : ks_superIn K D D name = some (some (.ref f2))
  ty : PySem.W.typeIn K (.ref f2) = some (.type "function")
  fi : PySem.W.fnIn K f2 = true
  mro : PySem.W.mroIn K D (.ref D) = some true
  nm : (name == ("__class__" : PySem.Str)) = false

section
variable {X : Cx} {pins : List (Addr × Obj)} {σ : L2.St} {H : Hp} {s : Shared}
theorem sup_call {f cda cc f2 D a dx : Addr} {fs : List (PySem.Str × V)} {oc : Value} {od : Option Addr} {osl : Array (Option Value)} {fd : FuncData} {ar : Arg} {m : PySem.Str} {e : Expr} {p0 p1 ap pos : Pos} {body : List Stmt} {k : Nat} {fd2 : FuncData} {ps2 : List PySem.Str} {sp2 : Sp} {ta : TA} {Q : Hp → Prop}
    (I : Inv X pins σ H s) (hkind : X.env.scope.kind = .function) (hks : X.env.kindOf "super" = some .globalImplicit) (hkc : X.env.kindOf "__class__" = some .free) (hfu : X.env.func = some f) (hf : X.K.lookup f = some ⟨oc, od, .func fd, osl⟩)
    (hp : (fd.params.posonlyargs ++ fd.params.args).head? = some ar) (hka : X.env.kindOf ar.arg = some .local) (hco : X.env.code = .ref cda) (hcl : X.env.cells.lookup ("__class__" : PySem.Str) = some cc) (h0 : X.N[0]? = some ar.arg) (hs0 : σ[0]? = some (some (.ref a))) (hcalm : X.calm = true)
    (F : SupF X.prog X.K D cda cc f2 m) (hmg : X.mg "super" = none) (F2 : FnOk X.prog X.w X.K X.mg X.base CX0 k f2 fd2 ps2 sp2) (hb2 : Binds X.K fd2 ps2 []) (hr : Room k X.A)
    (ha : H a = some (.ins D dx fs)) (hta : PA X [e] ta) (hq : ta σ H fun ws H2 => sp2 (.ref a :: ws) H2 (fun _ H3 => Q H3) E0)
    (hs : starEach [e] X.env = (false, eval e X.env) :: starEach [] X.env) {pl : Sem Bool} (he : eval (.Call (.Attribute (.Call (.Name "super" p0) [] [] p1) m ap) [e] [] pos) X.env = (do
      let ov ← attributeBase (.Call (.Name "super" p0) [] [] p1) m X.env (eval (.Call (.Name "super" p0) [] [] p1) X.env)
      standAt ap.atName
      let (f, first) ← holding [ov] (getMethod ov m pl)
      callWith pos f first (backTo pos (starEach [e] X.env)) [])) :
    PySem.wpAt (model X.prog X.w) X.A (.func body X.env) (eval (.Call (.Attribute (.Call (.Name "super" p0) [] [] p1) m ap) [e] [] pos) X.env) (fun _ s' => ∃ H', Inv X pins σ H' s' ∧ Q H') X.xe s := by
  obtain ⟨cl, cld, csl, hcell⟩ := F.cell
  obtain ⟨ccl, cdd, ccs, vsC, file, tf, hcode, hvs, hfile⟩ := F.code
  have XK : X.K.In s.heap := I.kIn
  obtain ⟨cdD, hcd, _⟩ := Option.bind_eq_some_iff.mp (show (PySem.W.clsIn X.K D).bind (fun cd => PySem.W.alongIn X.K m ((cd.mro.dropWhile (· != .ref D)).drop 1)) = some (some (.ref f2)) from F.meth)
  obtain ⟨oD, hD1, hD2⟩ : ∃ oD, s.heap.get? D = some oD ∧ oD.data = .cls cdD := by
    have hcd' := hcd
    unfold PySem.W.clsIn at hcd'
    split at hcd'
    · rename_i c d cd' sl ho
      cases hcd'
      exact ⟨_, XK _ _ ho, rfl⟩
    · cases hcd'
  refine PySem.ks_wpAt_MethodCall (pl := pl) ?_ he
  refine PySem.ks_wpAt_super_base hks hkc F.nm hfu (XK _ _ hf) rfl hp hco (XK _ _ hcode) rfl hvs hfile F.top ?_
  obtain ⟨mb, b1, b2⟩ := I.mod.blt
  refine PySem.W.ks_loadName_global hkind hks (Calls.loadGlobal_builtin (by rw [I.ok.glob]; exact I.mod.glob.keeps I.bk) hmg (by rw [I.ok.blt]; exact b1.keeps I.bk) ((b2 _ (by decide)).trans (show bootBuiltins "super" = some (.type "super") by decide +kernel)) ⟨rfl, ?_⟩)
  refine wpAny_loadName_free hkind hkc hcl ⟨_, XK _ _ hcell, rfl⟩ ?_
  obtain ⟨mL, hns, hloc⟩ := I.loc
  obtain ⟨u, ru, lk⟩ := hloc 0 _ _ h0 hs0 (.inl hka)
  obtain rfl : u = Value.ref a := ru
  have hma : mL ar.arg = some (.ref a) := by
    rcases lk with ⟨_, z⟩ | ⟨z, _⟩
    · exact z
    · rw [hka] at z
      rcases z with z | z <;> cases z
  refine wpAny_loadName_local hkind hka hns hma ?_
  obtain ⟨hh, g, d, t, os⟩ := s
  obtain ⟨mA, O, _⟩ := ins_get I.hok ha
  obtain ⟨odx, J, _⟩ := O.look
  refine PySem.ks_wpAny_isType_cls hD1 hD2 ⟨rfl, ?_⟩
  refine PySem.ks_wpAny_call_super hD1 hD2 J.at_ J.cls (fun c z => ?_) (PySem.W.looks_mroIn XK F.mro) (fun h' e1 k1 => ?_)
  · have q := J.no
    unfold PySem.W.notCls at q
    rw [z] at q
    exact Bool.noConfusion q
  have I1 : Inv X pins σ H ⟨h', g, d, t, os⟩ := I.kept (t' := t) k1
  obtain ⟨of, hof, hofc⟩ : ∃ of, h'.get? f2 = some of ∧ of.cls = .type "function" := by
    have ht' : (X.K.lookup f2).map (·.cls) = some (.type "function") := F.ty
    cases z : X.K.lookup f2 with
    | none => rw [z] at ht'; cases ht'
    | some of => rw [z] at ht'; exact ⟨of, I1.kIn _ _ z, Option.some.inj ht'⟩
  have hm : PySem.W.alongIn X.K m ((cdD.mro.dropWhile (· != .ref D)).drop 1) = some (some (.ref f2)) := by
    have := F.meth
    unfold ks_superIn at this
    rw [hcd] at this
    exact this
  refine PySem.ks_wpAny_getMethod_super (l₀ := cdD.mro) e1 (PySem.W.looks_opaque I1.kIn F.stat) (fun A Q E s k q => wpAny_bind ((PySem.W.looks_clsIn I1.kIn hcd) A _ E s k (wpAny_pure q))) rfl I1.kIn hm hof hofc (PySem.W.ks_ne XK J hcd) F.nm ?_
  have I2 : Inv X ((h'.objs.size, PySem.W.methodObj (.ref f2) (.ref a)) :: pins) σ H ⟨h'.push (PySem.W.methodObj (.ref f2) (.ref a)), g, d, t + 1, os⟩ :=
    met_new I1
  refine callwith_cm I2 (base_none I1 (Nat.le_refl _)) F.fi (thn (hta.run pos _ _ σ H _ I2 hq) fun us s3 ⟨vs, H2, I3, rv, q2⟩ => ⟨⟨pin_at I3, I3.kIn⟩, ?_⟩) hs rfl
  have FR : FnR X.prog X.w X.K X.mg X.base CX0 k f2 sp2 := (FnOk.raw (dvs := []) F2 hb2 .nil).imp fun vs H Q E h => by simpa using h
  refine wpAny_mono (run_cm FR hr pass0 I3 rv q2) (fun v s4 ⟨y, H4, I4, _, q4⟩ => ⟨H4, I4, q4⟩) fun _ _ z => z
end

theorem fn_sup {P : Program} {w : World} {K : PySem.W.Frag} {mg : PySem.Str → Option Value} {base : Heap} {k : Nat} {f cda cc f2 D : Addr} {name qual m : PySem.Str} {params : Arguments} {rest : List Stmt} {scope : Scope} {dV kV doc pm ct oc : Value} {an od : Option Addr}
    {osl : Array (Option Value)} {N ps : List PySem.Str} {x0 : PySem.Str} {sp sp2 : Sp} {e : Expr} {p0 p1 ap pos pos' : Pos} {fd2 : FuncData} {ps2 : List PySem.Str} {ar : Arg}
    (lk : K.lookup f = some ⟨oc, od, .func (ksFn name qual params (.Expr (.Call (.Attribute (.Call (.Name "super" p0) [] [] p1) m ap) [e] [] pos) pos' :: rest) scope dV kV doc pm an (.ref cda) ct cc), osl⟩)
    (hcd : PySem.W.codeIn K (.ref cda) qual = true) (S : SupScope N (x0 :: ps) scope) (har : (params.posonlyargs ++ params.args).head? = some ar) (harx : ar.arg = x0) (F : SupF P K D cda cc f2 m) (hmg : mg "super" = none)
    (F2 : FnOk P w K mg base CX0 k f2 fd2 ps2 sp2) (hb2 : Binds K fd2 ps2 [])
    (len : ∀ vs H Q E, sp vs H Q E → vs.length = (x0 :: ps).length)
    (hbody : ∀ (A : Around) (outer : List Env) (s : Shared) (H : Hp) (vs : List V) (Q : VK) (E : XK), Room k (A.deeper (ksEnv qual scope s.heap.objs.size f (.ref cda) cc)) → sp vs H Q E →
      ∃ (a dx : Addr) (fs : List (PySem.Str × V)) (vr : List V) (ta : TA) (t : TS), vs = .ref a :: vr ∧ H a = some (.ins D dx fs) ∧ PA (cxS CX0 P w K mg base N qual scope f (.ref cda) cc A outer s H E) [e] ta ∧ PSs (cxS CX0 P w K mg base N qual scope f (.ref cda) cc A outer s H E) rest t ∧
        ta (L2.start N vs) H fun ws H2 => sp2 (.ref a :: ws) H2 (fun _ H3 => t { nx := fun _ H' => Q .non H', rt := Q } (L2.start N vs) H3) E0)
    (hs : ∀ A outer s H E, starEach [e] (cxS CX0 P w K mg base N qual scope f (.ref cda) cc A outer s H E).env = (false, eval e (cxS CX0 P w K mg base N qual scope f (.ref cda) cc A outer s H E).env) :: starEach [] (cxS CX0 P w K mg base N qual scope f (.ref cda) cc A outer s H E).env := by intros; rfl)
    {pl : Env → Sem Bool} (he : ∀ env : Env, eval (.Call (.Attribute (.Call (.Name "super" p0) [] [] p1) m ap) [e] [] pos) env = (do
      let ov ← attributeBase (.Call (.Name "super" p0) [] [] p1) m env (eval (.Call (.Name "super" p0) [] [] p1) env)
      standAt ap.atName
      let (f, first) ← holding [ov] (getMethod ov m (pl env))
      callWith pos f first (backTo pos (starEach [e] env)) []) := by intros; rfl) :
    FnOk P w K mg base CX0 (k + 1) f (ksFn name qual params (.Expr (.Call (.Attribute (.Call (.Name "super" p0) [] [] p1) m ap) [e] [] pos) pos' :: rest) scope dV kV doc pm an (.ref cda) ct cc) (x0 :: ps) sp := by
  refine ⟨len, fun A outer s H args us vs Q E hr e0 hb r hsp => ?_⟩
  have hl := len _ _ _ _ hsp
  have KX : K.In s.heap := e0.mod.kin.keeps fun b o e => (e0.bs b o e).1
  have lim : s.heap.NoLimit := e0.mod.nolimit.keeps fun b o e => (e0.bs b o e).1
  obtain ⟨cl, cld, csl, hcell⟩ := F.cell
  obtain ⟨ccl, cdd, ccs, vsC, file, tf, hcode, hvs, hfile⟩ := F.code
  refine PySem.ks_codeAny_call_defAt hr.depth (KX _ _ lk) rfl lim (PySem.W.codeRec_of KX hcd) rfl hb S.nocell (fun y hy => S.par _ (List.of_mem_zip hy).1) (fun h1 hns hk => ?_) S.co S.gen S.kind
  have I0 : Inv (cxS CX0 P w K mg base N qual scope f (.ref cda) cc A outer s H E) [] (L2.start N vs) H { s with heap := h1, toks := s.toks + ((x0 :: ps).zip us).length } :=
    invS (cv := some (.ref D)) S hr.hd e0 hl r ⟨_, e0.mod.kin _ _ hcell, rfl⟩ hns hk
  obtain ⟨a, dx, fs, vr, ta, t, rfl, ha, hta, hrest, hq⟩ := hbody A outer s H vs Q E (hr.deeper _) hsp
  cases r with
  | cons r0 rr =>
    rename_i u0 ur
    obtain rfl : u0 = Value.ref a := r0
    have hself : (((x0 :: ps).zip (.ref a :: ur)).reverse.lookup x0) = some (.ref a) := rev_lookup (i := 0) (by rw [← S.pre]; exact S.nd.sublist (List.take_sublist _ _)) rfl rfl
    refine PySem.ks_wpAt_execs_cons ?_
    refine PySem.ks_wpAt_Expr_any ?_ I0.quiet rfl
    refine PySem.ks_wpAt_mono (sup_call (X := cxS CX0 P w K mg base N qual scope f (.ref cda) cc A outer s H E) (Q := fun H3 => t { nx := fun _ H' => Q .non H', rt := Q } (L2.start N (.ref a :: vr)) H3) I0 S.kind S.sup S.cls rfl lk har (by rw [harx]; exact S.par x0 List.mem_cons_self) rfl rfl ?_ rfl rfl F hmg F2 hb2 (hr.deeper _) ha hta hq (hs A outer s H E) (he _)) (fun v s3 ⟨H3, I3, q3⟩ => ?_) (fun _ _ z => z)
    · rw [harx]
      have h1 := S.pre
      cases hN : N with
      | nil => rw [hN] at h1; cases h1
      | cons y ys => rw [hN] at h1; simp only [List.length_cons, List.take_succ_cons, List.cons.injEq] at h1; rw [h1.1]; rfl
    · refine wpAt_of_wpAny ?_
      refine wpAny_mono (hrest.run [] s3 _ H3 _ I3 q3) (fun fl s' hs => ?_) fun e s' hs => hs
      have fin : ∀ {σ' : L2.St} {H' : Hp} {v : V} {u : Value}, Inv (cxS CX0 P w K mg base N qual scope f (.ref cda) cc A outer s H E) [] σ' H' s' → RelV v u → Q v H' → CE outer P w H s Q u s' :=
        fun {σ' H' v u} J rv q => ⟨v, H', J.os, J.bare, J.base, J.hok, rv, q⟩
      cases fl with
      | ret u =>
        obtain ⟨v, σ', H', J, rv, q⟩ := hs
        exact fin J rv q
      | next =>
        obtain ⟨σ', H', J, q⟩ := hs
        exact fin (v := V.non) (u := Value.none) J rfl q
      | brk =>
        obtain ⟨_, _, _, q⟩ := hs
        exact False.elim q
      | cont =>
        obtain ⟨_, _, _, q⟩ := hs
        exact False.elim q
end AN
end

-- ANhk
section
set_option Elab.async false
set_option linter.all false
set_option maxRecDepth 100000
set_option maxHeartbeats 4000000
/-! The head's facts: defs by their addresses (methods behind a property, a closure's names too), and what else is asked. -/
namespace AN
open PySem PySem.Spec PyProof.Rows L2
abbrev AdrF := PySem.W.Frag → Addr
abbrev FnA : Type := Option (PySem.Str × PySem.Str × Arguments × FuncBody × Scope × Addr × List PySem.Str × Addr)
def fnA (K : PySem.W.Frag) (a : Addr) : FnA := match K.lookup a with
  | some ⟨_, _, .func fd, _⟩ => some (fd.name, fd.qualname, fd.params, fd.body, fd.scope, fd.globals, fd.closure.map (·.1), fd.builtins)
  | _ => none
structure DfA where
  at_ : AdrF
  name : PySem.Str
  qual : PySem.Str
  params : Arguments
  body : List Stmt
  scope : Scope
  dfl : List He.Dv := []
  kwd : List (PySem.Str × He.Dv) := []
  clo : List PySem.Str := []
def DfA.val (d : DfA) : FnA := some (d.name, d.qual, d.params, .stmts d.body, d.scope, mainGlobals, d.clo, builtinsNs)
def DfA.dvs (K : PySem.W.Frag) (d : DfA) : List V := d.dfl.map (He.Dv.v K)
def DfA.kws (K : PySem.W.Frag) (d : DfA) : List (PySem.Str × V) := d.kwd.map fun q => (q.1, q.2.v K)
def DfA.ok (K : PySem.W.Frag) (d : DfA) : Bool := PySem.W.keepIn K (.ref (d.at_ K)) && (match K.lookup (d.at_ K) with
  | some ⟨_, _, .func fd, _⟩ => PySem.W.codeIn K fd.code d.qual && (He.dflB K fd.defaults (d.dvs K) && He.kwdB K fd.kwdefaults (d.kws K))
  | _ => false)
theorem clo_nil : ∀ {l : List (PySem.Str × Addr)}, l.map (·.1) = [] → l = []
  | [], _ => rfl
theorem clo_one : ∀ {l : List (PySem.Str × Addr)} {x : PySem.Str}, l.map (·.1) = [x] → ∃ c, l = [(x, c)]
  | [(y, c)], x, h => by
    simp only [List.map_cons, List.map_nil, List.cons.injEq, and_true] at h
    exact ⟨c, by rw [h]⟩
theorem DfA.funD {K : PySem.W.Frag} {d : DfA} (hc : d.clo = []) (e : fnA K (d.at_ K) = d.val) (c : d.ok K = true) : ∃ fd, FunD K d.name d.qual d.params d.body d.scope (d.dvs K) (d.kws K) (d.at_ K) fd := by
  obtain ⟨kp, c2⟩ := He.ba c
  unfold fnA at e
  cases q : K.lookup (d.at_ K) with
  | none =>
    rw [q] at c2
    cases c2
  | some o =>
    obtain ⟨oc, od, dt, osl⟩ := o
    rw [q] at c2 e
    cases dt with
    | func fd =>
      obtain ⟨n1, n2, n3, n4, n5, n6, n7, n8, n9, n10, n11, n12, n13, n14, n15⟩ := fd
      have e2 : (some (n1, n2, n3, n4, n5, n6, n7.map (·.1), n15) : FnA) = some (d.name, d.qual, d.params, .stmts d.body, d.scope, mainGlobals, d.clo, builtinsNs) := e
      simp only [Option.some.injEq, Prod.mk.injEq] at e2
      obtain ⟨h1, h2, h3, h4, h5, h6, h7, h8⟩ := e2
      rw [hc] at h7
      have h7 := clo_nil h7
      subst h1 h2 h3 h4 h5 h6 h7 h8
      have c3 : (PySem.W.codeIn K n13 d.qual && (He.dflB K n8 (d.dvs K) && He.kwdB K n9 (d.kws K))) = true := c2
      obtain ⟨k1, k2⟩ := He.ba c3
      obtain ⟨k3, k4⟩ := He.ba k2
      exact ⟨_, ⟨oc, od, n8, n9, n10, n11, n12, n13, n14, osl, rfl, q, k1, He.dflB_ok k3, He.kwdB_ok k4⟩, kp⟩
    | _ => cases c2
/-- a def whose closure holds __class__ -/
structure FunS (K : PySem.W.Frag) (x qual : PySem.Str) (params : Arguments) (body : List Stmt) (scope : Scope) (f : Addr) (cdv : Value) (cc : Addr) (fd : FuncData) : Prop where
  ex : ∃ (oc : Value) (od : Option Addr) (dV kV doc pm : Value) (an : Option Addr) (ct : Value) (osl : Array (Option Value)), DflV K dV [] ∧ fd = PySem.W.ksFn x qual params body scope dV kV doc pm an cdv ct cc ∧ K.lookup f = some ⟨oc, od, .func fd, osl⟩ ∧ PySem.W.codeIn K cdv qual = true
  kp : PySem.W.keepIn K (.ref f) = true
theorem DfA.funS {K : PySem.W.Frag} {d : DfA} (hc : d.clo = [("__class__" : PySem.Str)]) (hd : d.dfl = []) (e : fnA K (d.at_ K) = d.val) (c : d.ok K = true) : ∃ cdv cc fd, FunS K d.name d.qual d.params d.body d.scope (d.at_ K) cdv cc fd := by
  obtain ⟨kp, c2⟩ := He.ba c
  unfold fnA at e
  cases q : K.lookup (d.at_ K) with
  | none =>
    rw [q] at c2
    cases c2
  | some o =>
    obtain ⟨oc, od, dt, osl⟩ := o
    rw [q] at c2 e
    cases dt with
    | func fd =>
      obtain ⟨n1, n2, n3, n4, n5, n6, n7, n8, n9, n10, n11, n12, n13, n14, n15⟩ := fd
      have e2 : (some (n1, n2, n3, n4, n5, n6, n7.map (·.1), n15) : FnA) = some (d.name, d.qual, d.params, .stmts d.body, d.scope, mainGlobals, d.clo, builtinsNs) := e
      simp only [Option.some.injEq, Prod.mk.injEq] at e2
      obtain ⟨h1, h2, h3, h4, h5, h6, h7, h8⟩ := e2
      rw [hc] at h7
      obtain ⟨cc, h7⟩ := clo_one h7
      subst h1 h2 h3 h4 h5 h6 h7 h8
      have c3 : (PySem.W.codeIn K n13 d.qual && (He.dflB K n8 (d.dvs K) && He.kwdB K n9 (d.kws K))) = true := c2
      obtain ⟨k1, k2⟩ := He.ba c3
      obtain ⟨k3, k4⟩ := He.ba k2
      have k5 := He.dflB_ok k3
      rw [show d.dvs K = [] by unfold DfA.dvs; rw [hd]; rfl] at k5
      exact ⟨n13, cc, _, ⟨oc, od, n8, n9, n10, n11, n12, n14, osl, k5, rfl, q, k1⟩, kp⟩
    | _ => cases c2

abbrev AlA : Type := Bool × List FnA
def obsA (fa : List He.Fa) (fn : List DfA) (ex : PySem.W.Frag → Bool) (K : PySem.W.Frag) : AlA := ((fa.all fun f => f.ok K) && (ex K && fn.all fun d => d.ok K), fn.map fun d => fnA K (d.at_ K))
def valA (fn : List DfA) : AlA := (true, fn.map DfA.val)
def SaysA (fa : List He.Fa) (fn : List DfA) (ex : PySem.W.Frag → Bool) (K : PySem.W.Frag) : Prop := obsA fa fn ex K = valA fn
/-- the objects that an object names: a dict's values, a def's code, defaults and cells, a class's names -/
def refsA (o : Obj) : List Addr := match o.data with
  | .seq its _ => its.toList.flatMap He.refV
  | .dict es _ => es.toList.flatMap fun e => He.refV e.val
  | .func fd => He.refV fd.code ++ (He.refV fd.defaults ++ (He.refV fd.kwdefaults ++ fd.closure.map (·.2)))
  | .cls cd => [cd.ns]
  | .fields vs => vs.toList.flatMap He.refV
  | .cell (some v) => He.refV v
  | _ => []
/-- what as reaches in n steps; no look at what is there already: on so flat a heap that is dearer than to lay it twice -/
def asA (g : Addr → Option Obj) : Nat → List Addr → List Addr
  | 0, as => as
  | n + 1, as => as ++ asA g n (as.flatMap fun a => match g a with
    | some o => refsA o
    | none => [])
def obsAG (n : Nat) (fa : List He.Fa) (fn : List DfA) (ex : PySem.W.Frag → Bool) (g : Addr → Option Obj) : AlA := obsA fa fn ex (He.frG g (cStatics :: asA g n [mainGlobals]))
def hookA (n : Nat) (fa : List He.Fa) (fn : List DfA) (ex : PySem.W.Frag → Bool) : PySem.W.Hook where
  α := AlA
  obs := fun s => obsAG n fa fn ex s.heap.get?
  val := fun _ => valA fn
  says := fun _ h => ∃ K : PySem.W.Frag, K.In h ∧ SaysA fa fn ex K
  of := fun _ _ e => ⟨_, He.frG_in, e⟩
  keeps := fun _ _ _ ⟨K, hK, c⟩ k => ⟨K, PySem.W.Frag.In.keeps hK k, c⟩
theorem obsAG_eq {n : Nat} {fa : List He.Fa} {fn : List DfA} {ex : PySem.W.Frag → Bool} {g : Addr → Option Obj} {s : Shared} (h : ∀ a, g a = s.heap.get? a) : obsAG n fa fn ex g = (hookA n fa fn ex).obs s := by
  have e : g = s.heap.get? := funext h
  rw [e] <;> rfl
section
variable {fa : List He.Fa} {fn : List DfA} {ex : PySem.W.Frag → Bool} {K : PySem.W.Frag}
theorem SaysA.fact (c : SaysA fa fn ex K) {f : He.Fa} (h : f ∈ fa) : f.ok K = true := List.all_eq_true.mp (He.ba (show ((fa.all fun f => f.ok K) && (ex K && fn.all fun d => d.ok K)) = true from congrArg (fun z : AlA => z.1) c)).1 f h
theorem SaysA.more (c : SaysA fa fn ex K) : ex K = true := (He.ba (He.ba (show ((fa.all fun f => f.ok K) && (ex K && fn.all fun d => d.ok K)) = true from congrArg (fun z : AlA => z.1) c)).2).1
theorem SaysA.all (c : SaysA fa fn ex K) {d : DfA} (i : Nat) (h : fn[i]? = some d) : fnA K (d.at_ K) = d.val ∧ d.ok K = true := by
  have c2 := (He.ba (He.ba (show ((fa.all fun f => f.ok K) && (ex K && fn.all fun d => d.ok K)) = true from congrArg (fun z : AlA => z.1) c)).2).2
  have e : fn.map (fun d => fnA K (d.at_ K)) = fn.map DfA.val := congrArg (fun z : AlA => z.2) c
  have e2 : (fn.map fun d => fnA K (d.at_ K))[i]? = (fn.map DfA.val)[i]? := by rw [e]
  rw [List.getElem?_map, List.getElem?_map, h] at e2
  exact ⟨Option.some.inj e2, List.all_eq_true.mp c2 d (List.mem_of_getElem? h)⟩
end

/-! ### what else is asked: properties, __call__, super(), an empty tuple -/
def prAt (C f : PySem.Str) : AdrF := fun K => match PySem.W.findIn K (.ref (He.ga K C)) f with
  | some (some (.ref p)) => p
  | _ => 0
def gtAt (C f : PySem.Str) : AdrF := fun K => match PySem.W.recIn K (prAt C f K) "property" with
  | some (.ref g :: _) => g
  | _ => 0
def propB (C f : PySem.Str) (K : PySem.W.Frag) : Bool := He.eqO (PySem.W.findIn K (.ref (He.ga K C)) f) (some (some (.ref (prAt C f K)))) && (He.eqO (PySem.W.specialIn K (.ref (prAt C f K)) "__get__") (some (some (.builtin "property.__get__"))) && (decide (PySem.W.takesIn K (.ref (prAt C f K)) = some true) && (match PySem.W.recIn K (prAt C f K) "property" with
  | some (.ref g :: _) => true
  | _ => false)))
theorem propB_ok {C f : PySem.Str} {K : PySem.W.Frag} (h : propB C f K = true) : PropOf K (He.ga K C) f (prAt C f K) (gtAt C f K) := by
  obtain ⟨h1, h⟩ := He.ba h
  obtain ⟨h2, h⟩ := He.ba h
  obtain ⟨h3, h⟩ := He.ba h
  refine ⟨He.eqO_ok h1, He.eqO_ok h2, of_decide_eq_true h3, ?_⟩
  unfold gtAt
  cases e : PySem.W.recIn K (prAt C f K) "property" with
  | none =>
    rw [e] at h
    cases h
  | some l =>
    rw [e] at h
    cases l with
    | nil => cases h
    | cons v r =>
      cases v with
      | ref g => exact ⟨r, rfl⟩
      | _ => cases h
def clB (C : PySem.Str) (K : PySem.W.Frag) : Bool := He.eqO (PySem.W.findIn K (.ref (He.ga K C)) "__call__") (some (some (.ref (He.ma K (He.ga K C) "__call__")))) && (PySem.W.isFn K (.ref (He.ma K (He.ga K C) "__call__")) && PySem.W.fnIn K (He.ma K (He.ga K C) "__call__"))
theorem clB_ok {C : PySem.Str} {K : PySem.W.Frag} (h : clB C K = true) : StX.CallO K (He.ga K C) (He.ma K (He.ga K C) "__call__") := by
  obtain ⟨h1, h⟩ := He.ba h
  obtain ⟨h2, h3⟩ := He.ba h
  exact ⟨He.eqO_ok h1, h2, h3⟩
/-- an empty tuple -/
def mtB (a : AdrF) (K : PySem.W.Frag) : Bool := match K.lookup (a K) with
  | some ⟨.type c, _, .seq its _, _⟩ => decide (c = "tuple") && its.toList.isEmpty
  | _ => false
theorem mtB_ok {a : AdrF} {K : PySem.W.Frag} (h : mtB a K = true) (H : Hp) : SqT K H (a K) [] := by
  unfold mtB at h
  cases q : K.lookup (a K) with
  | none =>
    rw [q] at h
    cases h
  | some o =>
    obtain ⟨oc, od, dt, osl⟩ := o
    rw [q] at h
    cases oc with
    | type c =>
      cases dt with
      | seq its n =>
        obtain ⟨h1, h2⟩ := He.ba (show (decide (c = "tuple") && its.toList.isEmpty) = true from h)
        have e : its.toList = [] := by simpa using h2
        refine .inr ⟨_, its, n, q, congrArg Value.type (of_decide_eq_true h1), rfl, ?_, by rw [e]; exact .nil⟩
        have : its.size = 0 := by rw [← Array.length_toList, e]; rfl
        rw [this]
        exact Nat.zero_le _
      | _ => cases h
    | _ => cases dt <;> cases h
/-- the i-th default of the method m | a keyword-only default -/
def dfAt (f : AdrF) (i : Nat) : AdrF := fun K => match K.lookup (f K) with
  | some ⟨_, _, .func fd, _⟩ => (match fd.defaults with
    | .ref T => (match K.lookup T with
      | some ⟨_, _, .seq its _, _⟩ => (match its.toList[i]? with
        | some (.ref a) => a
        | _ => 0)
      | _ => 0)
    | _ => 0)
  | _ => 0
def kwAt (f : AdrF) (x : PySem.Str) : AdrF := fun K => match K.lookup (f K) with
  | some ⟨_, _, .func fd, _⟩ => (match fd.kwdefaults with
    | .ref D => (match PySem.W.nsIn K D x with
      | some (some (.ref a)) => a
      | _ => 0)
    | _ => 0)
  | _ => 0
/-- super() in the method m of C -/
def supB (P : Program) (C m : PySem.Str) (K : PySem.W.Frag) : Bool := match K.lookup (He.ma K (He.ga K C) m) with
  | some ⟨_, _, .func fd, _⟩ => (match fd.closure, fd.code with
    | [(_, cc)], .ref cda => (match K.lookup cc with
        | some ⟨_, _, .cell (some (.ref D)), _⟩ => decide (D = He.ga K C)
        | _ => false) && ((match K.lookup cda with
        | some ⟨_, _, .fields vs, _⟩ => (match vs[2]? with
          | some (Value.str file _) => (P.main.file : PySem.Str) == file
          | _ => false)
        | _ => false) && (!(P.main.scope.names.lookup ("super" : PySem.Str)).isSome && (He.eqO (PySem.W.nsIn K cStatics "thirdparty.any") (some none) && ((match PySem.W.ks_superIn K (He.ga K C) (He.ga K C) m with
        | some (some (.ref f2)) => decide (PySem.W.typeIn K (.ref f2) = some (.type "function")) && PySem.W.fnIn K f2
        | _ => false) && (decide (PySem.W.mroIn K (He.ga K C) (.ref (He.ga K C)) = some true) && !(m == ("__class__" : PySem.Str)))))))
    | _, _ => false)
  | _ => false
def suAt (C m : PySem.Str) : AdrF := fun K => match PySem.W.ks_superIn K (He.ga K C) (He.ga K C) m with
  | some (some (.ref f2)) => f2
  | _ => 0
theorem supB_ok {P : Program} {C m : PySem.Str} {K : PySem.W.Frag} (h : supB P C m K = true) {oc : Value} {od : Option Addr} {osl : Array (Option Value)} {fd : FuncData} {cdv : Value} {cc : Addr} {x : PySem.Str} (lk : K.lookup (He.ma K (He.ga K C) m) = some ⟨oc, od, .func fd, osl⟩) (e1 : fd.closure = [(x, cc)]) (e2 : fd.code = cdv) :
    ∃ cda, cdv = .ref cda ∧ SupF P K (He.ga K C) cda cc (suAt C m K) m := by
  unfold supB at h
  rw [lk] at h
  dsimp only at h
  rw [e1, e2] at h
  cases cdv with
  | ref cda =>
    dsimp only at h
    obtain ⟨h1, h⟩ := He.ba h
    obtain ⟨h2, h⟩ := He.ba h
    obtain ⟨h3, h⟩ := He.ba h
    obtain ⟨h4, h⟩ := He.ba h
    obtain ⟨h5, h⟩ := He.ba h
    obtain ⟨h6, h7⟩ := He.ba h
    refine ⟨cda, rfl, ?_, ?_, by simpa using h3, He.eqO_ok h4, ?_, ?_, ?_, of_decide_eq_true h6, by simpa using h7⟩
    · cases q : K.lookup cc with
      | none =>
        rw [q] at h1
        cases h1
      | some o =>
        obtain ⟨a, b, d, sl⟩ := o
        rw [q] at h1
        cases d with
        | cell v =>
          cases v with
          | none => cases h1
          | some v =>
            cases v with
            | ref D =>
              have : D = He.ga K C := of_decide_eq_true h1
              subst this
              exact ⟨_, _, _, rfl⟩
            | _ => cases h1
        | _ => cases h1
    · cases q : K.lookup cda with
      | none =>
        rw [q] at h2
        cases h2
      | some o =>
        obtain ⟨a, b, d, sl⟩ := o
        rw [q] at h2
        cases d with
        | fields vs =>
          dsimp only at h2
          cases q2 : vs[2]? with
          | none =>
            rw [q2] at h2
            cases h2
          | some v =>
            rw [q2] at h2
            cases v with
            | str file tf => exact ⟨_, _, _, _, _, _, rfl, q2, h2⟩
            | _ => cases h2
        | _ => cases h2
    all_goals
      unfold suAt
      cases q : PySem.W.ks_superIn K (He.ga K C) (He.ga K C) m with
      | none =>
        rw [q] at h5
        cases h5
      | some o =>
        rw [q] at h5
        cases o with
        | none => cases h5
        | some v =>
          cases v with
          | ref f2 =>
            obtain ⟨k1, k2⟩ := He.ba h5
            first
              | rfl
              | exact of_decide_eq_true k1
              | exact k2
          | _ => cases h5
  | _ => cases h
end AN
end

-- ANtxt
section
set_option Elab.async false
set_option linter.all false
set_option maxRecDepth 100000
set_option maxHeartbeats 0
namespace AN
open PySem PySem.Spec PyProof.Rows L2
def top (i : Nat) : Stmt := PySem.Challenge.pw_alwaysnew_k39_whole_readiness.main.body.getD i (.Pass ⟨0, 0, 0, 0⟩)
def cst (i j : Nat) : Stmt := match top i with
  | .ClassDef _ _ _ body _ _ _ _ _ _ _ => body.getD j (.Pass ⟨0, 0, 0, 0⟩)
  | s => s
abbrev d_is_integer : DfA := { at_ := fun K => He.ga K "is_integer", name := "is_integer", qual := "is_integer", params := defArgs (top 9), body := defBody (top 9), scope := defScope (top 9), kwd := [] }
abbrev d_is_number : DfA := { at_ := fun K => He.ga K "is_number", name := "is_number", qual := "is_number", params := defArgs (top 10), body := defBody (top 10), scope := defScope (top 10), kwd := [] }
abbrev d_require_letters : DfA := { at_ := fun K => He.ga K "require_letters", name := "require_letters", qual := "require_letters", params := defArgs (top 13), body := defBody (top 13), scope := defScope (top 13), kwd := [] }
abbrev d_require_states : DfA := { at_ := fun K => He.ga K "require_states", name := "require_states", qual := "require_states", params := defArgs (top 14), body := defBody (top 14), scope := defScope (top 14), kwd := [] }
abbrev d_row_step : DfA := { at_ := fun K => He.ga K "row_step", name := "row_step", qual := "row_step", params := defArgs (top 15), body := defBody (top 15), scope := defScope (top 15), kwd := [] }
abbrev d_step : DfA := { at_ := fun K => He.ga K "step", name := "step", qual := "step", params := defArgs (top 16), body := defBody (top 16), scope := defScope (top 16), kwd := [] }
abbrev d_run : DfA := { at_ := fun K => He.ga K "run", name := "run", qual := "run", params := defArgs (top 17), body := defBody (top 17), scope := defScope (top 17), kwd := [] }
abbrev d_led : DfA := { at_ := fun K => He.ga K "led", name := "led", qual := "led", params := defArgs (top 18), body := defBody (top 18), scope := defScope (top 18), kwd := [("state", .int 0)] }
abbrev d_said : DfA := { at_ := fun K => He.ga K "said", name := "said", qual := "said", params := defArgs (top 19), body := defBody (top 19), scope := defScope (top 19), kwd := [("state", .int 0), ("quiet", .adr (kwAt (fun K => He.ga K "said") "quiet"))] }
abbrev d_quieted : DfA := { at_ := fun K => He.ga K "quieted", name := "quieted", qual := "quieted", params := defArgs (top 20), body := defBody (top 20), scope := defScope (top 20), kwd := [] }
abbrev d_refined : DfA := { at_ := fun K => He.ga K "refined", name := "refined", qual := "refined", params := defArgs (top 26), body := defBody (top 26), scope := defScope (top 26), kwd := [] }
abbrev d_classes_of : DfA := { at_ := fun K => He.ga K "classes_of", name := "classes_of", qual := "classes_of", params := defArgs (top 27), body := defBody (top 27), scope := defScope (top 27), kwd := [("quiet", .adr (kwAt (fun K => He.ga K "classes_of") "quiet"))] }
abbrev d_are_alike : DfA := { at_ := fun K => He.ga K "are_alike", name := "are_alike", qual := "are_alike", params := defArgs (top 28), body := defBody (top 28), scope := defScope (top 28), kwd := [("quiet", .adr (kwAt (fun K => He.ga K "are_alike") "quiet"))] }
abbrev d_true_states : DfA := { at_ := fun K => He.ga K "true_states", name := "true_states", qual := "true_states", params := defArgs (top 30), body := defBody (top 30), scope := defScope (top 30), kwd := [("quiet", .adr (kwAt (fun K => He.ga K "true_states") "quiet"))] }
abbrev d_is_true : DfA := { at_ := fun K => He.ga K "is_true", name := "is_true", qual := "is_true", params := defArgs (top 31), body := defBody (top 31), scope := defScope (top 31), kwd := [("quiet", .adr (kwAt (fun K => He.ga K "is_true") "quiet"))] }
abbrev d_is_ready : DfA := { at_ := fun K => He.ga K "is_ready", name := "is_ready", qual := "is_ready", params := defArgs (top 32), body := defBody (top 32), scope := defScope (top 32), kwd := [("quiet", .adr (kwAt (fun K => He.ga K "is_ready") "quiet"))] }
abbrev d_ready_versions : DfA := { at_ := fun K => He.ga K "ready_versions", name := "ready_versions", qual := "ready_versions", params := defArgs (top 33), body := defBody (top 33), scope := defScope (top 33), kwd := [("quiet", .adr (kwAt (fun K => He.ga K "ready_versions") "quiet"))] }
abbrev d_standing_after : DfA := { at_ := fun K => He.ga K "standing_after", name := "standing_after", qual := "standing_after", params := defArgs (top 36), body := defBody (top 36), scope := defScope (top 36), kwd := [] }
abbrev d_standings_led : DfA := { at_ := fun K => He.ga K "standings_led", name := "standings_led", qual := "standings_led", params := defArgs (top 37), body := defBody (top 37), scope := defScope (top 37), kwd := [] }
abbrev d_require_known : DfA := { at_ := fun K => He.ga K "require_known", name := "require_known", qual := "require_known", params := defArgs (top 39), body := defBody (top 39), scope := defScope (top 39), kwd := [] }
abbrev d_check_versions : DfA := { at_ := fun K => He.ga K "check_versions", name := "check_versions", qual := "check_versions", params := defArgs (top 40), body := defBody (top 40), scope := defScope (top 40), kwd := [] }
abbrev d_is_standing : DfA := { at_ := fun K => He.ga K "is_standing", name := "is_standing", qual := "is_standing", params := defArgs (top 41), body := defBody (top 41), scope := defScope (top 41), kwd := [] }
abbrev d_all_reached : DfA := { at_ := fun K => He.ga K "all_reached", name := "all_reached", qual := "all_reached", params := defArgs (top 42), body := defBody (top 42), scope := defScope (top 42), kwd := [] }
abbrev d_law_source : DfA := { at_ := fun K => He.ga K "_law_source", name := "_law_source", qual := "_law_source", params := defArgs (top 45), body := defBody (top 45), scope := defScope (top 45), kwd := [] }
abbrev d_law_draw : DfA := { at_ := fun K => He.ga K "_law_draw", name := "_law_draw", qual := "_law_draw", params := defArgs (top 46), body := defBody (top 46), scope := defScope (top 46), kwd := [] }
abbrev d_law_sample : DfA := { at_ := fun K => He.ga K "_law_sample", name := "_law_sample", qual := "_law_sample", params := defArgs (top 47), body := defBody (top 47), scope := defScope (top 47), kwd := [] }
abbrev d_law_engine : DfA := { at_ := fun K => He.ga K "_law_engine", name := "_law_engine", qual := "_law_engine", params := defArgs (top 48), body := defBody (top 48), scope := defScope (top 48), kwd := [] }
abbrev d_law_crowd : DfA := { at_ := fun K => He.ga K "_law_crowd", name := "_law_crowd", qual := "_law_crowd", params := defArgs (top 49), body := defBody (top 49), scope := defScope (top 49), kwd := [] }
abbrev d_law_next : DfA := { at_ := fun K => He.ga K "_law_next", name := "_law_next", qual := "_law_next", params := defArgs (top 50), body := defBody (top 50), scope := defScope (top 50), kwd := [] }
abbrev d_law_led : DfA := { at_ := fun K => He.ga K "_law_led", name := "_law_led", qual := "_law_led", params := defArgs (top 51), body := defBody (top 51), scope := defScope (top 51), kwd := [] }
abbrev d_law_reached : DfA := { at_ := fun K => He.ga K "_law_reached", name := "_law_reached", qual := "_law_reached", params := defArgs (top 52), body := defBody (top 52), scope := defScope (top 52), kwd := [] }
abbrev d_law_signs : DfA := { at_ := fun K => He.ga K "_law_signs", name := "_law_signs", qual := "_law_signs", params := defArgs (top 53), body := defBody (top 53), scope := defScope (top 53), kwd := [] }
abbrev d_law_lore : DfA := { at_ := fun K => He.ga K "_law_lore", name := "_law_lore", qual := "_law_lore", params := defArgs (top 54), body := defBody (top 54), scope := defScope (top 54), kwd := [] }
abbrev d_law_hush : DfA := { at_ := fun K => He.ga K "_law_hush", name := "_law_hush", qual := "_law_hush", params := defArgs (top 55), body := defBody (top 55), scope := defScope (top 55), kwd := [] }
abbrev d_law_is_led_right : DfA := { at_ := fun K => He.ga K "_law_is_led_right", name := "_law_is_led_right", qual := "_law_is_led_right", params := defArgs (top 56), body := defBody (top 56), scope := defScope (top 56), kwd := [] }
abbrev d_law_are_words_right : DfA := { at_ := fun K => He.ga K "_law_are_words_right", name := "_law_are_words_right", qual := "_law_are_words_right", params := defArgs (top 57), body := defBody (top 57), scope := defScope (top 57), kwd := [] }
abbrev d_law_is_forgotten_right : DfA := { at_ := fun K => He.ga K "_law_is_forgotten_right", name := "_law_is_forgotten_right", qual := "_law_is_forgotten_right", params := defArgs (top 58), body := defBody (top 58), scope := defScope (top 58), kwd := [] }
abbrev d_law : DfA := { at_ := fun K => He.ga K "law", name := "law", qual := "law", params := defArgs (top 59), body := defBody (top 59), scope := defScope (top 59), kwd := [] }
abbrev d_Look_init : DfA := { at_ := fun K => He.ma K (He.ga K "Look") "__init__", name := "__init__", qual := "Look.__init__", params := defArgs (cst 22 0), body := defBody (cst 22 0), scope := defScope (cst 22 0), dfl := [.adr (dfAt (fun K => He.ma K (He.ga K "Look") "__init__") 0)] }
abbrev d_Look_len : DfA := { at_ := fun K => He.ma K (He.ga K "Look") "__len__", name := "__len__", qual := "Look.__len__", params := defArgs (cst 22 1), body := defBody (cst 22 1), scope := defScope (cst 22 1) }
abbrev d_Look_need : DfA := { at_ := fun K => He.ma K (He.ga K "Look") "need", name := "need", qual := "Look.need", params := defArgs (cst 22 5), body := defBody (cst 22 5), scope := defScope (cst 22 5) }
abbrev d_Look_nexts : DfA := { at_ := fun K => He.ma K (He.ga K "Look") "nexts", name := "nexts", qual := "Look.nexts", params := defArgs (cst 22 6), body := defBody (cst 22 6), scope := defScope (cst 22 6) }
abbrev d_Look_words : DfA := { at_ := fun K => He.ma K (He.ga K "Look") "words", name := "words", qual := "Look.words", params := defArgs (cst 22 7), body := defBody (cst 22 7), scope := defScope (cst 22 7) }
abbrev d_Spread_init : DfA := { at_ := fun K => He.ma K (He.ga K "Spread") "__init__", name := "__init__", qual := "Spread.__init__", params := defArgs (cst 24 0), body := defBody (cst 24 0), scope := defScope (cst 24 0) }
abbrev d_Together_init : DfA := { at_ := fun K => He.ma K (He.ga K "Together") "__init__", name := "__init__", qual := "Together.__init__", params := defArgs (cst 35 0), body := defBody (cst 35 0), scope := defScope (cst 35 0), clo := ["__class__"] }
abbrev d_Together_need_reading : DfA := { at_ := fun K => He.ma K (He.ga K "Together") "need_reading", name := "need_reading", qual := "Together.need_reading", params := defArgs (cst 35 1), body := defBody (cst 35 1), scope := defScope (cst 35 1) }
abbrev d_Together_need_standing : DfA := { at_ := fun K => He.ma K (He.ga K "Together") "need_standing", name := "need_standing", qual := "Together.need_standing", params := defArgs (cst 35 2), body := defBody (cst 35 2), scope := defScope (cst 35 2) }
abbrev d_Together_nexts_of : DfA := { at_ := fun K => He.ma K (He.ga K "Together") "nexts_of", name := "nexts_of", qual := "Together.nexts_of", params := defArgs (cst 35 3), body := defBody (cst 35 3), scope := defScope (cst 35 3) }
abbrev d_Together_led_on : DfA := { at_ := fun K => He.ma K (He.ga K "Together") "led_on", name := "led_on", qual := "Together.led_on", params := defArgs (cst 35 4), body := defBody (cst 35 4), scope := defScope (cst 35 4) }
abbrev d_Knowledge_init : DfA := { at_ := fun K => He.ma K (He.ga K "Knowledge") "__init__", name := "__init__", qual := "Knowledge.__init__", params := defArgs (cst 43 0), body := defBody (cst 43 0), scope := defScope (cst 43 0) }
abbrev d_Knowledge_versions : DfA := { at_ := gtAt "Knowledge" "versions", name := "versions", qual := "Knowledge.versions", params := defArgs (cst 43 1), body := defBody (cst 43 1), scope := defScope (cst 43 1) }
abbrev d_Knowledge_standings : DfA := { at_ := gtAt "Knowledge" "standings", name := "standings", qual := "Knowledge.standings", params := defArgs (cst 43 2), body := defBody (cst 43 2), scope := defScope (cst 43 2) }
abbrev d_Knowledge_call : DfA := { at_ := fun K => He.ma K (He.ga K "Knowledge") "__call__", name := "__call__", qual := "Knowledge.__call__", params := defArgs (cst 43 10), body := defBody (cst 43 10), scope := defScope (cst 43 10) }
abbrev d_Knowledge_after : DfA := { at_ := fun K => He.ma K (He.ga K "Knowledge") "after", name := "after", qual := "Knowledge.after", params := defArgs (cst 43 11), body := defBody (cst 43 11), scope := defScope (cst 43 11) }
abbrev d_Knowledge_extended : DfA := { at_ := fun K => He.ma K (He.ga K "Knowledge") "extended", name := "extended", qual := "Knowledge.extended", params := defArgs (cst 43 12), body := defBody (cst 43 12), scope := defScope (cst 43 12), kwd := [("tail", .adr (kwAt (fun K => He.ma K (He.ga K "Knowledge") "extended") "tail"))] }
abbrev d_Knowledge_forgotten : DfA := { at_ := fun K => He.ma K (He.ga K "Knowledge") "forgotten", name := "forgotten", qual := "Knowledge.forgotten", params := defArgs (cst 43 13), body := defBody (cst 43 13), scope := defScope (cst 43 13) }
abbrev d_Knowledge_places : DfA := { at_ := fun K => He.ma K (He.ga K "Knowledge") "places", name := "places", qual := "Knowledge.places", params := defArgs (cst 43 16), body := defBody (cst 43 16), scope := defScope (cst 43 16) }
abbrev d_Knowledge_allows : DfA := { at_ := fun K => He.ma K (He.ga K "Knowledge") "allows", name := "allows", qual := "Knowledge.allows", params := defArgs (cst 43 17), body := defBody (cst 43 17), scope := defScope (cst 43 17) }
abbrev d_Knowledge_need_version : DfA := { at_ := fun K => He.ma K (He.ga K "Knowledge") "need_version", name := "need_version", qual := "Knowledge.need_version", params := defArgs (cst 43 20), body := defBody (cst 43 20), scope := defScope (cst 43 20) }
def fn : List DfA := [d_is_integer, d_is_number, d_require_letters, d_require_states, d_row_step, d_step, d_run, d_led, d_said, d_quieted, d_refined, d_classes_of, d_are_alike, d_true_states, d_is_true, d_is_ready, d_ready_versions, d_standing_after, d_standings_led, d_require_known, d_check_versions, d_is_standing, d_all_reached, d_law_source, d_law_draw, d_law_sample, d_law_engine, d_law_crowd, d_law_next, d_law_led] ++ [d_law_reached, d_law_signs, d_law_lore, d_law_hush, d_law_is_led_right, d_law_are_words_right, d_law_is_forgotten_right, d_law, d_Look_init, d_Look_len, d_Look_need, d_Look_nexts, d_Look_words, d_Spread_init, d_Together_init, d_Together_need_reading, d_Together_need_standing, d_Together_nexts_of, d_Together_led_on, d_Knowledge_init, d_Knowledge_versions, d_Knowledge_standings, d_Knowledge_call, d_Knowledge_after, d_Knowledge_extended, d_Knowledge_forgotten, d_Knowledge_places, d_Knowledge_allows, d_Knowledge_need_version]
def fa1 : List He.Fa := [.glo "is_integer", .glo "is_number", .glo "require_letters", .glo "require_states", .glo "row_step", .glo "step", .glo "run", .glo "led", .glo "said", .glo "quieted", .glo "refined", .glo "classes_of", .glo "are_alike", .glo "true_states", .glo "is_true", .glo "is_ready", .glo "ready_versions", .glo "standing_after", .glo "standings_led", .glo "require_known", .glo "check_versions", .glo "is_standing", .glo "all_reached", .glo "_law_source", .glo "_law_draw", .glo "_law_sample", .glo "_law_engine", .glo "_law_crowd", .glo "_law_next", .glo "_law_led", .glo "_law_reached", .glo "_law_signs", .glo "_law_lore", .glo "_law_hush", .glo "_law_is_led_right", .glo "_law_are_words_right", .glo "_law_is_forgotten_right", .glo "law"]
def fa2 : List He.Fa := [.glo "Look", .cls "Look", .mkr "Look", .glo "Together", .cls "Together", .mkr "Together", .glo "Knowledge", .cls "Knowledge", .mkr "Knowledge", .cls "Spread", .noat "Look" "seen", .noat "Look" "signs", .noat "Look" "moves", .noat "Together" "signs", .noat "Together" "looks", .noat "Together" "begin", .noat "Knowledge" "known", .meth "Look" "__len__", .meth "Look" "need", .meth "Look" "nexts", .meth "Look" "words", .meth "Together" "need_reading", .meth "Together" "need_standing", .meth "Together" "nexts_of", .meth "Together" "led_on", .meth "Knowledge" "after", .meth "Knowledge" "extended", .meth "Knowledge" "forgotten", .meth "Knowledge" "places", .meth "Knowledge" "allows", .meth "Knowledge" "need_version", .str "SILENT" ""]
def fa3 : List He.Fa := [.free "isinstance", .free "int", .free "bool", .free "any", .free "len", .free "dict", .free "zip", .free "tuple", .free "range", .free "enumerate", .free "all", .free "sorted", .free "set", .free "list", .free "min", .free "max", .free "super"]
def fa : List He.Fa := fa1 ++ (fa2 ++ fa3)
def exB (K : PySem.W.Frag) : Bool := propB "Knowledge" "versions" K && (propB "Knowledge" "standings" K && (clB "Knowledge" K && (mtB (dfAt (fun K => He.ma K (He.ga K "Look") "__init__") 0) K && (mtB (kwAt (fun K => He.ma K (He.ga K "Knowledge") "extended") "tail") K && (decide (suAt "Together" "__init__" K = He.ma K (He.ga K "Spread") "__init__") && supB PySem.Challenge.pw_alwaysnew_k39_whole_readiness "Together" "__init__" K)))))
end AN
end

-- ANhead1
section
set_option Elab.async false
set_option linter.all false
set_option maxRecDepth 100000
set_option maxHeartbeats 0
namespace AN
open PySem PySem.Spec PyProof.Rows L2
open PySem PySem.Spec PyProof.Rows L2
abbrev R0 : PySem.W.OpenRow := PySem.W.OpenLaw.row PySem.Challenge.rw_alwaysnew_k39_whole_readiness
abbrev hk : PySem.W.Hook := hookA 6 fa fn exB
def ob (s : PySem.W.SharedT) : AlA := obsAG 6 fa fn exB (HandSHeadRun.getT s)
theorem ob_eq (s : PySem.W.SharedT) : ob s = hk.obs s.abs := obsAG_eq (HandSHeadRun.getT_eq s)
def names1 : List Str := ["_wall", "__name__", "NewError", "MachineError", "InvalidLetter", "InvalidState", "InvalidKnowledge", "NotReached", "is_integer", "is_number", "SILENT", "require_letters", "require_states", "row_step", "step", "run", "led", "said", "quieted", "Look", "Spread", "refined", "classes_of", "are_alike", "true_states"]
def names2 : List Str := ["is_true", "is_ready", "ready_versions", "Together", "standing_after", "standings_led", "require_known", "check_versions", "is_standing", "all_reached", "Knowledge", "_law_source", "_law_draw", "_law_sample", "_law_engine", "_law_crowd", "_law_next", "_law_led", "_law_reached", "_law_signs", "_law_lore", "_law_hush", "_law_is_led_right", "_law_are_words_right", "_law_is_forgotten_right"]
theorem run_eq (w : World) : HandSHeadRun.RunEq R0 (PySem.W.view R0.prog [59]) hk ob 40000 (names1 ++ names2) w := by
  intro os
  kernel_rfl
end AN
end

-- ANz1
section
set_option Elab.async false
set_option linter.all false
set_option maxRecDepth 100000
set_option maxHeartbeats 4000000
/-! zip(a, b, strict=True) over two iterators of any kind. -/
namespace AN
open PySem

abbrev ZipS (h : Heap) (z TI TO : Addr) (f0 : Value) : Prop := h.get? z = some { cls := .type "zip", dict := none, data := .fields #[f0, .bool false, .bool true, .ref TI, .ref TO], slots := #[] }
abbrev Two (h : Heap) (T : Addr) (x y : Value) : Prop := h.get? T = some { cls := .type "tuple", data := .seq #[x, y] }

section
variable {prog : Program} {w : World} {A : Around} {E : Value → Shared → Prop} {s : Shared} {z TI TO i1 i2 : Addr} {fp1 fp2 : List Addr} {n1 n2 i : Nat} {P1 P2 : Nat → Value → Prop} {St1 St2 : Nat → Heap → Prop} {a1 a2 : Value}

/-- one draw that has an item -/
theorem draw_item {it : Addr} {fp : List Addr} {n : Nat} {P : Nat → Value → Prop} {St : Nat → Heap → Prop} {Q : Option Value → Shared → Prop} (D : Draws prog w A it fp n P St) (hi : i < n) (st : St i s.heap)
    (h : ∀ x h' tk, P i x → St (i + 1) h' → Heap.SameBut it s.heap h' → Q (some x) { s with heap := h', toks := tk }) : wpAny (model prog w) A (Builtin.SmallTypes.nextOrEnd (.ref it)) Q E s := by
  unfold Builtin.SmallTypes.nextOrEnd
  refine wpAny_bind (wpAny_attempt ?_)
  exact D.item i s _ _ hi st fun x h' tk p1 p2 p3 => wpAny_pure (h x h' tk p1 p2 p3)
/-- one draw at the end -/
theorem draw_done {it : Addr} {fp : List Addr} {n : Nat} {P : Nat → Value → Prop} {St : Nat → Heap → Prop} {Q : Option Value → Shared → Prop} (D : Draws prog w A it fp n P St) (st : St n s.heap)
    (h : ∀ h', Heap.ExtBut it s.heap h' → Q none { s with heap := h' }) : wpAny (model prog w) A (Builtin.SmallTypes.nextOrEnd (.ref it)) Q E s := by
  unfold Builtin.SmallTypes.nextOrEnd
  refine wpAny_bind (wpAny_attempt ?_)
  refine D.done s _ _ st fun h' e p ⟨o, ho, hc⟩ => ?_
  exact wpAny_bind (wpAny_isInstance (T := "StopIteration") (b := true) ⟨o, ho, hc⟩ isSubtype_stop (wpAny_pure (h h' p)))

theorem two_set {T : Addr} {x : Value} {k : Nat} {Q : Unit → Shared → Prop} (hT : Two s.heap T a1 a2)
    (h : ∀ h', h'.get? T = some { cls := .type "tuple", data := .seq ((#[a1, a2] : Array Value).setIfInBounds k x) } → Heap.SameBut T s.heap h' → Q () { s with heap := h' }) :
    wpAny (model prog w) A (updateSeq T (·.setIfInBounds k x)) Q E s := by
  refine wpAny_updateSeq hT rfl (h _ ?_ (Heap.SameBut.update ..))
  rw [Heap.get?_update_self _ hT rfl]
  simp [Obj.mapSeq]

theorem zs_item {Q : Value → Shared → Prop} (S : ZipSep2 z TI TO i1 i2 fp1 fp2) (D1 : Draws prog w A i1 fp1 n1 P1 St1) (D2 : Draws prog w A i2 fp2 n2 P2 St2)
    (hz : ZipS s.heap z TI TO .none) (hI : Two s.heap TI (.ref i1) (.ref i2)) (hO : Two s.heap TO a1 a2) (st1 : St1 i s.heap) (st2 : St2 i s.heap) (l1 : i < n1) (l2 : i < n2)
    (hQ : ∀ x1 x2 h' tk, P1 i x1 → P2 i x2 → ZipS h' z TI TO (rawInt s.heap.objs.size) → Two h' TO x1 x2 → St1 (i + 1) h' → St2 (i + 1) h' → Two h' s.heap.objs.size x1 x2 → h'.objs.size = s.heap.objs.size + 1 →
      (∀ c o, c ≠ z → c ≠ TO → c ≠ i1 → c ≠ i2 → s.heap.get? c = some o → h'.get? c = some o) → Q (.ref s.heap.objs.size) { s with heap := h', toks := tk }) :
    wpAny (model prog w) A (Builtin.«zip.__next__» ⟨[.ref z], []⟩) (fun fin s' => ∃ v, fin = .done (.ret v) ∧ Q v s') E s := by
  obtain ⟨hp, g, d, t0, os⟩ := s
  show wpAny _ _ (field (.ref z) 2 >>= _) _ _ _
  refine wpAny_bind (wpAny_field hz rfl (x := .bool true) rfl ?_)
  show wpAny _ _ (field (.ref z) 3 >>= _) _ _ _
  refine wpAny_bind (wpAny_field hz rfl (x := .ref TI) rfl (wpAny_bind (wpAny_seqItems hI rfl ?_)))
  show wpAny _ _ (Builtin.SmallTypes.ownedTupleIsFree (.ref z) >>= _) _ _ _
  refine wpAny_bind ?_
  unfold Builtin.SmallTypes.ownedTupleIsFree
  refine wpAny_bind (wpAny_field hz rfl (x := .none) rfl (wpAny_pure ?_))
  simp only [if_true]
  refine wpAny_bind (wpAny_rule (wpAny_bind (wpAny_field hz rfl (x := .ref TO) rfl (wpAny_bind (wpAny_setField_rec hz (by simp) fun g0 z0 s0 => ?_)))))
  have z0 : ZipS g0 z TI TO .ellipsis := z0
  have s0 : Heap.SameBut z hp g0 := s0
  refine wpAny_bind ?_
  simp only [List.zipIdx_cons, List.zipIdx_nil, List.forIn_cons, List.forIn_nil]
  refine wpAny_bind (wpAny_bind (wpAny_onRaise ?_))
  show wpAny _ _ (Builtin.SmallTypes.nextOrEnd (.ref i1)) _ _ ⟨g0, g, d, t0, os⟩
  refine draw_item D1 l1 (D1.over st1 s0 S.zf1) fun x1 p1 t1 y1 m1 b1 => ?_
  have b1 : Heap.SameBut i1 g0 p1 := b1
  have u1 : Two p1 TO a1 a2 := b1.extBut _ _ S.Ti1 (s0.extBut _ _ S.TOz hO)
  refine wpAny_bind (wpAny_seqItems (s := ⟨p1, g, d, t1, os⟩) u1 rfl (wpAny_bind (two_set (s := ⟨p1, g, d, t1, os⟩) u1 fun g1 v1 c1 => wpAny_bind (wpAny_letGo (wpAny_pure ?_)))))
  have v1 : Two g1 TO x1 a2 := v1
  have c1 : Heap.SameBut TO p1 g1 := c1
  refine wpAny_bind (wpAny_bind (wpAny_onRaise ?_))
  show wpAny _ _ (Builtin.SmallTypes.nextOrEnd (.ref i2)) _ _ ⟨g1, g, d, t1, os⟩
  refine draw_item D2 l2 (D2.over (D2.over (D2.over st2 s0 S.zf2) b1 S.sep1_2) c1 S.Tf2) fun x2 p2 t2 y2 m2 b2 => ?_
  have b2 : Heap.SameBut i2 g1 p2 := b2
  have u2 : Two p2 TO x1 a2 := b2.extBut _ _ S.Ti2 v1
  refine wpAny_bind (wpAny_seqItems (s := ⟨p2, g, d, t2, os⟩) u2 rfl (wpAny_bind (two_set (s := ⟨p2, g, d, t2, os⟩) u2 fun g2 v2 c2 => wpAny_bind (wpAny_letGo (wpAny_pure (wpAny_pure ?_))))))
  have v2 : Two g2 TO x1 x2 := v2
  have c2 : Heap.SameBut TO p2 g2 := c2
  refine wpAny_bind (wpAny_seqItems (s := ⟨g2, g, d, t2, os⟩) v2 rfl (wpAny_bind (wpAny_newTuple ?_)))
  have sz : g2.objs.size = hp.objs.size := by rw [c2.1, b2.1, c1.1, b1.1, s0.1]
  have zz : ZipS g2 z TI TO .ellipsis := c2.extBut _ _ S.TOz.symm (b2.extBut _ _ S.zi2 (c1.extBut _ _ S.TOz.symm (b1.extBut _ _ S.zi1 z0)))
  have kk : ∀ c o, c ≠ z → c ≠ TO → c ≠ i1 → c ≠ i2 → hp.get? c = some o → g2.get? c = some o := fun c o q0 q1 q2 q3 e =>
    c2.extBut _ _ q1 (b2.extBut _ _ q3 (c1.extBut _ _ q1 (b1.extBut _ _ q2 (s0.extBut _ _ q0 e))))
  have j1 : St1 (i + 1) g2 := D1.over (D1.over (D1.over m1 c1 S.Tf1) b2 S.sep2_1) c2 S.Tf1
  have j2 : St2 (i + 1) g2 := D2.over m2 c2 S.Tf2
  have zl : z < g2.objs.size := Heap.lt_size zz
  show wpAny _ _ (Builtin.SmallTypes.ownedTupleHandOut (.ref z) (.ref g2.objs.size) >>= _) _ _ ⟨g2.push { cls := .type "tuple", data := .seq #[x1, x2] }, g, d, t2, os⟩
  refine wpAny_bind ?_
  unfold Builtin.SmallTypes.ownedTupleHandOut
  have z6 : ZipS (g2.push { cls := .type "tuple", data := .seq #[x1, x2] }) z TI TO .ellipsis := Heap.get?_push_of_some _ zz
  refine wpAny_bind (wpAny_setField_rec z6 (by simp) fun h7 z7 s7 => ?_)
  have z7 : ZipS h7 z TI TO (rawInt g2.objs.size) := z7
  refine wpAny_setField_rec z7 (by simp) fun h8 z8 s8 => ?_
  have z8 : ZipS h8 z TI TO (rawInt g2.objs.size) := z8
  have s7 : Heap.SameBut z (g2.push { cls := .type "tuple", data := .seq #[x1, x2] }) h7 := s7
  have s8 : Heap.SameBut z h7 h8 := s8
  have up : ∀ c o, c ≠ z → g2.get? c = some o → h8.get? c = some o := fun c o q e => s8.extBut _ _ q (s7.extBut _ _ q (Heap.get?_push_of_some _ e))
  have T8 : Two h8 g2.objs.size x1 x2 := s8.extBut _ _ (Nat.ne_of_gt zl) (s7.extBut _ _ (Nat.ne_of_gt zl) (Heap.get?_push_size _ rfl))
  have n8 : h8.objs.size = g2.objs.size + 1 := by rw [s8.1, s7.1, Heap.size_push]
  rw [sz] at z8 T8 n8
  refine wpAny_pure ⟨_, rfl, ?_⟩
  show Q (.ref g2.objs.size) ⟨h8, g, d, t2, os⟩
  rw [sz]
  exact hQ x1 x2 h8 t2 y1 y2 z8 (up _ _ S.TOz v2) (D1.frame _ _ _ j1 fun b hb o e => up b o (fun q => S.zf1 (q ▸ hb)) e) (D2.frame _ _ _ j2 fun b hb o e => up b o (fun q => S.zf2 (q ▸ hb)) e) T8 n8 fun c o q0 q1 q2 q3 e => up c o q0 (kk c o q0 q1 q2 q3 e)

theorem stop_ok {α : Type} {Q : α → Shared → Prop} (hh : A.handled = none) (h : ∀ h' e, (∀ c o, s.heap.get? c = some o → h'.get? c = some o) → (∃ o, h'.get? e = some o ∧ o.cls = .type "StopIteration") → E (.ref e) { s with heap := h' }) :
    wpAny (model prog w) A (Builtin.SmallTypes.stopIteration : Sem α) Q E s := by
  unfold Builtin.SmallTypes.stopIteration
  refine wpAny_bind ?_
  simp only [newExc, newTuple]
  refine wpAny_bind (wpAny_newObj_type ?_ (by size_fits))
  refine wpAny_bind (m := firstArgMember _ _) (wpAny_of_eq (a := Value.none) (by first | rfl | (simp only [firstArgMember]; rfl)) ?_)
  refine wpAny_newObj_type ?_ (by size_fits)
  simp only [raiseNew]
  refine wpAny_bind (wpAny_handled ?_)
  rw [hh]
  refine wpAny_bind (wpAny_pure (wpAny_throw ?_))
  exact h _ _ (fun c o e => Heap.get?_push_of_some _ (Heap.get?_push_of_some _ e)) ⟨_, Heap.get?_push_size _ rfl, rfl⟩

theorem zs_end {Q : Fin → Shared → Prop} (hh : A.handled = none) (S : ZipSep2 z TI TO i1 i2 fp1 fp2) (D1 : Draws prog w A i1 fp1 n1 P1 St1) (D2 : Draws prog w A i2 fp2 n2 P2 St2)
    (hz : ZipS s.heap z TI TO .none) (hI : Two s.heap TI (.ref i1) (.ref i2)) (hO : Two s.heap TO a1 a2) (st1 : St1 n1 s.heap) (st2 : St2 n2 s.heap)
    (hE : ∀ h' e, (∀ c o, c ≠ z → c ≠ TO → c ≠ i1 → c ≠ i2 → s.heap.get? c = some o → h'.get? c = some o) → (∃ o, h'.get? e = some o ∧ o.cls = .type "StopIteration") → E (.ref e) { s with heap := h' }) :
    wpAny (model prog w) A (Builtin.«zip.__next__» ⟨[.ref z], []⟩) Q E s := by
  obtain ⟨hp, g, d, t0, os⟩ := s
  show wpAny _ _ (field (.ref z) 2 >>= _) _ _ _
  refine wpAny_bind (wpAny_field hz rfl (x := .bool true) rfl ?_)
  show wpAny _ _ (field (.ref z) 3 >>= _) _ _ _
  refine wpAny_bind (wpAny_field hz rfl (x := .ref TI) rfl (wpAny_bind (wpAny_seqItems hI rfl ?_)))
  show wpAny _ _ (Builtin.SmallTypes.ownedTupleIsFree (.ref z) >>= _) _ _ _
  refine wpAny_bind ?_
  unfold Builtin.SmallTypes.ownedTupleIsFree
  refine wpAny_bind (wpAny_field hz rfl (x := .none) rfl (wpAny_pure ?_))
  simp only [if_true]
  refine wpAny_bind (wpAny_rule (wpAny_bind (wpAny_field hz rfl (x := .ref TO) rfl (wpAny_bind (wpAny_setField_rec hz (by simp) fun g0 z0 s0 => ?_)))))
  have z0 : ZipS g0 z TI TO .ellipsis := z0
  have s0 : Heap.SameBut z hp g0 := s0
  refine wpAny_bind ?_
  simp only [List.zipIdx_cons, List.zipIdx_nil, List.forIn_cons, List.forIn_nil]
  refine wpAny_bind (wpAny_bind (wpAny_onRaise ?_))
  show wpAny _ _ (Builtin.SmallTypes.nextOrEnd (.ref i1)) _ _ ⟨g0, g, d, t0, os⟩
  refine draw_done D1 (D1.over st1 s0 S.zf1) fun p1 b1 => ?_
  have b1 : Heap.ExtBut i1 g0 p1 := b1
  have z1 : ZipS p1 z TI TO .ellipsis := b1 _ _ S.zi1 z0
  refine wpAny_bind (wpAny_setField_rec (s := ⟨p1, g, d, t0, os⟩) z1 (by simp) fun p2 z2 b2 => ?_)
  have b2 : Heap.SameBut z p1 p2 := b2
  refine wpAny_bind ?_
  with_unfolding_all refine wpAny_bind ?_
  with_unfolding_all refine wpAny_bind ?_
  show wpAny _ _ (Builtin.SmallTypes.nextOrEnd (.ref i2) >>= _) _ _ ⟨p2, g, d, t0, os⟩
  have e2 : St2 n2 p2 := by
    refine D2.frame _ _ _ st2 fun b hb o e => ?_
    have nz : b ≠ z := fun q => S.zf2 (q ▸ hb)
    have n1' : b ≠ i1 := fun q => S.sep1_2 (q ▸ hb)
    exact b2.extBut _ _ nz (b1 _ _ n1' (s0.extBut _ _ nz e))
  refine wpAny_bind (draw_done D2 e2 fun p3 b3 => ?_)
  have b3 : Heap.ExtBut i2 p2 p3 := b3
  refine wpAny_pure ?_
  with_unfolding_all refine wpAny_pure ?_
  refine wpAny_bind (wpAny_rule ?_)
  refine stop_ok hh fun h' e k he => ?_
  exact hE h' e (fun c o q0 q1 q2 q3 x => k _ _ (b3 _ _ q3 (b2.extBut _ _ q0 (b1 _ _ q2 (s0.extBut _ _ q0 x))))) he

theorem next_zs_item {Q : Option Value → Shared → Prop} (S : ZipSep2 z TI TO i1 i2 fp1 fp2) (D1 : Draws prog w A.in1 i1 fp1 n1 P1 St1) (D2 : Draws prog w A.in1 i2 fp2 n2 P2 St2)
    (hz : ZipS s.heap z TI TO .none) (hI : Two s.heap TI (.ref i1) (.ref i2)) (hO : Two s.heap TO a1 a2) (st1 : St1 i s.heap) (st2 : St2 i s.heap) (l1 : i < n1) (l2 : i < n2)
    (hQ : ∀ x1 x2 h' tk, P1 i x1 → P2 i x2 → ZipS h' z TI TO (rawInt s.heap.objs.size) → Two h' TO x1 x2 → St1 (i + 1) h' → St2 (i + 1) h' → Two h' s.heap.objs.size x1 x2 → h'.objs.size = s.heap.objs.size + 1 →
      (∀ c o, c ≠ z → c ≠ TO → c ≠ i1 → c ≠ i2 → s.heap.get? c = some o → h'.get? c = some o) → Q (some (.ref s.heap.objs.size)) { s with heap := h', toks := tk }) :
    wpAny (model prog w) A (pyNext (.ref z)) Q E s := by
  have hT : s.TypeIs (.ref z) "zip" := ⟨_, hz, rfl⟩
  unfold pyNext
  refine wpAny_bind (wpAny_attempt (wpAny_callSpecial?_slot (name := Str.ofString "__next__") hT F.slot_zip_next (wpAny_call_entry F.slot_zip_next hT F.entry_zip_next ?_ (F.args_zip_next_1 _))))
  exact zs_item S D1 D2 hz hI hO st1 st2 l1 l2 fun x1 x2 h' tk q1 q2 q3 q4 q5 q6 q7 q8 q9 => wpAny_pure (hQ x1 x2 h' tk q1 q2 q3 q4 q5 q6 q7 q8 q9)
theorem next_zs_end {Q : Option Value → Shared → Prop} (hh : A.handled = none) (S : ZipSep2 z TI TO i1 i2 fp1 fp2) (D1 : Draws prog w A.in1 i1 fp1 n1 P1 St1) (D2 : Draws prog w A.in1 i2 fp2 n2 P2 St2)
    (hz : ZipS s.heap z TI TO .none) (hI : Two s.heap TI (.ref i1) (.ref i2)) (hO : Two s.heap TO a1 a2) (st1 : St1 n1 s.heap) (st2 : St2 n2 s.heap)
    (hQ : ∀ h', (∀ c o, c ≠ z → c ≠ TO → c ≠ i1 → c ≠ i2 → s.heap.get? c = some o → h'.get? c = some o) → Q none { s with heap := h' }) : wpAny (model prog w) A (pyNext (.ref z)) Q E s := by
  have hT : s.TypeIs (.ref z) "zip" := ⟨_, hz, rfl⟩
  unfold pyNext
  refine wpAny_bind (wpAny_attempt (wpAny_callSpecial?_slot (name := Str.ofString "__next__") hT F.slot_zip_next (wpAny_call_entry F.slot_zip_next hT F.entry_zip_next ?_ (F.args_zip_next_1 _))))
  refine zs_end hh S D1 D2 hz hI hO st1 st2 fun h' e hk ⟨o, ho, hc⟩ => ?_
  exact wpAny_bind (wpAny_isInstance (T := "StopIteration") (b := true) ⟨o, ho, hc⟩ isSubtype_stop (wpAny_pure (hQ _ hk)))
theorem letgo_zs {elts : List Expr} {x1} {pos : Pos} {T : Addr} {Q : Unit → Shared → Prop} (hz : ZipS s.heap z TI TO (rawInt T))
    (hQ : ∀ h', ZipS h' z TI TO .none → Heap.SameBut z s.heap h' → Q () { s with heap := h' }) : wpAny (model prog w) A (letOwnedTupleGo (.Tuple elts x1 pos) (.ref z) (.ref T)) Q E s := by
  unfold letOwnedTupleGo
  refine wpAny_bind (wpAny_load hz ?_)
  show wpAny _ _ (if (["enumerate", "zip", "dict_itemiterator", "dict_reverseitemiterator", "odict_iterator", "itertools.zip_longest", "itertools.pairwise"].contains "zip" &&
      (#[rawInt T, .bool false, .bool true, .ref TI, .ref TO] : Array Value)[0]? == some (rawInt T)) = true then _ else _) Q E s
  rw [if_pos (by simp)]
  refine wpAny_bind (wpAny_rule ?_)
  show wpAny _ _ (setField (.ref z) 0 .none) Q E s
  exact wpAny_setField_rec hz (by simp) fun h' hz' hs' => hQ h' hz' hs'
theorem iter_zs {f0 : Value} {Q : Value → Shared → Prop} (hz : ZipS s.heap z TI TO f0) (h : Q (.ref z) s) : wpAny (model prog w) A (pyIter (.ref z)) Q E s := by
  have hT : s.TypeIs (.ref z) "zip" := ⟨_, hz, rfl⟩
  refine wpAny_pyIter_slot hT F.slot_zip_iter (wpAny_call_entry F.slot_zip_iter hT F.entry_zip_iter ?_ (F.args_zip_iter_1 _))
  show wpAny _ _ (ret (.ref z)) _ _ s
  exact wpAny_pure ⟨_, rfl, "zip", _, hT, F.slot_zip_next.lookup, h⟩
end

/-! ### zip(v1, v2, strict=True) begins -/
theorem tc_zs (a b : Value) : checkTypeCall "zip" ⟨[a, b], [(Str.ofString "strict", .bool true)]⟩ = pure () := by kernel_rfl
theorem nc_zs (a b : Value) : checkBuiltinCall "zip.__new__" ⟨[.type "zip", a, b], [(Str.ofString "strict", .bool true)]⟩ = pure () := by kernel_rfl
theorem oi_zs (o a b : Value) : argsOk "object.__init__" ⟨[o, a, b], [(Str.ofString "strict", .bool true)]⟩ := by unfold argsOk; kernel_rfl
abbrev zsZ (h : Heap) (o1 o2 : Obj) : Heap := (gzO2 h o1 o2).push { cls := .type "zip", data := .fields #[.none, .bool false, .bool true, .ref ((h.push o1).push o2).objs.size, .ref (gzT2 h o1 o2).objs.size] }
set_option maxHeartbeats 4000000 in
theorem meets_zs {v1 v2 : Value} {o1 o2 : Obj} {H1 H2 : Heap → Prop} (B1 : Begins v1 o1 H1) (B2 : Begins v2 o2 H2) :
    Meets (Builtin.«zip.__new__» ⟨[.type "zip", v1, v2], [(Str.ofString "strict", .bool true)]⟩) (fun _ R s => (H1 s.heap ∧ H2 s.heap) ∧
      R (.ok (.ret (.ref (gzO2 s.heap o1 o2).objs.size))) { s with heap := zsZ s.heap o1 o2 }) :=
  .of_wp fun prog w A R s h => by
    obtain ⟨hp, g, d, tk, os⟩ := s
    obtain ⟨⟨h1, h2⟩, h⟩ := h
    have hsub := sub_zip
    have e1 : (Str.ofString "strict" != ("strict" : Str)) = false := by decide +kernel
    have q1 : ∀ {A' : Around} {E : Value → Shared → Prop} {Q : Value → Shared → Prop}, Q (.ref hp.objs.size) ⟨hp.push o1, g, d, tk, os⟩ → wpAny (model prog w) A' (pyIter v1) Q E ⟨hp, g, d, tk, os⟩ :=
      fun q => B1.iter prog w _ _ ⟨hp, g, d, tk, os⟩ _ h1 q
    have q2 : ∀ {A' : Around} {E : Value → Shared → Prop} {Q : Value → Shared → Prop}, Q (.ref (hp.push o1).objs.size) ⟨(hp.push o1).push o2, g, d, tk, os⟩ → wpAny (model prog w) A' (pyIter v2) Q E ⟨hp.push o1, g, d, tk, os⟩ :=
      fun q => B2.iter prog w _ _ ⟨hp.push o1, g, d, tk, os⟩ _ (B2.keeps _ _ h2 fun b o' e => Heap.get?_push_of_some _ e) q
    wp_walk using q1, q2
    exact ⟨_, rfl, h⟩
section
variable {prog : Program} {w : World} {M : Model} {A : Around} {E : Value → Shared → Prop} {s : Shared}
theorem begins_zs {v1 v2 : Value} {o1 o2 : Obj} {H1 H2 : Heap → Prop} {Q : Value → Shared → Prop} (B1 : Begins v1 o1 H1) (B2 : Begins v2 o2 H2) (h1 : H1 s.heap) (h2 : H2 s.heap)
    (h : ∀ h', ZipS h' (s.heap.objs.size + 4) (s.heap.objs.size + 2) (s.heap.objs.size + 3) .none → Two h' (s.heap.objs.size + 2) (.ref s.heap.objs.size) (.ref (s.heap.objs.size + 1)) →
      Two h' (s.heap.objs.size + 3) .none .none → h'.get? s.heap.objs.size = some o1 → h'.get? (s.heap.objs.size + 1) = some o2 →
      (∀ c o, s.heap.get? c = some o → h'.get? c = some o) → Q (.ref (s.heap.objs.size + 4)) { s with heap := h' }) :
    wpAny (model prog w) A (call (.type "zip") [v1, v2] [(Str.ofString "strict", .bool true)]) Q E s := by
  refine callType_newKw F.called_zip (by decide) (tc_zs _ _) (nc_zs _ _) (fun obj => oi_zs obj _ _) F.entry_zip_new (meets_zs B1 B2) ⟨⟨h1, h2⟩, ?_⟩
  have z1 : (s.heap.push o1).objs.size = s.heap.objs.size + 1 := Heap.size_push ..
  have z2 : ((s.heap.push o1).push o2).objs.size = s.heap.objs.size + 2 := by rw [Heap.size_push, z1]
  have zT : (gzT2 s.heap o1 o2).objs.size = s.heap.objs.size + 3 := by rw [Heap.size_push, z2]
  have zO : (gzO2 s.heap o1 o2).objs.size = s.heap.objs.size + 4 := by rw [Heap.size_push, zT]
  have gZ : ZipS (zsZ s.heap o1 o2) (gzO2 s.heap o1 o2).objs.size ((s.heap.push o1).push o2).objs.size (gzT2 s.heap o1 o2).objs.size .none := Heap.get?_push_size _ rfl
  have gO : Two (zsZ s.heap o1 o2) (gzT2 s.heap o1 o2).objs.size .none .none := Heap.get?_push_of_some _ (Heap.get?_push_size _ rfl)
  have gT : Two (zsZ s.heap o1 o2) ((s.heap.push o1).push o2).objs.size (.ref s.heap.objs.size) (.ref (s.heap.push o1).objs.size) := Heap.get?_push_of_some _ (Heap.get?_push_of_some _ (Heap.get?_push_size _ rfl))
  have g1 : (zsZ s.heap o1 o2).get? s.heap.objs.size = some o1 := Heap.get?_push_of_some _ (Heap.get?_push_of_some _ (Heap.get?_push_of_some _ (Heap.get?_push_of_some _ (Heap.get?_push_size _ B1.free))))
  have g2 : (zsZ s.heap o1 o2).get? (s.heap.push o1).objs.size = some o2 := Heap.get?_push_of_some _ (Heap.get?_push_of_some _ (Heap.get?_push_of_some _ (Heap.get?_push_size _ B2.free)))
  rw [zO, zT, z2] at gZ
  rw [zT] at gO
  rw [z2, z1] at gT
  rw [z1] at g2
  show _ ∧ _
  rw [zO]
  exact ⟨⟨_, gZ, rfl⟩, h _ gZ gT gO g1 g2 fun c o e => Heap.get?_push_of_some _ (Heap.get?_push_of_some _ (Heap.get?_push_of_some _ (Heap.get?_push_of_some _ (Heap.get?_push_of_some _ e))))⟩
/-- a built-in class called with keywords, the node -/
theorem node_tyKw {pos : Pos} {T : String} {e : Expr} {rest : List Expr} {kws : List Keyword} {env : Env} {Q : Value → Shared → Prop}
    (h : wpAny M A (spliced (backTo pos (starEach (e :: rest) env))) (fun vs s1 => wpAny M A (evalAll ((backToKw pos (keywordEach kws env)).map (·.2)))
      (fun ks s2 => wpAny M A (call (.type T) vs (((backToKw pos (keywordEach kws env)).filterMap (·.1)).zip ks)) Q E s2) E s1) E s)
    (he : backTo pos (starEach (e :: rest) env) = (false, eval e env) :: backTo pos (starEach rest env) := by rfl)
    (hp : (backTo pos (starEach (e :: rest) env)).any (·.1) = false := by rfl) (hall : (backToKw pos (keywordEach kws env)).all (·.1.isSome) = true := by rfl)
    (hk : (backToKw pos (keywordEach kws env)).any (·.1.isNone) = false := by rfl) :
    wpAny M A (callWith pos (.type T) [] (backTo pos (starEach (e :: rest) env)) (backToKw pos (keywordEach kws env))) Q E s := by
  unfold callWith
  refine wpAny_bind (wpAny_holding (wpAny_mono (Q := fun a s1 => wpAny M A (call (.type T) a.pos a.kw) Q E s1) (E := E) ?_ (fun a s1 h1 => wpAny_bind (wpAny_standAt ?_)) fun _ _ x => x))
  · rw [he] at h ⊢
    exact PyProof.Rows.evalArgs_kwB hall h
  · simp only [hp, hk, Bool.or_false]
    exact wpAny_bind (wpAny_pure (wpAny_bind (wpAny_mono h1 (fun r s2 hr => wpAny_bind (wpAny_holding (wpAny_point (wpAny_pure hr)))) fun _ _ x => x)))
end
end AN
end

-- ANz2
section
set_option Elab.async false
set_option linter.all false
set_option maxRecDepth 100000
set_option maxHeartbeats 4000000
/-! zip(a, b, strict=True) walked by a loop or a comprehension. -/
namespace AN
open PySem PySem.Spec PyProof.Rows L2

/-- a tuple (true) or a list that is read -/
def SqB (K : PySem.W.Frag) (H : Hp) (b : Bool) (a : Addr) (xs : List V) : Prop := match b with
  | true => SqT K H a xs
  | false => SqL K H a xs
def ItB (h : Heap) (b : Bool) (it a : Addr) (i : Nat) : Prop := match b with
  | true => h.IsTupleIter it a i
  | false => h.IsListIter it a i
def PlB (h : Heap) (b : Bool) (a : Addr) (items : Array Value) : Prop := match b with
  | true => h.IsTuple a items
  | false => h.IsList a items
section
variable {X : Cx} {pins : List (Addr × Obj)} {σ : L2.St} {H : Hp} {s : Shared}
theorem sqB_get (I : Inv X pins σ H s) {b : Bool} {a : Addr} {xs : List V} (h : SqB X.K H b a xs) : ∃ its : List Value, Vals xs its ∧ PlB s.heap b a its.toArray ∧ xs.length ≤ sizeLine := by
  cases b with
  | true =>
    obtain ⟨its, r, p, z⟩ := I.tuple h
    exact ⟨its, r, p, z⟩
  | false =>
    obtain ⟨its, r, p, z⟩ := I.list h
    exact ⟨its, r, p.isList, z⟩
theorem sqB_inj (I : Inv X pins σ H s) {b : Bool} {a : Addr} {xs ys : List V} (h : SqB X.K H b a xs) (h' : SqB X.K H b a ys) : xs = ys := by
  cases b with
  | true => exact I.tuple_inj h h'
  | false => exact I.list_inj h h'
theorem itB_at {h h' : Heap} {b : Bool} {it a : Addr} {i : Nat} (x : ItB h b it a i) (k : ∀ o, h.get? it = some o → h'.get? it = some o) : ItB h' b it a i := by
  cases b with
  | true => exact (show h.IsTupleIter it a i from x).at k
  | false => exact (show h.IsListIter it a i from x).at k
theorem itB_obj {h : Heap} {b : Bool} {it a : Addr} {i : Nat} (x : ItB h b it a i) : ∃ o, h.get? it = some o ∧ ∀ v, o.data ≠ .cell v := by
  cases b with
  | true =>
    obtain ⟨o, e, _, d⟩ := (show h.IsTupleIter it a i from x)
    exact ⟨o, e, fun v q => by rw [d] at q; cases q⟩
  | false =>
    obtain ⟨o, e, _, d⟩ := (show h.IsListIter it a i from x)
    exact ⟨o, e, fun v q => by rw [d] at q; cases q⟩
theorem plB_at {h h' : Heap} {b : Bool} {a : Addr} {its : Array Value} (x : PlB h b a its) (k : ∀ o, h.get? a = some o → h'.get? a = some o) : PlB h' b a its := by
  cases b with
  | true => exact (show h.IsTuple a its from x).at k
  | false => exact (show h.IsList a its from x).at k
theorem plB_lt {h : Heap} {b : Bool} {a : Addr} {its : Array Value} (x : PlB h b a its) : a < h.objs.size := by
  cases b with
  | true =>
    obtain ⟨o, e, _⟩ := (show h.IsTuple a its from x)
    exact Heap.lt_size e
  | false =>
    obtain ⟨o, e, _⟩ := (show h.IsList a its from x)
    exact Heap.lt_size e
/-- what draws its items -/
theorem drawsB {prog : Program} {w : World} {A : Around} (hh : A.handled = none) (b : Bool) (it a : Addr) (hne : a ≠ it) (its : Array Value) :
    Draws prog w A it [it, a] its.size (fun i v => its[i]? = some v) (fun i h => ItB h b it a i ∧ PlB h b a its) := by
  cases b with
  | true => exact Draws.tuple hh it a hne its
  | false => exact Draws.list hh it a hne its
def iterO (b : Bool) (a : Addr) : Obj := match b with
  | true => { cls := .type "tuple_iterator", data := .fields #[.ref a, .int 0 0] }
  | false => { cls := .type "list_iterator", data := .fields #[.ref a, .int 0 0] }
theorem beginsB (b : Bool) (a : Addr) (its : Array Value) : Begins (.ref a) (iterO b a) fun h => PlB h b a its := by
  cases b with
  | true => exact begins_tuple a its
  | false => exact begins_list a its
theorem itB_new {h : Heap} {b : Bool} {it a : Addr} (e : h.get? it = some (iterO b a)) : ItB h b it a 0 := by
  cases b with
  | true => exact ⟨_, e, rfl, rfl⟩
  | false => exact ⟨_, e, rfl, rfl⟩
end

/-- the two as they stand at each turn, the items in new pairs; at the end both are -/
def ItzS (K : PySem.W.Frag) (b1 : Bool) (a1 : Addr) (b2 : Bool) (a2 : Addr) : It :=
  ⟨fun i H => ∃ (xs ys : List V) (x y : V), SqB K H b1 a1 xs ∧ SqB K H b2 a2 ys ∧ xs[i]? = some x ∧ ys[i]? = some y,
    fun i H v H' => ∃ T x y, v = .ref T ∧ H T = none ∧ H' = upd H T (.tup [x, y]) ∧ (∀ xs, SqB K H b1 a1 xs → xs[i]? = some x) ∧ ∀ ys, SqB K H b2 a2 ys → ys[i]? = some y,
    fun i H => ∃ xs ys : List V, SqB K H b1 a1 xs ∧ SqB K H b2 a2 ys ∧ xs.length = i ∧ ys.length = i⟩
theorem turn_zs {P : Program} {w : World} {K : PySem.W.Frag} {elts : List Expr} {kk : Nat} {tpos : Pos} {b1 b2 : Bool} {a1 a2 z TI TO i1 i2 : Addr} (S : ZipSep2 z TI TO i1 i2 [i1, a1] [i2, a2]) (n1 : a1 ≠ i1) (n2 : a2 ≠ i2) :
    Turn P w K (.Tuple elts kk tpos) (ItzS K b1 a1 b2 a2) [z, TI, TO, i1, i2] z (fun i h => ZipS h z TI TO .none ∧ Two h TI (.ref i1) (.ref i2) ∧ (∃ x y, Two h TO x y) ∧ ItB h b1 i1 a1 i ∧ ItB h b2 i2 a2 i) where
  mem := by simp
  obj := fun i h st c hc => by
    obtain ⟨hz, hI, ⟨x, y, hO⟩, h1, h2⟩ := st
    simp only [List.mem_cons, List.not_mem_nil, or_false] at hc
    rcases hc with rfl | rfl | rfl | rfl | rfl
    · exact ⟨_, hz, fun v q => nomatch q⟩
    · exact ⟨_, hI, fun v q => nomatch q⟩
    · exact ⟨_, hO, fun v q => nomatch q⟩
    · exact itB_obj h1
    · exact itB_obj h2
  keep := fun i h h' st k => by
    obtain ⟨hz, hI, ⟨x, y, hO⟩, h1, h2⟩ := st
    exact ⟨k z (by simp) _ hz, k TI (by simp) _ hI, ⟨x, y, k TO (by simp) _ hO⟩, itB_at h1 fun o q => k i1 (by simp) o q, itB_at h2 fun o q => k i2 (by simp) o q⟩
  item := by
    intro X hP hw hK hc i pins s σ H E I hf st hg
    subst hP hw hK
    obtain ⟨hz, hI, ⟨x0, y0, hO⟩, h1, h2⟩ := st
    obtain ⟨xs, ys, x, y, qx, qy, hx, hy⟩ := hg
    obtain ⟨its, rv, p1, _⟩ := sqB_get I qx
    obtain ⟨its2, rv2, p2, _⟩ := sqB_get I qy
    obtain ⟨u, hu, ru⟩ := rv.get hx
    obtain ⟨u2, hu2, ru2⟩ := rv2.get hy
    have hh : X.A.in1.handled = none := I.ok.hd hc
    have hzl : z < s.heap.objs.size := Heap.lt_size hz
    have l1 : i < its.toArray.size := by rw [List.size_toArray]; exact (List.getElem?_eq_some_iff.mp hu).1
    have l2 : i < its2.toArray.size := by rw [List.size_toArray]; exact (List.getElem?_eq_some_iff.mp hu2).1
    refine next_zs_item S (drawsB hh b1 i1 a1 n1 its.toArray) (drawsB hh b2 i2 a2 n2 its2.toArray) hz hI hO ⟨h1, p1⟩ ⟨h2, p2⟩ l1 l2 fun v1 v2 h' tk e1 e2 z' TO' s1 s2 hT hsz hk => ?_
    have e1 : its[i]? = some v1 := by simpa using e1
    have e2 : its2[i]? = some v2 := by simpa using e2
    rw [hu] at e1
    rw [hu2] at e2
    cases e1
    cases e2
    refine ⟨_, rfl, letgo_zs (s := { s with heap := h', toks := tk }) z' fun h'' z'' sb => ?_⟩
    have hT2 : h''.get? s.heap.objs.size = some { cls := .type "tuple", data := .seq #[u, u2] } := (sb.2 _ (Nat.ne_of_gt hzl)).trans hT
    have new : ObjOk X.prog X.w (upd H s.heap.objs.size (.tup [x, y])) h'' s.heap.objs.size (.tup [x, y]) :=
      ⟨by show 2 ≤ sizeLine; decide, [u, u2], .cons ru (.cons ru2 .nil), ⟨_, hT2, rfl, _, rfl⟩⟩
    have kp : ∀ c o, c ∉ [z, TI, TO, i1, i2] → s.heap.get? c = some o → h''.get? c = some o := fun c o hb q => by
      simp only [List.mem_cons, List.not_mem_nil, or_false, not_or] at hb
      exact (sb.2 c hb.1).trans (hk c o hb.1 hb.2.2.1 hb.2.2.2.1 hb.2.2.2.2 q)
    have I1 : Inv X pins σ (upd H s.heap.objs.size (.tup [x, y])) { s with heap := h'', toks := tk } := I.turnedNew (t' := tk) (ch := [z, TI, TO, i1, i2]) kp hf (Nat.le_refl _) new
    refine ⟨.ref s.heap.objs.size, _, I1, rfl, ⟨_, x, y, rfl, I.hok.fresh (Nat.le_refl _), rfl, fun l hl => by rw [sqB_inj I hl qx]; exact hx, fun l hl => by rw [sqB_inj I hl qy]; exact hy⟩, ⟨z'', ?_, ⟨u, u2, ?_⟩, ?_, ?_⟩, fun c hcm => ?_⟩
    · exact (sb.2 _ S.TIz).trans (hk _ _ S.TIz S.TITO S.TIi1 S.TIi2 hI)
    · exact (sb.2 _ S.TOz).trans TO'
    · exact itB_at s1.1 fun o q => (sb.2 _ S.zi1.symm).trans q
    · exact itB_at s2.1 fun o q => (sb.2 _ S.zi2.symm).trans q
    · have hlt : c < s.heap.objs.size := by
        simp only [List.mem_cons, List.not_mem_nil, or_false] at hcm
        rcases hcm with rfl | rfl | rfl | rfl | rfl
        · exact hzl
        · exact Heap.lt_size hI
        · exact Heap.lt_size hO
        · obtain ⟨_, e, _⟩ := itB_obj h1
          exact Heap.lt_size e
        · obtain ⟨_, e, _⟩ := itB_obj h2
          exact Heap.lt_size e
      rw [upd_ne (Nat.ne_of_lt hlt)]
      exact (hf c hcm).1
  done := by
    intro X hP hw hK hc i pins s σ H E I hf st hg
    subst hP hw hK
    obtain ⟨hz, hI, ⟨x0, y0, hO⟩, h1, h2⟩ := st
    obtain ⟨xs, ys, qx, qy, m1, m2⟩ := hg
    obtain ⟨its, rv, p1, _⟩ := sqB_get I qx
    obtain ⟨its2, rv2, p2, _⟩ := sqB_get I qy
    have hh : X.A.in1.handled = none := I.ok.hd hc
    have e1 : its.toArray.size = i := by rw [List.size_toArray, ← rv.length]; exact m1
    have e2 : its2.toArray.size = i := by rw [List.size_toArray, ← rv2.length]; exact m2
    refine next_zs_end (I.ok.hd hc) S (drawsB hh b1 i1 a1 n1 its.toArray) (drawsB hh b2 i2 a2 n2 its2.toArray) hz hI hO ⟨by rw [e1]; exact h1, p1⟩ ⟨by rw [e2]; exact h2, p2⟩ fun h' hk => ?_
    refine ⟨rfl, I.turnedL (t' := s.toks) (ch := [z, TI, TO, i1, i2]) (fun c o hb q => ?_) hf⟩
    simp only [List.mem_cons, List.not_mem_nil, or_false, not_or] at hb
    exact hk c o hb.1 hb.2.2.1 hb.2.2.2.1 hb.2.2.2.2 q
  self := fun A i s Q E st h => iter_zs st.1 h

def iZipS (K : PySem.W.Frag) (ta : TA) : TI := fun σ H R => ta σ H fun vs H1 => ∃ a1 a2 b1 b2 xs ys, vs = [.ref a1, .ref a2] ∧ SqB K H1 b1 a1 xs ∧ SqB K H1 b2 a2 ys ∧ R (ItzS K b1 a1 b2 a2) H1
theorem boot_zip' : bootBuiltins "zip" = some (.type "zip") := PyProof.Rows.boot_zip
theorem pi_zs {X : Cx} {e e2 : Expr} {ta : TA} {p pos tpos kp cp : Pos} {jj : Nat} {elts : List Expr} {kk : Nat} (hg : Gl X "zip") (hm : X.mg "zip" = none) (ha : PA X [e, e2] ta)
    (hs : starEach [e, e2] X.env = (false, eval e X.env) :: starEach [e2] X.env := by rfl) (hpl : (backTo pos (starEach [e, e2] X.env)).any (·.1) = false := by rfl) :
    PI X (.Tuple elts kk tpos) (.Call (.Name "zip" p) [e, e2] [⟨some (Str.ofString "strict"), .Constant (.bool true) jj cp, kp⟩] pos) (iZipS X.K ta) := by
  refine ⟨fun pins s σ H R I h => ?_⟩
  refine wpAny_Call_Name_kw (ld_blt I hg hm boot_zip' (node_tyKw (kws := [⟨some (Str.ofString "strict"), .Constant (.bool true) jj cp, kp⟩]) (thn (ha.run pos pins s σ H _ I h) fun us s1 ⟨vs, H1, I1, r1, q1⟩ => ?_) (by rw [hs]; rfl) hpl (by rfl) (by rfl)))
  obtain ⟨a1, a2, b1, b2, xs, ys, ex, qx, qy, q⟩ := q1
  subst ex
  obtain ⟨its, rv, p1, _⟩ := sqB_get I1 qx
  obtain ⟨its2, rv2, p2, _⟩ := sqB_get I1 qy
  obtain ⟨u1, u2, rfl, ru1, ru2⟩ := vals2 r1
  cases ru1
  cases ru2
  refine kws_cons (Constant_bool (kws_nil ?_))
  refine begins_zs (beginsB b1 a1 its.toArray) (beginsB b2 a2 its2.toArray) p1 p2 fun h' hz hI hO g1 g2 hk => iter_zs hz ?_
  have I2 : Inv X pins σ H1 { s1 with heap := h' } := I1.kept (t' := s1.toks) hk
  have l1 : a1 < s1.heap.objs.size := plB_lt p1
  have l2 : a2 < s1.heap.objs.size := plB_lt p2
  have S := zip_sep2 (N := s1.heap.objs.size) (fp1 := [a1]) (fp2 := [a2]) (fun b hb => by rw [List.mem_singleton.mp hb]; exact l1) fun b hb => by rw [List.mem_singleton.mp hb]; exact l2
  refine ⟨s1.heap.objs.size + 4, [s1.heap.objs.size + 4, s1.heap.objs.size + 2, s1.heap.objs.size + 3, s1.heap.objs.size, s1.heap.objs.size + 1], _, _, H1, rfl, I2, turn_zs S (Nat.ne_of_lt l1) (Nat.ne_of_lt (Nat.lt_succ_of_lt l2)), ⟨hz, hI, ⟨_, _, hO⟩, itB_new g1, itB_new g2⟩, fun c hcm => ?_, q⟩
  have hle : s1.heap.objs.size ≤ c := by
    simp only [List.mem_cons, List.not_mem_nil, or_false] at hcm
    rcases hcm with rfl | rfl | rfl | rfl | rfl
    · exact Nat.le_add_right _ _
    · exact Nat.le_add_right _ _
    · exact Nat.le_add_right _ _
    · exact Nat.le_refl _
    · exact Nat.le_add_right _ _
  exact I1.fpOk hle (I1.hok.fresh hle)
end AN
end

-- ANe1
section
set_option Elab.async false
set_option linter.all false
set_option maxRecDepth 100000
set_option maxHeartbeats 4000000
/-! enumerate of a tuple or a list, walked. -/
namespace AN
open PySem PySem.Spec PyProof.Rows L2

set_option maxHeartbeats 1000000 in
theorem meets_en1 {v : Value} {o : Obj} {H : Heap → Prop} (B : Begins v o H) :
    Meets (Builtin.«enumerate.__new__» ⟨[.type "enumerate", v], []⟩) (fun _ R s => H s.heap ∧
      R (.ok (.ret (.ref (s.heap.push o).objs.size))) { s with heap := (s.heap.push o).push { cls := .type "enumerate", data := .fields #[.none, .bool false, .ref s.heap.objs.size, rawInt 0, .none, .none] } }) :=
  .of_wp fun prog w A R s h => by
    obtain ⟨hp, g, d, tk, os⟩ := s
    obtain ⟨h1, h⟩ := h
    have hsub := sub_enumerate
    have q1 : ∀ {A' : Around} {E : Value → Shared → Prop} {Q : Value → Shared → Prop}, Q (.ref hp.objs.size) ⟨hp.push o, g, d, tk, os⟩ → wpAny (model prog w) A' (pyIter v) Q E ⟨hp, g, d, tk, os⟩ :=
      fun q => B.iter prog w _ _ ⟨hp, g, d, tk, os⟩ _ h1 q
    wp_walk using q1
    refine wpAny_stack_any fun st => wpAny_pure ?_
    split
    · rename_i c _ _ _ _ _
      cases (c == Value.type "enumerate")
      · wp_walk using q1
        exact ⟨_, rfl, h⟩
      · wp_walk using q1
        exact ⟨_, rfl, h⟩
    · wp_walk using q1
      exact ⟨_, rfl, h⟩
section
variable {prog : Program} {w : World} {A : Around} {E : Value → Shared → Prop} {s : Shared}
theorem begins_en {v : Value} {o : Obj} {H : Heap → Prop} {Q : Value → Shared → Prop} (B : Begins v o H) (h1 : H s.heap)
    (h : ∀ h', IsEnum h' (s.heap.objs.size + 1) s.heap.objs.size 0 .none → h'.get? s.heap.objs.size = some o → (∀ b o, s.heap.get? b = some o → h'.get? b = some o) → Q (.ref (s.heap.objs.size + 1)) { s with heap := h' }) :
    wpAny (model prog w) A (call (.type "enumerate") [v]) Q E s := by
  refine callType_new F.called_enumerate (by decide) (F.typeCall_enumerate_1 _) (F.newCall_enumerate_1 _) (fun obj => F.args_object_init_2 obj _) F.entry_enumerate_new (meets_en1 B) ⟨h1, ?_⟩
  have hz : (s.heap.push o).objs.size = s.heap.objs.size + 1 := Heap.size_push ..
  have he : IsEnum ((s.heap.push o).push { cls := .type "enumerate", data := .fields #[.none, .bool false, .ref s.heap.objs.size, rawInt 0, .none, .none] }) (s.heap.push o).objs.size s.heap.objs.size 0 .none := Heap.get?_push_size _ rfl
  rw [hz] at he
  show _ ∧ _
  rw [hz]
  exact ⟨⟨_, he, rfl⟩, h _ he (Heap.get?_push_of_some _ (Heap.get?_push_size _ B.free)) fun b o x => Heap.get?_push_of_some _ (Heap.get?_push_of_some _ x)⟩
end
/-- what stands at a, each item in a new pair with its place -/
def IteB (K : PySem.W.Frag) (b : Bool) (a : Addr) : It :=
  ⟨fun i H => ∃ (xs : List V) (x : V), SqB K H b a xs ∧ xs[i]? = some x, fun i H v H' => ∃ T x, v = .ref T ∧ H T = none ∧ H' = upd H T (.tup [.int (i : Nat), x]) ∧ ∀ xs, SqB K H b a xs → xs[i]? = some x,
    fun i H => ∃ xs : List V, SqB K H b a xs ∧ xs.length = i⟩
theorem turn_en {P : Program} {w : World} {K : PySem.W.Frag} {elts : List Expr} {kk : Nat} {tpos : Pos} {b : Bool} {a e it : Addr} (nai : a ≠ it) (nei : e ≠ it) (nea : e ≠ a) :
    Turn P w K (.Tuple elts kk tpos) (IteB K b a) [e, it] e (fun i h => (∃ old, IsEnum h e it ((i : Nat) : Int) old) ∧ ItB h b it a i) where
  mem := by simp
  obj := fun i h st c hc => by
    obtain ⟨⟨old, he⟩, hi⟩ := st
    simp only [List.mem_cons, List.not_mem_nil, or_false] at hc
    rcases hc with rfl | rfl
    · exact ⟨_, he, fun v q => nomatch q⟩
    · exact itB_obj hi
  keep := fun i h h' st k => let ⟨⟨old, he⟩, hi⟩ := st; ⟨⟨old, k e (by simp) _ he⟩, itB_at hi fun o q => k it (by simp) o q⟩
  item := by
    intro X hP hw hK hc i pins s σ H E I hf st hg
    subst hP hw hK
    obtain ⟨⟨old, he⟩, hit⟩ := st
    obtain ⟨xs, x, hq, hx⟩ := hg
    obtain ⟨its, rv, p, _⟩ := sqB_get I hq
    obtain ⟨u, hu, ru⟩ := rv.get hx
    have hh : X.A.in1.handled = none := I.ok.hd hc
    have hel : e < s.heap.objs.size := Heap.lt_size he
    have hil : it < s.heap.objs.size := by
      obtain ⟨_, q, _⟩ := itB_obj hit
      exact Heap.lt_size q
    have l1 : i < its.toArray.size := by rw [List.size_toArray]; exact (List.getElem?_eq_some_iff.mp hu).1
    refine wpAny_pyNext_enum_itemD (drawsB hh b it a nai its.toArray) he ⟨hit, p⟩ l1 nei (by simp [nei, nea]) fun v h' tk e1 ho st' hT hsz hk => ?_
    have e1 : its[i]? = some v := by simpa using e1
    rw [hu] at e1
    cases e1
    refine ⟨_, rfl, wpAny_letOwnedTupleGo_enum (s := { s with heap := h', toks := tk + 1 }) ho fun h'' he' sb => ?_⟩
    have hT2 : h''.get? s.heap.objs.size = some { cls := .type "tuple", data := .seq #[.int i tk, u] } := (sb.2 _ (Nat.ne_of_gt hel)).trans hT
    have new : ObjOk X.prog X.w (upd H s.heap.objs.size (.tup [.int (i : Nat), x])) h'' s.heap.objs.size (.tup [.int (i : Nat), x]) :=
      ⟨by show 2 ≤ sizeLine; decide, [.int i tk, u], .cons ⟨_, rfl⟩ (.cons ru .nil), ⟨_, hT2, rfl, _, rfl⟩⟩
    have kp : ∀ c o, c ∉ [e, it] → s.heap.get? c = some o → h''.get? c = some o := fun c o hb q => by
      simp only [List.mem_cons, List.not_mem_nil, or_false, not_or] at hb
      exact (sb.2 c hb.1).trans (hk c o hb.1 hb.2 q)
    have I1 : Inv X pins σ (upd H s.heap.objs.size (.tup [.int (i : Nat), x])) { s with heap := h'', toks := tk + 1 } := I.turnedNew (ch := [e, it]) kp hf (Nat.le_refl _) new
    refine ⟨.ref s.heap.objs.size, _, I1, rfl, ⟨_, x, rfl, I.hok.fresh (Nat.le_refl _), rfl, fun ys hy => by rw [sqB_inj I hy hq]; exact hx⟩, ⟨⟨u, ?_⟩, itB_at st'.1 fun o q => (sb.2 it (Ne.symm nei)).trans q⟩, fun c hcm => ?_⟩
    · have e2 : ((i + 1 : Nat) : Int) = (i : Int) + 1 := by omega
      rw [e2]
      exact he'
    · have hlt : c < s.heap.objs.size := by
        simp only [List.mem_cons, List.not_mem_nil, or_false] at hcm
        rcases hcm with rfl | rfl
        · exact hel
        · exact hil
      rw [upd_ne (Nat.ne_of_lt hlt)]
      exact (hf c hcm).1
  done := by
    intro X hP hw hK hc i pins s σ H E I hf st hg
    subst hP hw hK
    obtain ⟨⟨old, he⟩, hit⟩ := st
    obtain ⟨xs, hq, hx⟩ := hg
    obtain ⟨its, rv, p, _⟩ := sqB_get I hq
    obtain ⟨f0, f1, f2, f3, f4, f5⟩ := hf it (by simp)
    have hh : X.A.in1.handled = none := I.ok.hd hc
    have e1 : its.toArray.size = i := by rw [List.size_toArray, ← rv.length]; exact hx
    exact wpAny_pyNext_enum_endD (drawsB hh b it a nai its.toArray) he ⟨by rw [e1]; exact hit, p⟩ fun h' eb => ⟨rfl, I.turned (t' := s.toks) (fun c o hb q => eb c o hb q) f0 f1 f3 f4 f5⟩
  self := fun A i s Q E st h => let ⟨⟨_, he⟩, _⟩ := st; wpAny_pyIter_enum he h
def iEn (K : PySem.W.Frag) (ta : TA) : TI := fun σ H R => ta σ H fun vs H1 => ∃ a b xs, vs = [.ref a] ∧ SqB K H1 b a xs ∧ R (IteB K b a) H1
theorem pi_en {X : Cx} {e : Expr} {ta : TA} {p pos tpos : Pos} {elts : List Expr} {kk : Nat} (hg : Gl X "enumerate") (hm : X.mg "enumerate" = none) (ha : PA X [e] ta) (hs : starEach [e] X.env = [(false, eval e X.env)] := by rfl) :
    PI X (.Tuple elts kk tpos) (.Call (.Name "enumerate" p) [e] [] pos) (iEn X.K ta) := by
  refine ⟨fun pins s σ H R I h => ?_⟩
  refine Call_ (ld_blt I hg hm boot_enumerate (PyProof.Rows.callWith_type1 (thn (ha.run pos pins s σ H _ I h) fun us s1 ⟨vs, H1, I1, r1, q1⟩ => ?_) hs rfl))
  obtain ⟨a, b, xs, ex, hq, q⟩ := q1
  subst ex
  obtain ⟨u1, rfl, ru⟩ := vals1 r1
  cases ru
  obtain ⟨its, rv, p1, _⟩ := sqB_get I1 hq
  refine begins_en (beginsB b a its.toArray) p1 fun h' he g1 hk => wpAny_pyIter_enum he ?_
  have I2 : Inv X pins σ H1 { s1 with heap := h' } := I1.kept (t' := s1.toks) hk
  have l1 : a < s1.heap.objs.size := plB_lt p1
  refine ⟨s1.heap.objs.size + 1, [s1.heap.objs.size + 1, s1.heap.objs.size], _, _, H1, rfl, I2, turn_en (Nat.ne_of_lt l1) (Nat.succ_ne_self _) (Nat.ne_of_gt (Nat.lt_succ_of_lt l1)), ⟨⟨.none, he⟩, itB_new g1⟩, fun c hcm => ?_, q⟩
  have hle : s1.heap.objs.size ≤ c := by
    simp only [List.mem_cons, List.not_mem_nil, or_false] at hcm
    rcases hcm with rfl | rfl
    · exact Nat.le_add_right _ _
    · exact Nat.le_refl _
  exact I1.fpOk hle (I1.hok.fresh hle)
end AN
end

-- ANs1
section
set_option Elab.async false
set_option linter.all false
set_option maxRecDepth 100000
set_option maxHeartbeats 4000000
/-! A set comprehension, whatever set.add is known to do: of tuples of ints, of ints. -/
namespace AN
open PySem PySem.Spec PyProof.Rows L2

abbrev AddR := V → List V → Hp → VK → Prop
/-- {elt for target in iter if ..}: D the new set, add what adding asks and gives -/
def tScG (O : Addr → HO) (add : AddR) (wi : TI) (g : TG) (tt : TT) (te : TE) (vs : List Nat) : TE := fun σ H Q => wi σ H fun J H1 => ∀ D, H1 D = none → ∃ W : Nat → Nat → Hp → Prop, (∃ m, W 0 m (upd H1 D (O D))) ∧ ∀ i m H, W i m H →
  (J.stop i H ∧ Q (.ref D) H) ∨ (J.go i H ∧ ∃ Nx : Hp → Prop, (∀ H', Nx H' → ∃ m', m' < m ∧ W (i + 1) m' H') ∧ ∀ x H', J.yld i H x H' → g x (wipe σ vs) H' fun σ2 H2 => wipe σ2 vs = wipe σ vs ∧ tt σ2 H2 fun b H3 =>
    if b = true then te σ2 H3 fun y H4 => add (.ref D) [y] H4 fun _ H5 => Nx H5 else Nx H3)
section
variable {X : Cx}
/-- what the comprehension's context needs of adding -/
def AddOk (X : Cx) (add : AddR) : Prop := ∀ Y : Cx, Y.prog = X.prog → Y.w = X.w → Y.K = X.K → Y.A = X.A → MtR Y "set.add" add
abbrev newS (w : World) : Obj := { cls := .type "set", dict := none, data := .set #[] 0 (.fresh 0 0 (!w.params.followText "set-order")) }
theorem pe_scG {O : Addr → HO} {add : AddR} {elt tg iter : Expr} {ifs : List Expr} {scope : Scope} {own : List (PySem.Str × Nat)} {pos : Pos} {wi : TI} {g : TG} {tt : TT} {te : TE}
    (hO : ∀ (H : Hp) (h : Heap), ObjOk X.prog X.w H (h.push (newS X.w)) h.objs.size (O h.objs.size)) (hadd : AddOk X add) (hc : X.calm = true) (hN : X.N.Nodup) (hi : PI X tg iter wi) (ok : BlkOk X.N X.env.scope scope own)
    (hg : ∀ (s : Shared) (H : Hp) (C : Addr) (cl : List (PySem.Str × Addr)) (fp : List Addr), PG (X.blk s H scope (compEnvC scope cl C X.env) fp) tg g)
    (ht : ∀ (s : Shared) (H : Hp) (C : Addr) (cl : List (PySem.Str × Addr)) (fp : List Addr), PTs (X.blk s H scope (compEnvC scope cl C X.env) fp) ifs tt)
    (he : ∀ (s : Shared) (H : Hp) (C : Addr) (cl : List (PySem.Str × Addr)) (fp : List Addr), PE (X.blk s H scope (compEnvC scope cl C X.env) fp) elt te)
    (hs : ∀ x, foldedSetIterable iter X.env x = pure x := by intro _; rfl) :
    PE X (.SetComp elt [⟨tg, iter, ifs, 0⟩] scope pos) (tScG O add wi g tt te (own.map (·.2))) := by
  refine ⟨fun pins s σ H Q I h => ?_⟩
  rw [PpSet.eval_SetComp]
  have hfree : ∀ y ∈ scope.names, y.2 = .free → ∃ c, X.env.cells.lookup y.1 = some c := fun y hy e => (ok.free y hy e).elim (fun k => I.ok.has _ (.inl k)) fun k => I.ok.has _ (.inr k)
  show wpAny (model X.prog X.w) X.A (comprehension (.SetComp elt [⟨tg, iter, ifs, 0⟩] scope pos) scope X.env (firstIterPos [⟨tg, iter, ifs, 0⟩] pos) (newSet (.type "set")) false (eval iter X.env) none) (EP X pins σ Q) X.xe s
  refine wpAny_comprehension_free (use := none) rfl hs (closure_ok hfree) ok.kind (fun y hy e => by rw [ok.uniq y hy, e]) (thn (hi.run pins s σ H _ I h) fun xv s1 hx => thn hx fun itv s2 ⟨it, fp, tn, J, H2, e, I2, T, st2, f2, q⟩ => ?_)
  subst e
  refine PpSet.newSet_ok (newEnv_comp ?_)
  have new := hO (upd H2 s2.heap.objs.size (O s2.heap.objs.size)) s2.heap
  generalize hD : s2.heap.objs.size = D at new ⊢
  have hDn : H2 D = none := I2.hok.fresh (Nat.le_of_eq hD)
  obtain ⟨W, ⟨m0, w0⟩, turn⟩ := q D hDn
  have I3 : Inv X pins σ (upd H2 D (O D)) { s2 with heap := s2.heap.push (newS X.w) } := I2.laid (t' := s2.toks) (fun b o e => Heap.get?_push_of_some _ e) (Nat.le_of_eq hD) new
  have sz : ∀ b ∈ fp, b < s2.heap.objs.size := fun b hb => let ⟨o, e, _⟩ := T.obj _ _ st2 b hb; Heap.lt_size e
  have st3 : tn 0 (s2.heap.push (newS X.w)) := T.keep _ _ _ st2 fun b _ o e => Heap.get?_push_of_some _ e
  have f3 : ∀ b ∈ fp, FpOk X pins (upd H2 D (O D)) b ∧ b < (s2.heap.push (newS X.w)).objs.size := fun b hb => by
    have hlt := sz b hb
    refine ⟨⟨?_, (f2 b hb).2⟩, by rw [Heap.size_push]; exact Nat.lt_succ_of_lt hlt⟩
    rw [upd_ne (by rw [← hD]; exact Nat.ne_of_lt hlt)]
    exact (f2 b hb).1
  show codeAny _ _ (.compStart (.SetComp elt [⟨tg, iter, ifs, 0⟩] scope pos) 0 (.ref it) (.ref D) _) _ _
  generalize hs3 : ({ s2 with heap := s2.heap.push (newS X.w) } : Shared) = s3 at I3 ⊢
  have e3 : s2.heap.push (newS X.w) = s3.heap := by rw [← hs3]
  rw [e3] at st3 f3
  have nfp : ∀ b ∈ fp, (upd H2 D (O D)) b = none := fun b hb => (f3 b hb).1.1
  generalize hH3 : upd H2 D (O D) = H3 at I3 f3 w0 nfp
  have I4 := block_start I3 ok hN f3
  have pg := hg s3 H3 s3.heap.objs.size (cellsFrom (s3.heap.objs.size + 1) scope.names (cloFrom X.env.cells scope.names [])) fp
  have pt := ht s3 H3 s3.heap.objs.size (cellsFrom (s3.heap.objs.size + 1) scope.names (cloFrom X.env.cells scope.names [])) fp
  have pe := he s3 H3 s3.heap.objs.size (cellsFrom (s3.heap.objs.size + 1) scope.names (cloFrom X.env.cells scope.names [])) fp
  show codeAny _ _ (.compStart (.SetComp elt [⟨tg, iter, ifs, 0⟩] scope pos) 0 (.ref it) (.ref D) (compEnvC scope (cellsFrom (s3.heap.objs.size + 1) scope.names (cloFrom X.env.cells scope.names [])) s3.heap.objs.size X.env)) (compPost (model X.prog X.w) X.A X.xe none (EP X pins σ Q) (.ref D) s3.heap.objs.size) { s3 with heap := pushCells (s3.heap.push { cls := .type "dict", data := .dict #[] }) scope.names }
  generalize hce : compEnvC scope (cellsFrom (s3.heap.objs.size + 1) scope.names (cloFrom X.env.cells scope.names [])) s3.heap.objs.size X.env = ce at I4 pg pt pe ⊢
  have cL : ce.locals = s3.heap.objs.size := by subst hce; rfl
  have st4 : tn 0 (pushCells (s3.heap.push { cls := .type "dict", data := .dict #[] }) scope.names) := T.keep _ _ _ st3 fun b _ o e => pushCells_keeps _ _ _ _ (Heap.get?_push_of_some _ e)
  generalize hs4 : ({ s3 with heap := pushCells (s3.heap.push { cls := .type "dict", data := .dict #[] }) scope.names } : Shared) = s4 at I4 ⊢
  have st5 : tn 0 s4.heap := by rw [← hs4]; exact st4
  have ha := hadd (X.blk s3 H3 scope ce fp) rfl rfl rfl rfl
  have stat : ∀ {σ' : L2.St} {H' : Hp} {s' : Shared}, Inv (X.blk s3 H3 scope ce fp) [] σ' H' s' → (∀ b ∈ fp, H' b = none) → ∀ b ∈ fp, FpOk (X.blk s3 H3 scope ce fp) [] H' b := fun I' hn b hb =>
    ⟨hn b hb, (I'.ok.exf b hb).1, I'.ok.exfs b hb, .inl hb, fun x c e => (I'.ok.exf b hb).2 x c e, fun p hp => absurd (show p ∈ ([] : List (Addr × Obj)) ++ [] from hp) (by simp)⟩
  have loop : codeAny (model X.prog X.w) X.A (.compLoop (.SetComp elt [⟨tg, iter, ifs, 0⟩] scope pos) 0 (.ref it) (.ref D) ce) (compPost (model X.prog X.w) X.A X.xe none (EP X pins σ Q) (.ref D) s3.heap.objs.size) s4 := by
    refine PpSet.compLoopS_any (fun n s' => ∃ i H', Inv (X.blk s3 H3 scope ce fp) [] (wipe σ (own.map (·.2))) H' s' ∧ tn i s'.heap ∧ (∀ b ∈ fp, H' b = none) ∧ W i n H') ?_ m0 ⟨0, H3, I4, st5, nfp, w0⟩
    rintro n s5 ⟨i, H5, I5, st5, n5, w5⟩
    rcases turn i n H5 w5 with ⟨stop, qq⟩ | ⟨go, Nx, hNx, step⟩
    · refine thnF (T.done (X.blk s3 H3 scope ce fp) rfl rfl rfl hc i [] s5 _ H5 (fun _ _ => False) I5 (stat I5 n5) st5 stop) fun r s6 ⟨hr, I6⟩ => ?_
      subst hr
      have I7 : Inv X pins σ H5 s6 := I3.call' (ch := fp) I6.os I6.base I6.hok I6.bare fun b hb => ⟨(f3 b hb).1.2.2.2.1, (f3 b hb).1.2.1, (f3 b hb).1.2.2.2.2.1, (f3 b hb).1.2.2.2.2.2⟩
      have nC : H5 s3.heap.objs.size = none := cL ▸ (show H5 ce.locals = none from I6.free)
      obtain ⟨m, hn, _⟩ := I6.loc
      have hn : s6.heap.Ns s3.heap.objs.size m := cL ▸ (show s6.heap.Ns ce.locals m from hn)
      obtain ⟨f0, f1, _, f3, f4, f5⟩ := I3.fpOk (Nat.le_refl _) nC
      exact ⟨m, hn, fun h'' sb => ⟨.ref D, H5, I7.turned (t' := s6.toks) (fun b o hb e => (sb.2 b hb).trans e) nC f1 f3 f4 f5, rfl, qq⟩⟩
    · refine thnF (T.item (X.blk s3 H3 scope ce fp) rfl rfl rfl hc i [] s5 _ H5 (fun _ _ => False) I5 (stat I5 n5) st5 go) fun r s6 ⟨u, hr, h6⟩ => ?_
      subst hr
      refine thnF h6 fun _ s7 ⟨x, H7, I7, r7, y7, st7, n7⟩ => ?_
      refine thnF (pg.run _ s7 _ H7 x u _ (I7.pinned (stat I7 n7) (T.obj _ _ st7)) r7 (step x H7 y7)) fun _ s8 ⟨σ8, H8, I8, hw8, q8⟩ => thnF (pt.run _ s8 σ8 H8 _ I8 q8) fun b s9 ⟨H9, I9, q9⟩ => ?_
      have fin : ∀ {s' : Shared} {H' : Hp}, Inv (X.blk s3 H3 scope ce fp) ([] ++ pinsAt fp s7.heap) σ8 H' s' → Nx H' → ∃ m, m < n ∧ ∃ i H', Inv (X.blk s3 H3 scope ce fp) [] (wipe σ (own.map (·.2))) H' s' ∧ tn i s'.heap ∧ (∀ b ∈ fp, H' b = none) ∧ W i m H' := fun {s' H'} I' nx => by
        obtain ⟨m', hm, w'⟩ := hNx H' nx
        have kp : ∀ b ∈ fp, ∀ o, s7.heap.get? b = some o → s'.heap.get? b = some o ∧ H' b = none := fun b hb o e =>
          let z := I'.pin (b, o) (List.mem_append_right _ (List.mem_append_right _ (mem_pinsAt hb e)))
          ⟨z.1, z.2.1⟩
        refine ⟨m', hm, i + 1, H', (I'.unpinned (pins := [])).weak (by rw [← hw8, wipe_length]) (fun j v e => ?_), T.keep _ _ _ st7 fun b hb o e => (kp b hb o e).1, fun b hb => ?_, w'⟩
        · rw [← hw8] at e
          exact (wipe_some e).1
        · obtain ⟨o, e, _⟩ := T.obj _ _ st7 b hb
          exact (kp b hb o e).2
      cases b with
      | false =>
        simp only [Bool.false_eq_true, if_false] at q9 ⊢
        exact fin I9 q9
      | true =>
        simp only [if_true] at q9 ⊢
        refine thnF (pe.run _ s9 σ8 H9 _ I9 q9) fun z s10 ⟨yv, H10, I10, r10, q10⟩ => ?_
        exact thnF (ha _ s10 σ8 H10 (.ref D) [yv] (.ref D) [z] _ I10 rfl (.cons r10 .nil) q10) fun _ s11 ⟨_, H11, I11, _, q11⟩ => fin I11 q11
  exact PpSet.codeAny_compStart_set loop (T.self X.A 0 _ _ _ st5 loop)

/-! ### adding a tuple of ints, an int -/
def rAddT (K : PySem.W.Frag) (P : Program) (w : World) : AddR := fun x xs H Q => ∃ (a t : Addr) (L : List (Addr × List Int)) (k : List Int), x = .ref a ∧ xs = [.ref t] ∧ H a = some (SetTO P w a L) ∧ SqT K H t (k.map V.int) ∧ (∀ p ∈ L, SqT K H p.1 (p.2.map V.int)) ∧ L.length + 1 < 64 ∧
  ∀ L', (k ∈ L.map (·.2) → L' = L) → (k ∉ L.map (·.2) → L'.Perm ((t, k) :: L)) → Q .non (upd H a (SetTO P w a L'))
theorem addT_ok (hu : X.A.units + 64 < cLine) : AddOk X (rAddT X.K X.prog X.w) := by
  intro Y eP ew eK eA pins s σ H x xs v us Q I rx rxs h
  rw [← eP, ← ew, ← eK] at h
  rw [← eA] at hu
  obtain ⟨a, t, L, k, rfl, rfl, ha, ht, hL, few, q⟩ := h
  cases rx
  obtain ⟨u, rfl, ru⟩ := vals1 rxs
  cases ru
  have R0 : SetT0 Y.prog Y.w s.heap a L := (I.hok a _ ha).1
  obtain ⟨es, ep, tb, R⟩ := R0.full fun p hp => I.isT (hL p hp)
  have hx := I.isT ht
  obtain ⟨o, ho, hex, hd⟩ := R.ob
  have hT : s.TypeIs (.ref a) "set" := ⟨o, ho, hex.1⟩
  refine wpAny_call_entry F.slot_set_add hT F.entry_set_add ?_ (F.args_set_add_2 _ _)
  unfold Builtin.«set.add» Builtin.Frozenset.oneOther
  simp only [List.isEmpty_nil, bind_assoc]
  unfold Builtin.Frozenset.addrOf setAdd
  refine wpAny_bind (wpAny_pure ?_)
  try dsimp only
  refine wpAny_bind (wpAny_pure ?_)
  try dsimp only
  refine wpAny_bind (wpAny_holding (wpAny_bind (wpAny_pyHash_tuple (by show Y.A.units + 1 < cLine; omega) hx ?_)))
  have R' : SetTR Y.prog Y.w ({ s with toks := s.toks + (k.length + 1) } : Shared).heap a L es ep tb := R
  refine add_at R' hx (by show Y.A.units + 1 < cLine; omega) few fun b h' L' es' ep' t' sb R2 c1 c2 => ?_
  show wpAny _ _ (ret Value.none) _ _ _
  obtain ⟨o2, ho2, _⟩ := R2.ob
  have J : Inv Y pins σ (upd H a (SetTO Y.prog Y.w a L')) { s with heap := h', toks := s.toks + (k.length + 1) } := I.write (e := a) (t' := s.toks + (k.length + 1)) (by rw [ha]; trivial) (.inl rfl) (fun b u hb hu => (sb.2 b hb).trans hu) ⟨o2, ho2⟩ (setTO_new R2.t0)
  exact wpAny_pure ⟨_, rfl, .non, _, J, rfl, q L' c1 c2⟩
theorem newT_ok (H : Hp) (h : Heap) : ObjOk X.prog X.w H (h.push (newS X.w)) h.objs.size (SetTO X.prog X.w h.objs.size []) :=
  setTO_new (SetTR.t0 (setTR_fresh (Heap.get?_push_size _ rfl)))
theorem addI_ok : AddOk X (rSAdd X.w) := fun Y _ ew _ _ => by
  rw [← ew]
  exact mt_sadd
end
end AN
end

-- ANk1
section
set_option Elab.async false
set_option linter.all false
set_option maxRecDepth 100000
set_option maxHeartbeats 4000000
/-! A dict whose keys are (int, tuple of texts, tuple of ints): {} and setdefault. -/
namespace AN
open PySem PySem.Spec PyProof.Rows L2

/-- a key: the class, the words, the classes of what follows -/
structure K3 where
  c : Int
  ws : List PySem.Str
  ns : List Int
deriving DecidableEq
def K3.nk (k : K3) : NestedKey := .tup [.num k.c, .tup (k.ws.map .text), .tup (k.ns.map .num)]
theorem map_text_inj : ∀ {a b : List PySem.Str}, a.map NestedKey.text = b.map .text → a = b
  | [], [], _ => rfl
  | x :: a, y :: b, h => by
    simp only [List.map_cons, List.cons.injEq, NestedKey.text.injEq] at h
    rw [h.1, map_text_inj h.2]
theorem map_num_inj : ∀ {a b : List Int}, a.map NestedKey.num = b.map .num → a = b
  | [], [], _ => rfl
  | x :: a, y :: b, h => by
    simp only [List.map_cons, List.cons.injEq, NestedKey.num.injEq] at h
    rw [h.1, map_num_inj h.2]
theorem K3.nk_inj {a b : K3} (h : a.nk = b.nk) : a = b := by
  cases a
  cases b
  simp only [K3.nk, NestedKey.tup.injEq, List.cons.injEq, NestedKey.num.injEq] at h
  obtain ⟨h1, h2, h3, _⟩ := h
  rw [h1, map_text_inj h2, map_num_inj h3]
theorem depth_text : ∀ l : List PySem.Str, NestedKey.depthAll (l.map .text) ≤ 1
  | [] => by simp [NestedKey.depthAll]
  | x :: l => by
    have := depth_text l
    simp only [List.map_cons, NestedKey.depthAll, NestedKey.depth]
    omega
theorem depth_num : ∀ l : List Int, NestedKey.depthAll (l.map .num) ≤ 1
  | [] => by simp [NestedKey.depthAll]
  | x :: l => by
    have := depth_num l
    simp only [List.map_cons, NestedKey.depthAll, NestedKey.depth]
    omega
theorem K3.nk_depth (k : K3) : k.nk.depth ≤ 8 := by
  have h1 := depth_text k.ws
  have h2 := depth_num k.ns
  simp only [K3.nk, NestedKey.depth, NestedKey.depthAll]
  omega
theorem all_text {h : Heap} : ∀ {l : List PySem.Str} {us : List Value}, Vals (l.map V.str) us → NestedAll h (l.map .text) us
  | [], _, .nil => .nil
  | x :: l, _, .cons r t => by
    obtain ⟨tk, rfl⟩ := r
    exact .cons (.text _ _) (all_text t)
theorem all_num {h : Heap} : ∀ {l : List Int} {us : List Value}, Vals (l.map V.int) us → NestedAll h (l.map .num) us
  | [], _, .nil => .nil
  | x :: l, _, .cons r t => by
    obtain ⟨tk, rfl⟩ := r
    exact .cons (.int _ _) (all_num t)
/-- at t stands the key k -/
def K3At (K : PySem.W.Frag) (H : Hp) (t : Addr) (k : K3) : Prop := ∃ t1 t2, SqT K H t [.int k.c, .ref t1, .ref t2] ∧ SqT K H t1 (k.ws.map .str) ∧ SqT K H t2 (k.ns.map .int)
section
variable {X : Cx} {pins : List (Addr × Obj)} {σ : L2.St} {H : Hp} {s : Shared}
theorem k3_is (I : Inv X pins σ H s) {t : Addr} {k : K3} (h : K3At X.K H t k) : (nestedKind X.prog X.w).is s.heap k.nk t := by
  obtain ⟨t1, t2, h0, h1, h2⟩ := h
  obtain ⟨its, r, ⟨o, ho, hc, n, hd⟩, _⟩ := I.tuple h0
  obtain ⟨its1, r1, ⟨o1, ho1, hc1, n1, hd1⟩, _⟩ := I.tuple h1
  obtain ⟨its2, r2, ⟨o2, ho2, hc2, n2, hd2⟩, _⟩ := I.tuple h2
  refine ⟨.tup ho hc hd ?_, k.nk_depth⟩
  cases r with
  | cons ra rb =>
    cases rb with
    | cons rc rd =>
      cases rd with
      | cons re rf =>
        cases rf
        obtain ⟨tk, rfl⟩ := ra
        cases rc
        cases re
        exact .cons (.int _ _) (.cons (.tup ho1 hc1 hd1 (all_text (by simpa using r1))) (.cons (.tup ho2 hc2 hd2 (all_num (by simpa using r2))) .nil))
end

/-- the dict at d: its entries in order -/
def Dk3 (P : Program) (w : World) (h : Heap) (d : Addr) (L : List (K3 × Addr × V)) : Prop :=
  ∃ o es ep, ∃ us : List Value, h.get? d = some o ∧ o.ExactDict ∧ o.data = .dict es ep ∧ Vals (L.map (·.2.2)) us ∧ es.toList = ((L.zip us).map fun p => entryOfKey (nestedKind P w) (p.1.1.nk, p.1.2.1, p.2)) ∧ (L.map (·.1)).Nodup
def DkO (P : Program) (w : World) (d : Addr) (L : List (K3 × Addr × V)) : HO := .ext fun h => Dk3 P w h d L
theorem dkO_ok {P : Program} {w : World} {H : Hp} {h : Heap} {d : Addr} {L : List (K3 × Addr × V)} (x : Dk3 P w h d L) : ObjOk P w H h d (DkO P w d L) := by
  obtain ⟨o, es, ep, us, ho, r⟩ := id x
  refine ⟨x, ⟨o, ho⟩, fun h1 h2 p k => ?_⟩
  obtain ⟨o', es', ep', us', ho', r'⟩ := p
  exact ⟨o', es', ep', us', k _ ho', r'⟩
theorem nodup_nk {L : List (K3 × Addr × V)} (h : (L.map (·.1)).Nodup) : (L.map fun p => p.1.nk).Nodup := by
  induction L with
  | nil => exact List.nodup_nil
  | cons a L ih =>
    simp only [List.map_cons, List.nodup_cons, List.mem_map, not_exists, not_and] at h ⊢
    refine ⟨fun p hp e => h.1 p hp (K3.nk_inj e), ih h.2⟩
abbrev xsOf (L : List (K3 × Addr × V)) (us : List Value) : List (NestedKey × Addr × Value) := (L.zip us).map fun p => (p.1.1.nk, p.1.2.1, p.2)
theorem xsOf_fst : ∀ {L : List (K3 × Addr × V)} {us : List Value}, Vals (L.map (·.2.2)) us → (xsOf L us).map (·.1) = L.map fun p => p.1.nk
  | [], _, .nil => rfl
  | a :: L, _, .cons r t => by
    simp only [xsOf, List.zip_cons_cons, List.map_cons]
    rw [← xsOf_fst t]
theorem xsOf_mem : ∀ {L : List (K3 × Addr × V)} {us : List Value}, Vals (L.map (·.2.2)) us → ∀ x ∈ xsOf L us, ∃ p ∈ L, x.1 = p.1.nk ∧ x.2.1 = p.2.1
  | [], _, .nil, x, hx => absurd hx (by simp [xsOf])
  | a :: L, _, .cons r t, x, hx => by
    simp only [xsOf, List.zip_cons_cons, List.map_cons, List.mem_cons] at hx
    rcases hx with rfl | hx
    · exact ⟨a, List.mem_cons_self, rfl, rfl⟩
    · obtain ⟨p, hp, h1, h2⟩ := xsOf_mem t x hx
      exact ⟨p, List.mem_cons_of_mem _ hp, h1, h2⟩
/-- the value kept with k -/
def at3 (L : List (K3 × Addr × V)) (k : K3) : Option V := (L.find? fun p => decide (p.1 = k)).map (·.2.2)
theorem atKey_at3 {k : K3} : ∀ {L : List (K3 × Addr × V)} {us : List Value}, Vals (L.map (·.2.2)) us →
    (∀ p, atKey (xsOf L us) k.nk = some p → ∃ v, at3 L k = some v ∧ RelV v p.2) ∧ (atKey (xsOf L us) k.nk = none → at3 L k = none)
  | [], _, .nil => ⟨fun p h => by simp [xsOf, atKey] at h, fun _ => rfl⟩
  | a :: L, _, .cons r t => by
    have ih := atKey_at3 (k := k) t
    by_cases h : a.1 = k
    · subst h
      refine ⟨fun p hp => ?_, fun hp => ?_⟩
      · simp [xsOf, atKey] at hp
        subst hp
        exact ⟨a.2.2, by simp [at3], r⟩
      · simp [xsOf, atKey] at hp
    · have hn : a.1.nk ≠ k.nk := fun e => h (K3.nk_inj e)
      refine ⟨fun p hp => ?_, fun hp => ?_⟩
      · obtain ⟨v, hv, rv⟩ := ih.1 p (by simpa [xsOf, atKey, hn] using hp)
        exact ⟨v, by simpa [at3, h] using hv, rv⟩
      · have hp' := ih.2 (by simpa [xsOf, atKey, hn] using hp)
        simpa [at3, h] using hp'
theorem vals_snoc {xs : List V} {us : List Value} {v : V} {u : Value} (h : Vals xs us) (r : RelV v u) : Vals (xs ++ [v]) (us ++ [u]) := by
  induction h with
  | nil => exact .cons r .nil
  | cons a b ih => exact .cons a ih
theorem xsOf_snoc {L : List (K3 × Addr × V)} {us : List Value} (h : Vals (L.map (·.2.2)) us) (q : K3 × Addr × V) (u : Value) : xsOf (L ++ [q]) (us ++ [u]) = xsOf L us ++ [(q.1.nk, q.2.1, u)] := by
  have e : L.length = us.length := by simpa using h.length
  simp only [xsOf]
  rw [List.zip_append e, List.map_append]
  rfl
theorem not_at3 {L : List (K3 × Addr × V)} {k : K3} (h : at3 L k = none) : ∀ p ∈ L, p.1 ≠ k := by
  intro p hp e
  have h1 : L.find? (fun p => decide (p.1 = k)) = none := by simpa [at3] using h
  have := List.find?_eq_none.mp h1 p hp
  exact this (by simpa using e)
/-- d.setdefault(k, y) -/
def rSetdef3 (K : PySem.W.Frag) (P : Program) (w : World) : V → List V → Hp → VK → Prop := fun x xs H Q => ∃ (d t : Addr) (L : List (K3 × Addr × V)) (k : K3) (y : V), x = .ref d ∧ xs = [.ref t, y] ∧ H d = some (DkO P w d L) ∧ K3At K H t k ∧ (∀ p ∈ L, K3At K H p.2.1 p.1) ∧ L.length < 1000 ∧ (d == sysModules) = false ∧
  (∀ v, at3 L k = some v → Q v H) ∧ (at3 L k = none → Q y (upd H d (DkO P w d (L ++ [(k, t, y)]))))
theorem mt_setdef3 {X : Cx} (hu : X.A.units + 64 < cLine) : MtR X "dict.setdefault" (rSetdef3 X.K X.prog X.w) := by
  intro pins s σ H x xs v us Q I rx rxs h
  obtain ⟨d, t, L, k, y, rfl, rfl, hd, hk, hL, hn, hsm, q1, q2⟩ := h
  cases rx
  obtain ⟨o, es, ep, vs, ho, hex, hdt, rv, he, nd⟩ : Dk3 X.prog X.w s.heap d L := (I.hok d _ hd).1
  cases rxs with
  | cons ra rb =>
    rename_i ua ub
    obtain ⟨u, rfl, ru⟩ := vals1 rb
    cases ra
    have hm : s.heap.DictOfH (nestedKind X.prog X.w) d (xsOf L vs) := by
      refine ⟨o, es, ep, ho, hex, hdt, by rw [he, List.map_map]; rfl, fun x hx => ?_, by rw [xsOf_fst rv]; exact nodup_nk nd⟩
      obtain ⟨p, hp, e1, e2⟩ := xsOf_mem rv x hx
      rw [e1, e2]
      exact k3_is I (hL p hp)
    have hlen : (xsOf L vs).length ≤ sizeLine := by
      have h1 : (xsOf L vs).length ≤ L.length := by simp only [xsOf, List.length_map, List.length_zip]; omega
      have h2 := sizeLine_eq
      omega
    refine call_setdefault_heap (hsz := hlen) (knd := nestedKind X.prog X.w) (by show X.A.units + 1 + 8 < cLine; omega) (k3_is I hk) hsm hm (fun p hp => ?_) fun hno h' hm' hs => ?_
    · obtain ⟨v, hv, rvp⟩ := (atKey_at3 rv).1 p hp
      exact ⟨v, H, I.tok _, rvp, q1 v hv⟩
    · have hat := (atKey_at3 rv).2 hno
      rw [storedH_new hno] at hm'
      obtain ⟨o', es', ep', ho', hex', hdt', he', _, _⟩ := hm'
      have new : ObjOk X.prog X.w (upd H d (DkO X.prog X.w d (L ++ [(k, t, y)]))) h' d (DkO X.prog X.w d (L ++ [(k, t, y)])) := by
        refine dkO_ok ⟨o', es', ep', vs ++ [u], ho', hex', hdt', ?_, ?_, ?_⟩
        · rw [List.map_append]
          exact vals_snoc rv ru
        · rw [he', ← xsOf_snoc rv (k, t, y) u, xsOf, List.map_map]
          rfl
        · rw [List.map_append, List.nodup_append]
          refine ⟨nd, by simp, fun a ha b hb => ?_⟩
          simp only [List.map_cons, List.map_nil, List.mem_singleton] at hb
          subst hb
          obtain ⟨p, hp, rfl⟩ := List.mem_map.mp ha
          exact not_at3 hat p hp
      have J : Inv X pins σ (upd H d (DkO X.prog X.w d (L ++ [(k, t, y)]))) { s with heap := h', toks := s.toks + (nestedKind X.prog X.w).draws k.nk } :=
        I.write (e := d) (t' := s.toks + (nestedKind X.prog X.w).draws k.nk) (by rw [hd]; trivial) (.inl rfl) (fun b u' hb hu' => (hs.2 b hb).trans hu') ⟨o', ho'⟩ new
      exact ⟨y, _, J, ru, q2 hat⟩
/-- {} -/
def tDNew3 (P : Program) (w : World) : TE := fun _ H Q => ∀ p, H p = none → (p == sysModules) = false → Q (.ref p) (upd H p (DkO P w p []))
theorem pe_dnew3 {X : Cx} {pos : Pos} : PE X (.Dict [] [] pos) (tDNew3 X.prog X.w) := ⟨fun pins s σ H Q I h =>
  wpAny_Dict_empty ⟨.ref s.heap.objs.size, _, I.laid (a := s.heap.objs.size) (o := DkO X.prog X.w s.heap.objs.size []) (t' := s.toks) (fun _ _ q => Heap.get?_push_of_some _ q) (Nat.le_refl _)
    (dkO_ok ⟨_, #[], 0, [], Heap.get?_push_size _ rfl, ⟨rfl, rfl, rfl⟩, rfl, .nil, rfl, List.nodup_nil⟩), rfl, h _ (I.hok.fresh (Nat.le_refl _)) (beq_eq_false_iff_ne.mpr (Ne.symm (Nat.ne_of_lt I.big)))⟩⟩
end AN
end

-- ANk2
section
set_option Elab.async false
set_option linter.all false
set_option maxRecDepth 100000
set_option maxHeartbeats 4000000
/-! Methods of built-in objects that are told otherwise: setdefault of the keyed dict, index of a tuple that is known to its object. -/
namespace AN
open PySem PySem.Spec PyProof.Rows L2

def tBX (ok : V → Hp → Prop) (r : V → List V → Hp → VK → Prop) (to : TE) (t : TA) : TE := fun σ H Q => to σ H fun x H1 => ok x H1 ∧ t σ H1 fun xs H2 => r x xs H2 Q
theorem pe_bmX {X : Cx} {T id : String} {name : PySem.Str} {r : V → List V → Hp → VK → Prop} {o e : Expr} {es : List Expr} {to : TE} {t : TA} {apos cpos : Pos} {ok : V → Hp → Prop}
    (hok : ∀ (pins : List (Addr × Obj)) (σ : L2.St) (H : Hp) (s : Shared) (x : V) (v : Value), Inv X pins σ H s → RelV x v → ok x H → s.TypeIs v T ∧ ∀ a, v = .ref a → ∃ ob, s.heap.get? a = some ob ∧ ob.dict = none)
    (pa : PlainAttrs T) (slot : Slot T name id) (hty : typeOf (.builtin id) = pure (.type "method_descriptor")) (hm : MtR X id r) (ho : PE X o to) (ha : PA X (e :: es) t)
    (hbase : attributeBase o name X.env (eval o X.env) = eval o X.env := by rfl)
    (hfew : ((backTo cpos (starEach (e :: es) X.env)).all (fun x => !x.1) && (backToKw cpos (keywordEach [] X.env)).all (fun x => x.1.isSome)
      && decide ((e :: es).length + ([] : List Keyword).length + (if ([] : List Keyword).isEmpty then 0 else 1) < 30)) = true := by rfl)
    (hline : (apos.endLine == cpos.line) = true := by rfl) (hs : starEach (e :: es) X.env = (false, eval e X.env) :: starEach es X.env := by rfl) (hplain : (backTo cpos (starEach es X.env)).any (·.1) = false := by rfl) :
    PE X (.Call (.Attribute o name apos) (e :: es) [] cpos) (tBX ok r to t) := by
  refine ⟨fun pins s σ H Q I h => ?_⟩
  refine wpAny_Call_method_late hbase hfew hline rfl (thn (ho.run pins s σ H _ I h) fun v s1 ⟨x, H1, I1, r1, ty, q1⟩ => ?_)
  obtain ⟨h1, h2⟩ := hok pins σ H1 s1 x v I1 r1 ty
  refine ⟨T, id, pa, slot, hty, h1, h2, ?_⟩
  have hA := ha.run cpos pins s1 σ H1 _ I1 q1
  rw [hs] at hA ⊢
  refine Calls.callWith_builtin (by show (false || (backTo cpos (starEach es X.env)).any (·.1)) = false; rw [hplain] <;> rfl) (Calls.evalArgs_plain ?_)
  exact thn hA fun us s2 ⟨vs, H2, I2, r2, q2⟩ => hm pins s2 σ H2 x vs v us Q I2 r1 r2 q2
/-- the keyed dict -/
def okD (P : Program) (w : World) : V → Hp → Prop := fun x H => ∃ d L, x = .ref d ∧ H d = some (DkO P w d L)
theorem okD_is {X : Cx} (pins : List (Addr × Obj)) (σ : L2.St) (H : Hp) (s : Shared) (x : V) (v : Value) (I : Inv X pins σ H s) (rx : RelV x v) (h : okD X.prog X.w x H) : s.TypeIs v "dict" ∧ ∀ a, v = .ref a → ∃ ob, s.heap.get? a = some ob ∧ ob.dict = none := by
  obtain ⟨d, L, rfl, hd⟩ := h
  cases rx
  obtain ⟨o, es, ep, us, ho, hex, _⟩ : Dk3 X.prog X.w s.heap d L := (I.hok d _ hd).1
  exact ⟨⟨o, ho, hex.1⟩, fun a e => by cases e; exact ⟨o, ho, hex.2.1⟩⟩
/-- a tuple known to its object, without a dict -/
def NdT (H : Hp) (a : Addr) (xs : List V) : Prop := ∃ o, H a = some (.frz o (.tup xs)) ∧ o.cls = .type "tuple" ∧ o.dict = none
def okT : V → Hp → Prop := fun x H => ∃ a xs, x = .ref a ∧ NdT H a xs
theorem okT_is {X : Cx} (pins : List (Addr × Obj)) (σ : L2.St) (H : Hp) (s : Shared) (x : V) (v : Value) (I : Inv X pins σ H s) (rx : RelV x v) (h : okT x H) : s.TypeIs v "tuple" ∧ ∀ a, v = .ref a → ∃ ob, s.heap.get? a = some ob ∧ ob.dict = none := by
  obtain ⟨a, xs, rfl, o, ha, hc, hd⟩ := h
  cases rx
  have ho : s.heap.get? a = some o := (I.hok a _ ha).1
  exact ⟨⟨o, ho, hc⟩, fun b e => by cases e; exact ⟨o, ho, hd⟩⟩
theorem NdT.sq {K : PySem.W.Frag} {H : Hp} {a : Addr} {xs : List V} (h : NdT H a xs) : SqT K H a xs := by
  obtain ⟨o, h, _⟩ := h
  exact .inl (.inr ⟨o, h⟩)
/-- (a, b, ..), the object known -/
def tTupF (t : TA) : TE := fun σ H Q => t σ H fun xs H1 => xs.length ≤ sizeLine ∧ ∀ p H2, H1 p = none → (∀ b u, H1 b = some u → H2 b = some u) → NdT H2 p xs → Q (.ref p) H2
theorem pe_tupF {X : Cx} {es : List Expr} {t : TA} {x1 : Nat} {pos : Pos} (h : PA X es t) : PE X (.Tuple es x1 pos) (tTupF t) := by
  refine ⟨fun pins s σ H Q I hq => ?_⟩
  refine wpAny_Tuple_spliced (thn (h.run pos pins s σ H _ I hq) fun us s1 ⟨xs, H1, I1, r, z, q⟩ => ⟨by rw [← r.length]; exact z, ?_⟩)
  have hf : H1 s1.heap.objs.size = none := I1.hok.fresh (Nat.le_refl _)
  have ho : (s1.heap.push { cls := .type "tuple", data := .seq us.toArray }).get? s1.heap.objs.size = some { cls := .type "tuple", data := .seq us.toArray } := Heap.get?_push_size _ rfl
  refine ⟨.ref s1.heap.objs.size, upd H1 s1.heap.objs.size (.frz { cls := .type "tuple", data := .seq us.toArray } (.tup xs)), I1.laid (t' := s1.toks) (fun b u e => Heap.get?_push_of_some _ e) (Nat.le_refl _) ?_, rfl, q _ _ hf (fun b u e => ?_) ⟨_, upd_same, rfl, rfl⟩⟩
  · exact ⟨ho, z, us, r, ⟨_, ho, rfl, _, rfl⟩⟩
  · rw [upd_ne (ne_of_none e hf)]
    exact e
end AN
end

-- ANd1
section
set_option Elab.async false
set_option linter.all false
set_option maxRecDepth 100000
set_option maxHeartbeats 4000000
/-! dict(zip(a, b)) of two tuples, the first of distinct texts. -/
namespace AN
open PySem PySem.Spec PyProof.Rows L2 RZ

section
variable {prog : Program} {w : World} {A : Around} {E : Value → Shared → Prop} {s : Shared} {z TI TO T i1 i2 l1 l2 : Addr} {f : Bool} {oT : Obj} {k1 k2 : Nat} {xs ys : Array Value} {x y : Value}
theorem zt_held {Q : Value → Shared → Prop} (D : ZipApart z TI TO i1 i2 l1 l2) (hz : IsZipHeld s.heap z TI TO T f) (hT : s.heap.get? T = some oT) (hI : IsPair s.heap TI (.ref i1) (.ref i2))
    (g1 : s.heap.IsTupleIter i1 l1 k1) (g2 : s.heap.IsTupleIter i2 l2 k2) (t1 : s.heap.IsTuple l1 xs) (t2 : s.heap.IsTuple l2 ys) (e1 : xs[k1]? = some x) (e2 : ys[k2]? = some y)
    (q : ∀ h', IsZipHeld h' z TI TO T true → h'.IsTupleIter i1 l1 (k1 + 1) → h'.IsTupleIter i2 l2 (k2 + 1) → IsPair h' s.heap.objs.size x y →
      (∀ c o, c ≠ z → c ≠ i1 → c ≠ i2 → s.heap.get? c = some o → h'.get? c = some o) → Q (.ref s.heap.objs.size) { s with heap := h' }) :
    wpAny (model prog w) A (Builtin.«zip.__next__» ⟨[.ref z], []⟩) (fun r s' => ∃ v, r = .done (.ret v) ∧ Q v s') E s := by
  obtain ⟨hp, g, d, t0, os⟩ := s
  show wpAny _ _ (field (.ref z) 2 >>= _) _ _ _
  refine wpAny_bind (wpAny_field hz rfl (x := .bool false) rfl ?_)
  show wpAny _ _ (field (.ref z) 3 >>= _) _ _ _
  refine wpAny_bind (wpAny_field hz rfl (x := .ref TI) rfl (wpAny_bind (wpAny_seqItems hI rfl ?_)))
  show wpAny _ _ (Builtin.SmallTypes.ownedTupleIsFree (.ref z) >>= _) _ _ _
  refine wpAny_bind (wpAny_tupleHeld_zip hz hT fun p1 z1 s1 => ?_)
  simp only [Bool.false_eq_true, if_false]
  refine wpAny_bind ?_
  rw [← Array.forIn_toList]
  simp only [List.forIn_cons, List.forIn_nil]
  refine wpAny_bind (wpAny_bind (wpAny_holding ?_))
  show wpAny _ _ (Builtin.SmallTypes.nextOf (.ref i1) >>= _) _ _ _
  refine wpAny_bind (nextOf_tuple_item (s := ⟨p1, g, d, t0, os⟩) (g1.extBut s1.extBut D.i1z) (t1.extBut s1.extBut D.l1z) e1 fun p2 j1 s2 => wpAny_pure (wpAny_pure ?_))
  refine wpAny_bind (wpAny_bind (wpAny_holding ?_))
  show wpAny _ _ (Builtin.SmallTypes.nextOf (.ref i2) >>= _) _ _ _
  refine wpAny_bind (nextOf_tuple_item (s := ⟨p2, g, d, t0, os⟩) ((g2.extBut s1.extBut D.i2z).extBut s2.extBut D.i12.symm) ((t2.extBut s1.extBut D.l2z).extBut s2.extBut D.l2i1) e2 fun p3 j2 s3 => wpAny_pure (wpAny_pure (wpAny_pure ?_)))
  show wpAny _ _ (newTuple [x, y] >>= _) _ _ _
  have z3 : IsZipHeld p3 z TI TO T true := s3.extBut _ _ D.i2z.symm (s2.extBut _ _ D.i1z.symm z1)
  have sz : p3.objs.size = hp.objs.size := by rw [s3.1, s2.1, s1.1]
  refine wpAny_bind (wpAny_newTuple (wpAny_pure ⟨_, rfl, ?_⟩))
  show Q (.ref p3.objs.size) _
  have np : IsPair (p3.push { cls := .type "tuple", data := .seq #[x, y] }) p3.objs.size x y := Heap.get?_push_size _ rfl
  have j3 : p3.IsTupleIter i1 l1 (k1 + 1) := j1.extBut s3.extBut D.i12
  rw [sz] at np ⊢
  exact q _ (Heap.get?_push_of_some _ z3) (j3.at fun o e => Heap.get?_push_of_some _ e) (j2.at fun o e => Heap.get?_push_of_some _ e) np fun c o a b c' e => Heap.get?_push_of_some _ (s3.extBut _ _ c' (s2.extBut _ _ b (s1.extBut _ _ a e)))
theorem zt_held_end {Q : PySem.Fin → Shared → Prop} (hh : A.handled = none) (D : ZipApart z TI TO i1 i2 l1 l2) (hz : IsZipHeld s.heap z TI TO T f) (hT : s.heap.get? T = some oT) (hI : IsPair s.heap TI (.ref i1) (.ref i2))
    (g1 : s.heap.IsTupleIter i1 l1 k1) (t1 : s.heap.IsTuple l1 xs) (e1 : xs[k1]? = none)
    (q : ∀ h' e, (∀ c o, c ≠ z → c ≠ i1 → c ≠ i2 → s.heap.get? c = some o → h'.get? c = some o) → (∃ o, h'.get? e = some o ∧ o.cls = .type "StopIteration") → E (.ref e) { s with heap := h' }) :
    wpAny (model prog w) A (Builtin.«zip.__next__» ⟨[.ref z], []⟩) Q E s := by
  obtain ⟨hp, g, d, t0, os⟩ := s
  show wpAny _ _ (field (.ref z) 2 >>= _) _ _ _
  refine wpAny_bind (wpAny_field hz rfl (x := .bool false) rfl ?_)
  show wpAny _ _ (field (.ref z) 3 >>= _) _ _ _
  refine wpAny_bind (wpAny_field hz rfl (x := .ref TI) rfl (wpAny_bind (wpAny_seqItems hI rfl ?_)))
  show wpAny _ _ (Builtin.SmallTypes.ownedTupleIsFree (.ref z) >>= _) _ _ _
  refine wpAny_bind (wpAny_tupleHeld_zip hz hT fun p1 z1 s1 => ?_)
  simp only [Bool.false_eq_true, if_false]
  refine wpAny_bind ?_
  rw [← Array.forIn_toList]
  simp only [List.forIn_cons, List.forIn_nil]
  refine wpAny_bind (wpAny_bind (wpAny_holding ?_))
  show wpAny _ _ (Builtin.SmallTypes.nextOf (.ref i1) >>= _) _ _ _
  refine wpAny_bind (nextOf_tuple_end (s := ⟨p1, g, d, t0, os⟩) hh (g1.extBut s1.extBut D.i1z) (t1.extBut s1.extBut D.l1z) e1 fun p2 e s2 he => ?_)
  exact q p2 e (fun c o a b _ e' => s2 _ _ b (s1.extBut _ _ a e')) he
theorem next_zt_held {Q : Option Value → Shared → Prop} (D : ZipApart z TI TO i1 i2 l1 l2) (hz : IsZipHeld s.heap z TI TO T f) (hT : s.heap.get? T = some oT) (hI : IsPair s.heap TI (.ref i1) (.ref i2))
    (g1 : s.heap.IsTupleIter i1 l1 k1) (g2 : s.heap.IsTupleIter i2 l2 k2) (t1 : s.heap.IsTuple l1 xs) (t2 : s.heap.IsTuple l2 ys) (e1 : xs[k1]? = some x) (e2 : ys[k2]? = some y)
    (q : ∀ h', IsZipHeld h' z TI TO T true → h'.IsTupleIter i1 l1 (k1 + 1) → h'.IsTupleIter i2 l2 (k2 + 1) → IsPair h' s.heap.objs.size x y →
      (∀ c o, c ≠ z → c ≠ i1 → c ≠ i2 → s.heap.get? c = some o → h'.get? c = some o) → Q (some (.ref s.heap.objs.size)) { s with heap := h' }) : wpAny (model prog w) A (pyNext (.ref z)) Q E s := by
  have ty : s.TypeIs (.ref z) "zip" := ⟨_, hz, rfl⟩
  unfold pyNext
  exact wpAny_bind (wpAny_attempt (wpAny_callSpecial?_slot (name := Str.ofString "__next__") ty F.slot_zip_next (wpAny_call_entry F.slot_zip_next ty F.entry_zip_next
    (zt_held D hz hT hI g1 g2 t1 t2 e1 e2 fun h' a1 a2 a3 a4 a5 => wpAny_pure (q h' a1 a2 a3 a4 a5)) (F.args_zip_next_1 _))))
theorem next_zt_held_end {Q : Option Value → Shared → Prop} (hh : A.handled = none) (D : ZipApart z TI TO i1 i2 l1 l2) (hz : IsZipHeld s.heap z TI TO T f) (hT : s.heap.get? T = some oT) (hI : IsPair s.heap TI (.ref i1) (.ref i2))
    (g1 : s.heap.IsTupleIter i1 l1 k1) (t1 : s.heap.IsTuple l1 xs) (e1 : xs[k1]? = none)
    (q : ∀ h', (∀ c o, c ≠ z → c ≠ i1 → c ≠ i2 → s.heap.get? c = some o → h'.get? c = some o) → Q none { s with heap := h' }) : wpAny (model prog w) A (pyNext (.ref z)) Q E s := by
  have ty : s.TypeIs (.ref z) "zip" := ⟨_, hz, rfl⟩
  unfold pyNext
  refine wpAny_bind (wpAny_attempt (wpAny_callSpecial?_slot (name := Str.ofString "__next__") ty F.slot_zip_next (wpAny_call_entry F.slot_zip_next ty F.entry_zip_next (zt_held_end hh D hz hT hI g1 t1 e1 fun h' e k he => ?_) (F.args_zip_next_1 _))))
  obtain ⟨o, ho, hc⟩ := he
  exact wpAny_bind (wpAny_isInstance (T := "StopIteration") (b := true) ⟨o, ho, hc⟩ isSubtype_stop (wpAny_pure (q _ k)))
end
theorem pairArg_zt {prog : Program} {w : World} (z TI TO i1 i2 l1 l2 : Addr) (D : ZipApart z TI TO i1 i2 l1 l2) (xs ys : Array Value) (hl : xs.size = ys.size) :
    PairArg prog w "zip" z [z, TI, TO, i1, i2, l1, l2] [z, TO, i1, i2] xs.size (fun i k v => xs[i]? = some k ∧ ys[i]? = some v)
      (fun h => IsZip h z TI TO .none ∧ IsPair h TI (.ref i1) (.ref i2) ∧ (∃ a b, IsPair h TO a b) ∧ h.IsTupleIter i1 l1 0 ∧ h.IsTupleIter i2 l2 0 ∧ h.IsTuple l1 xs ∧ h.IsTuple l2 ys) where
  type := fun s ok => ⟨_, ok.1, rfl⟩
  notDict := by decide
  keep := fun h h' ⟨a1, a2, ⟨a, b, a3⟩, a4, a5, a6, a7⟩ k => ⟨k _ _ a1, k _ _ a2, ⟨a, b, k _ _ a3⟩, a4.at fun o e => k _ o e, a5.at fun o e => k _ o e, a6.at fun o e => k _ o e, a7.at fun o e => k _ o e⟩
  there := fun h ⟨a1, a2, ⟨a, b, a3⟩, ⟨o4, a4, _⟩, ⟨o5, a5, _⟩, ⟨o6, a6, _⟩, ⟨o7, a7, _⟩⟩ c hc => by
    simp only [List.mem_cons, List.not_mem_nil, or_false] at hc
    rcases hc with rfl | rfl | rfl | rfl | rfl | rfl | rfl
    · exact ⟨_, a1⟩
    · exact ⟨_, a2⟩
    · exact ⟨_, a3⟩
    · exact ⟨_, a4⟩
    · exact ⟨_, a5⟩
    · exact ⟨_, a6⟩
    · exact ⟨_, a7⟩
  sub := fun c hc => by
    simp only [List.mem_cons, List.not_mem_nil, or_false] at hc ⊢
    rcases hc with rfl | rfl | rfl | rfl <;> simp
  noKeys := fun A s Q E hA ok h => getAttrOr_miss_zip ok.1 rfl rfl rfl zip_no_keys (by decide +kernel) hA h
  iter := fun A s d Q E hA ⟨hz, hI, ⟨a, b, hO⟩, g1, g2, t1, t2⟩ hd hdf h => by
    simp only [List.mem_cons, List.not_mem_nil, or_false, not_or] at hdf
    obtain ⟨dz, dTI, dTO, di1, di2, dl1, dl2⟩ := hdf
    refine wpAny_pyIter_zip hz (h z [z, TO, i1, i2] (fun i h => IsPair h TI (.ref i1) (.ref i2) ∧ h.IsTupleIter i1 l1 i ∧ h.IsTupleIter i2 l2 i ∧ h.IsTuple l1 xs ∧ h.IsTuple l2 ys ∧
      ((IsZip h z TI TO .none ∧ ∃ a b, IsPair h TO a b) ∨ ∃ T f oT, IsZipHeld h z TI TO T f ∧ h.get? T = some oT ∧ T ≠ z ∧ T ≠ i1 ∧ T ≠ i2 ∧ T ≠ d)) s.heap s.toks ?_
      ⟨hI, g1, g2, t1, t2, .inl ⟨hz, a, b, hO⟩⟩ (fun _ _ e => e) fun b hb => .inl hb)
    refine { off := ?_, frame := ?_, item := ?_, done := ?_ }
    · intro hm
      simp only [List.mem_cons, List.not_mem_nil, or_false] at hm
      rcases hm with e | e | e | e
      · exact dz e
      · exact dTO e
      · exact di1 e
      · exact di2 e
    · rintro i p p' ⟨b1, b2, b3, b4, b5, b6⟩ k
      refine ⟨k _ _ (Ne.symm dTI) b1, b2.at fun o e => k _ o (Ne.symm di1) e, b3.at fun o e => k _ o (Ne.symm di2) e, b4.at fun o e => k _ o (Ne.symm dl1) e, b5.at fun o e => k _ o (Ne.symm dl2) e, ?_⟩
      rcases b6 with ⟨c1, a, b, c2⟩ | ⟨T, f, oT, c1, c2, r1, r2, r3, r4⟩
      · exact .inl ⟨k _ _ (Ne.symm dz) c1, a, b, k _ _ (Ne.symm dTO) c2⟩
      · exact .inr ⟨T, f, oT, k _ _ (Ne.symm dz) c1, k _ _ r4 c2, r1, r2, r3, r4⟩
    · rintro i s1 Q1 E1 hi ⟨b1, b2, b3, b4, b5, b6⟩ hds q
      have ex := Array.getElem?_eq_getElem hi
      have ey := Array.getElem?_eq_getElem (hl ▸ hi : i < ys.size)
      have lt : ∀ {c o}, s1.heap.get? c = some o → s1.heap.objs.size ≠ c := fun e => Nat.ne_of_gt (Heap.lt_size e)
      have n1 : s1.heap.objs.size ≠ i1 := let ⟨_, e, _⟩ := b2; lt e
      have n2 : s1.heap.objs.size ≠ i2 := let ⟨_, e, _⟩ := b3; lt e
      have nd : s1.heap.objs.size ≠ d := Nat.ne_of_gt hds
      rcases b6 with ⟨c1, a, b, c2⟩ | ⟨T, f, oT, c1, c2, r1, r2, r3, r4⟩
      · refine pyNext_zipT_item D c1 b1 c2 b2 b3 b4 b5 ex ey fun h' a1 a2 a3 a4 a5 a6 k => ?_
        refine q s1.heap.objs.size _ _ h' s1.toks ⟨ex, ey⟩ (.inl ⟨_, a5, rfl, _, rfl⟩) ⟨k _ _ D.TIz D.TITO D.TIi1 D.TIi2 b1, a3, a4, b4.at fun o e => k _ o D.l1z D.l1TO D.l1i1 D.l1i2 e, b5.at fun o e => k _ o D.l2z D.l2TO D.l2i1 D.l2i2 e, .inr ⟨s1.heap.objs.size, false, _, a1, a5, lt c1, n1, n2, nd⟩⟩ fun c o hc e => ?_
        simp only [List.mem_cons, List.not_mem_nil, or_false, not_or] at hc
        exact k c o hc.1 hc.2.1 hc.2.2.1 hc.2.2.2 e
      · refine next_zt_held D c1 c2 b1 b2 b3 b4 b5 ex ey fun h' a1 a3 a4 a5 k => ?_
        refine q s1.heap.objs.size _ _ h' s1.toks ⟨ex, ey⟩ (.inl ⟨_, a5, rfl, _, rfl⟩) ⟨k _ _ D.TIz D.TIi1 D.TIi2 b1, a3, a4, b4.at fun o e => k _ o D.l1z D.l1i1 D.l1i2 e, b5.at fun o e => k _ o D.l2z D.l2i1 D.l2i2 e, .inr ⟨T, true, oT, a1, k _ _ r1 r2 r3 c2, r1, r2, r3, r4⟩⟩ fun c o hc e => ?_
        simp only [List.mem_cons, List.not_mem_nil, or_false, not_or] at hc
        exact k c o hc.1 hc.2.2.1 hc.2.2.2 e
    · rintro s1 Q1 E1 ⟨b1, b2, b3, b4, b5, b6⟩ q
      have ex : xs[xs.size]? = none := Array.getElem?_eq_none (Nat.le_refl _)
      rcases b6 with ⟨c1, a, b, c2⟩ | ⟨T, f, oT, c1, c2, r1, r2, r3, r4⟩
      · refine pyNext_zipT_end hA D c1 b1 c2 b2 b3 b4 b5 (.inl ex) fun h' k => q h' s1.toks fun c o hc e => ?_
        simp only [List.mem_cons, List.not_mem_nil, or_false, not_or] at hc
        exact k c o hc.1 hc.2.1 hc.2.2.1 hc.2.2.2 e
      · refine next_zt_held_end hA D c1 c2 b1 b2 b4 ex fun h' k => q h' s1.toks fun c o hc e => ?_
        simp only [List.mem_cons, List.not_mem_nil, or_false, not_or] at hc
        exact k c o hc.1 hc.2.2.1 hc.2.2.2 e

/-- the entries -/
abbrev zipK (ws : List PySem.Str) (xs : List V) : List (Key × V) := (ws.zip xs).map fun p => (.inr p.1, p.2)
theorem putK_new {kvs : List (Key × V)} {k : Key} {v : V} (h : k ∉ kvs.map (·.1)) : putK kvs k v = kvs ++ [(k, v)] := by
  unfold putK
  rw [if_neg]
  intro e
  rw [List.any_eq_true] at e
  obtain ⟨p, hp, e⟩ := e
  exact h (List.mem_map.mpr ⟨p, hp, by simpa using e⟩)
theorem mergeK_new : ∀ (more kvs : List (Key × V)), (more.map (·.1)).Nodup → (∀ p ∈ more, p.1 ∉ kvs.map (·.1)) → mergeK kvs more = kvs ++ more
  | [], kvs, _, _ => by simp [mergeK]
  | p :: more, kvs, nd, h => by
    show mergeK (putK kvs p.1 p.2) more = _
    rw [putK_new (h p List.mem_cons_self), mergeK_new more]
    · simp
    · exact (List.nodup_cons.mp nd).2
    · intro q hq e
      rw [List.map_append, List.mem_append] at e
      rcases e with e | e
      · exact h q (List.mem_cons_of_mem _ hq) e
      · have e' : q.1 = p.1 := by simpa using e
        exact (List.nodup_cons.mp nd).1 (List.mem_map.mpr ⟨q, hq, e'⟩)
theorem zipK_fst : ∀ {ws : List PySem.Str} {xs : List V}, ws.length = xs.length → (zipK ws xs).map (·.1) = ws.map .inr
  | [], [], _ => rfl
  | w :: ws, x :: xs, h => by
    simp only [zipK, List.zip_cons_cons, List.map_cons]
    rw [← zipK_fst (by simpa using h)]
theorem nodup_inr : ∀ {ws : List PySem.Str}, ws.Nodup → (ws.map (Sum.inr : PySem.Str → Key)).Nodup
  | [], _ => List.nodup_nil
  | w :: ws, h => by
    rw [List.map_cons, List.nodup_cons]
    refine ⟨fun e => ?_, nodup_inr (List.nodup_cons.mp h).2⟩
    obtain ⟨u, hu, e⟩ := List.mem_map.mp e
    cases e
    exact (List.nodup_cons.mp h).1 hu
theorem kv_zip {ws : List PySem.Str} {xs : List V} {bs : List Value} (rb : Vals xs bs) : KV (zipK ws xs) ((ws.zip bs).map fun p => ((.inr p.1 : Key), p.2)) := by
  induction rb generalizing ws with
  | nil =>
    cases ws
    · exact .nil
    · exact .nil
  | cons r t ih =>
    cases ws with
    | nil => exact .nil
    | cons w ws => exact .cons ⟨rfl, r⟩ ih
theorem apart_zt {N a b : Nat} (l1 : a < N) (l2 : b < N) : ZipApart (N + 4) (N + 2) (N + 3) N (N + 1) a b where
  TIz := show (N + 2 : Nat) ≠ N + 4 by omega
  TOz := show (N + 3 : Nat) ≠ N + 4 by omega
  i1z := show (N : Nat) ≠ N + 4 by omega
  i2z := show (N + 1 : Nat) ≠ N + 4 by omega
  TITO := show (N + 2 : Nat) ≠ N + 3 by omega
  TIi1 := show (N + 2 : Nat) ≠ N by omega
  TIi2 := show (N + 2 : Nat) ≠ N + 1 by omega
  TOi1 := show (N + 3 : Nat) ≠ N by omega
  TOi2 := show (N + 3 : Nat) ≠ N + 1 by omega
  i12 := show (N : Nat) ≠ N + 1 by omega
  l1z := show (a : Nat) ≠ N + 4 by omega
  l1TO := show (a : Nat) ≠ N + 3 by omega
  l1i1 := show (a : Nat) ≠ N by omega
  l1i2 := show (a : Nat) ≠ N + 1 by omega
  l2z := show (b : Nat) ≠ N + 4 by omega
  l2TO := show (b : Nat) ≠ N + 3 by omega
  l2i1 := show (b : Nat) ≠ N by omega
  l2i2 := show (b : Nat) ≠ N + 1 by omega
def tDzip (K : PySem.W.Frag) (ta : TA) : TE := fun σ H Q => ta σ H fun vs H1 => ∃ (a b : Addr) (ws : List PySem.Str) (xs : List V), vs = [.ref a, .ref b] ∧ SqT K H1 a (ws.map .str) ∧ SqT K H1 b xs ∧ ws.Nodup ∧ ws.length = xs.length ∧ ∀ D, H1 D = none → Q (.ref D) (upd H1 D (.dK (zipK ws xs)))
theorem pe_dzip {X : Cx} {e e2 : Expr} {ta : TA} {p p2 pos pos2 : Pos} (hcalm : X.calm = true) (hg : Gl X "dict") (hm : X.mg "dict" = none) (hg2 : Gl X "zip") (hm2 : X.mg "zip" = none) (ha : PA X [e, e2] ta)
    (hs : starEach [e, e2] X.env = (false, eval e X.env) :: starEach [e2] X.env := by rfl) (hpl : (backTo pos2 (starEach [e2] X.env)).any (·.1) = false := by rfl)
    (na : starEach [.Call (.Name "zip" p2) [e, e2] [] pos2] X.env = (false, eval (.Call (.Name "zip" p2) [e, e2] [] pos2) X.env) :: starEach [] X.env := by rfl) :
    PE X (.Call (.Name "dict" p) [.Call (.Name "zip" p2) [e, e2] [] pos2] [] pos) (tDzip X.K ta) := by
  refine ⟨fun pins s σ H Q I h => ?_⟩
  refine Call_ (ld_blt I hg hm boot_dict ?_)
  refine PyProof.Rows.callWith_type1 (PyProof.Rows.args_cons (Call_ (ld_blt I hg2 hm2 boot_zip (PyProof.Rows.callWith_type1 (thn (ha.run pos2 pins s σ H _ I h) fun us s1 ⟨vs, H1, I1, r1, q1⟩ => ?_) hs hpl))) na) na rfl
  obtain ⟨a, b, ws, xs, ex, ta', tb', nd, hlen, q⟩ := q1
  subst ex
  obtain ⟨its, rv, t1, z1⟩ := I1.tuple ta'
  obtain ⟨its2, rv2, t2, z2⟩ := I1.tuple tb'
  obtain ⟨u1, u2, rfl, ru1, ru2⟩ := vals2 r1
  cases ru1
  cases ru2
  have L1 := rv.length
  have L2' := rv2.length
  rw [List.length_map] at L1 z1
  refine call_zipT t1 t2 fun h' hz hI hO g1 g2 hsz hk => PyProof.Rows.args_nil ?_
  have l1 : a < s1.heap.objs.size := t1.lt
  have l2 : b < s1.heap.objs.size := t2.lt
  have D := apart_zt l1 l2
  have I2 : Inv X pins σ H1 { s1 with heap := h' } := I1.kept (t' := s1.toks) hk
  have hc : PairsHave (mixKind X.prog X.w) its.toArray.size (fun i k v => its.toArray[i]? = some k ∧ its2.toArray[i]? = some v) ((ws.zip its2).map fun p => ((.inr p.1 : Key), p.2)) := by
    refine ⟨by simp; omega, fun i key v ⟨ek, ev⟩ => ?_⟩
    have ek : its[i]? = some key := by simpa using ek
    have ev : its2[i]? = some v := by simpa using ev
    have hi : i < its.length := (List.getElem?_eq_some_iff.mp ek).1
    have hiw : i < ws.length := by omega
    have ew : (ws.map V.str)[i]? = some (.str ws[i]) := by simp [hiw]
    obtain ⟨u, hu, ru⟩ := rv.get ew
    rw [ek] at hu
    cases hu
    refine ⟨.inr ws[i], ?_, ?_⟩
    · have e1 : (ws.zip its2)[i]? = some (ws[i], v) := by
        rw [List.getElem?_zip_eq_some]
        exact ⟨List.getElem?_eq_getElem hiw, ev⟩
      rw [List.getElem?_map, e1]
      rfl
    · exact kV_is (k := .inr ws[i]) ru
  refine PySem.call_dict_pairs (pairArg_zt (s1.heap.objs.size + 4) (s1.heap.objs.size + 2) (s1.heap.objs.size + 3) s1.heap.objs.size (s1.heap.objs.size + 1) a b D its.toArray its2.toArray (by simp; omega)) (I2.ok.hd hcalm)
    ⟨hz, hI, ⟨_, _, hO⟩, g1, g2, (show s1.heap.IsTuple a its.toArray from t1).at fun o e => hk _ _ e, (show s1.heap.IsTuple b its2.toArray from t2).at fun o e => hk _ _ e⟩ hc (by simp; omega) fun h2 tk hd' k2 => ?_
  have hno : ∀ c, s1.heap.objs.size ≤ c → H1 c = none := fun c hc => I1.hok.fresh hc
  have hm : (h'.objs.size == sysModules) = false := beq_eq_false_iff_ne.mpr (Nat.ne_of_gt I2.big)
  have em : mergeK [] (zipK ws xs) = zipK ws xs := by
    rw [mergeK_new _ _ (by rw [zipK_fst hlen]; exact nodup_inr nd) (fun _ _ e => by simp at e)]
    rfl
  have rel : KV (zipK ws xs) (merged [] ((ws.zip its2).map fun p => ((.inr p.1 : Key), p.2))) := by
    have := KV.merge (kv_zip (ws := ws) rv2) (Paired.nil : KV ([] : List (Key × V)) [])
    rwa [em] at this
  have hlen' : (zipK ws xs).length ≤ sizeLine := by simp [zipK]; omega
  refine ⟨.ref h'.objs.size, upd H1 h'.objs.size (.dK (zipK ws xs)), ?_, rfl, q _ (hno _ (by rw [hsz]; omega))⟩
  have J : Inv X pins σ (upd H1 h'.objs.size (.dK (zipK ws xs))) { s1 with heap := h2, toks := tk } := I1.laid (a := h'.objs.size) (t' := tk) (fun c o e => k2 c o (fun hc => ?_) (hk c o e)) (by rw [hsz]; omega) ⟨hlen', hm, _, rel, hd'⟩
  · exact J
  · have hlt : (c : Nat) < s1.heap.objs.size := Heap.lt_size e
    simp only [List.mem_cons, List.not_mem_nil, or_false] at hc
    rcases hc with e' | e' | e' | e'
    · exact absurd (e' ▸ hlt) (show ¬ (s1.heap.objs.size + 4 : Nat) < s1.heap.objs.size by omega)
    · exact absurd (e' ▸ hlt) (show ¬ (s1.heap.objs.size + 3 : Nat) < s1.heap.objs.size by omega)
    · exact absurd (e' ▸ hlt) (show ¬ (s1.heap.objs.size : Nat) < s1.heap.objs.size by omega)
    · exact absurd (e' ▸ hlt) (show ¬ (s1.heap.objs.size + 1 : Nat) < s1.heap.objs.size by omega)
end AN
end

-- ANr1
section
set_option Elab.async false
set_option linter.all false
set_option maxRecDepth 100000
set_option maxHeartbeats 4000000
/-! Small rules: len of an instance, a field as a target, data in a tuple. -/
namespace AN
open PySem PySem.Spec PyProof.Rows L2

/-- data in a tuple -/
def rInTD (K : PySem.W.Frag) (neg : Bool) : R2 := fun x y H Q => ∃ d ds, Dp K H x d ∧ Dp K H y (.tuple ds) ∧ SeqAt.shaped d = true ∧ SeqAt.shaped (.tuple ds) = true ∧ Q (.bl (if neg then !(ds.any fun z => PyData.eqv z d) else ds.any fun z => PyData.eqv z d)) H
section
variable {X : Cx}
theorem op_inTD (hu : X.A.units + 65 < cLine) : OpR X (compareOp .In) (rInTD X.K false) := by
  intro pins s σ H x y v u Q I rx ry h
  obtain ⟨d, ds, hd, he, sd, se, q⟩ := h
  obtain ⟨as, r1⟩ := Dp.reads I d x v hd rx
  obtain ⟨bs, r2⟩ := Dp.reads I (.tuple ds) y u he ry
  exact SeqAt.in_tuple_reads r2 r1 (SeqAt.canLay_of_shaped se) (SeqAt.canLay_of_shaped sd) (room_in_shaped sd hu) ⟨.bl _, H, I, rfl, by simpa using q⟩
theorem op_notInTD (hu : X.A.units + 65 < cLine) : OpR X (compareOp .NotIn) (rInTD X.K true) := by
  intro pins s σ H x y v u Q I rx ry h
  obtain ⟨d, ds, hd, he, sd, se, q⟩ := h
  obtain ⟨as, r1⟩ := Dp.reads I d x v hd rx
  obtain ⟨bs, r2⟩ := Dp.reads I (.tuple ds) y u he ry
  exact SeqAt.notIn_tuple_reads r2 r1 (SeqAt.canLay_of_shaped se) (SeqAt.canLay_of_shaped sd) (room_in_shaped sd hu) ⟨.bl _, H, I, rfl, by simpa using q⟩

/-- o.f = a part of a tuple -/
def gFld (K : PySem.W.Frag) (ta : TE) (f : PySem.Str) : TG := fun y σ H Q => ta σ H fun x H2 => ∃ a C dx fs, x = .ref a ∧ H2 a = some (.ins C dx fs) ∧ Cls K C ∧ NoAttr K C f ∧ fs.length < 1000 ∧ Q σ (upd H2 a (.ins C dx (putF f y fs)))
theorem pg_fld {o : Expr} {f : PySem.Str} {pos : Pos} {ta : TE} (ha : PE X o ta) : PG X (.Attribute o f pos) (gFld X.K ta f) := by
  refine ⟨fun pins s σ H y u Q I r h => ?_⟩
  rw [assign_Attribute]
  refine wpAny_bind (wpAny_holding (thn (ha.run pins s σ H _ I h) fun ov s2 ⟨x, H2, I2, rx, a, C, dx, fs, ex, ea, c, n, l, q2⟩ => ?_))
  subst ex
  obtain rfl : ov = Value.ref a := rx
  refine wpAny_bind (wpAny_standAt (wpAny_bind (wpAny_holding (setattr_ok I2 ea c n l r fun s3 I3 => ?_))))
  exact wpAny_release ⟨σ, _, I3, q2⟩

/-- len(o), o an instance whose class has a __len__ of its own -/
def rLenO (C : Addr) (sp : Sp) (E : XK) : List V → Hp → VK → Prop := fun vs H Q => ∃ a dx fs, vs = [.ref a] ∧ H a = some (.ins C dx fs) ∧ sp [.ref a] H (fun v H' => ∃ n : Int, v = .int n ∧ 0 ≤ n ∧ n < 2 ^ 63 ∧ Q (.int n) H') E
theorem cr_lenO {CX : CXT} {k : Nat} {C f : Addr} {fd : FuncData} {ps : List PySem.Str} {sp : Sp} {E : XK} (hs : PySem.W.findIn X.K (.ref C) "__len__" = some (some (.ref f))) (hf : PySem.W.isFn X.K (.ref f) = true)
    (F : FnOk X.prog X.w X.K X.mg X.base CX k f fd ps sp) (hr : Room k X.A.in1) (hb : Binds X.K fd ps []) (hx : Passes CX X E) : CallR X (.builtin "len") (rLenO C sp E) := by
  intro pins s σ H xs us Q I r h
  obtain ⟨a, dx, fs, rfl, ha, hsp⟩ := h
  obtain ⟨u, rfl, ru⟩ := vals1 r
  obtain rfl : u = Value.ref a := ru
  obtain ⟨mA, O, _⟩ := ins_get I.hok ha
  obtain ⟨od, J, _⟩ := O.look
  have e := I.env0
  have e0 : Env0 X.prog X.w X.K X.mg X.base X.A.in1 X.stack s H := ⟨e.frames, e.mod, e.bs, e.bsz, e.funs, e.frf, e.hok, e.bare⟩
  have hl := F.len _ _ _ _ hsp
  have r2 : Vals [V.ref a] [Value.ref a] := .cons rfl .nil
  refine Calls.call_function_entry kind_len plain_len entry_len (args_len1 _) ?_
  unfold Builtin.«len»
  refine wpAny_bind (m := oneArg "len" _) (wpAny_pure ?_)
  refine wpAny_bind (m := callSpecial? (.ref a) (PySem.Str.ofString "__len__")) (PySem.W.special_fn (name := "__len__") (args := []) I.kIn J hs (beq_iff_eq.mp hf) ?_)
  refine wpAny_call (codeAny_mono (F.run X.A.in1 X.stack s H ⟨[.ref a], []⟩ [.ref a] [.ref a] _ E hr e0 (by
    have := hb s [.ref a] I.kIn (by simpa using hl)
    simpa using this) r2 hsp) fun r s' hq => ?_)
  cases r with
  | error e => exact hx pins σ H s e s' I hq
  | ok fl =>
    cases fl with
    | next => exact False.elim hq
    | brk => exact False.elim hq
    | cont => exact False.elim hq
    | ret u =>
      obtain ⟨v, H', I', rv, n, rfl, h0, h1, q⟩ := I.after hq
      obtain ⟨tk, rfl⟩ := rv
      refine wpAny_bind (wpAny_holding (wpAny_pure ?_))
      refine wpAny_bind (wpAny_letGo ?_)
      show wpAny _ _ (if n < 0 then _ else _) _ _ _
      rw [if_neg (by omega)]
      show wpAny _ _ (if n ≥ 2 ^ 63 then _ else _) _ _ _
      rw [if_neg (by omega)]
      exact wpAny_bind (wpAny_mkInt (wpAny_pure ⟨_, rfl, .int n, H', I'.tok _, ⟨_, rfl⟩, q⟩))
end

/-! ### a tuple times one -/
theorem tuple_mul1 (l : Addr) (items : Array Value) (n : Nat) (dd : Option Addr) (sl : Array (Option Value)) (u : Tok) :
    Meets (Builtin.«tuple.__mul__» ⟨[.ref l, .int 1 u], []⟩) (fun _ R s => s.heap.get? l = some { cls := .type "tuple", dict := dd, data := .seq items n, slots := sl } ∧ R (.ok (.ret (.ref l))) s) :=
  .of_wp fun prog w A R s h => by
    obtain ⟨hp, g, d, tk, os⟩ := s
    obtain ⟨hl, h⟩ := h
    have f1 := AutoSeq1.idx_int
    wp_walk using AutoSeq1.wpAny_loadPart' hl
    repeat (first
      | (refine wpAny_ite_true (by simp) ?_; wp_walk using AutoSeq1.wpAny_loadPart' hl)
      | (refine wpAny_ite_false (by simp) ?_; wp_walk using AutoSeq1.wpAny_loadPart' hl))
    exact ⟨_, rfl, h⟩
/-- (..) * k, k at least 1 -/
def rRepA (K : PySem.W.Frag) : R2 := fun x y H Q => (∃ l xs, x = .ref l ∧ y = .int 1 ∧ SqT K H l xs ∧ Q (.ref l) H) ∨ rRepT K x y H Q
theorem op_repA {X : Cx} : OpR X (binaryOp .Mult) (rRepA X.K) := by
  intro pins s σ H x y v u Q I rx ry h
  rcases h with ⟨l, xs, rfl, rfl, hT, q⟩ | h
  · cases rx
    obtain ⟨t, rfl⟩ := ry
    obtain ⟨its, r, ⟨⟨cls, dd, data, sl⟩, ho, hc, n, hd⟩, hs⟩ := I.tuple hT
    simp only at hc hd
    subst hc hd
    exact wpAny_binaryOp_repeat_ref (T := "tuple") (U := "int") (by decide) ⟨_, ho, rfl⟩ (fun s' => typeIs_int s' 1 t) noFill_tuple_mul F.fills_int_mul F.slot_int_rmul repeat_tuple F.slot_int_index.lookup
      (call_meets F.slot_int_rmul (typeIs_int s 1 t) F.entry_int_rmul (F.args_int_rmul_2 _ _) (int_rmul_tuple 1 t l its.toArray n dd sl)
        ⟨ho, rfl, ⟨_, ho, rfl⟩, call_meets F.slot_tuple_mul ⟨_, ho, rfl⟩ F.entry_tuple_mul (F.args_tuple_mul_2 _ _) (tuple_mul1 l its.toArray n dd sl t) ⟨ho, .ref l, H, I, rfl, q⟩⟩)
  · exact op_repT pins s σ H x y v u Q I rx ry h
end AN
end

-- ANb
section
set_option Elab.async false
set_option linter.all false
set_option maxRecDepth 100000
set_option maxHeartbeats 4000000
/-! What the walk speaks in: data of tuples, what is kept, comprehensions. -/
namespace AN
open PySem PySem.Spec PyProof.Rows L2
open Evl (Ex)

/-- all but lists is kept -/
def Nl (H H' : Hp) : Prop := ∀ a o, H a = some o → (∀ xs, o ≠ .lst xs) → H' a = some o
theorem Nl.refl (H : Hp) : Nl H H := fun _ _ h _ => h
theorem Nl.trans {H H1 H2 : Hp} (a : Nl H H1) (b : Nl H1 H2) : Nl H H2 := fun x o h n => b x o (a x o h n) n
theorem Nl.ex {H H' : Hp} (e : Ex H H') : Nl H H' := fun a o h _ => e a o h
theorem Nl.lst {H : Hp} {p : Addr} {xs ys : List V} (h : H p = some (.lst xs)) : Nl H (upd H p (.lst ys)) := fun a o ha n => by
  by_cases e : a = p
  · subst e
    rw [h] at ha
    cases ha
    exact absurd rfl (n xs)
  · rw [upd_ne e]
    exact ha
theorem nl_t {K : PySem.W.Frag} {H H' : Hp} {a : Addr} {xs : List V} (e : Nl H H') (h : SqT K H a xs) : SqT K H' a xs := by
  rcases h with (h | ⟨o, h⟩) | h
  · exact .inl (.inl (e _ _ h fun _ => nofun))
  · exact .inl (.inr ⟨o, e _ _ h fun _ => nofun⟩)
  · exact .inr h
/-- all but what B says is kept -/
def Xb (B : Addr → Prop) (H H' : Hp) : Prop := ∀ a o, ¬ B a → H a = some o → H' a = some o
theorem Xb.trans {B : Addr → Prop} {H H1 H2 : Hp} (a : Xb B H H1) (b : Xb B H1 H2) : Xb B H H2 := fun x o n h => b x o n (a x o n h)
theorem Xb.ex {B : Addr → Prop} {H H' : Hp} (e : Ex H H') : Xb B H H' := fun a o _ h => e a o h

/-! ### data -/
mutual
/-- v is the datum d, of tuples, ints, texts -/
inductive Tp (K : PySem.W.Frag) (H : Hp) : V → PyData → Prop
  | non : Tp K H .non .none
  | bl (b : Bool) : Tp K H (.bl b) (.bool b)
  | int (i : Int) : Tp K H (.int i) (.int i)
  | str (x : PySem.Str) : Tp K H (.str x) (.str x)
  | tup {a : Addr} {xs : List V} {ds : List PyData} : SqT K H a xs → TpA K H xs ds → Tp K H (.ref a) (.tuple ds)
inductive TpA (K : PySem.W.Frag) (H : Hp) : List V → List PyData → Prop
  | nil : TpA K H [] []
  | cons {v : V} {vs : List V} {d : PyData} {ds : List PyData} : Tp K H v d → TpA K H vs ds → TpA K H (v :: vs) (d :: ds)
end
section
variable {K : PySem.W.Frag} {H H' : Hp}
mutual
theorem Tp.dp : ∀ {v : V} {d : PyData}, Tp K H v d → Dp K H v d
  | _, _, .non => .non
  | _, _, .bl b => .bl b
  | _, _, .int i => .int i
  | _, _, .str x => .str x
  | _, _, .tup h t => .tup h (TpA.dp t)
theorem TpA.dp : ∀ {vs : List V} {ds : List PyData}, TpA K H vs ds → DpAll K H vs ds
  | _, _, .nil => .nil
  | _, _, .cons h t => .cons (Tp.dp h) (TpA.dp t)
end
mutual
theorem Tp.mono (e : Nl H H') : ∀ {v : V} {d : PyData}, Tp K H v d → Tp K H' v d
  | _, _, .non => .non
  | _, _, .bl b => .bl b
  | _, _, .int i => .int i
  | _, _, .str x => .str x
  | _, _, .tup h t => .tup (nl_t e h) (TpA.mono e t)
theorem TpA.mono (e : Nl H H') : ∀ {vs : List V} {ds : List PyData}, TpA K H vs ds → TpA K H' vs ds
  | _, _, .nil => .nil
  | _, _, .cons h t => .cons (Tp.mono e h) (TpA.mono e t)
end
theorem TpA.length : ∀ {vs : List V} {ds : List PyData}, TpA K H vs ds → vs.length = ds.length
  | _, _, .nil => rfl
  | _, _, .cons _ t => by simp [TpA.length t]
theorem TpA.get : ∀ {vs : List V} {ds : List PyData} {i : Nat} {d : PyData}, TpA K H vs ds → ds[i]? = some d → ∃ v, vs[i]? = some v ∧ Tp K H v d
  | _, _, _, _, .nil, h => by simp at h
  | _, _, 0, _, .cons h t, e => by
    simp only [List.getElem?_cons_zero, Option.some.injEq] at e
    subst e
    exact ⟨_, rfl, h⟩
  | _, _, i + 1, _, .cons h t, e => by
    obtain ⟨v, hv, z⟩ := TpA.get t (by simpa using e)
    exact ⟨v, by simpa using hv, z⟩
theorem TpA.got : ∀ {vs : List V} {ds : List PyData} {i : Nat} {v : V}, TpA K H vs ds → vs[i]? = some v → ∃ d, ds[i]? = some d ∧ Tp K H v d
  | _, _, _, _, .nil, h => by simp at h
  | _, _, 0, _, .cons h t, e => by
    simp only [List.getElem?_cons_zero, Option.some.injEq] at e
    subst e
    exact ⟨_, rfl, h⟩
  | _, _, i + 1, _, .cons h t, e => by
    obtain ⟨v, hv, z⟩ := TpA.got t (by simpa using e)
    exact ⟨v, by simpa using hv, z⟩
theorem TpA.append : ∀ {vs ws : List V} {ds es : List PyData}, TpA K H vs ds → TpA K H ws es → TpA K H (vs ++ ws) (ds ++ es)
  | _, _, _, _, .nil, t => t
  | _, _, _, _, .cons h r, t => .cons h (TpA.append r t)
theorem TpA.snoc {vs : List V} {ds : List PyData} {v : V} {d : PyData} (h : TpA K H vs ds) (t : Tp K H v d) : TpA K H (vs ++ [v]) (ds ++ [d]) := h.append (.cons t .nil)
theorem Tp.tupE {v : V} {ds : List PyData} (h : Tp K H v (.tuple ds)) : ∃ a xs, v = .ref a ∧ SqT K H a xs ∧ TpA K H xs ds := by
  cases h with
  | tup h t => exact ⟨_, _, rfl, h, t⟩
theorem Tp.intE {v : V} {i : Int} (h : Tp K H v (.int i)) : v = .int i := by cases h; rfl
theorem Tp.strE {v : V} {x : PySem.Str} (h : Tp K H v (.str x)) : v = .str x := by cases h; rfl
theorem tpA_ints : ∀ {xs : List V} {l : List Nat}, TpA K H xs (l.map fun (n : Nat) => PyData.int (n : Int)) → xs = l.map fun (n : Nat) => V.int (n : Int)
  | _, [], .nil => rfl
  | _, n :: l, .cons h t => by rw [Tp.intE h, tpA_ints t]; rfl
theorem tpA_of_ints : ∀ (l : List Nat), TpA K H (l.map fun (n : Nat) => V.int (n : Int)) (l.map fun (n : Nat) => PyData.int (n : Int))
  | [] => .nil
  | n :: l => .cons (.int _) (tpA_of_ints l)
theorem tpA_strs : ∀ {xs : List V} {l : List PySem.Str}, TpA K H xs (l.map PyData.str) → xs = l.map V.str
  | _, [], .nil => rfl
  | _, n :: l, .cons h t => by rw [Tp.strE h, tpA_strs t]; rfl
theorem tpA_of_strs : ∀ (l : List PySem.Str), TpA K H (l.map V.str) (l.map PyData.str)
  | [] => .nil
  | n :: l => .cons (.str _) (tpA_of_strs l)
end

/-! ### what the program's data are -/
abbrev tI (l : List Nat) : PyData := .tuple (l.map fun (n : Nat) => PyData.int (n : Int))
abbrev tS (l : List PySem.Str) : PyData := .tuple (l.map PyData.str)
abbrev pairD (p : Nat × PySem.Str) : PyData := .tuple [.int (p.1 : Int), .str p.2]
abbrev rowD (r : List (Nat × PySem.Str)) : PyData := .tuple (r.map pairD)
abbrev rowsD (R : Rows) : PyData := .tuple (R.map rowD)
abbrev machD (L : List PySem.Str) (R : Rows) : PyData := .tuple [tS L, rowsD R]
abbrev versD (L : List PySem.Str) (vs : List Rows) : PyData := .tuple (vs.map (machD L))
abbrev stsD (S : List (List Nat)) : PyData := .tuple (S.map tI)

section
variable {K : PySem.W.Frag} {H H' : Hp}
theorem tI_of {v : V} {l : List Nat} (h : Tp K H v (tI l)) : ∃ a, v = .ref a ∧ SqT K H a (l.map fun (n : Nat) => V.int (n : Int)) := by
  obtain ⟨a, xs, rfl, h, t⟩ := h.tupE
  rw [tpA_ints t] at h
  exact ⟨a, rfl, h⟩
theorem tS_of {v : V} {l : List PySem.Str} (h : Tp K H v (tS l)) : ∃ a, v = .ref a ∧ SqT K H a (l.map V.str) := by
  obtain ⟨a, xs, rfl, h, t⟩ := h.tupE
  rw [tpA_strs t] at h
  exact ⟨a, rfl, h⟩
theorem of_tI {a : Addr} {l : List Nat} (h : SqT K H a (l.map fun (n : Nat) => V.int (n : Int))) : Tp K H (.ref a) (tI l) := .tup h (tpA_of_ints l)
theorem of_tS {a : Addr} {l : List PySem.Str} (h : SqT K H a (l.map V.str)) : Tp K H (.ref a) (tS l) := .tup h (tpA_of_strs l)
/-- the parts of a machine -/
theorem mach_of {v : V} {L : List PySem.Str} {R : Rows} (h : Tp K H v (machD L R)) : ∃ a x y, v = .ref a ∧ SqT K H a [x, y] ∧ Tp K H x (tS L) ∧ Tp K H y (rowsD R) := by
  obtain ⟨a, xs, rfl, h, t⟩ := h.tupE
  cases t with
  | cons h1 t =>
    cases t with
    | cons h2 t =>
      cases t
      exact ⟨a, _, _, rfl, h, h1, h2⟩
theorem pair_of {v : V} {p : Nat × PySem.Str} (h : Tp K H v (pairD p)) : ∃ a, v = .ref a ∧ SqT K H a [.int (p.1 : Int), .str p.2] := by
  obtain ⟨a, xs, rfl, h, t⟩ := h.tupE
  cases t with
  | cons h1 t =>
    cases t with
    | cons h2 t =>
      cases t
      rw [h1.intE, h2.strE] at h
      exact ⟨a, rfl, h⟩
theorem of_pair {a : Addr} {p : Nat × PySem.Str} (h : SqT K H a [.int (p.1 : Int), .str p.2]) : Tp K H (.ref a) (pairD p) := .tup h (.cons (.int _) (.cons (.str _) .nil))
/-- an item of a tuple by its place -/
theorem tup_at {v : V} {ds : List PyData} (h : Tp K H v (.tuple ds)) : ∃ a xs, v = .ref a ∧ SqT K H a xs ∧ TpA K H xs ds ∧ xs.length = ds.length := by
  obtain ⟨a, xs, rfl, h, t⟩ := h.tupE
  exact ⟨a, xs, rfl, h, t, t.length⟩
/-- v[i] -/
theorem w_ix {x : V} {ds : List PyData} {i : Nat} {d : PyData} {Q : VK} (h : Tp K H x (.tuple ds)) (e : ds[i]? = some d) (q : ∀ v, Tp K H v d → Q v H) : rIxT K x (.int (i : Int)) H Q := by
  obtain ⟨a, xs, rfl, hs, t⟩ := h.tupE
  obtain ⟨v, hv, tv⟩ := t.get e
  exact ⟨a, xs, i, v, rfl, rfl, hs, atI_nat hv, q v tv⟩
theorem map_get {α β : Type} {f : α → β} {l : List α} {i : Nat} (h : i < l.length) (d : α) : (l.map f)[i]? = some (f (l.getD i d)) := by
  simp [List.getD_eq_getElem?_getD, List.getElem?_eq_getElem h]
end

/-! ### shapes, equality of data -/
theorem lay_ints : ∀ l : List Nat, PyData.canLayAll0 (l.map fun (n : Nat) => PyData.int (n : Int)) = true
  | [] => by simp [PyData.canLayAll0]
  | x :: l => by simp [PyData.canLayAll0, PyData.canLay0, lay_ints l]
/-- texts that are short enough -/
def Sok (l : List PySem.Str) : Prop := ∀ x ∈ l, PyData.strOk x = true
theorem lay_strs : ∀ l : List PySem.Str, Sok l → PyData.canLayAll0 (l.map PyData.str) = true
  | [], _ => by simp [PyData.canLayAll0]
  | x :: l, h => by simp [PyData.canLayAll0, PyData.canLay0, lay_strs l fun y hy => h y (List.mem_cons_of_mem _ hy), h x List.mem_cons_self]
theorem dep_ints : ∀ l : List Nat, PyData.depthAll (l.map fun (n : Nat) => PyData.int (n : Int)) ≤ 1
  | [] => by simp [PyData.depthAll]
  | x :: l => by
    have := dep_ints l
    simp only [List.map_cons, PyData.depthAll, PyData.depth]
    omega
theorem dep_strs : ∀ l : List PySem.Str, PyData.depthAll (l.map PyData.str) ≤ 1
  | [] => by simp [PyData.depthAll]
  | x :: l => by
    have := dep_strs l
    simp only [List.map_cons, PyData.depthAll, PyData.depth]
    omega
theorem shaped_of {d : PyData} (h1 : d.canLay0 = true) (h2 : d.depth ≤ 64) : SeqAt.shaped d = true := by
  show (d.canLay0 && decide (d.depth ≤ 64)) = true
  rw [Bool.and_eq_true]
  exact ⟨h1, decide_eq_true h2⟩
theorem tI_lay (l : List Nat) : (tI l).canLay0 = true := by simp only [tI, PyData.canLay0]; exact lay_ints l
theorem tI_dep (l : List Nat) : (tI l).depth ≤ 2 := by
  have := dep_ints l
  simp only [tI, PyData.depth]
  omega
theorem tS_lay {l : List PySem.Str} (h : Sok l) : (tS l).canLay0 = true := by simp only [tS, PyData.canLay0]; exact lay_strs l h
theorem tS_dep (l : List PySem.Str) : (tS l).depth ≤ 2 := by
  have := dep_strs l
  simp only [tS, PyData.depth]
  omega
theorem tI_shaped (l : List Nat) : SeqAt.shaped (tI l) = true := shaped_of (tI_lay l) (by have := tI_dep l; omega)
theorem tS_shaped {l : List PySem.Str} (h : Sok l) : SeqAt.shaped (tS l) = true := shaped_of (tS_lay h) (by have := tS_dep l; omega)
theorem lay_tIs : ∀ S : List (List Nat), PyData.canLayAll0 (S.map tI) = true
  | [] => by simp [PyData.canLayAll0]
  | x :: l => by simp only [List.map_cons, PyData.canLayAll0, tI_lay x, lay_tIs l, Bool.and_self]
theorem dep_tIs : ∀ S : List (List Nat), PyData.depthAll (S.map tI) ≤ 2
  | [] => by simp [PyData.depthAll]
  | x :: l => by
    have h1 := dep_tIs l
    have h2 := tI_dep x
    simp only [List.map_cons, PyData.depthAll]
    omega
theorem stsD_shaped (S : List (List Nat)) : SeqAt.shaped (stsD S) = true := shaped_of (by simp only [stsD, PyData.canLay0]; exact lay_tIs S) (by have := dep_tIs S; simp only [stsD, PyData.depth]; omega)
theorem stsL_shaped (S : List (List Nat)) : SeqAt.shaped (.list (S.map tI)) = true := shaped_of (by simp only [PyData.canLay0]; exact lay_tIs S) (by have := dep_tIs S; simp only [PyData.depth]; omega)
theorem intsL_shaped (l : List Nat) : SeqAt.shaped (.list (l.map fun (n : Nat) => PyData.int (n : Int))) = true := shaped_of (by simp only [PyData.canLay0]; exact lay_ints l) (by have := dep_ints l; simp only [PyData.depth]; omega)
theorem eqv_ints : ∀ a b : List Nat, PyData.eqvAll (a.map fun (n : Nat) => PyData.int (n : Int)) (b.map fun (n : Nat) => PyData.int (n : Int)) = decide (a = b)
  | [], [] => by simp [PyData.eqvAll]
  | [], y :: b => by simp [PyData.eqvAll]
  | x :: a, [] => by simp [PyData.eqvAll]
  | x :: a, y :: b => by
    simp only [List.map_cons, PyData.eqvAll, PyData.eqv, eqv_ints a b, List.cons.injEq]
    by_cases h : x = y
    · subst h
      simp
    · have : ((x : Int) == (y : Int)) = false := beq_eq_false_iff_ne.mpr (by omega)
      simp [this, h]
theorem eqv_strs : ∀ a b : List PySem.Str, PyData.eqvAll (a.map PyData.str) (b.map PyData.str) = decide (a = b)
  | [], [] => by simp [PyData.eqvAll]
  | [], y :: b => by simp [PyData.eqvAll]
  | x :: a, [] => by simp [PyData.eqvAll]
  | x :: a, y :: b => by
    simp only [List.map_cons, PyData.eqvAll, PyData.eqv, eqv_strs a b, List.cons.injEq]
    by_cases h : x = y
    · subst h
      simp
    · simp [h]
theorem eqv_tI (a b : List Nat) : PyData.eqv (tI a) (tI b) = decide (a = b) := by simp only [tI, PyData.eqv, eqv_ints]
theorem eqv_tS (a b : List PySem.Str) : PyData.eqv (tS a) (tS b) = decide (a = b) := by simp only [tS, PyData.eqv, eqv_strs]
theorem any_tI (S : List (List Nat)) (z : List Nat) : ((S.map tI).any fun y => PyData.eqv y (tI z)) = decide (z ∈ S) := by
  induction S with
  | nil => simp
  | cons x S ih =>
    rw [List.map_cons, List.any_cons, ih, eqv_tI]
    by_cases h : x = z
    · subst h; simp
    · simp [h, List.mem_cons, Ne.symm h, eq_comm (a := z)]

/-! ### what an expression evaluates to, said by a predicate -/
abbrev VP := V → Hp → Prop
def EvP (te : TE) (σ : L2.St) (H : Hp) (P : VP) : Prop := ∀ Q : VK, (∀ v H2, Ex H H2 → P v H2 → Q v H2) → te σ H Q
def EvB (tt : TT) (σ : L2.St) (H : Hp) (b : Bool) : Prop := ∀ Q : Bool → Hp → Prop, (∀ H2, Ex H H2 → Q b H2) → tt σ H Q
/-- the values of a list, one behind another -/
def AllP {α : Type} (P : α → VP) (H : Hp) : List α → List V → Prop
  | [], [] => True
  | a :: as, v :: vs => P a v H ∧ AllP P H as vs
  | _, _ => False
theorem AllP.mono {α : Type} {P : α → VP} {H H' : Hp} (hP : ∀ a v, P a v H → P a v H') : ∀ {as : List α} {vs : List V}, AllP P H as vs → AllP P H' as vs
  | [], [], _ => trivial
  | _ :: _, _ :: _, ⟨h, t⟩ => ⟨hP _ _ h, AllP.mono hP t⟩
  | [], _ :: _, h => h.elim
  | _ :: _, [], h => h.elim
theorem AllP.snoc {α : Type} {P : α → VP} {H : Hp} {a : α} {v : V} : ∀ {as : List α} {vs : List V}, AllP P H as vs → P a v H → AllP P H (as ++ [a]) (vs ++ [v])
  | [], [], _, h => ⟨h, trivial⟩
  | _ :: _, _ :: _, ⟨h, t⟩, z => ⟨h, AllP.snoc t z⟩
  | [], _ :: _, h, _ => h.elim
  | _ :: _, [], h, _ => h.elim
theorem AllP.length {α : Type} {P : α → VP} {H : Hp} : ∀ {as : List α} {vs : List V}, AllP P H as vs → as.length = vs.length
  | [], [], _ => rfl
  | _ :: _, _ :: _, ⟨_, t⟩ => by simp [AllP.length t]
  | [], _ :: _, h => h.elim
  | _ :: _, [], h => h.elim
theorem AllP.tp {α : Type} {K : PySem.W.Frag} {H : Hp} {f : α → PyData} : ∀ {as : List α} {vs : List V}, AllP (fun a v H => Tp K H v (f a)) H as vs → TpA K H vs (as.map f)
  | [], [], _ => .nil
  | _ :: _, _ :: _, ⟨h, t⟩ => .cons h (AllP.tp t)
  | [], _ :: _, h => h.elim
  | _ :: _, [], h => h.elim
theorem AllP.get {α : Type} {P : α → VP} {H : Hp} : ∀ {as : List α} {vs : List V} {i : Nat} {a : α}, AllP P H as vs → as[i]? = some a → ∃ v, vs[i]? = some v ∧ P a v H
  | [], [], _, _, _, h => by simp at h
  | _ :: _, _ :: _, 0, _, ⟨h, _⟩, e => by
    simp only [List.getElem?_cons_zero, Option.some.injEq] at e
    subst e
    exact ⟨_, rfl, h⟩
  | _ :: _, _ :: _, i + 1, _, ⟨_, t⟩, e => by
    obtain ⟨v, hv, z⟩ := AllP.get t (by simpa using e)
    exact ⟨v, by simpa using hv, z⟩
  | [], _ :: _, _, _, h, _ => h.elim
  | _ :: _, [], _, _, h, _ => h.elim

/-! ### list comprehensions -/
theorem filt_yes {n : Nat} {f : Nat → Bool} (h : f n = true) : (List.range (n + 1)).filter f = (List.range n).filter f ++ [n] := by
  rw [List.range_succ, List.filter_append, List.filter_cons, if_pos h] <;> rfl
theorem filt_no {n : Nat} {f : Nat → Bool} (h : f n = false) : (List.range (n + 1)).filter f = (List.range n).filter f := by
  rw [List.range_succ, List.filter_append, List.filter_cons, if_neg (by rw [h]; decide)]
  show _ ++ [] = _
  rw [List.append_nil]
theorem filt_len (n : Nat) (f : Nat → Bool) : ((List.range n).filter f).length ≤ n := by
  have h := List.length_filter_le f (List.range n)
  rwa [List.length_range] at h
/-- a comprehension's rounds: n turns, f tells which count, P what each gives; B may change (known objects), In is kept about them -/
theorem lc_go {J : It} {g : TG} {tt : TT} {te : TE} {vs : List Nat} {σ : L2.St} {H1 : Hp} {D : Addr} {Qd : Hp → Prop} (n : Nat) (f : Nat → Bool) (P : Nat → VP) (B : Addr → Prop) (In : Nat → Hp → Prop) (hD : H1 D = none)
    (hn : n < 100000) (hB : ∀ a, B a → ∃ xs, H1 a = some (.lst xs)) (hBl : ∀ i H a, In i H → B a → ∃ xs, H a = some (.lst xs))
    (hP : ∀ i v H H', Nl H H' → P i v H → P i v H') (hIn : ∀ i H o, In i H → In i (upd H D o)) (h0 : In 0 H1)
    (hgo : ∀ i H, i < n → Xb B H1 H → In i H → J.go i H) (hst : ∀ H, Xb B H1 H → In n H → J.stop n H)
    (hs : ∀ i x H H', i < n → Xb B H1 H → In i H → J.yld i H x H' → Ex H H' ∧ ∀ C : L2.St → Hp → Prop, (∀ σ2 H2, wipe σ2 vs = wipe σ vs → Ex H' H2 →
      (∀ Q : Bool → Hp → Prop, (∀ H3, Ex H2 H3 → Q (f i) H3) → tt σ2 H2 Q) → (∀ H3, Ex H2 H3 → f i = false → In (i + 1) H3) →
      (f i = true → ∀ H3, Ex H2 H3 → ∀ Q : VK, (∀ v H4, Xb B H3 H4 → Nl H3 H4 → In (i + 1) H4 → P i v H4 → Q v H4) → te σ2 H3 Q) → C σ2 H2) → g x (wipe σ vs) H' C)
    (hd : ∀ H xs, Xb B H1 H → In n H → H D = some (.lst xs) → AllP P H ((List.range n).filter f) xs → Qd H) :
    ∃ W : Nat → Nat → Hp → Prop, (∃ m, W 0 m (upd H1 D (.lst []))) ∧ ∀ i m H, W i m H →
      (J.stop i H ∧ Qd H) ∨ (J.go i H ∧ ∃ Nx : Hp → Prop, (∀ H', Nx H' → ∃ m', m' < m ∧ W (i + 1) m' H') ∧ ∀ x H', J.yld i H x H' → g x (wipe σ vs) H' fun σ2 H2 => wipe σ2 vs = wipe σ vs ∧ tt σ2 H2 fun b H3 =>
        if b = true then te σ2 H3 fun y H4 => ∃ acc, H4 D = some (.lst acc) ∧ acc.length < sizeLine ∧ Nx (upd H4 D (.lst (acc ++ [y]))) else Nx H3) := by
  have nB : ¬ B D := fun h => by
    obtain ⟨xs, e⟩ := hB D h
    rw [hD] at e
    cases e
  refine ⟨fun i m H => m = n - i ∧ i ≤ n ∧ Xb B H1 H ∧ In i H ∧ ∃ xs, H D = some (.lst xs) ∧ AllP P H ((List.range i).filter f) xs, ⟨n, by simp, Nat.zero_le _, fun a o nb h => ?_, hIn 0 H1 _ h0, [], upd_same, trivial⟩, ?_⟩
  · rw [upd_ne (ne_of_none h hD)]
    exact h
  rintro i m H ⟨rfl, hi, hx, hin, acc, hacc, hall⟩
  by_cases hlt : i < n
  · refine .inr ⟨hgo i H hlt hx hin, fun H' => i < n ∧ Xb B H1 H' ∧ In (i + 1) H' ∧ ∃ xs, H' D = some (.lst xs) ∧ AllP P H' ((List.range (i + 1)).filter f) xs, fun H' h' => ⟨n - (i + 1), by omega, rfl, hlt, h'.2⟩, fun x H' y => ?_⟩
    obtain ⟨e0, k⟩ := hs i x H H' hlt hx hin y
    refine k _ fun σ2 H2 hw e2 htt hno hte => ⟨hw, htt _ fun H3 e3 => ?_⟩
    have eD3 : H3 D = some (.lst acc) := e3 _ _ (e2 _ _ (e0 _ _ hacc))
    have ex3 : Ex H H3 := (e0.trans e2).trans e3
    have x3 : Xb B H1 H3 := hx.trans (Xb.ex ex3)
    cases hf : f i with
    | false =>
      simp only [Bool.false_eq_true, if_false]
      exact ⟨hlt, x3, hno H3 e3 hf, acc, eD3, by rw [filt_no hf]; exact hall.mono fun a v => hP a v H H3 (Nl.ex ex3)⟩
    | true =>
      simp only [if_true]
      refine hte hf H3 e3 _ fun v H4 x4 n4 i4 p4 => ?_
      have eD4 : H4 D = some (.lst acc) := x4 _ _ nB eD3
      have hlen : acc.length < sizeLine := by
        have h1 := hall.length
        have h2 := filt_len i f
        have h3 := sizeLine_eq
        omega
      have n5 : Nl H4 (upd H4 D (.lst (acc ++ [v]))) := Nl.lst eD4
      refine ⟨acc, eD4, hlen, hlt, fun a o nb h => ?_, hIn _ _ _ i4, acc ++ [v], upd_same, ?_⟩
      · have hne : a ≠ D := ne_of_none h hD
        rw [upd_ne hne]
        exact x4 a o nb (x3 a o nb h)
      · rw [filt_yes hf]
        exact (hall.mono fun a u p => hP a u H4 _ n5 (hP a u H3 H4 n4 (hP a u H H3 (Nl.ex ex3) p))).snoc (hP i v H4 _ n5 p4)
  · have e : i = n := by omega
    subst e
    exact .inl ⟨hst H hx hin, hd H acc hx hin hacc hall⟩
end AN
end

-- ANb2
section
set_option Elab.async false
set_option linter.all false
set_option maxRecDepth 100000
set_option maxHeartbeats 4000000
/-! Walks over what stays: loops and comprehensions. -/
namespace AN
open PySem PySem.Spec PyProof.Rows L2
open Evl (Ex)

/-- J gives n things, whatever is made meanwhile -/
structure Runs (J : It) (H1 : Hp) (n : Nat) (Y : Nat → V → Hp → Prop) : Prop where
  go : ∀ i H, i < n → Ex H1 H → J.go i H
  stop : ∀ H, Ex H1 H → J.stop n H
  yld : ∀ i H x H', i < n → Ex H1 H → J.yld i H x H' → Ex H H' ∧ Y i x H'
section
variable {K : PySem.W.Frag} {H1 : Hp} {a b : Addr} {xs ys : List V}
theorem runs_t (h : SqT K H1 a xs) : Runs (Itt K a) H1 xs.length (fun i x _ => xs[i]? = some x) where
  go := fun i H hi e => ⟨xs, xs[i], Evl.ex_t e h, by simp [hi]⟩
  stop := fun H e => ⟨xs, Evl.ex_t e h, Nat.le_refl _⟩
  yld := fun i H x H' hi e y => by
    obtain ⟨rfl, y⟩ := y
    exact ⟨Ex.refl _, y xs (Evl.ex_t e h)⟩
theorem runs_l (h : SqL K H1 a xs) : Runs (Itl K a) H1 xs.length (fun i x _ => xs[i]? = some x) where
  go := fun i H hi e => ⟨xs, xs[i], Evl.ex_l e h, by simp [hi]⟩
  stop := fun H e => ⟨xs, Evl.ex_l e h, Nat.le_refl _⟩
  yld := fun i H x H' hi e y => by
    obtain ⟨rfl, y⟩ := y
    exact ⟨Ex.refl _, y xs (Evl.ex_l e h)⟩
theorem runs_r (n : Nat) : Runs (Itr 0 n) H1 n (fun i x _ => x = .int (i : Int)) where
  go := fun i H hi e => hi
  stop := fun H e => Nat.le_refl _
  yld := fun i H x H' hi e y => by
    obtain ⟨rfl, y⟩ := y
    exact ⟨Ex.refl _, by rw [y]; simp⟩
theorem sqB_ex {c : Bool} {H : Hp} (e : Ex H1 H) (h : SqB K H1 c a xs) : SqB K H c a xs := by
  cases c with
  | true => exact Evl.ex_t e h
  | false => exact Evl.ex_l e h
theorem runs_z {c d : Bool} (h : SqB K H1 c a xs) (h' : SqB K H1 d b ys) (hl : xs.length = ys.length) :
    Runs (ItzS K c a d b) H1 xs.length (fun i v H => ∃ T x y, v = .ref T ∧ H T = some (.tup [x, y]) ∧ xs[i]? = some x ∧ ys[i]? = some y) where
  go := fun i H hi e => ⟨xs, ys, xs[i], ys[i]'(hl ▸ hi), sqB_ex e h, sqB_ex e h', by simp [hi], by simp [hl ▸ hi]⟩
  stop := fun H e => ⟨xs, ys, sqB_ex e h, sqB_ex e h', rfl, hl.symm⟩
  yld := fun i H x H' hi e y => by
    obtain ⟨T, x, y, rfl, hT, rfl, k1, k2⟩ := y
    exact ⟨Evl.Ex.new hT, T, x, y, rfl, upd_same, k1 xs (sqB_ex e h), k2 ys (sqB_ex e h')⟩
theorem runs_e {c : Bool} (h : SqB K H1 c a xs) : Runs (IteB K c a) H1 xs.length (fun i v H => ∃ T x, v = .ref T ∧ H T = some (.tup [.int (i : Nat), x]) ∧ xs[i]? = some x) where
  go := fun i H hi e => ⟨xs, xs[i], sqB_ex e h, by simp [hi]⟩
  stop := fun H e => ⟨xs, sqB_ex e h, rfl⟩
  yld := fun i H x H' hi e y => by
    obtain ⟨T, x, rfl, hT, rfl, k1⟩ := y
    exact ⟨Evl.Ex.new hT, T, x, rfl, upd_same, k1 xs (sqB_ex e h)⟩
end

/-- a loop over what stays, its body only makes things -/
theorem for_runs {J : It} {g : TG} {tb : TS} {D : Ends} {σ : L2.St} {H1 : Hp} {n : Nat} {Y : Nat → V → Hp → Prop} (R : Runs J H1 n Y) (Pv : Nat → L2.St → Hp → Prop) (hx : ∀ i σ H, Pv i σ H → Ex H1 H) (h0 : Pv 0 σ H1)
    (hs : ∀ i x σ H H', i < n → Pv i σ H → Ex H H' → Y i x H' → g x σ H' fun σ2 H2 => tb { D with nx := Pv (i + 1), ct := Pv (i + 1), bk := D.nx } σ2 H2) (hd : ∀ σ H, Pv n σ H → D.nx σ H) :
    ∃ W : Nat → Nat → L2.St → Hp → Prop, (∃ m, W 0 m σ H1) ∧ ∀ i m σ H, W i m σ H →
      (J.stop i H ∧ D.nx σ H) ∨ (J.go i H ∧ ∃ N : L2.St → Hp → Prop, (∀ σ' H', N σ' H' → ∃ m', m' < m ∧ W (i + 1) m' σ' H') ∧ ∀ x H', J.yld i H x H' → g x σ H' fun σ2 H2 => tb { D with nx := N, ct := N, bk := D.nx } σ2 H2) := by
  refine ⟨fun i m σ H => m = n - i ∧ i ≤ n ∧ Pv i σ H, ⟨n, by simp, Nat.zero_le _, h0⟩, ?_⟩
  rintro i m σ H ⟨rfl, hi, p⟩
  have e := hx i σ H p
  by_cases hlt : i < n
  · refine .inr ⟨R.go i H hlt e, Pv (i + 1), fun σ' H' p' => ⟨n - (i + 1), by omega, rfl, hlt, p'⟩, fun x H' y => ?_⟩
    obtain ⟨e2, hy⟩ := R.yld i H x H' hlt e y
    exact hs i x σ H H' hlt p e2 hy
  · have ei : i = n := by omega
    subst ei
    exact .inl ⟨R.stop H e, hd σ H p⟩

/-- the rounds of a list comprehension -/
def LcB (J : It) (g : TG) (tt : TT) (te : TE) (vs : List Nat) (σ : L2.St) (H1 : Hp) (Q : VK) : Prop :=
    ∀ D, H1 D = none → ∃ W : Nat → Nat → Hp → Prop, (∃ m, W 0 m (upd H1 D (.lst []))) ∧ ∀ i m H, W i m H →
      (J.stop i H ∧ Q (.ref D) H) ∨ (J.go i H ∧ ∃ Nx : Hp → Prop, (∀ H', Nx H' → ∃ m', m' < m ∧ W (i + 1) m' H') ∧ ∀ x H', J.yld i H x H' → g x (wipe σ vs) H' fun σ2 H2 => wipe σ2 vs = wipe σ vs ∧ tt σ2 H2 fun b H3 =>
        if b = true then te σ2 H3 fun y H4 => ∃ acc, H4 D = some (.lst acc) ∧ acc.length < sizeLine ∧ Nx (upd H4 D (.lst (acc ++ [y]))) else Nx H3)
theorem w_lc {wi : TI} {g : TG} {tt : TT} {te : TE} {vs : List Nat} {σ : L2.St} {H : Hp} {Q : VK} (h : wi σ H fun J H1 => LcB J g tt te vs σ H1 Q) : tLc wi g tt te vs σ H Q := h
/-- a list comprehension over what stays, its element only makes things -/
theorem lc_pure {J : It} {g : TG} {tt : TT} {te : TE} {vs : List Nat} {σ : L2.St} {H1 : Hp} {Q : VK} {n : Nat} {Y : Nat → V → Hp → Prop} (R : Runs J H1 n Y) (f : Nat → Bool) (P : Nat → VP) (hn : n < 100000) (hP : ∀ i v H H', Nl H H' → P i v H → P i v H')
    (hs : ∀ i x H, i < n → Ex H1 H → Y i x H → ∀ C : L2.St → Hp → Prop, (∀ σ2 H2, wipe σ2 vs = wipe σ vs → Ex H H2 → (∀ Q : Bool → Hp → Prop, (∀ H3, Ex H2 H3 → Q (f i) H3) → tt σ2 H2 Q) →
      (f i = true → ∀ H3, Ex H2 H3 → ∀ Q : VK, (∀ v H4, Ex H3 H4 → P i v H4 → Q v H4) → te σ2 H3 Q) → C σ2 H2) → g x (wipe σ vs) H C)
    (hd : ∀ D H xs, H1 D = none → Ex H1 H → H D = some (.lst xs) → AllP P H ((List.range n).filter f) xs → Q (.ref D) H) :
    LcB J g tt te vs σ H1 Q := fun D hD => by
  have xe : ∀ {H H' : Hp}, Xb (fun _ => False) H H' → Ex H H' := fun h a o e => h a o (fun z => z) e
  refine lc_go (J := J) (g := g) (tt := tt) (te := te) (vs := vs) (σ := σ) n f P (fun _ => False) (fun _ _ => True) hD hn (fun _ z => z.elim) (fun _ _ _ _ z => z.elim) hP (fun _ _ _ _ => trivial) trivial
    (fun i H hi x _ => R.go i H hi (xe x)) (fun H x _ => R.stop H (xe x)) ?_ (fun H xs x _ h1 h2 => hd D H xs hD (xe x) h1 h2)
  intro i x H H' hi hx _ y
  obtain ⟨e, hy⟩ := R.yld i H x H' hi (xe hx) y
  refine ⟨e, fun C k => ?_⟩
  refine hs i x H' hi ((xe hx).trans e) hy C fun σ2 H2 hw e2 htt hte => ?_
  exact k σ2 H2 hw e2 htt (fun _ _ _ => trivial) fun hf H3 e3 Q q => hte hf H3 e3 Q fun v H4 e4 p => q v H4 (Xb.ex e4) (Nl.ex e4) trivial p
theorem filter_true (n : Nat) : (List.range n).filter (fun _ => true) = List.range n := by simp
/-- what a comprehension gives, as data -/
theorem allP_tp {K : PySem.W.Frag} {H : Hp} {f : Nat → PyData} {n : Nat} {xs : List V} (h : AllP (fun i v H => Tp K H v (f i)) H ((List.range n).filter fun _ => true) xs) : TpA K H xs ((List.range n).map f) := by
  rw [filter_true] at h
  exact h.tp
theorem range_map_get {α β : Type} (l : List α) (f : α → β) (d : α) : (List.range l.length).map (fun i => f (l.getD i d)) = l.map f := by
  apply List.ext_getElem (by simp)
  intro i h1 h2
  simp [List.getD_eq_getElem?_getD, show i < l.length by simpa using h1]
end AN
end

-- ANkit
section
set_option Elab.async false
set_option linter.all false
set_option maxRecDepth 100000
set_option maxHeartbeats 0
namespace AN
open PySem PySem.Spec PyProof.Rows L2
structure Kit (K : PySem.W.Frag) (mg : PySem.Str → Option Value) : Prop where
  c : SaysA fa fn exB K
  g : ∀ x, (He.Fa.glo x) ∈ fa → mg x = some (.ref (He.ga K x))
  f : ∀ x, (He.Fa.free x) ∈ fa → mg x = none
  s : ∃ t, mg "SILENT" = some (.str "" t)
section
variable {K : PySem.W.Frag} {mg : PySem.Str → Option Value} (T : Kit K mg)
include T
theorem Kit.g_is_integer : mg "is_integer" = some (.ref (He.ga K "is_integer")) := T.g _ (List.mem_of_getElem? (i := 0) rfl)
theorem Kit.g_is_number : mg "is_number" = some (.ref (He.ga K "is_number")) := T.g _ (List.mem_of_getElem? (i := 1) rfl)
theorem Kit.g_require_letters : mg "require_letters" = some (.ref (He.ga K "require_letters")) := T.g _ (List.mem_of_getElem? (i := 2) rfl)
theorem Kit.g_require_states : mg "require_states" = some (.ref (He.ga K "require_states")) := T.g _ (List.mem_of_getElem? (i := 3) rfl)
theorem Kit.g_row_step : mg "row_step" = some (.ref (He.ga K "row_step")) := T.g _ (List.mem_of_getElem? (i := 4) rfl)
theorem Kit.g_step : mg "step" = some (.ref (He.ga K "step")) := T.g _ (List.mem_of_getElem? (i := 5) rfl)
theorem Kit.g_run : mg "run" = some (.ref (He.ga K "run")) := T.g _ (List.mem_of_getElem? (i := 6) rfl)
theorem Kit.g_led : mg "led" = some (.ref (He.ga K "led")) := T.g _ (List.mem_of_getElem? (i := 7) rfl)
theorem Kit.g_said : mg "said" = some (.ref (He.ga K "said")) := T.g _ (List.mem_of_getElem? (i := 8) rfl)
theorem Kit.g_quieted : mg "quieted" = some (.ref (He.ga K "quieted")) := T.g _ (List.mem_of_getElem? (i := 9) rfl)
theorem Kit.g_refined : mg "refined" = some (.ref (He.ga K "refined")) := T.g _ (List.mem_of_getElem? (i := 10) rfl)
theorem Kit.g_classes_of : mg "classes_of" = some (.ref (He.ga K "classes_of")) := T.g _ (List.mem_of_getElem? (i := 11) rfl)
theorem Kit.g_are_alike : mg "are_alike" = some (.ref (He.ga K "are_alike")) := T.g _ (List.mem_of_getElem? (i := 12) rfl)
theorem Kit.g_true_states : mg "true_states" = some (.ref (He.ga K "true_states")) := T.g _ (List.mem_of_getElem? (i := 13) rfl)
theorem Kit.g_is_true : mg "is_true" = some (.ref (He.ga K "is_true")) := T.g _ (List.mem_of_getElem? (i := 14) rfl)
theorem Kit.g_is_ready : mg "is_ready" = some (.ref (He.ga K "is_ready")) := T.g _ (List.mem_of_getElem? (i := 15) rfl)
theorem Kit.g_ready_versions : mg "ready_versions" = some (.ref (He.ga K "ready_versions")) := T.g _ (List.mem_of_getElem? (i := 16) rfl)
theorem Kit.g_standing_after : mg "standing_after" = some (.ref (He.ga K "standing_after")) := T.g _ (List.mem_of_getElem? (i := 17) rfl)
theorem Kit.g_standings_led : mg "standings_led" = some (.ref (He.ga K "standings_led")) := T.g _ (List.mem_of_getElem? (i := 18) rfl)
theorem Kit.g_require_known : mg "require_known" = some (.ref (He.ga K "require_known")) := T.g _ (List.mem_of_getElem? (i := 19) rfl)
theorem Kit.g_check_versions : mg "check_versions" = some (.ref (He.ga K "check_versions")) := T.g _ (List.mem_of_getElem? (i := 20) rfl)
theorem Kit.g_is_standing : mg "is_standing" = some (.ref (He.ga K "is_standing")) := T.g _ (List.mem_of_getElem? (i := 21) rfl)
theorem Kit.g_all_reached : mg "all_reached" = some (.ref (He.ga K "all_reached")) := T.g _ (List.mem_of_getElem? (i := 22) rfl)
theorem Kit.g_law_source : mg "_law_source" = some (.ref (He.ga K "_law_source")) := T.g _ (List.mem_of_getElem? (i := 23) rfl)
theorem Kit.g_law_draw : mg "_law_draw" = some (.ref (He.ga K "_law_draw")) := T.g _ (List.mem_of_getElem? (i := 24) rfl)
theorem Kit.g_law_sample : mg "_law_sample" = some (.ref (He.ga K "_law_sample")) := T.g _ (List.mem_of_getElem? (i := 25) rfl)
theorem Kit.g_law_engine : mg "_law_engine" = some (.ref (He.ga K "_law_engine")) := T.g _ (List.mem_of_getElem? (i := 26) rfl)
theorem Kit.g_law_crowd : mg "_law_crowd" = some (.ref (He.ga K "_law_crowd")) := T.g _ (List.mem_of_getElem? (i := 27) rfl)
theorem Kit.g_law_next : mg "_law_next" = some (.ref (He.ga K "_law_next")) := T.g _ (List.mem_of_getElem? (i := 28) rfl)
theorem Kit.g_law_led : mg "_law_led" = some (.ref (He.ga K "_law_led")) := T.g _ (List.mem_of_getElem? (i := 29) rfl)
theorem Kit.g_law_reached : mg "_law_reached" = some (.ref (He.ga K "_law_reached")) := T.g _ (List.mem_of_getElem? (i := 30) rfl)
theorem Kit.g_law_signs : mg "_law_signs" = some (.ref (He.ga K "_law_signs")) := T.g _ (List.mem_of_getElem? (i := 31) rfl)
theorem Kit.g_law_lore : mg "_law_lore" = some (.ref (He.ga K "_law_lore")) := T.g _ (List.mem_of_getElem? (i := 32) rfl)
theorem Kit.g_law_hush : mg "_law_hush" = some (.ref (He.ga K "_law_hush")) := T.g _ (List.mem_of_getElem? (i := 33) rfl)
theorem Kit.g_law_is_led_right : mg "_law_is_led_right" = some (.ref (He.ga K "_law_is_led_right")) := T.g _ (List.mem_of_getElem? (i := 34) rfl)
theorem Kit.g_law_are_words_right : mg "_law_are_words_right" = some (.ref (He.ga K "_law_are_words_right")) := T.g _ (List.mem_of_getElem? (i := 35) rfl)
theorem Kit.g_law_is_forgotten_right : mg "_law_is_forgotten_right" = some (.ref (He.ga K "_law_is_forgotten_right")) := T.g _ (List.mem_of_getElem? (i := 36) rfl)
theorem Kit.g_law : mg "law" = some (.ref (He.ga K "law")) := T.g _ (List.mem_of_getElem? (i := 37) rfl)
theorem Kit.g_Look : mg "Look" = some (.ref (He.ga K "Look")) := T.g _ (List.mem_of_getElem? (i := 38) rfl)
theorem Kit.cl_Look : Cls K (He.ga K "Look") := He.cls_ok (T.c.fact (List.mem_of_getElem? (i := 39) rfl))
theorem Kit.mk_Look : Mk K (He.ga K "Look") (He.ma K (He.ga K "Look") "__init__") := He.mkr_ok (T.c.fact (List.mem_of_getElem? (i := 40) rfl))
theorem Kit.g_Together : mg "Together" = some (.ref (He.ga K "Together")) := T.g _ (List.mem_of_getElem? (i := 41) rfl)
theorem Kit.cl_Together : Cls K (He.ga K "Together") := He.cls_ok (T.c.fact (List.mem_of_getElem? (i := 42) rfl))
theorem Kit.mk_Together : Mk K (He.ga K "Together") (He.ma K (He.ga K "Together") "__init__") := He.mkr_ok (T.c.fact (List.mem_of_getElem? (i := 43) rfl))
theorem Kit.g_Knowledge : mg "Knowledge" = some (.ref (He.ga K "Knowledge")) := T.g _ (List.mem_of_getElem? (i := 44) rfl)
theorem Kit.cl_Knowledge : Cls K (He.ga K "Knowledge") := He.cls_ok (T.c.fact (List.mem_of_getElem? (i := 45) rfl))
theorem Kit.mk_Knowledge : Mk K (He.ga K "Knowledge") (He.ma K (He.ga K "Knowledge") "__init__") := He.mkr_ok (T.c.fact (List.mem_of_getElem? (i := 46) rfl))
theorem Kit.cl_Spread : Cls K (He.ga K "Spread") := He.cls_ok (T.c.fact (List.mem_of_getElem? (i := 47) rfl))
theorem Kit.n_Look_seen : NoAttr K (He.ga K "Look") "seen" := He.noat_ok (T.c.fact (List.mem_of_getElem? (i := 48) rfl))
theorem Kit.n_Look_signs : NoAttr K (He.ga K "Look") "signs" := He.noat_ok (T.c.fact (List.mem_of_getElem? (i := 49) rfl))
theorem Kit.n_Look_moves : NoAttr K (He.ga K "Look") "moves" := He.noat_ok (T.c.fact (List.mem_of_getElem? (i := 50) rfl))
theorem Kit.n_Together_signs : NoAttr K (He.ga K "Together") "signs" := He.noat_ok (T.c.fact (List.mem_of_getElem? (i := 51) rfl))
theorem Kit.n_Together_looks : NoAttr K (He.ga K "Together") "looks" := He.noat_ok (T.c.fact (List.mem_of_getElem? (i := 52) rfl))
theorem Kit.n_Together_begin : NoAttr K (He.ga K "Together") "begin" := He.noat_ok (T.c.fact (List.mem_of_getElem? (i := 53) rfl))
theorem Kit.n_Knowledge_known : NoAttr K (He.ga K "Knowledge") "known" := He.noat_ok (T.c.fact (List.mem_of_getElem? (i := 54) rfl))
theorem Kit.m_Look_len : Meth K (He.ga K "Look") "__len__" (He.ma K (He.ga K "Look") "__len__") := He.meth_ok (T.c.fact (List.mem_of_getElem? (i := 55) rfl))
theorem Kit.m_Look_need : Meth K (He.ga K "Look") "need" (He.ma K (He.ga K "Look") "need") := He.meth_ok (T.c.fact (List.mem_of_getElem? (i := 56) rfl))
theorem Kit.m_Look_nexts : Meth K (He.ga K "Look") "nexts" (He.ma K (He.ga K "Look") "nexts") := He.meth_ok (T.c.fact (List.mem_of_getElem? (i := 57) rfl))
theorem Kit.m_Look_words : Meth K (He.ga K "Look") "words" (He.ma K (He.ga K "Look") "words") := He.meth_ok (T.c.fact (List.mem_of_getElem? (i := 58) rfl))
theorem Kit.m_Together_need_reading : Meth K (He.ga K "Together") "need_reading" (He.ma K (He.ga K "Together") "need_reading") := He.meth_ok (T.c.fact (List.mem_of_getElem? (i := 59) rfl))
theorem Kit.m_Together_need_standing : Meth K (He.ga K "Together") "need_standing" (He.ma K (He.ga K "Together") "need_standing") := He.meth_ok (T.c.fact (List.mem_of_getElem? (i := 60) rfl))
theorem Kit.m_Together_nexts_of : Meth K (He.ga K "Together") "nexts_of" (He.ma K (He.ga K "Together") "nexts_of") := He.meth_ok (T.c.fact (List.mem_of_getElem? (i := 61) rfl))
theorem Kit.m_Together_led_on : Meth K (He.ga K "Together") "led_on" (He.ma K (He.ga K "Together") "led_on") := He.meth_ok (T.c.fact (List.mem_of_getElem? (i := 62) rfl))
theorem Kit.m_Knowledge_after : Meth K (He.ga K "Knowledge") "after" (He.ma K (He.ga K "Knowledge") "after") := He.meth_ok (T.c.fact (List.mem_of_getElem? (i := 63) rfl))
theorem Kit.m_Knowledge_extended : Meth K (He.ga K "Knowledge") "extended" (He.ma K (He.ga K "Knowledge") "extended") := He.meth_ok (T.c.fact (List.mem_of_getElem? (i := 64) rfl))
theorem Kit.m_Knowledge_forgotten : Meth K (He.ga K "Knowledge") "forgotten" (He.ma K (He.ga K "Knowledge") "forgotten") := He.meth_ok (T.c.fact (List.mem_of_getElem? (i := 65) rfl))
theorem Kit.m_Knowledge_places : Meth K (He.ga K "Knowledge") "places" (He.ma K (He.ga K "Knowledge") "places") := He.meth_ok (T.c.fact (List.mem_of_getElem? (i := 66) rfl))
theorem Kit.m_Knowledge_allows : Meth K (He.ga K "Knowledge") "allows" (He.ma K (He.ga K "Knowledge") "allows") := He.meth_ok (T.c.fact (List.mem_of_getElem? (i := 67) rfl))
theorem Kit.m_Knowledge_need_version : Meth K (He.ga K "Knowledge") "need_version" (He.ma K (He.ga K "Knowledge") "need_version") := He.meth_ok (T.c.fact (List.mem_of_getElem? (i := 68) rfl))
theorem Kit.f_isinstance : mg "isinstance" = none := T.f _ (List.mem_of_getElem? (i := 70) rfl)
theorem Kit.f_int : mg "int" = none := T.f _ (List.mem_of_getElem? (i := 71) rfl)
theorem Kit.f_bool : mg "bool" = none := T.f _ (List.mem_of_getElem? (i := 72) rfl)
theorem Kit.f_any : mg "any" = none := T.f _ (List.mem_of_getElem? (i := 73) rfl)
theorem Kit.f_len : mg "len" = none := T.f _ (List.mem_of_getElem? (i := 74) rfl)
theorem Kit.f_dict : mg "dict" = none := T.f _ (List.mem_of_getElem? (i := 75) rfl)
theorem Kit.f_zip : mg "zip" = none := T.f _ (List.mem_of_getElem? (i := 76) rfl)
theorem Kit.f_tuple : mg "tuple" = none := T.f _ (List.mem_of_getElem? (i := 77) rfl)
theorem Kit.f_range : mg "range" = none := T.f _ (List.mem_of_getElem? (i := 78) rfl)
theorem Kit.f_enumerate : mg "enumerate" = none := T.f _ (List.mem_of_getElem? (i := 79) rfl)
theorem Kit.f_all : mg "all" = none := T.f _ (List.mem_of_getElem? (i := 80) rfl)
theorem Kit.f_sorted : mg "sorted" = none := T.f _ (List.mem_of_getElem? (i := 81) rfl)
theorem Kit.f_set : mg "set" = none := T.f _ (List.mem_of_getElem? (i := 82) rfl)
theorem Kit.f_list : mg "list" = none := T.f _ (List.mem_of_getElem? (i := 83) rfl)
theorem Kit.f_min : mg "min" = none := T.f _ (List.mem_of_getElem? (i := 84) rfl)
theorem Kit.f_max : mg "max" = none := T.f _ (List.mem_of_getElem? (i := 85) rfl)
theorem Kit.f_super : mg "super" = none := T.f _ (List.mem_of_getElem? (i := 86) rfl)
theorem Kit.d_is_integer : ∃ fd, FunD K AN.d_is_integer.name AN.d_is_integer.qual AN.d_is_integer.params AN.d_is_integer.body AN.d_is_integer.scope (AN.d_is_integer.dvs K) (AN.d_is_integer.kws K) (He.ga K "is_integer") fd := DfA.funD (d := AN.d_is_integer) rfl (T.c.all 0 rfl).1 (T.c.all 0 rfl).2
theorem Kit.d_is_number : ∃ fd, FunD K AN.d_is_number.name AN.d_is_number.qual AN.d_is_number.params AN.d_is_number.body AN.d_is_number.scope (AN.d_is_number.dvs K) (AN.d_is_number.kws K) (He.ga K "is_number") fd := DfA.funD (d := AN.d_is_number) rfl (T.c.all 1 rfl).1 (T.c.all 1 rfl).2
theorem Kit.d_require_letters : ∃ fd, FunD K AN.d_require_letters.name AN.d_require_letters.qual AN.d_require_letters.params AN.d_require_letters.body AN.d_require_letters.scope (AN.d_require_letters.dvs K) (AN.d_require_letters.kws K) (He.ga K "require_letters") fd := DfA.funD (d := AN.d_require_letters) rfl (T.c.all 2 rfl).1 (T.c.all 2 rfl).2
theorem Kit.d_require_states : ∃ fd, FunD K AN.d_require_states.name AN.d_require_states.qual AN.d_require_states.params AN.d_require_states.body AN.d_require_states.scope (AN.d_require_states.dvs K) (AN.d_require_states.kws K) (He.ga K "require_states") fd := DfA.funD (d := AN.d_require_states) rfl (T.c.all 3 rfl).1 (T.c.all 3 rfl).2
theorem Kit.d_row_step : ∃ fd, FunD K AN.d_row_step.name AN.d_row_step.qual AN.d_row_step.params AN.d_row_step.body AN.d_row_step.scope (AN.d_row_step.dvs K) (AN.d_row_step.kws K) (He.ga K "row_step") fd := DfA.funD (d := AN.d_row_step) rfl (T.c.all 4 rfl).1 (T.c.all 4 rfl).2
theorem Kit.d_step : ∃ fd, FunD K AN.d_step.name AN.d_step.qual AN.d_step.params AN.d_step.body AN.d_step.scope (AN.d_step.dvs K) (AN.d_step.kws K) (He.ga K "step") fd := DfA.funD (d := AN.d_step) rfl (T.c.all 5 rfl).1 (T.c.all 5 rfl).2
theorem Kit.d_run : ∃ fd, FunD K AN.d_run.name AN.d_run.qual AN.d_run.params AN.d_run.body AN.d_run.scope (AN.d_run.dvs K) (AN.d_run.kws K) (He.ga K "run") fd := DfA.funD (d := AN.d_run) rfl (T.c.all 6 rfl).1 (T.c.all 6 rfl).2
theorem Kit.d_led : ∃ fd, FunD K AN.d_led.name AN.d_led.qual AN.d_led.params AN.d_led.body AN.d_led.scope (AN.d_led.dvs K) (AN.d_led.kws K) (He.ga K "led") fd := DfA.funD (d := AN.d_led) rfl (T.c.all 7 rfl).1 (T.c.all 7 rfl).2
theorem Kit.d_said : ∃ fd, FunD K AN.d_said.name AN.d_said.qual AN.d_said.params AN.d_said.body AN.d_said.scope (AN.d_said.dvs K) (AN.d_said.kws K) (He.ga K "said") fd := DfA.funD (d := AN.d_said) rfl (T.c.all 8 rfl).1 (T.c.all 8 rfl).2
theorem Kit.d_quieted : ∃ fd, FunD K AN.d_quieted.name AN.d_quieted.qual AN.d_quieted.params AN.d_quieted.body AN.d_quieted.scope (AN.d_quieted.dvs K) (AN.d_quieted.kws K) (He.ga K "quieted") fd := DfA.funD (d := AN.d_quieted) rfl (T.c.all 9 rfl).1 (T.c.all 9 rfl).2
theorem Kit.d_refined : ∃ fd, FunD K AN.d_refined.name AN.d_refined.qual AN.d_refined.params AN.d_refined.body AN.d_refined.scope (AN.d_refined.dvs K) (AN.d_refined.kws K) (He.ga K "refined") fd := DfA.funD (d := AN.d_refined) rfl (T.c.all 10 rfl).1 (T.c.all 10 rfl).2
theorem Kit.d_classes_of : ∃ fd, FunD K AN.d_classes_of.name AN.d_classes_of.qual AN.d_classes_of.params AN.d_classes_of.body AN.d_classes_of.scope (AN.d_classes_of.dvs K) (AN.d_classes_of.kws K) (He.ga K "classes_of") fd := DfA.funD (d := AN.d_classes_of) rfl (T.c.all 11 rfl).1 (T.c.all 11 rfl).2
theorem Kit.d_are_alike : ∃ fd, FunD K AN.d_are_alike.name AN.d_are_alike.qual AN.d_are_alike.params AN.d_are_alike.body AN.d_are_alike.scope (AN.d_are_alike.dvs K) (AN.d_are_alike.kws K) (He.ga K "are_alike") fd := DfA.funD (d := AN.d_are_alike) rfl (T.c.all 12 rfl).1 (T.c.all 12 rfl).2
theorem Kit.d_true_states : ∃ fd, FunD K AN.d_true_states.name AN.d_true_states.qual AN.d_true_states.params AN.d_true_states.body AN.d_true_states.scope (AN.d_true_states.dvs K) (AN.d_true_states.kws K) (He.ga K "true_states") fd := DfA.funD (d := AN.d_true_states) rfl (T.c.all 13 rfl).1 (T.c.all 13 rfl).2
theorem Kit.d_is_true : ∃ fd, FunD K AN.d_is_true.name AN.d_is_true.qual AN.d_is_true.params AN.d_is_true.body AN.d_is_true.scope (AN.d_is_true.dvs K) (AN.d_is_true.kws K) (He.ga K "is_true") fd := DfA.funD (d := AN.d_is_true) rfl (T.c.all 14 rfl).1 (T.c.all 14 rfl).2
theorem Kit.d_is_ready : ∃ fd, FunD K AN.d_is_ready.name AN.d_is_ready.qual AN.d_is_ready.params AN.d_is_ready.body AN.d_is_ready.scope (AN.d_is_ready.dvs K) (AN.d_is_ready.kws K) (He.ga K "is_ready") fd := DfA.funD (d := AN.d_is_ready) rfl (T.c.all 15 rfl).1 (T.c.all 15 rfl).2
theorem Kit.d_ready_versions : ∃ fd, FunD K AN.d_ready_versions.name AN.d_ready_versions.qual AN.d_ready_versions.params AN.d_ready_versions.body AN.d_ready_versions.scope (AN.d_ready_versions.dvs K) (AN.d_ready_versions.kws K) (He.ga K "ready_versions") fd := DfA.funD (d := AN.d_ready_versions) rfl (T.c.all 16 rfl).1 (T.c.all 16 rfl).2
theorem Kit.d_standing_after : ∃ fd, FunD K AN.d_standing_after.name AN.d_standing_after.qual AN.d_standing_after.params AN.d_standing_after.body AN.d_standing_after.scope (AN.d_standing_after.dvs K) (AN.d_standing_after.kws K) (He.ga K "standing_after") fd := DfA.funD (d := AN.d_standing_after) rfl (T.c.all 17 rfl).1 (T.c.all 17 rfl).2
theorem Kit.d_standings_led : ∃ fd, FunD K AN.d_standings_led.name AN.d_standings_led.qual AN.d_standings_led.params AN.d_standings_led.body AN.d_standings_led.scope (AN.d_standings_led.dvs K) (AN.d_standings_led.kws K) (He.ga K "standings_led") fd := DfA.funD (d := AN.d_standings_led) rfl (T.c.all 18 rfl).1 (T.c.all 18 rfl).2
theorem Kit.d_require_known : ∃ fd, FunD K AN.d_require_known.name AN.d_require_known.qual AN.d_require_known.params AN.d_require_known.body AN.d_require_known.scope (AN.d_require_known.dvs K) (AN.d_require_known.kws K) (He.ga K "require_known") fd := DfA.funD (d := AN.d_require_known) rfl (T.c.all 19 rfl).1 (T.c.all 19 rfl).2
theorem Kit.d_check_versions : ∃ fd, FunD K AN.d_check_versions.name AN.d_check_versions.qual AN.d_check_versions.params AN.d_check_versions.body AN.d_check_versions.scope (AN.d_check_versions.dvs K) (AN.d_check_versions.kws K) (He.ga K "check_versions") fd := DfA.funD (d := AN.d_check_versions) rfl (T.c.all 20 rfl).1 (T.c.all 20 rfl).2
theorem Kit.d_is_standing : ∃ fd, FunD K AN.d_is_standing.name AN.d_is_standing.qual AN.d_is_standing.params AN.d_is_standing.body AN.d_is_standing.scope (AN.d_is_standing.dvs K) (AN.d_is_standing.kws K) (He.ga K "is_standing") fd := DfA.funD (d := AN.d_is_standing) rfl (T.c.all 21 rfl).1 (T.c.all 21 rfl).2
theorem Kit.d_all_reached : ∃ fd, FunD K AN.d_all_reached.name AN.d_all_reached.qual AN.d_all_reached.params AN.d_all_reached.body AN.d_all_reached.scope (AN.d_all_reached.dvs K) (AN.d_all_reached.kws K) (He.ga K "all_reached") fd := DfA.funD (d := AN.d_all_reached) rfl (T.c.all 22 rfl).1 (T.c.all 22 rfl).2
theorem Kit.d_law_source : ∃ fd, FunD K AN.d_law_source.name AN.d_law_source.qual AN.d_law_source.params AN.d_law_source.body AN.d_law_source.scope (AN.d_law_source.dvs K) (AN.d_law_source.kws K) (He.ga K "_law_source") fd := DfA.funD (d := AN.d_law_source) rfl (T.c.all 23 rfl).1 (T.c.all 23 rfl).2
theorem Kit.d_law_draw : ∃ fd, FunD K AN.d_law_draw.name AN.d_law_draw.qual AN.d_law_draw.params AN.d_law_draw.body AN.d_law_draw.scope (AN.d_law_draw.dvs K) (AN.d_law_draw.kws K) (He.ga K "_law_draw") fd := DfA.funD (d := AN.d_law_draw) rfl (T.c.all 24 rfl).1 (T.c.all 24 rfl).2
theorem Kit.d_law_sample : ∃ fd, FunD K AN.d_law_sample.name AN.d_law_sample.qual AN.d_law_sample.params AN.d_law_sample.body AN.d_law_sample.scope (AN.d_law_sample.dvs K) (AN.d_law_sample.kws K) (He.ga K "_law_sample") fd := DfA.funD (d := AN.d_law_sample) rfl (T.c.all 25 rfl).1 (T.c.all 25 rfl).2
theorem Kit.d_law_engine : ∃ fd, FunD K AN.d_law_engine.name AN.d_law_engine.qual AN.d_law_engine.params AN.d_law_engine.body AN.d_law_engine.scope (AN.d_law_engine.dvs K) (AN.d_law_engine.kws K) (He.ga K "_law_engine") fd := DfA.funD (d := AN.d_law_engine) rfl (T.c.all 26 rfl).1 (T.c.all 26 rfl).2
theorem Kit.d_law_crowd : ∃ fd, FunD K AN.d_law_crowd.name AN.d_law_crowd.qual AN.d_law_crowd.params AN.d_law_crowd.body AN.d_law_crowd.scope (AN.d_law_crowd.dvs K) (AN.d_law_crowd.kws K) (He.ga K "_law_crowd") fd := DfA.funD (d := AN.d_law_crowd) rfl (T.c.all 27 rfl).1 (T.c.all 27 rfl).2
theorem Kit.d_law_next : ∃ fd, FunD K AN.d_law_next.name AN.d_law_next.qual AN.d_law_next.params AN.d_law_next.body AN.d_law_next.scope (AN.d_law_next.dvs K) (AN.d_law_next.kws K) (He.ga K "_law_next") fd := DfA.funD (d := AN.d_law_next) rfl (T.c.all 28 rfl).1 (T.c.all 28 rfl).2
theorem Kit.d_law_led : ∃ fd, FunD K AN.d_law_led.name AN.d_law_led.qual AN.d_law_led.params AN.d_law_led.body AN.d_law_led.scope (AN.d_law_led.dvs K) (AN.d_law_led.kws K) (He.ga K "_law_led") fd := DfA.funD (d := AN.d_law_led) rfl (T.c.all 29 rfl).1 (T.c.all 29 rfl).2
theorem Kit.d_law_reached : ∃ fd, FunD K AN.d_law_reached.name AN.d_law_reached.qual AN.d_law_reached.params AN.d_law_reached.body AN.d_law_reached.scope (AN.d_law_reached.dvs K) (AN.d_law_reached.kws K) (He.ga K "_law_reached") fd := DfA.funD (d := AN.d_law_reached) rfl (T.c.all 30 rfl).1 (T.c.all 30 rfl).2
theorem Kit.d_law_signs : ∃ fd, FunD K AN.d_law_signs.name AN.d_law_signs.qual AN.d_law_signs.params AN.d_law_signs.body AN.d_law_signs.scope (AN.d_law_signs.dvs K) (AN.d_law_signs.kws K) (He.ga K "_law_signs") fd := DfA.funD (d := AN.d_law_signs) rfl (T.c.all 31 rfl).1 (T.c.all 31 rfl).2
theorem Kit.d_law_lore : ∃ fd, FunD K AN.d_law_lore.name AN.d_law_lore.qual AN.d_law_lore.params AN.d_law_lore.body AN.d_law_lore.scope (AN.d_law_lore.dvs K) (AN.d_law_lore.kws K) (He.ga K "_law_lore") fd := DfA.funD (d := AN.d_law_lore) rfl (T.c.all 32 rfl).1 (T.c.all 32 rfl).2
theorem Kit.d_law_hush : ∃ fd, FunD K AN.d_law_hush.name AN.d_law_hush.qual AN.d_law_hush.params AN.d_law_hush.body AN.d_law_hush.scope (AN.d_law_hush.dvs K) (AN.d_law_hush.kws K) (He.ga K "_law_hush") fd := DfA.funD (d := AN.d_law_hush) rfl (T.c.all 33 rfl).1 (T.c.all 33 rfl).2
theorem Kit.d_law_is_led_right : ∃ fd, FunD K AN.d_law_is_led_right.name AN.d_law_is_led_right.qual AN.d_law_is_led_right.params AN.d_law_is_led_right.body AN.d_law_is_led_right.scope (AN.d_law_is_led_right.dvs K) (AN.d_law_is_led_right.kws K) (He.ga K "_law_is_led_right") fd := DfA.funD (d := AN.d_law_is_led_right) rfl (T.c.all 34 rfl).1 (T.c.all 34 rfl).2
theorem Kit.d_law_are_words_right : ∃ fd, FunD K AN.d_law_are_words_right.name AN.d_law_are_words_right.qual AN.d_law_are_words_right.params AN.d_law_are_words_right.body AN.d_law_are_words_right.scope (AN.d_law_are_words_right.dvs K) (AN.d_law_are_words_right.kws K) (He.ga K "_law_are_words_right") fd := DfA.funD (d := AN.d_law_are_words_right) rfl (T.c.all 35 rfl).1 (T.c.all 35 rfl).2
theorem Kit.d_law_is_forgotten_right : ∃ fd, FunD K AN.d_law_is_forgotten_right.name AN.d_law_is_forgotten_right.qual AN.d_law_is_forgotten_right.params AN.d_law_is_forgotten_right.body AN.d_law_is_forgotten_right.scope (AN.d_law_is_forgotten_right.dvs K) (AN.d_law_is_forgotten_right.kws K) (He.ga K "_law_is_forgotten_right") fd := DfA.funD (d := AN.d_law_is_forgotten_right) rfl (T.c.all 36 rfl).1 (T.c.all 36 rfl).2
theorem Kit.d_law : ∃ fd, FunD K AN.d_law.name AN.d_law.qual AN.d_law.params AN.d_law.body AN.d_law.scope (AN.d_law.dvs K) (AN.d_law.kws K) (He.ga K "law") fd := DfA.funD (d := AN.d_law) rfl (T.c.all 37 rfl).1 (T.c.all 37 rfl).2
theorem Kit.d_Look_init : ∃ fd, FunD K AN.d_Look_init.name AN.d_Look_init.qual AN.d_Look_init.params AN.d_Look_init.body AN.d_Look_init.scope (AN.d_Look_init.dvs K) (AN.d_Look_init.kws K) (AN.d_Look_init.at_ K) fd := DfA.funD (d := AN.d_Look_init) rfl (T.c.all 38 rfl).1 (T.c.all 38 rfl).2
theorem Kit.d_Look_len : ∃ fd, FunD K AN.d_Look_len.name AN.d_Look_len.qual AN.d_Look_len.params AN.d_Look_len.body AN.d_Look_len.scope (AN.d_Look_len.dvs K) (AN.d_Look_len.kws K) (AN.d_Look_len.at_ K) fd := DfA.funD (d := AN.d_Look_len) rfl (T.c.all 39 rfl).1 (T.c.all 39 rfl).2
theorem Kit.d_Look_need : ∃ fd, FunD K AN.d_Look_need.name AN.d_Look_need.qual AN.d_Look_need.params AN.d_Look_need.body AN.d_Look_need.scope (AN.d_Look_need.dvs K) (AN.d_Look_need.kws K) (AN.d_Look_need.at_ K) fd := DfA.funD (d := AN.d_Look_need) rfl (T.c.all 40 rfl).1 (T.c.all 40 rfl).2
theorem Kit.d_Look_nexts : ∃ fd, FunD K AN.d_Look_nexts.name AN.d_Look_nexts.qual AN.d_Look_nexts.params AN.d_Look_nexts.body AN.d_Look_nexts.scope (AN.d_Look_nexts.dvs K) (AN.d_Look_nexts.kws K) (AN.d_Look_nexts.at_ K) fd := DfA.funD (d := AN.d_Look_nexts) rfl (T.c.all 41 rfl).1 (T.c.all 41 rfl).2
theorem Kit.d_Look_words : ∃ fd, FunD K AN.d_Look_words.name AN.d_Look_words.qual AN.d_Look_words.params AN.d_Look_words.body AN.d_Look_words.scope (AN.d_Look_words.dvs K) (AN.d_Look_words.kws K) (AN.d_Look_words.at_ K) fd := DfA.funD (d := AN.d_Look_words) rfl (T.c.all 42 rfl).1 (T.c.all 42 rfl).2
theorem Kit.d_Spread_init : ∃ fd, FunD K AN.d_Spread_init.name AN.d_Spread_init.qual AN.d_Spread_init.params AN.d_Spread_init.body AN.d_Spread_init.scope (AN.d_Spread_init.dvs K) (AN.d_Spread_init.kws K) (AN.d_Spread_init.at_ K) fd := DfA.funD (d := AN.d_Spread_init) rfl (T.c.all 43 rfl).1 (T.c.all 43 rfl).2
theorem Kit.d_Together_init : ∃ cdv cc fd, FunS K AN.d_Together_init.name AN.d_Together_init.qual AN.d_Together_init.params AN.d_Together_init.body AN.d_Together_init.scope (AN.d_Together_init.at_ K) cdv cc fd := DfA.funS (d := AN.d_Together_init) rfl rfl (T.c.all 44 rfl).1 (T.c.all 44 rfl).2
theorem Kit.d_Together_need_reading : ∃ fd, FunD K AN.d_Together_need_reading.name AN.d_Together_need_reading.qual AN.d_Together_need_reading.params AN.d_Together_need_reading.body AN.d_Together_need_reading.scope (AN.d_Together_need_reading.dvs K) (AN.d_Together_need_reading.kws K) (AN.d_Together_need_reading.at_ K) fd := DfA.funD (d := AN.d_Together_need_reading) rfl (T.c.all 45 rfl).1 (T.c.all 45 rfl).2
theorem Kit.d_Together_need_standing : ∃ fd, FunD K AN.d_Together_need_standing.name AN.d_Together_need_standing.qual AN.d_Together_need_standing.params AN.d_Together_need_standing.body AN.d_Together_need_standing.scope (AN.d_Together_need_standing.dvs K) (AN.d_Together_need_standing.kws K) (AN.d_Together_need_standing.at_ K) fd := DfA.funD (d := AN.d_Together_need_standing) rfl (T.c.all 46 rfl).1 (T.c.all 46 rfl).2
theorem Kit.d_Together_nexts_of : ∃ fd, FunD K AN.d_Together_nexts_of.name AN.d_Together_nexts_of.qual AN.d_Together_nexts_of.params AN.d_Together_nexts_of.body AN.d_Together_nexts_of.scope (AN.d_Together_nexts_of.dvs K) (AN.d_Together_nexts_of.kws K) (AN.d_Together_nexts_of.at_ K) fd := DfA.funD (d := AN.d_Together_nexts_of) rfl (T.c.all 47 rfl).1 (T.c.all 47 rfl).2
theorem Kit.d_Together_led_on : ∃ fd, FunD K AN.d_Together_led_on.name AN.d_Together_led_on.qual AN.d_Together_led_on.params AN.d_Together_led_on.body AN.d_Together_led_on.scope (AN.d_Together_led_on.dvs K) (AN.d_Together_led_on.kws K) (AN.d_Together_led_on.at_ K) fd := DfA.funD (d := AN.d_Together_led_on) rfl (T.c.all 48 rfl).1 (T.c.all 48 rfl).2
theorem Kit.d_Knowledge_init : ∃ fd, FunD K AN.d_Knowledge_init.name AN.d_Knowledge_init.qual AN.d_Knowledge_init.params AN.d_Knowledge_init.body AN.d_Knowledge_init.scope (AN.d_Knowledge_init.dvs K) (AN.d_Knowledge_init.kws K) (AN.d_Knowledge_init.at_ K) fd := DfA.funD (d := AN.d_Knowledge_init) rfl (T.c.all 49 rfl).1 (T.c.all 49 rfl).2
theorem Kit.d_Knowledge_versions : ∃ fd, FunD K AN.d_Knowledge_versions.name AN.d_Knowledge_versions.qual AN.d_Knowledge_versions.params AN.d_Knowledge_versions.body AN.d_Knowledge_versions.scope (AN.d_Knowledge_versions.dvs K) (AN.d_Knowledge_versions.kws K) (AN.d_Knowledge_versions.at_ K) fd := DfA.funD (d := AN.d_Knowledge_versions) rfl (T.c.all 50 rfl).1 (T.c.all 50 rfl).2
theorem Kit.d_Knowledge_standings : ∃ fd, FunD K AN.d_Knowledge_standings.name AN.d_Knowledge_standings.qual AN.d_Knowledge_standings.params AN.d_Knowledge_standings.body AN.d_Knowledge_standings.scope (AN.d_Knowledge_standings.dvs K) (AN.d_Knowledge_standings.kws K) (AN.d_Knowledge_standings.at_ K) fd := DfA.funD (d := AN.d_Knowledge_standings) rfl (T.c.all 51 rfl).1 (T.c.all 51 rfl).2
theorem Kit.d_Knowledge_call : ∃ fd, FunD K AN.d_Knowledge_call.name AN.d_Knowledge_call.qual AN.d_Knowledge_call.params AN.d_Knowledge_call.body AN.d_Knowledge_call.scope (AN.d_Knowledge_call.dvs K) (AN.d_Knowledge_call.kws K) (AN.d_Knowledge_call.at_ K) fd := DfA.funD (d := AN.d_Knowledge_call) rfl (T.c.all 52 rfl).1 (T.c.all 52 rfl).2
theorem Kit.d_Knowledge_after : ∃ fd, FunD K AN.d_Knowledge_after.name AN.d_Knowledge_after.qual AN.d_Knowledge_after.params AN.d_Knowledge_after.body AN.d_Knowledge_after.scope (AN.d_Knowledge_after.dvs K) (AN.d_Knowledge_after.kws K) (AN.d_Knowledge_after.at_ K) fd := DfA.funD (d := AN.d_Knowledge_after) rfl (T.c.all 53 rfl).1 (T.c.all 53 rfl).2
theorem Kit.d_Knowledge_extended : ∃ fd, FunD K AN.d_Knowledge_extended.name AN.d_Knowledge_extended.qual AN.d_Knowledge_extended.params AN.d_Knowledge_extended.body AN.d_Knowledge_extended.scope (AN.d_Knowledge_extended.dvs K) (AN.d_Knowledge_extended.kws K) (AN.d_Knowledge_extended.at_ K) fd := DfA.funD (d := AN.d_Knowledge_extended) rfl (T.c.all 54 rfl).1 (T.c.all 54 rfl).2
theorem Kit.d_Knowledge_forgotten : ∃ fd, FunD K AN.d_Knowledge_forgotten.name AN.d_Knowledge_forgotten.qual AN.d_Knowledge_forgotten.params AN.d_Knowledge_forgotten.body AN.d_Knowledge_forgotten.scope (AN.d_Knowledge_forgotten.dvs K) (AN.d_Knowledge_forgotten.kws K) (AN.d_Knowledge_forgotten.at_ K) fd := DfA.funD (d := AN.d_Knowledge_forgotten) rfl (T.c.all 55 rfl).1 (T.c.all 55 rfl).2
theorem Kit.d_Knowledge_places : ∃ fd, FunD K AN.d_Knowledge_places.name AN.d_Knowledge_places.qual AN.d_Knowledge_places.params AN.d_Knowledge_places.body AN.d_Knowledge_places.scope (AN.d_Knowledge_places.dvs K) (AN.d_Knowledge_places.kws K) (AN.d_Knowledge_places.at_ K) fd := DfA.funD (d := AN.d_Knowledge_places) rfl (T.c.all 56 rfl).1 (T.c.all 56 rfl).2
theorem Kit.d_Knowledge_allows : ∃ fd, FunD K AN.d_Knowledge_allows.name AN.d_Knowledge_allows.qual AN.d_Knowledge_allows.params AN.d_Knowledge_allows.body AN.d_Knowledge_allows.scope (AN.d_Knowledge_allows.dvs K) (AN.d_Knowledge_allows.kws K) (AN.d_Knowledge_allows.at_ K) fd := DfA.funD (d := AN.d_Knowledge_allows) rfl (T.c.all 57 rfl).1 (T.c.all 57 rfl).2
theorem Kit.d_Knowledge_need_version : ∃ fd, FunD K AN.d_Knowledge_need_version.name AN.d_Knowledge_need_version.qual AN.d_Knowledge_need_version.params AN.d_Knowledge_need_version.body AN.d_Knowledge_need_version.scope (AN.d_Knowledge_need_version.dvs K) (AN.d_Knowledge_need_version.kws K) (AN.d_Knowledge_need_version.at_ K) fd := DfA.funD (d := AN.d_Knowledge_need_version) rfl (T.c.all 58 rfl).1 (T.c.all 58 rfl).2
theorem Kit.ex : exB K = true := T.c.more
theorem Kit.p_versions : PropOf K (He.ga K "Knowledge") "versions" (prAt "Knowledge" "versions" K) (gtAt "Knowledge" "versions" K) := propB_ok (He.ba T.ex).1
theorem Kit.p_standings : PropOf K (He.ga K "Knowledge") "standings" (prAt "Knowledge" "standings" K) (gtAt "Knowledge" "standings" K) := propB_ok (He.ba (He.ba T.ex).2).1
theorem Kit.callO : StX.CallO K (He.ga K "Knowledge") (He.ma K (He.ga K "Knowledge") "__call__") := clB_ok (He.ba (He.ba (He.ba T.ex).2).2).1
theorem Kit.look0 (H : Hp) : SqT K H (dfAt (fun K => He.ma K (He.ga K "Look") "__init__") 0 K) [] := mtB_ok (He.ba (He.ba (He.ba (He.ba T.ex).2).2).2).1 H
theorem Kit.tail0 (H : Hp) : SqT K H (kwAt (fun K => He.ma K (He.ga K "Knowledge") "extended") "tail" K) [] := mtB_ok (He.ba (He.ba (He.ba (He.ba (He.ba T.ex).2).2).2).2).1 H
theorem Kit.sup1 : suAt "Together" "__init__" K = He.ma K (He.ga K "Spread") "__init__" := of_decide_eq_true (He.ba (He.ba (He.ba (He.ba (He.ba (He.ba T.ex).2).2).2).2).2).1
theorem Kit.sup2 : supB PySem.Challenge.pw_alwaysnew_k39_whole_readiness "Together" "__init__" K = true := (He.ba (He.ba (He.ba (He.ba (He.ba (He.ba T.ex).2).2).2).2).2).2
end
end AN
end

-- ANw0
section
set_option Elab.async false
set_option linter.all false
set_option maxRecDepth 100000
set_option maxHeartbeats 4000000
/-! How a def of the text is walked: its promise, called by name. -/
namespace AN
open PySem PySem.Spec PyProof.Rows L2 StX
open Evl (Ex)

theorem cx0_up : CXUp CX0 := cxUp_none
theorem hu_of65 {A : Around} {k : Nat} (hr : Room k A) : A.units + 65 < cLine := by
  have := hr.un
  omega
/-- the def at f keeps sp, and may be called -/
def GF (P : Program) (w : World) (K : PySem.W.Frag) (mg : PySem.Str → Option Value) (base : Heap) (k : Nat) (f : Addr) (sp : Sp) : Prop := FnR P w K mg base CX0 k f sp ∧ PySem.W.keepIn K (.ref f) = true
section
variable {P : Program} {w : World} {K : PySem.W.Frag} {mg : PySem.Str → Option Value} {base : Heap} {x qual : PySem.Str} {params : Arguments} {body : List Stmt} {scope : Scope} {kws : List (PySem.Str × V)} {dvs : List V} {f : Addr} {fd : FuncData} {N ps : List PySem.Str} {k : Nat} {sp : Sp}
theorem rr (F : FunD K x qual params body scope [] kws f fd) (S : FnScope N ps scope) (len : ∀ vs H Q E, sp vs H Q E → vs.length = ps.length)
    (hb : ∀ (kV doc pm : Value) (an : Option Addr) (cdv ct : Value) (us : List Value), us.length = ps.length → bindArgs (PySem.W.fnOf x qual params body scope .none kV doc pm an cdv ct) ⟨us, []⟩ = pure (ps.zip us))
    (hbody : ∀ (cdv : Value) (A : Around) (outer : List Env) (s : Shared) (H : Hp) (vs : List V) (Q : VK) (E : XK), Room k (A.deeper (envOfC qual scope s.heap.objs.size f cdv)) → sp vs H Q E →
      ∃ t, PSs (cxOf CX0 P w K mg base N qual scope f cdv A outer s H E) body t ∧ t { nx := fun _ H' => Q .non H', rt := Q } (L2.start N vs) H) : GF P w K mg base (k + 1) f sp :=
  ⟨(FnOk.raw (dvs := []) (F.ok S len hbody) (F.bindsN hb) .nil).imp fun vs H Q E h => by simpa using h, F.kp⟩
/-- a def with *rest -/
theorem rrS {pv : PySem.Str} (F : FunD K x qual params body scope [] kws f fd) (S : FnScope N (ps ++ [pv]) scope)
    (hb : ∀ (kV doc pm : Value) (an : Option Addr) (cdv ct : Value) (us rest : List Value), us.length = ps.length → bindArgs (PySem.W.fnOf x qual params body scope .none kV doc pm an cdv ct) ⟨us ++ rest, []⟩ = (newTuple rest >>= fun t => pure (ps.zip us ++ [(pv, t)])))
    (hbody : ∀ (cdv : Value) (A : Around) (outer : List Env) (s : Shared) (H : Hp) (vs : List V) (Q : VK) (E : XK), Room k (A.deeper (envOfC qual scope s.heap.objs.size f cdv)) → sp vs H Q E →
      ∃ t, PSs (cxOf CX0 P w K mg base N qual scope f cdv A outer s H E) body t ∧ t { nx := fun _ H' => Q .non H', rt := Q } (L2.start N vs) H) :
    GF P w K mg base (k + 1) f (fun vs H Q E => ∃ ws rest, vs = ws ++ rest ∧ ws.length = ps.length ∧ rest.length ≤ sizeLine ∧ ∀ p, H p = Option.none → sp (ws ++ [V.ref p]) (upd H p (.tup rest)) Q E) := by
  obtain ⟨oc, od, dV, kV, doc, pm, an, cdv, ct, osl, rfl, lk, hcd, hD, _⟩ := F.ex
  rcases hD with ⟨_, rfl⟩ | ⟨e, _⟩
  · exact ⟨fn_star lk hcd S cx0_up (fun us rest => hb kV doc pm an cdv ct us rest) (fun A outer s H vs Q E hr hsp => hbody cdv A outer s H vs Q E hr hsp), F.kp⟩
  · exact absurd rfl e
end
theorem GF.imp {P : Program} {w : World} {K : PySem.W.Frag} {mg : PySem.Str → Option Value} {base : Heap} {k : Nat} {f : Addr} {sp sp' : Sp} (G : GF P w K mg base k f sp) (h : ∀ vs H Q E, sp' vs H Q E → sp vs H Q E) : GF P w K mg base k f sp' := ⟨G.1.imp h, G.2⟩
section
variable {X : Cx} {k : Nat} {f : Addr} {sp : Sp} {x : PySem.Str} {p pos : Pos} {e : Expr} {es : List Expr} {t : TA}
/-- f(..) of such a def -/
def tR (sp : Sp) (t : TA) : TE := fun σ H Q => t σ H fun vs H1 => sp vs H1 Q E0
theorem pe_gf (G : GF X.prog X.w X.K X.mg X.base k f sp) (hr : Room k X.A) (hg : Gl X x) (hm : X.mg x = some (.ref f)) (hx : Passes CX0 X E0) (ha : PA X (e :: es) t) (hdb : (x == ("__debug__" : PySem.Str)) = false := by decide)
    (he : starEach (e :: es) X.env = (false, eval e X.env) :: starEach es X.env := by rfl) (hpl : (backTo pos (starEach es X.env)).any (·.1) = false := by rfl) : PE X (.Call (.Name x p) (e :: es) [] pos) (tR sp t) := by
  refine ⟨fun pins s σ H Q I h => ?_⟩
  refine wpAny_Call_Name_kw (ld_glob I hg hm ?_ hdb)
  refine PySem.W.callWith_K (h₀ := X.base) I.ok.mod.kin G.2 (thn (ha.run pos pins s σ H _ I h) fun us s1 ⟨vs, H1, I1, r, q⟩ => ⟨I1.kIn, ?_⟩) he hpl
  exact wpAny_call (run_fnR G.1 hr hx I1 r q)
end

/-- a def with keyword-only parameters, called by keywords -/
def GK (P : Program) (w : World) (K : PySem.W.Frag) (mg : PySem.Str → Option Value) (base : Heap) (k : Nat) (f : Addr) (n : Nat) (ks : List PySem.Str) (sp : Sp) : Prop :=
  (∃ fd ps g, FnOk P w K mg base CX0 k f fd ps sp ∧ KBn K fd ps n ks g (fun vs zs => vs ++ zs)) ∧ PySem.W.keepIn K (.ref f) = true
theorem pe_gk {X : Cx} {k n : Nat} {f : Addr} {ks : List PySem.Str} {sp : Sp} {x : PySem.Str} {p pos : Pos} {e : Expr} {es : List Expr} {kws : List Keyword} {t tk : TA} (G : GK X.prog X.w X.K X.mg X.base k f n ks sp) (hr : Room k X.A) (hg : Gl X x) (hm : X.mg x = some (.ref f)) (hx : Passes CX0 X E0)
    (ha : PA X (e :: es) t) (hkw : PK X kws tk) (hall : (backToKw pos (keywordEach kws X.env)).all (·.1.isSome) = true := by rfl) (hks : (backToKw pos (keywordEach kws X.env)).filterMap (·.1) = ks := by rfl)
    (hdb : (x == ("__debug__" : PySem.Str)) = false := by decide) (he : starEach (e :: es) X.env = (false, eval e X.env) :: starEach es X.env := by rfl)
    (hpl : ((backTo pos (starEach (e :: es) X.env)).any (·.1) || (backToKw pos (keywordEach kws X.env)).any (·.1.isNone)) = false := by rfl) :
    PE X (.Call (.Name x p) (e :: es) kws pos) (tCallN n ks.length sp (fun vs zs => vs ++ zs) E0 t tk) := by
  refine ⟨fun pins s σ H Q I h => ?_⟩
  obtain ⟨⟨fd, ps, g, F, hb⟩, kp⟩ := G
  exact (pe_callN F hr hg hm kp hb hx ha hkw hall hks hdb he hpl).run pins s σ H Q I h
def rLenK (K : PySem.W.Frag) : List V → Hp → VK → Prop := fun xs H Q => ∃ p ys, xs = [.ref p] ∧ (SqL K H p ys ∨ SqT K H p ys) ∧ Q (.int ys.length) H
def rTupleK (K : PySem.W.Frag) : List V → Hp → VK → Prop := fun xs H Q => ∃ p ys, xs = [.ref p] ∧ ((SqL K H p ys ∧ ∀ l, H l = none → Q (.ref l) (upd H l (.tup ys))) ∨ (SqT K H p ys ∧ Q (.ref p) H))
def rListK (K : PySem.W.Frag) : List V → Hp → VK → Prop := fun xs H Q => ∃ p ys, xs = [.ref p] ∧ (SqL K H p ys ∨ SqT K H p ys) ∧ ∀ l, H l = none → Q (.ref l) (upd H l (.lst ys))
/-- what is asked and given, by arity -/
abbrev B1 := V → Hp → VK → Prop
abbrev B2 := V → V → Hp → VK → Prop
abbrev B3 := V → V → V → Hp → VK → Prop
abbrev B4 := V → V → V → V → Hp → VK → Prop
abbrev B5 := V → V → V → V → V → Hp → VK → Prop
def sp1 (B : B1) : Sp := fun vs H Q _ => ∃ a, vs = [a] ∧ B a H Q
def sp2 (B : B2) : Sp := fun vs H Q _ => ∃ a b, vs = [a, b] ∧ B a b H Q
def sp3 (B : B3) : Sp := fun vs H Q _ => ∃ a b c, vs = [a, b, c] ∧ B a b c H Q
def sp4 (B : B4) : Sp := fun vs H Q _ => ∃ a b c d, vs = [a, b, c, d] ∧ B a b c d H Q
def sp5 (B : B5) : Sp := fun vs H Q _ => ∃ a b c d e, vs = [a, b, c, d, e] ∧ B a b c d e H Q
theorem len1 {B : B1} (vs : List V) (H : Hp) (Q : VK) (E : XK) (h : sp1 B vs H Q E) : vs.length = 1 := by
  obtain ⟨a, rfl, _⟩ := h
  rfl
theorem len2 {B : B2} (vs : List V) (H : Hp) (Q : VK) (E : XK) (h : sp2 B vs H Q E) : vs.length = 2 := by
  obtain ⟨a, b, rfl, _⟩ := h
  rfl
theorem len3 {B : B3} (vs : List V) (H : Hp) (Q : VK) (E : XK) (h : sp3 B vs H Q E) : vs.length = 3 := by
  obtain ⟨a, b, c, rfl, _⟩ := h
  rfl
theorem len4 {B : B4} (vs : List V) (H : Hp) (Q : VK) (E : XK) (h : sp4 B vs H Q E) : vs.length = 4 := by
  obtain ⟨a, b, c, d, rfl, _⟩ := h
  rfl
theorem len5 {B : B5} (vs : List V) (H : Hp) (Q : VK) (E : XK) (h : sp5 B vs H Q E) : vs.length = 5 := by
  obtain ⟨a, b, c, d, e, rfl, _⟩ := h
  rfl
/-- the promise's end: what stands is kept, the value is as R says -/
abbrev Ret (H : Hp) (R : VP) (Q : VK) : Prop := ∀ v H', Ex H H' → R v H' → Q v H'

section
variable {P : Program} {w : World} {K : PySem.W.Frag} {mg : PySem.Str → Option Value} {base : Heap} (T : Kit K mg)
include T
theorem w_is_integer : GF P w K mg base 1 (He.ga K "is_integer") (sp1 fun x H Q => ∃ i : Int, x = .int i ∧ Q (.bl true) H) := by
  obtain ⟨fd, F⟩ := T.d_is_integer
  refine rr F (N := ["thing"]) (ps := ["thing"]) ⟨rfl, rfl, rfl, by decide +kernel, rfl, by decide +kernel, by decide +kernel⟩ len1 (fun _ _ _ _ _ _ us hl => match us, hl with | [_], _ => rfl) (fun cdv A outer s H vs Q E hr h => ?_)
  obtain ⟨x, rfl, i, rfl, q⟩ := h
  have hI : ∀ y, (cxOf CX0 P w K mg base ["thing"] (AN.d_is_integer).qual (AN.d_is_integer).scope (He.ga K "is_integer") cdv A outer s H E).mg y = mg y := fun _ => rfl
  refine ⟨_, pss_one (ps_ret (pe_and (pe_callB call_isi (by rfl) (T.f_isinstance) (by decide +kernel) (pa_cons (pv 0) (pa_cons (pe_bltn (v := .ty "int") (u := .type "int") (by rfl) T.f_int (by decide +kernel) rfl) pa_nil)))
    (pe_one (pe_not (pe_callB call_isi (by rfl) (T.f_isinstance) (by decide +kernel) (pa_cons (pv 0) (pa_cons (pe_bltn (v := .ty "bool") (u := .type "bool") (by rfl) T.f_bool (by decide +kernel) rfl) pa_nil))))))), ?_⟩
  refine ⟨_, rfl, _, _, _, _, true, rfl, .ty _, .base (.int i), kit_ty (by decide +kernel), _, rfl, ?_⟩
  rw [if_pos rfl]
  exact ⟨_, rfl, _, _, _, _, false, rfl, .ty _, .base (.int i), kit_ty (by decide +kernel), _, rfl, q⟩
end
end AN
end

-- ANw1
section
set_option Elab.async false
set_option linter.all false
set_option maxRecDepth 100000
set_option maxHeartbeats 4000000
namespace AN
open PySem PySem.Spec PyProof.Rows L2 StX
open Evl (Ex)

theorem valV_zip : ∀ {ws : List PySem.Str} {xs : List V} {j : Nat} {x : PySem.Str} {v : V}, ws.Nodup → ws[j]? = some x → xs[j]? = some v → ws.length = xs.length → valV (zipK ws xs) (Sum.inr x : Key) = some v
  | [], _, _, _, _, _, h, _, _ => by simp at h
  | _ :: _, [], _, _, _, _, _, h, _ => by simp at h
  | y :: ws, u :: xs, 0, x, v, nd, h1, h2, _ => by
    simp only [List.getElem?_cons_zero, Option.some.injEq] at h1 h2
    subst h1 h2
    simp [valV, zipK]
  | y :: ws, u :: xs, j + 1, x, v, nd, h1, h2, hl => by
    have ih := valV_zip (List.nodup_cons.mp nd).2 (by simpa using h1) (by simpa using h2) (by simpa using hl)
    have hne : y ≠ x := fun e => (List.nodup_cons.mp nd).1 (by rw [e]; exact List.mem_of_getElem? (by simpa using h1))
    have hne' : ¬ ((Sum.inr y : Key) = Sum.inr x) := fun e => hne (by injection e)
    simp only [valV, zipK, List.zip_cons_cons, List.map_cons, List.find?_cons, hne', decide_false] at ih ⊢
    exact ih
theorem dget_zip {H : Hp} {D : Addr} {ws : List PySem.Str} {xs : List V} {j : Nat} {x : PySem.Str} {v : V} (e : H D = some (.dK (zipK ws xs))) (nd : ws.Nodup) (h1 : ws[j]? = some x) (h2 : xs[j]? = some v) (hl : ws.length = xs.length) : DGet H D (.str x) (some v) := by
  have := DGet.k (k := (Sum.inr x : Key)) e
  rw [valV_zip nd h1 h2 hl] at this
  exact this

abbrev N_d_is_number : List PySem.Str := ["thing"]
theorem sc_d_is_number : FnScope N_d_is_number ["thing"] AN.d_is_number.scope := ⟨rfl, rfl, rfl, by decide +kernel, rfl, by decide +kernel, by decide +kernel⟩
section
variable {P : Program} {w : World} {K : PySem.W.Frag} {mg : PySem.Str → Option Value} {base : Heap} (T : Kit K mg)
include T
theorem w_is_number : GF P w K mg base 2 (AN.d_is_number.at_ K) (sp1 (fun x H Q => ∃ n : Nat, x = .int (n : Int) ∧ Q (.bl true) H)) := by
  obtain ⟨fd, F⟩ := T.d_is_number
  refine rr F sc_d_is_number len1 (fun _ _ _ _ _ _ us hl => match us, hl with | [_], _ => rfl) (fun cdv A outer s H vs Q E hr h => ?_)
  have hu64 : (A.deeper (envOfC AN.d_is_number.qual AN.d_is_number.scope s.heap.objs.size (AN.d_is_number.at_ K) cdv)).units + 65 < cLine := hu_of65 hr
  have hu1 : (A.deeper (envOfC AN.d_is_number.qual AN.d_is_number.scope s.heap.objs.size (AN.d_is_number.at_ K) cdv)).units + 1 < cLine := hu_of hr
  have nd := sc_d_is_number.nd
  obtain ⟨x, rfl, n, rfl, q⟩ := h
  refine ⟨_, PSs.nox (pss_one (ps_ret (pe_and (pe_gf (w_is_integer T) (hr.mono (by decide)) (by rfl) T.g_is_integer pass0 (pa_cons (pv 0) pa_nil)) (pe_one (pe_cmpR op_ge (pv 0) pe_int (nomark _)))))), ?_⟩

  refine ⟨_, rfl, ⟨_, rfl, n, rfl, ?_⟩⟩
  refine ⟨_, rfl, ?_⟩
  rw [if_pos rfl]
  refine ⟨_, rfl, _, _, rfl, rfl, ?_⟩
  show Q (.bl (decide ((0 : Int) ≤ (n : Int)))) H
  rw [decide_eq_true (by omega)]
  exact q
end
abbrev N_d_require_known : List PySem.Str := ["condition", "word", "at"]
theorem sc_d_require_known : FnScope N_d_require_known ["condition", "word", "at"] AN.d_require_known.scope := ⟨rfl, rfl, rfl, by decide +kernel, rfl, by decide +kernel, by decide +kernel⟩
section
variable {P : Program} {w : World} {K : PySem.W.Frag} {mg : PySem.Str → Option Value} {base : Heap} (T : Kit K mg)
include T
theorem w_require_known : GF P w K mg base 1 (AN.d_require_known.at_ K) (sp3 (fun c _ _ H Q => c = .bl true ∧ Q .non H)) := by
  obtain ⟨fd, F⟩ := T.d_require_known
  refine rr F sc_d_require_known len3 (fun _ _ _ _ _ _ us hl => match us, hl with | [_, _, _], _ => rfl) (fun cdv A outer s H vs Q E hr h => ?_)
  have hu64 : (A.deeper (envOfC AN.d_require_known.qual AN.d_require_known.scope s.heap.objs.size (AN.d_require_known.at_ K) cdv)).units + 65 < cLine := hu_of65 hr
  have hu1 : (A.deeper (envOfC AN.d_require_known.qual AN.d_require_known.scope s.heap.objs.size (AN.d_require_known.at_ K) cdv)).units + 1 < cLine := hu_of hr
  have nd := sc_d_require_known.nd
  obtain ⟨c, x, y, rfl, rfl, q⟩ := h
  refine ⟨_, PSs.nox (pss_one (ps_if (pt_not (pt_val (pv 0))) (pss_one ps_never) pss_nil)), ?_⟩

  refine ⟨_, rfl, ?_⟩
  exact ⟨_, rfl, q⟩
end
abbrev N_d_row_step : List PySem.Str := ["machine", "state", "letter"]
theorem sc_d_row_step : FnScope N_d_row_step ["machine", "state", "letter"] AN.d_row_step.scope := ⟨rfl, rfl, rfl, by decide +kernel, rfl, by decide +kernel, by decide +kernel⟩
section
variable {P : Program} {w : World} {K : PySem.W.Frag} {mg : PySem.Str → Option Value} {base : Heap} (T : Kit K mg)
include T
theorem w_row_step : GF P w K mg base 1 (AN.d_row_step.at_ K) (sp3 (fun m st le H Q => ∃ (L : List PySem.Str) (R : Rows) (s j : Nat) (x : PySem.Str), Tp K H m (machD L R) ∧ st = .int (s : Int) ∧ le = .str x ∧ L.Nodup ∧ Wf L.length R ∧ s < R.length ∧ L[j]? = some x ∧ Ret H (fun v H' => Tp K H' v (pairD (nx R s j, wd R s j))) Q)) := by
  obtain ⟨fd, F⟩ := T.d_row_step
  refine rr F sc_d_row_step len3 (fun _ _ _ _ _ _ us hl => match us, hl with | [_, _, _], _ => rfl) (fun cdv A outer s H vs Q E hr h => ?_)
  have hu64 : (A.deeper (envOfC AN.d_row_step.qual AN.d_row_step.scope s.heap.objs.size (AN.d_row_step.at_ K) cdv)).units + 65 < cLine := hu_of65 hr
  have hu1 : (A.deeper (envOfC AN.d_row_step.qual AN.d_row_step.scope s.heap.objs.size (AN.d_row_step.at_ K) cdv)).units + 1 < cLine := hu_of hr
  have nd := sc_d_row_step.nd
  obtain ⟨m, st, le, rfl, L, R, sn, j, x, hm, rfl, rfl, nd0, wf, hs, hj, q⟩ := h
  refine ⟨_, PSs.nox (pss_one (ps_ret (pe_dget hu1 (pe_dzip rfl (by rfl) T.f_dict (by rfl) T.f_zip (pa_cons (pe_ix ix_tup (pv 0) pe_int (fun _ _ => rfl)) (pa_cons (pe_ix ix_tup (pe_ix ix_tup (pv 0) pe_int (fun _ _ => rfl)) (pv 1) (fun _ _ => rfl)) pa_nil))) (pv 2) (fun _ _ => rfl)))), ?_⟩

  obtain ⟨a, xl, xr, rfl, hT, tl, tr⟩ := mach_of hm
  obtain ⟨al, rfl, hl⟩ := tS_of tl
  obtain ⟨ar, rws, rfl, hr', trs⟩ := tr.tupE
  obtain ⟨vr, hvr, tvr⟩ := trs.get (map_get (f := rowD) hs [])
  obtain ⟨aw, ws, rfl, hw, tws⟩ := tvr.tupE
  have hjl : j < L.length := (List.getElem?_eq_some_iff.mp hj).1
  have hrow : (R.getD sn []).length = L.length := wf.row _ (getD_mem hs)
  have hlen : ws.length = L.length := by rw [tws.length, List.length_map, hrow]
  obtain ⟨v, hv, tv⟩ := tws.get (map_get (f := pairD) (l := R.getD sn []) (by rw [hrow]; exact hjl) (0, PySem.Str.empty))
  refine ⟨_, rfl, _, _, _, _, rfl, rfl, hT, atI_nat (j := 0) rfl, ?_⟩
  refine ⟨_, rfl, _, _, _, _, rfl, rfl, hT, atI_nat (j := 1) rfl, ?_⟩
  refine ⟨_, rfl, _, _, _, _, rfl, rfl, hr', atI_nat hvr, ?_⟩
  refine ⟨_, _, L, ws, rfl, hl, hw, nd0, hlen.symm, fun D hD => ?_⟩
  refine ⟨_, rfl, ?_⟩
  refine ⟨D, _, rfl, dget_zip upd_same nd0 hj hv hlen.symm, ?_⟩
  have n1 : Ex H (upd H D (.dK (zipK L ws))) := Evl.Ex.new hD
  exact q _ _ n1 (Tp.mono (Nl.ex n1) tv)
end
end AN
end

-- ANw2
section
set_option Elab.async false
set_option linter.all false
set_option maxRecDepth 100000
set_option maxHeartbeats 4000000
namespace AN
open PySem PySem.Spec PyProof.Rows L2 StX
open Evl (Ex)

/-- a reading: the letters at the places js -/
abbrev rdg (L : List PySem.Str) (js : List Nat) : List PySem.Str := js.map fun j => L.getD j PySem.Str.empty
theorem rdg_get {L : List PySem.Str} {js : List Nat} {i : Nat} {x : PySem.Str} (h : (rdg L js)[i]? = some x) (hj : ∀ j ∈ js, j < L.length) : ∃ j, js[i]? = some j ∧ j < L.length ∧ L[j]? = some x := by
  rw [List.getElem?_map, Option.map_eq_some_iff] at h
  obtain ⟨j, h1, h2⟩ := h
  have hl := hj j (List.mem_of_getElem? h1)
  refine ⟨j, h1, hl, ?_⟩
  rw [← h2, List.getD_eq_getElem?_getD, List.getElem?_eq_getElem hl]
  rfl
theorem rdg_mem {L : List PySem.Str} {js : List Nat} (hj : ∀ j ∈ js, j < L.length) : ∀ x ∈ rdg L js, x ∈ L := by
  intro x hx
  obtain ⟨i, hi⟩ := List.mem_iff_getElem?.mp hx
  obtain ⟨j, _, _, h⟩ := rdg_get hi hj
  exact List.mem_of_getElem? h
theorem take_snoc {α : Type} {l : List α} {i : Nat} {x : α} (h : l[i]? = some x) : l.take (i + 1) = l.take i ++ [x] := by
  rw [List.take_add_one, h]
  rfl
theorem ledM_snoc (R : Rows) (j : Nat) (a : List Nat) (s : Nat) : ledM R s (a ++ [j]) = nx R (ledM R s a) j := by
  rw [ledM_append]
  rfl
/-- a loop's invariant step: a fresh list that grows -/
theorem small_len {n : Nat} (h : n < 100000) : n < sizeLine := by
  have := sizeLine_eq
  omega

abbrev N_d_require_states : List PySem.Str := ["machine", "states", "state"]
theorem sc_d_require_states : FnScope N_d_require_states ["machine", "states"] AN.d_require_states.scope := ⟨rfl, rfl, rfl, by decide +kernel, rfl, by decide +kernel, by decide +kernel⟩
section
variable {P : Program} {w : World} {K : PySem.W.Frag} {mg : PySem.Str → Option Value} {base : Heap} (T : Kit K mg)
include T
theorem w_require_states : GF P w K mg base 3 (AN.d_require_states.at_ K) (fun vs H Q _ => ∃ (m : V) (L : List PySem.Str) (R : Rows) (ns : List Nat), vs = m :: (ns.map fun (n : Nat) => V.int (n : Int)) ∧ Tp K H m (machD L R) ∧ (∀ n ∈ ns, n < R.length) ∧ ns.length ≤ 100 ∧ ∀ H', Ex H H' → Q .non H') := by
  obtain ⟨fd, F⟩ := T.d_require_states
  refine GF.imp (rrS (sp := sp2 (fun m t H Q => ∃ (L : List PySem.Str) (R : Rows) (ns : List Nat) (a : Addr), Tp K H m (machD L R) ∧ t = .ref a ∧ SqT K H a (ns.map fun (n : Nat) => V.int (n : Int)) ∧ (∀ n ∈ ns, n < R.length) ∧ ∀ H', Ex H H' → Q .non H')) (ps := ["machine"]) F sc_d_require_states (fun kV doc pm an cdv ct => bind_star1 (B := fun us => bindArgs (PySem.W.fnOf AN.d_require_states.name AN.d_require_states.qual AN.d_require_states.params AN.d_require_states.body AN.d_require_states.scope .none kV doc pm an cdv ct) ⟨us, []⟩) (fun _ => rfl) (fun _ _ _ => rfl)) (fun cdv A outer s H vs Q E hr h => ?_)) ?_
  rotate_left

  · rintro vs H Q E ⟨m, L, R, ns, rfl, hm, hn, hl, q⟩
    refine ⟨[m], _, rfl, rfl, by rw [List.length_map, sizeLine_eq]; omega, fun p hp => ⟨m, _, rfl, L, R, ns, p, hm.mono (Nl.ex (Evl.Ex.new hp)), rfl, .inl (.inl upd_same), hn, fun H' e => q H' ((Evl.Ex.new hp).trans e)⟩⟩
  have hu64 : (A.deeper (envOfC AN.d_require_states.qual AN.d_require_states.scope s.heap.objs.size (AN.d_require_states.at_ K) cdv)).units + 65 < cLine := hu_of65 hr
  have hu1 : (A.deeper (envOfC AN.d_require_states.qual AN.d_require_states.scope s.heap.objs.size (AN.d_require_states.at_ K) cdv)).units + 1 < cLine := hu_of hr
  have nd := sc_d_require_states.nd
  obtain ⟨m, t, rfl, L, R, ns, a, hm, rfl, hs, hn, q⟩ := h
  refine ⟨_, PSs.nox (pss_one (ps_for PassesOwn.never rfl (pi_tup (pv 1)) (pg_name (i := 2) nd rfl (Or.inl rfl)) (pss_one (ps_if (PW.pt (pw_or (pt_not (pt_val (pe_gf (w_is_number T) (hr.mono (by decide)) (by rfl) T.g_is_number pass0 (pa_cons (pv 2) pa_nil)))) (pw_or1 (pt_cmpR op_ge (pv 2) (pe_callB call_len_seq (by rfl) T.f_len (by decide +kernel) (pa_cons (pe_ix ix_tup (pv 0) pe_int (fun _ _ => rfl)) pa_nil)) (nomark _))))) (pss_one ps_never) pss_nil)))), ?_⟩

  refine ⟨_, rfl, a, rfl, ⟨_, hs⟩, for_tup (xs := ns.map fun (n : Nat) => V.int (n : Int)) (fun i σ' H' => Ex H H' ∧ ∃ z, σ' = [some m, some (.ref a), z]) ⟨Ex.refl H, _, rfl⟩ (fun i σ' H' _ p => nl_t (Nl.ex p.1) hs) ?_ (fun σ' H' p => q H' p.1)⟩
  rintro i x σ' H' hx ⟨e1, z, rfl⟩
  obtain ⟨n, hn1, rfl⟩ : ∃ n, ns[i]? = some n ∧ V.int (n : Int) = x := by
    rw [List.getElem?_map, Option.map_eq_some_iff] at hx
    exact hx
  have hlt := hn n (List.mem_of_getElem? hn1)
  obtain ⟨am, xl, xr, rfl, hT, tl, tr⟩ := mach_of (hm.mono (Nl.ex e1))
  obtain ⟨ar, rws, rfl, hr', trs⟩ := tr.tupE
  refine ⟨_, rfl, ⟨_, rfl, n, rfl, ?_⟩⟩
  refine ⟨_, rfl, ?_⟩
  show (if (!true) = true then _ else _)
  rw [if_neg (by decide)]
  refine ⟨_, rfl, ⟨_, rfl, _, _, _, _, rfl, rfl, hT, atI_nat (j := 1) rfl, ?_⟩⟩
  refine ⟨_, _, rfl, .inr hr', _, _, rfl, rfl, ?_⟩
  have hlen : rws.length = R.length := by rw [trs.length, List.length_map]
  refine ⟨_, rfl, ?_⟩
  show (if decide ((rws.length : Int) ≤ (n : Int)) = true then _ else _)
  rw [if_neg (by rw [decide_eq_true_eq]; omega)]
  exact ⟨e1, _, rfl⟩
end
abbrev N_d_run : List PySem.Str := ["machine", "reading", "state", "words", "letter", "word"]
theorem sc_d_run : FnScope N_d_run ["machine", "reading", "state"] AN.d_run.scope := ⟨rfl, rfl, rfl, by decide +kernel, rfl, by decide +kernel, by decide +kernel⟩
section
variable {P : Program} {w : World} {K : PySem.W.Frag} {mg : PySem.Str → Option Value} {base : Heap} (T : Kit K mg)
include T
theorem w_run : GF P w K mg base 2 (AN.d_run.at_ K) (sp3 (fun m r st H Q => ∃ (L : List PySem.Str) (R : Rows) (s : Nat) (js : List Nat), Tp K H m (machD L R) ∧ Tp K H r (tS (rdg L js)) ∧ st = .int (s : Int) ∧ L.Nodup ∧ Wf L.length R ∧ s < R.length ∧ (∀ j ∈ js, j < L.length) ∧ js.length ≤ 100 ∧ Ret H (fun v H' => ∃ a l, v = .ref a ∧ SqT K H' a [.int (ledM R s js : Nat), .ref l] ∧ H' l = some (.lst ((saidM R s js).map V.str))) Q)) := by
  obtain ⟨fd, F⟩ := T.d_run
  refine rr F sc_d_run len3 (fun _ _ _ _ _ _ us hl => match us, hl with | [_, _, _], _ => rfl) (fun cdv A outer s H vs Q E hr h => ?_)
  have hu64 : (A.deeper (envOfC AN.d_run.qual AN.d_run.scope s.heap.objs.size (AN.d_run.at_ K) cdv)).units + 65 < cLine := hu_of65 hr
  have hu1 : (A.deeper (envOfC AN.d_run.qual AN.d_run.scope s.heap.objs.size (AN.d_run.at_ K) cdv)).units + 1 < cLine := hu_of hr
  have nd := sc_d_run.nd
  obtain ⟨m, r, st, rfl, L, R, sn, js, hm, hr0, rfl, nd0, wf, hs, hj, hl, q⟩ := h
  refine ⟨_, PSs.nox (pss_cons (ps_set (i := 3) nd rfl (Or.inl rfl) (pe_lst pa_nil)) (pss_cons (ps_for PassesOwn.never rfl (pi_tup (pv 1)) (pg_name (i := 4) nd rfl (Or.inl rfl)) (pss_cons (ps_asg (pe_gf (w_row_step T) (hr.mono (by decide)) (by rfl) T.g_row_step pass0 (pa_cons (pv 0) (pa_cons (pv 2) (pa_cons (pv 4) pa_nil)))) (pg_tup rfl (pgs_cons (pg_name (i := 2) nd rfl (Or.inl rfl)) (pgs_cons (pg_name (i := 5) nd rfl (Or.inl rfl)) pgs_nil)))) (pss_one (ps_expr (pe_bm PySem.F.plainAttrs_list PySem.F.slot_list_append PySem.F.type_list_append mt_append (pv 3) (pa_cons (pv 5) pa_nil)))))) (pss_one (ps_ret (pe_tup (pa_cons (pv 2) (pa_cons (pv 3) pa_nil))))))), ?_⟩

  obtain ⟨ar, rfl, hrd⟩ := tS_of hr0
  refine ⟨by decide, fun l hl0 => ?_⟩
  have e0 : Ex H (upd H l (.lst [])) := Evl.Ex.new hl0
  refine ⟨_, rfl, ar, rfl, ⟨_, nl_t (Nl.ex e0) hrd⟩, for_tup (xs := (rdg L js).map V.str) (fun i σ' H' => Ex H H' ∧ H' l = some (.lst ((saidM R sn (js.take i)).map V.str)) ∧ ∃ z1 z2, σ' = [some m, some (.ref ar), some (.int (ledM R sn (js.take i) : Nat)), some (.ref l), z1, z2])
    ⟨e0, upd_same, _, _, rfl⟩ (fun i σ' H' _ p => nl_t (Nl.ex p.1) hrd) ?_ ?_⟩
  · rintro i x σ' H' hx ⟨e1, el, z1, z2, rfl⟩
    rw [List.getElem?_map, Option.map_eq_some_iff] at hx
    obtain ⟨y, hy, rfl⟩ := hx
    obtain ⟨j, hj1, hj2, hj3⟩ := rdg_get hy hj
    have hst : ledM R sn (js.take i) < R.length := ledM_lt wf hs fun j hjm => hj j (List.mem_of_mem_take hjm)
    refine ⟨_, rfl, _, rfl, _, rfl, ⟨_, _, _, rfl, L, R, _, j, y, hm.mono (Nl.ex e1), rfl, rfl, nd0, wf, hst, hj3, fun v H2 e2 tv => ?_⟩⟩
    obtain ⟨ap, rfl, hp⟩ := pair_of tv
    refine ⟨ap, _, rfl, hp, rfl, _, _, rfl, _, _, rfl, rfl, ?_⟩
    refine ⟨_, rfl, .inl ⟨rfl, _, SqL.of (e2 _ _ el)⟩, _, rfl, l, _, _, rfl, rfl, e2 _ _ el, ?_, ?_⟩
    · rw [List.length_map, saidM_length]
      exact small_len (by have := List.length_take_le i js; have := List.length_take_le' i js; omega)
    · refine ⟨Evl.Ex.mut (e1.trans e2) hl0, ?_, some (.str y), some (.str (wd R (ledM R sn (js.take i)) j)), ?_⟩
      · rw [upd_same, take_snoc hj1, saidM_snoc, List.map_append]
        rfl
      · rw [take_snoc hj1, ledM_snoc]
        rfl
  · rintro σ' H' ⟨e1, el, z1, z2, rfl⟩
    have et : js.take ((rdg L js).map V.str).length = js := List.take_of_length_le (by simp)
    rw [et] at el
    refine ⟨_, rfl, _, rfl, by show 2 ≤ sizeLine; decide, fun p hp => ?_⟩
    refine q _ _ (e1.trans (Evl.Ex.new hp)) ⟨p, l, rfl, .inl (.inl ?_), ?_⟩
    · rw [upd_same, et]
    · rw [upd_ne (ne_of_none el hp)]
      exact el
end
end AN
end

-- ANw3
section
set_option Elab.async false
set_option linter.all false
set_option maxRecDepth 100000
set_option maxHeartbeats 4000000
namespace AN
open PySem PySem.Spec PyProof.Rows L2 StX
open Evl (Ex)

theorem sz1 : 1 ≤ sizeLine := by decide
theorem sz2 : 2 ≤ sizeLine := by decide
theorem sz3 : 3 ≤ sizeLine := by decide
theorem mach_parts {K : PySem.W.Frag} {H : Hp} {v : V} {L : List PySem.Str} {R : Rows} (h : Tp K H v (machD L R)) : ∃ a al ar xr, v = .ref a ∧ SqT K H a [.ref al, .ref ar] ∧ SqT K H al (L.map V.str) ∧ SqT K H ar xr ∧ TpA K H xr (R.map rowD) := by
  obtain ⟨a, x, y, rfl, hT, tl, tr⟩ := mach_of h
  obtain ⟨al, rfl, hl⟩ := tS_of tl
  obtain ⟨ar, xr, rfl, hr, t⟩ := tr.tupE
  exact ⟨a, al, ar, xr, rfl, hT, hl, hr, t⟩
theorem allP_bl {H : Hp} {f : Nat → Bool} : ∀ {l : List Nat} {xs : List V}, AllP (fun i v _ => v = .bl (f i)) H l xs → xs = (l.map f).map V.bl
  | [], [], _ => rfl
  | _ :: _, _ :: _, ⟨h, t⟩ => by rw [h, allP_bl t]; rfl
  | [], _ :: _, h => h.elim
  | _ :: _, [], h => h.elim
theorem any_mem {L : List PySem.Str} {x : PySem.Str} (h : x ∈ L) : ((List.range (L.map V.str).length).map fun i => decide (V.str x = (L.map V.str).getD i .non)).any id = true := by
  obtain ⟨i, hi⟩ := List.mem_iff_getElem?.mp h
  have hl : i < L.length := (List.getElem?_eq_some_iff.mp hi).1
  rw [List.any_eq_true]
  refine ⟨true, List.mem_map.mpr ⟨i, by simpa using hl, ?_⟩, rfl⟩
  rw [decide_eq_true_eq, List.getD_eq_getElem?_getD, List.getElem?_map, hi]
  rfl
theorem str_scal (a b : PySem.Str) : scal (V.str a) (V.str b) = true := by simp [scal]

abbrev N_d_require_letters : List PySem.Str := ["letters", "readings", "reading", "letter", "own"]
theorem sc_d_require_letters : FnScope N_d_require_letters ["letters", "readings"] AN.d_require_letters.scope := ⟨rfl, rfl, rfl, by decide +kernel, rfl, by decide +kernel, by decide +kernel⟩
section
variable {P : Program} {w : World} {K : PySem.W.Frag} {mg : PySem.Str → Option Value} {base : Heap} (T : Kit K mg)
include T
theorem w_require_letters : GF P w K mg base 1 (AN.d_require_letters.at_ K) (fun vs H Q _ => ∃ (v : V) (L : List PySem.Str) (rs : List V), vs = v :: rs ∧ Tp K H v (tS L) ∧ L.length ≤ 100 ∧ rs.length ≤ 100 ∧ (∀ r ∈ rs, ∃ ws, Tp K H r (tS ws) ∧ ∀ x ∈ ws, x ∈ L) ∧ ∀ H', Ex H H' → Q .non H') := by
  obtain ⟨fd, F⟩ := T.d_require_letters
  refine GF.imp (rrS (sp := sp2 (fun v t H Q => ∃ (L : List PySem.Str) (a : Addr) (rs : List V), Tp K H v (tS L) ∧ t = .ref a ∧ SqT K H a rs ∧ L.length ≤ 100 ∧ (∀ r ∈ rs, ∃ ws, Tp K H r (tS ws) ∧ ∀ x ∈ ws, x ∈ L) ∧ ∀ H', Ex H H' → Q .non H')) (ps := ["letters"]) F sc_d_require_letters (fun kV doc pm an cdv ct => bind_star1 (B := fun us => bindArgs (PySem.W.fnOf AN.d_require_letters.name AN.d_require_letters.qual AN.d_require_letters.params AN.d_require_letters.body AN.d_require_letters.scope .none kV doc pm an cdv ct) ⟨us, []⟩) (fun _ => rfl) (fun _ _ _ => rfl)) (fun cdv A outer s H vs Q E hr h => ?_)) ?_
  rotate_left

  · rintro vs H Q E ⟨v, L, rs, rfl, hv, hL, hn, hw, q⟩
    refine ⟨[v], _, rfl, rfl, by rw [sizeLine_eq]; omega, fun p hp => ⟨v, _, rfl, L, p, rs, hv.mono (Nl.ex (Evl.Ex.new hp)), rfl, .inl (.inl upd_same), hL, fun r hr => ?_, fun H' e => q H' ((Evl.Ex.new hp).trans e)⟩⟩
    obtain ⟨ws, h1, h2⟩ := hw r hr
    exact ⟨ws, h1.mono (Nl.ex (Evl.Ex.new hp)), h2⟩
  have hu64 : (A.deeper (envOfC AN.d_require_letters.qual AN.d_require_letters.scope s.heap.objs.size (AN.d_require_letters.at_ K) cdv)).units + 65 < cLine := hu_of65 hr
  have hu1 : (A.deeper (envOfC AN.d_require_letters.qual AN.d_require_letters.scope s.heap.objs.size (AN.d_require_letters.at_ K) cdv)).units + 1 < cLine := hu_of hr
  have nd := sc_d_require_letters.nd
  obtain ⟨v, t, rfl, L, a, rs, hv, rfl, hs, hL, hw, q⟩ := h
  refine ⟨_, PSs.nox (pss_one (ps_for PassesOwn.never rfl (pi_tup (pv 1)) (pg_name (i := 2) nd rfl (Or.inl rfl)) (pss_one (ps_for PassesOwn.never rfl (pi_tup (pv 2)) (pg_name (i := 3) nd rfl (Or.inr rfl)) (pss_one (ps_if (pt_not (pt_val (pe_callB (cr_any rfl) (by rfl) T.f_any (by decide +kernel) (pa_cons (pe_lc (own := [("own", 4)]) rfl nd (pi_tup (pv 0)) (blkOk_by (own := [("own", 4)]) (N := N_d_require_letters) (sc := AN.d_require_letters.scope) (by decide +kernel)) (fun _ _ _ _ _ => (pg_name (i := 4) nd rfl (Or.inl rfl))) (fun _ _ _ _ _ => pts_nil) (fun _ _ _ _ _ => (pe_cmpR op_eq (pv 3) (pv 4) (nomark _)))) pa_nil)))) (pss_one ps_never) pss_nil)))))), ?_⟩

  obtain ⟨al, rfl, hl⟩ := tS_of hv
  refine ⟨_, rfl, a, rfl, ⟨_, hs⟩, for_runs (runs_t hs) (fun i σ' H' => Ex H H' ∧ ∃ z1 z2 z3, σ' = [some (.ref al), some (.ref a), z1, z2, z3]) (fun i σ' H' p => p.1) ⟨Ex.refl H, _, _, _, rfl⟩ ?_ (fun σ' H' p => q H' p.1)⟩
  rintro i x σ' H' H2 hi ⟨e1, z1, z2, z3, rfl⟩ e2 hx
  obtain ⟨ws, t1, hws⟩ := hw x (List.mem_of_getElem? hx)
  have e3 := e1.trans e2
  obtain ⟨aw, rfl, hsw⟩ := tS_of (t1.mono (Nl.ex e3))
  refine ⟨_, rfl, aw, rfl, ⟨_, hsw⟩, for_runs (runs_t hsw) (fun i σ' H' => Ex H2 H' ∧ ∃ z2 z3, σ' = [some (.ref al), some (.ref a), some (.ref aw), z2, z3]) (fun i σ' H' p => p.1) ⟨Ex.refl _, _, _, rfl⟩ ?_ (fun σ' H' p => ?_)⟩
  · rintro j y σ'' H3 H4 hj ⟨e4, z4, z5, rfl⟩ e5 hy
    rw [List.getElem?_map, Option.map_eq_some_iff] at hy
    obtain ⟨c, hc, rfl⟩ := hy
    have e6 := e3.trans (e4.trans e5)
    have hl4 := nl_t (Nl.ex e6) hl
    repeat (first | refine w_lc ?_ | unfold gName | unfold tIfS | unfold tNot | unfold tB | unfold tTest | unfold tRet | unfold tAsg | unfold tSeq | unfold tDrop | unfold tCB | unfold tCons)
    refine ⟨_, rfl, al, rfl, ⟨_, hl4⟩, lc_pure (n := (L.map V.str).length) (runs_t hl4) (fun _ => true) (fun k v _ => v = .bl (decide (V.str c = (L.map V.str).getD k .non))) (by rw [List.length_map]; omega) (fun _ _ _ _ _ h => h) ?_ ?_⟩
    · intro k u H5 hk e7 hu C kk
      refine kk _ _ rfl (Ex.refl _) (fun Q q => q _ (Ex.refl _)) fun _ H6 e8 Q q => ?_
      refine ⟨_, rfl, _, rfl, ?_, q _ _ (Ex.refl _) ?_⟩
      · rw [List.getElem?_map, Option.map_eq_some_iff] at hu
        obtain ⟨c2, _, rfl⟩ := hu
        exact str_scal _ _
      · rw [List.getD_eq_getElem?_getD, hu]
        rfl
    · intro D H5 xs hD e7 hD5 hall
      rw [allP_bl hall, filter_true] at hD5
      refine ⟨_, _, rfl, SqL.of hD5, ?_⟩
      rw [any_mem (hws c (List.mem_of_getElem? hc))]
      refine ⟨_, rfl, ?_⟩
      show (if (!true) = true then _ else _)
      rw [if_neg (by decide)]
      exact ⟨(e4.trans e5).trans e7, _, _, rfl⟩
  · obtain ⟨e4, z4, z5, rfl⟩ := p
    exact ⟨e3.trans e4, _, _, _, rfl⟩
end
abbrev N_d_step : List PySem.Str := ["machine", "state", "letter"]
theorem sc_d_step : FnScope N_d_step ["machine", "state", "letter"] AN.d_step.scope := ⟨rfl, rfl, rfl, by decide +kernel, rfl, by decide +kernel, by decide +kernel⟩
section
variable {P : Program} {w : World} {K : PySem.W.Frag} {mg : PySem.Str → Option Value} {base : Heap} (T : Kit K mg)
include T
theorem w_step : GF P w K mg base 4 (AN.d_step.at_ K) (sp3 (fun m st le H Q => ∃ (L : List PySem.Str) (R : Rows) (s j : Nat) (x : PySem.Str), Tp K H m (machD L R) ∧ st = .int (s : Int) ∧ le = .str x ∧ L.Nodup ∧ L.length ≤ 100 ∧ Wf L.length R ∧ s < R.length ∧ L[j]? = some x ∧ Ret H (fun v H' => Tp K H' v (pairD (nx R s j, wd R s j))) Q)) := by
  obtain ⟨fd, F⟩ := T.d_step
  refine rr F sc_d_step len3 (fun _ _ _ _ _ _ us hl => match us, hl with | [_, _, _], _ => rfl) (fun cdv A outer s H vs Q E hr h => ?_)
  have hu64 : (A.deeper (envOfC AN.d_step.qual AN.d_step.scope s.heap.objs.size (AN.d_step.at_ K) cdv)).units + 65 < cLine := hu_of65 hr
  have hu1 : (A.deeper (envOfC AN.d_step.qual AN.d_step.scope s.heap.objs.size (AN.d_step.at_ K) cdv)).units + 1 < cLine := hu_of hr
  have nd := sc_d_step.nd
  obtain ⟨m, st, le, rfl, L, R, sn, j, x, hm, rfl, rfl, nd0, hL, wf, hs, hj, q⟩ := h
  refine ⟨_, PSs.nox (pss_cons (ps_expr (pe_gf (w_require_letters T) (hr.mono (by decide)) (by rfl) T.g_require_letters pass0 (pa_cons (pe_ix ix_tup (pv 0) pe_int (fun _ _ => rfl)) (pa_cons (pe_tup (pa_cons (pv 2) pa_nil)) pa_nil)))) (pss_cons (ps_expr (pe_gf (w_require_states T) (hr.mono (by decide)) (by rfl) T.g_require_states pass0 (pa_cons (pv 0) (pa_cons (pv 1) pa_nil)))) (pss_one (ps_ret (pe_gf (w_row_step T) (hr.mono (by decide)) (by rfl) T.g_row_step pass0 (pa_cons (pv 0) (pa_cons (pv 1) (pa_cons (pv 2) pa_nil)))))))), ?_⟩

  obtain ⟨a, al, ar, xr, rfl, hT, hl, hr', tr⟩ := mach_parts hm
  refine ⟨_, rfl, _, _, _, _, rfl, rfl, hT, atI_nat (j := 0) rfl, ⟨_, rfl, sz1, fun p hp => ?_⟩⟩
  have e1 : Ex H (upd H p (.tup [.str x])) := Evl.Ex.new hp
  refine ⟨_, L, [.ref p], rfl, (of_tS hl).mono (Nl.ex e1), hL, by simp, fun r hr2 => ?_, fun H2 e2 => ?_⟩
  · have : r = .ref p := by simpa using hr2
    subst this
    refine ⟨[x], of_tS (.inl (.inl upd_same)), fun y hy => ?_⟩
    have : y = x := by simpa using hy
    subst this
    exact List.mem_of_getElem? hj
  · have e3 := e1.trans e2
    refine ⟨_, rfl, _, rfl, _, L, R, [sn], rfl, hm.mono (Nl.ex e3), by simpa using hs, by simp, fun H4 e4 => ?_⟩
    have e5 := e3.trans e4
    exact ⟨_, rfl, _, rfl, _, rfl, _, _, _, rfl, L, R, sn, j, x, hm.mono (Nl.ex e5), rfl, rfl, nd0, wf, hs, hj, fun v H6 e6 tv => q v H6 (e5.trans e6) tv⟩
end
abbrev N_d_led : List PySem.Str := ["machine", "reading", "state"]
theorem sc_d_led : FnScope N_d_led ["machine", "reading", "state"] AN.d_led.scope := ⟨rfl, rfl, rfl, by decide +kernel, rfl, by decide +kernel, by decide +kernel⟩
section
variable {P : Program} {w : World} {K : PySem.W.Frag} {mg : PySem.Str → Option Value} {base : Heap} (T : Kit K mg)
include T
theorem w_led0 : GF P w K mg base 4 (AN.d_led.at_ K) (fun vs H Q E => sp3 (fun m r st H Q => ∃ (L : List PySem.Str) (R : Rows) (s : Nat) (js : List Nat), Tp K H m (machD L R) ∧ Tp K H r (tS (rdg L js)) ∧ st = .int (s : Int) ∧ L.Nodup ∧ L.length ≤ 100 ∧ Wf L.length R ∧ s < R.length ∧ (∀ j ∈ js, j < L.length) ∧ js.length ≤ 100 ∧ ∀ H', Ex H H' → Q (.int (ledM R s js : Nat)) H') (vs ++ [V.int 0]) H Q E) := by
  obtain ⟨fd, F⟩ := T.d_led
  obtain ⟨ds, hv, hbd⟩ := FunD.binds0 (ps := ["machine", "reading", "state"]) F 2 (List.cons_ne_nil _ _) rfl (fun _ _ _ _ _ _ us ks h1 h2 => match us, ks, h1, h2 with | [_, _], [_], _, _ => ⟨_, _, _, _, _, _, rfl, rfl, rfl⟩)
  refine ⟨FnOk.raw (dvs := [V.int 0]) (F.ok sc_d_led len3 (fun cdv A outer s H vs Q E hr h => ?_)) hbd hv, F.kp⟩
  have hu64 : (A.deeper (envOfC AN.d_led.qual AN.d_led.scope s.heap.objs.size (AN.d_led.at_ K) cdv)).units + 65 < cLine := hu_of65 hr
  have hu1 : (A.deeper (envOfC AN.d_led.qual AN.d_led.scope s.heap.objs.size (AN.d_led.at_ K) cdv)).units + 1 < cLine := hu_of hr
  have nd := sc_d_led.nd
  obtain ⟨m, r, st, hvs, L, R, sn, js, hm, hr0, rfl, nd0, hL, wf, hs, hj, hl, q⟩ := h
  refine ⟨_, PSs.nox (pss_cons (ps_expr (pe_gf (w_require_letters T) (hr.mono (by decide)) (by rfl) T.g_require_letters pass0 (pa_cons (pe_ix ix_tup (pv 0) pe_int (fun _ _ => rfl)) (pa_cons (pv 1) pa_nil)))) (pss_cons (ps_expr (pe_gf (w_require_states T) (hr.mono (by decide)) (by rfl) T.g_require_states pass0 (pa_cons (pv 0) (pa_cons (pv 2) pa_nil)))) (pss_one (ps_ret (pe_ix ix_tup (pe_gf (w_run T) (hr.mono (by decide)) (by rfl) T.g_run pass0 (pa_cons (pv 0) (pa_cons (pv 1) (pa_cons (pv 2) pa_nil)))) pe_int (fun _ _ => rfl)))))), ?_⟩

  subst hvs
  obtain ⟨a, al, ar, xr, rfl, hT, hl0, hr', tr⟩ := mach_parts hm
  refine ⟨_, rfl, _, _, _, _, rfl, rfl, hT, atI_nat (j := 0) rfl, _, rfl, ?_⟩
  refine ⟨_, L, [r], rfl, of_tS hl0, hL, by simp, fun r' hr2 => ?_, fun H2 e2 => ?_⟩
  · have : r' = r := by simpa using hr2
    subst this
    exact ⟨_, hr0, rdg_mem hj⟩
  · refine ⟨_, rfl, _, rfl, _, L, R, [sn], rfl, hm.mono (Nl.ex e2), by simpa using hs, by simp, fun H4 e4 => ?_⟩
    have e5 := e2.trans e4
    refine ⟨_, rfl, _, rfl, _, rfl, _, _, _, rfl, L, R, sn, js, hm.mono (Nl.ex e5), hr0.mono (Nl.ex e5), rfl, nd0, wf, hs, hj, hl, fun v H6 e6 tv => ?_⟩
    obtain ⟨p, l, rfl, hp, hl6⟩ := tv
    exact ⟨_, _, _, _, rfl, rfl, hp, atI_nat (j := 0) rfl, q H6 (e5.trans e6)⟩
end
end AN
end

-- ANw4
section
set_option Elab.async false
set_option linter.all false
set_option maxRecDepth 100000
set_option maxHeartbeats 4000000
namespace AN
open PySem PySem.Spec PyProof.Rows L2 StX
open Evl (Ex)

theorem inV_strs (x : PySem.Str) (q : List PySem.Str) : inV (.str x) (q.map V.str) = decide (x ∈ q) := by
  induction q with
  | nil => rfl
  | cons y q ih =>
    have e : inV (.str x) ((y :: q).map V.str) = (eqV (.str y) (.str x) || inV (.str x) (q.map V.str)) := rfl
    rw [e, ih]
    by_cases h : y = x
    · subst h
      simp [eqV]
    · have h2 : eqV (.str y) (.str x) = false := by simpa [eqV] using h
      rw [h2, Bool.false_or]
      simp [List.mem_cons, Ne.symm h, eq_comm (a := x)]
theorem flat_strV (q : List PySem.Str) : (q.map V.str).all flatV = true := by
  rw [List.all_eq_true]
  intro v hv
  obtain ⟨x, _, rfl⟩ := List.mem_map.mp hv
  rfl
theorem hush_str (q : List PySem.Str) (x : PySem.Str) : (if decide (x ∈ q) = true then ("" : PySem.Str) else x) = hushW q x := by
  unfold hushW
  by_cases h : x ∈ q
  · rw [if_pos (decide_eq_true h), if_pos h]
    rfl
  · rw [if_neg (by rw [decide_eq_true_eq]; exact h), if_neg h]
theorem getD_at {α : Type} {l : List α} {i : Nat} {x : α} (h : l[i]? = some x) (d : α) : l.getD i d = x := by
  rw [List.getD_eq_getElem?_getD, h]
  rfl

abbrev N_d_said : List PySem.Str := ["machine", "reading", "state", "quiet", "word"]
theorem sc_d_said : FnScope N_d_said ["machine", "reading", "state", "quiet"] AN.d_said.scope := ⟨rfl, rfl, rfl, by decide +kernel, rfl, by decide +kernel, by decide +kernel⟩
section
variable {P : Program} {w : World} {K : PySem.W.Frag} {mg : PySem.Str → Option Value} {base : Heap} (T : Kit K mg)
include T
theorem w_said : GK P w K mg base 4 (AN.d_said.at_ K) 2 ["state", "quiet"] (sp4 (fun m r st qv H Q => ∃ (L : List PySem.Str) (R : Rows) (s : Nat) (js : List Nat) (qs : List PySem.Str), Tp K H m (machD L R) ∧ Tp K H r (tS (rdg L js)) ∧ st = .int (s : Int) ∧ Tp K H qv (tS qs) ∧ L.Nodup ∧ L.length ≤ 100 ∧ Wf L.length R ∧ s < R.length ∧ (∀ j ∈ js, j < L.length) ∧ js.length ≤ 100 ∧ Ret H (fun v H' => Tp K H' v (tS ((saidM R s js).map (hushW qs)))) Q)) := by
  obtain ⟨fd, F⟩ := T.d_said
  obtain ⟨_, hsil⟩ := T.s
  obtain ⟨mv, kb⟩ := FunD.kbinds0 (ps := ["machine", "reading", "state", "quiet"]) F 2 ["state", "quiet"] [] (fun us _ ws => us ++ ws) (List.cons_ne_nil _ _) (fun _ h => by cases h) (fun r1 _ r2 => r1.append r2) (fun _ _ _ _ _ _ us mv ws h1 _ h2 => match us, ws, h1, h2 with | [_, _], [_, _], _, _ => rfl)
  refine ⟨⟨fd, ["machine", "reading", "state", "quiet"], _, F.ok sc_d_said len4 (fun cdv A outer s H vs Q E hr h => ?_), kb⟩, F.kp⟩
  have hu64 : (A.deeper (envOfC AN.d_said.qual AN.d_said.scope s.heap.objs.size (AN.d_said.at_ K) cdv)).units + 65 < cLine := hu_of65 hr
  have hu1 : (A.deeper (envOfC AN.d_said.qual AN.d_said.scope s.heap.objs.size (AN.d_said.at_ K) cdv)).units + 1 < cLine := hu_of hr
  have nd := sc_d_said.nd
  obtain ⟨m, r, st, qv, rfl, L, R, sn, js, qs, hm, hr0, rfl, hq, nd0, hL, wf, hs, hj, hl, q⟩ := h
  refine ⟨_, PSs.nox (pss_cons (ps_expr (pe_gf (w_require_letters T) (hr.mono (by decide)) (by rfl) T.g_require_letters pass0 (pa_cons (pe_ix ix_tup (pv 0) pe_int (fun _ _ => rfl)) (pa_cons (pv 1) pa_nil)))) (pss_cons (ps_expr (pe_gf (w_require_states T) (hr.mono (by decide)) (by rfl) T.g_require_states pass0 (pa_cons (pv 0) (pa_cons (pv 2) pa_nil)))) (pss_one (ps_ret (pe_callTy call_tuple_of (by rfl) T.f_tuple (by decide +kernel) (pa_cons (pe_lc (own := [("word", 4)]) rfl nd (pi_list (pe_ix ix_tup (pe_gf (w_run T) (hr.mono (by decide)) (by rfl) T.g_run pass0 (pa_cons (pv 0) (pa_cons (pv 1) (pa_cons (pv 2) pa_nil)))) pe_int (fun _ _ => rfl))) (blkOk_by (own := [("word", 4)]) (N := N_d_said) (sc := AN.d_said.scope) (by decide +kernel)) (fun _ _ _ _ _ => (pg_name (i := 4) nd rfl (Or.inl rfl))) (fun _ _ _ _ _ => pts_nil) (fun _ _ _ _ _ => (pe_ifExp (pt_cmpR (r := rIn K false) op_in_seq (pv 4) (pv 3) rfl) (pe_glob (v := .str "") (by rfl) hsil ⟨_, rfl⟩) (pv 4)))) pa_nil)))))), ?_⟩

  obtain ⟨a, al, ar, xr, rfl, hT, hl0, hr', tr⟩ := mach_parts hm
  obtain ⟨aq, rfl, hq0⟩ := tS_of hq
  refine ⟨_, rfl, _, _, _, _, rfl, rfl, hT, atI_nat (j := 0) rfl, _, rfl, ?_⟩
  refine ⟨_, L, [r], rfl, of_tS hl0, hL, by simp, fun r' hr2 => ?_, fun H2 e2 => ?_⟩
  · have : r' = r := by simpa using hr2
    subst this
    exact ⟨_, hr0, rdg_mem hj⟩
  · refine ⟨_, rfl, _, rfl, _, L, R, [sn], rfl, hm.mono (Nl.ex e2), by simpa using hs, by simp, fun H4 e4 => ?_⟩
    have e5 := e2.trans e4
    try dsimp only
    repeat (first | refine w_lc ?_ | unfold gName | unfold tIfS | unfold tNot | unfold tB | unfold tTest | unfold tRet | unfold tAsg | unfold tSeq | unfold tDrop | unfold tCB | unfold tCons)
    refine ⟨_, rfl, _, rfl, _, rfl, _, _, _, rfl, L, R, sn, js, hm.mono (Nl.ex e5), hr0.mono (Nl.ex e5), rfl, nd0, wf, hs, hj, hl, fun v H6 e6 tv => ?_⟩
    obtain ⟨p, l, rfl, hp, hl6⟩ := tv
    have e7 := e5.trans e6
    refine ⟨_, _, _, _, rfl, rfl, hp, atI_nat (j := 1) rfl, l, rfl, ⟨_, SqL.of hl6⟩, ?_⟩
    refine lc_pure (n := ((saidM R sn js).map V.str).length) (runs_l (SqL.of hl6)) (fun _ => true) (fun k v H => Tp K H v (.str (hushW qs ((saidM R sn js).getD k PySem.Str.empty)))) (by rw [List.length_map, saidM_length]; omega) (fun _ _ _ _ e h => h.mono e) ?_ ?_
    · intro k u H7 hk e8 hu C kk
      refine kk _ _ rfl (Ex.refl _) (fun Q q => q _ (Ex.refl _)) fun _ H8 e9 Q q => ?_
      rw [List.getElem?_map, Option.map_eq_some_iff] at hu
      obtain ⟨c, hc, rfl⟩ := hu
      have hq8 := nl_t (Nl.ex ((e7.trans e8).trans e9)) hq0
      refine ⟨_, rfl, _, rfl, aq, _, rfl, .inr hq8, rfl, flat_strV qs, _, rfl, ?_⟩
      rw [inV_strs, if_neg (by decide)]
      have hh := hush_str qs c
      dsimp only
      rw [getD_at hc] at q
      by_cases hc2 : c ∈ qs
      · rw [if_pos (decide_eq_true hc2)] at hh
        rw [if_pos (decide_eq_true hc2)]
        exact q _ _ (Ex.refl _) (hh ▸ .str _)
      · rw [if_neg (by rw [decide_eq_true_eq]; exact hc2)] at hh
        rw [if_neg (by rw [decide_eq_true_eq]; exact hc2)]
        exact ⟨_, rfl, q _ _ (Ex.refl _) (hh ▸ .str _)⟩
    · intro D H7 xs hD e8 hD7 hall
      have ht := allP_tp hall
      rw [List.length_map, show (List.range (saidM R sn js).length).map (fun k => PyData.str (hushW qs ((saidM R sn js).getD k PySem.Str.empty))) = ((saidM R sn js).map (hushW qs)).map PyData.str by rw [List.map_map]; exact range_map_get (saidM R sn js) (fun x => PyData.str (hushW qs x)) _] at ht
      refine ⟨D, xs, rfl, .inl ⟨SqL.of hD7, fun p hp => ?_⟩⟩
      have e9 : Ex H7 (upd H7 p (.tup xs)) := Evl.Ex.new hp
      exact q _ _ ((e7.trans e8).trans e9) (.tup (.inl (.inl upd_same)) (ht.mono (Nl.ex e9)))
end
abbrev N_d_quieted : List PySem.Str := ["machine", "words", "rows", "row", "after", "word"]
theorem sc_d_quieted : FnScope N_d_quieted ["machine", "words"] AN.d_quieted.scope := ⟨rfl, rfl, rfl, by decide +kernel, rfl, by decide +kernel, by decide +kernel⟩
section
variable {P : Program} {w : World} {K : PySem.W.Frag} {mg : PySem.Str → Option Value} {base : Heap} (T : Kit K mg)
include T
theorem w_quieted : GF P w K mg base 1 (AN.d_quieted.at_ K) (sp2 (fun m qv H Q => ∃ (L : List PySem.Str) (R : Rows) (qs : List PySem.Str), Tp K H m (machD L R) ∧ Tp K H qv (tS qs) ∧ Wf L.length R ∧ L.length ≤ 100 ∧ Ret H (fun v H' => Tp K H' v (machD L (hush qs R))) Q)) := by
  obtain ⟨fd, F⟩ := T.d_quieted
  obtain ⟨_, hsil⟩ := T.s
  refine rr F sc_d_quieted len2 (fun _ _ _ _ _ _ us hl => match us, hl with | [_, _], _ => rfl) (fun cdv A outer s H vs Q E hr h => ?_)
  have hu64 : (A.deeper (envOfC AN.d_quieted.qual AN.d_quieted.scope s.heap.objs.size (AN.d_quieted.at_ K) cdv)).units + 65 < cLine := hu_of65 hr
  have hu1 : (A.deeper (envOfC AN.d_quieted.qual AN.d_quieted.scope s.heap.objs.size (AN.d_quieted.at_ K) cdv)).units + 1 < cLine := hu_of hr
  have nd := sc_d_quieted.nd
  obtain ⟨m, qv, rfl, L, R, qs, hm, hq, wf, hL, q⟩ := h
  refine ⟨_, PSs.nox (pss_cons (ps_set (i := 2) nd rfl (Or.inl rfl) (pe_lst pa_nil)) (pss_cons (ps_for PassesOwn.never rfl (pi_tup (pe_ix ix_tup (pv 0) pe_int (fun _ _ => rfl))) (pg_name (i := 3) nd rfl (Or.inl rfl)) (pss_one (ps_expr (pe_bm PySem.F.plainAttrs_list PySem.F.slot_list_append PySem.F.type_list_append mt_append (pv 2) (pa_cons (pe_callTy call_tuple_of (by rfl) T.f_tuple (by decide +kernel) (pa_cons (pe_lc (own := [("after", 4), ("word", 5)]) (g := gTup K 2 (gCons (gName 4) (gCons (gName 5) gNil))) rfl nd (pi_tup (pv 3)) (blkOk_by (own := [("after", 4), ("word", 5)]) (N := N_d_quieted) (sc := AN.d_quieted.scope) (by decide +kernel)) (fun _ _ _ _ _ => (pg_tup rfl (pgs_cons (pg_name (i := 4) nd rfl (Or.inl rfl)) (pgs_cons (pg_name (i := 5) nd rfl (Or.inl rfl)) pgs_nil)))) (fun _ _ _ _ _ => pts_nil) (fun _ _ _ _ _ => (pe_tup (pa_cons (pv 4) (pa_cons (pe_ifExp (pt_cmpR (r := rIn K false) op_in_seq (pv 5) (pv 1) rfl) (pe_glob (v := .str "") (by rfl) hsil ⟨_, rfl⟩) (pv 5)) pa_nil))))) pa_nil)) pa_nil))))) (pss_one (ps_ret (pe_tup (pa_cons (pe_ix ix_tup (pv 0) pe_int (fun _ _ => rfl)) (pa_cons (pe_callTy call_tuple_of (by rfl) T.f_tuple (by decide +kernel) (pa_cons (pv 2) pa_nil)) pa_nil))))))), ?_⟩

  obtain ⟨a, al, ar, xr, rfl, hT, hl0, hr', tr⟩ := mach_parts hm
  obtain ⟨aq, rfl, hq0⟩ := tS_of hq
  have hlenR : xr.length = R.length := by rw [tr.length, List.length_map]
  refine ⟨by show 0 ≤ sizeLine; exact Nat.zero_le _, fun l hl => ?_⟩
  have e0 : Ex H (upd H l (.lst [])) := Evl.Ex.new hl
  refine ⟨_, rfl, _, _, _, _, rfl, rfl, nl_t (Nl.ex e0) hT, atI_nat (j := 1) rfl, ar, rfl, ⟨_, nl_t (Nl.ex e0) hr'⟩, ?_⟩
  refine for_tup (xs := xr) (fun i σ' H' => Ex H H' ∧ (∃ ys, H' l = some (.lst ys) ∧ TpA K H' ys ((R.take i).map fun r => rowD (hushR qs r))) ∧ ∃ z1 z2 z3, σ' = [some (.ref a), some (.ref aq), some (.ref l), z1, z2, z3]) ⟨e0, ⟨_, upd_same, .nil⟩, _, _, _, rfl⟩ (fun i σ' H' _ p => nl_t (Nl.ex p.1) hr') ?_ ?_
  · rintro i x σ' H' hx ⟨e1, ⟨ys, hl1, ty⟩, z1, z2, z3, rfl⟩
    have hi : i < R.length := by rw [← hlenR]; exact (List.getElem?_eq_some_iff.mp hx).1
    obtain ⟨d, hd, tx⟩ := tr.got hx
    rw [map_get (f := rowD) hi []] at hd
    cases hd
    obtain ⟨aw, xw, rfl, hw, tw⟩ := (tx.mono (Nl.ex e1)).tupE
    have hrow : (R.getD i []).length = L.length := wf.row _ (getD_mem hi)
    have hlw : xw.length = (R.getD i []).length := by rw [tw.length, List.length_map]
    refine ⟨_, rfl, .inl ⟨rfl, _, SqL.of hl1⟩, ?_⟩
    try dsimp only
    repeat (first | refine w_lc ?_ | unfold gName | unfold tIfS | unfold tNot | unfold tB | unfold tTest | unfold tRet | unfold tAsg | unfold tSeq | unfold tDrop | unfold tCB | unfold tCons)
    refine ⟨_, rfl, aw, rfl, ⟨_, hw⟩, lc_pure (n := xw.length) (runs_t hw) (fun _ => true) (fun k v H => Tp K H v (pairD (((R.getD i []).getD k (0, PySem.Str.empty)).1, hushW qs ((R.getD i []).getD k (0, PySem.Str.empty)).2))) (by rw [hlw, hrow]; omega) (fun _ _ _ _ e h => h.mono e) ?_ ?_⟩
    · intro k u H7 hk e8 hu C kk
      obtain ⟨d, hd, tu⟩ := tw.got hu
      rw [map_get (f := pairD) (by rw [← hlw]; exact hk) (0, PySem.Str.empty)] at hd
      cases hd
      obtain ⟨ap, rfl, hp⟩ := pair_of (tu.mono (Nl.ex e8))
      generalize (R.getD i []).getD k (0, PySem.Str.empty) = pr at hp kk
      obtain ⟨pn, pw⟩ := pr
      refine ⟨ap, _, rfl, hp, rfl, _, _, rfl, _, _, rfl, rfl, ?_⟩
      refine kk _ _ rfl (Ex.refl _) (fun Q q => q _ (Ex.refl _)) fun _ H8 e9 Q q => ?_
      have hq8 := nl_t (Nl.ex ((e1.trans e8).trans e9)) hq0
      refine ⟨_, rfl, _, rfl, _, rfl, aq, _, rfl, .inr hq8, rfl, flat_strV qs, _, rfl, ?_⟩
      rw [inV_strs, if_neg (by decide)]
      have hh := hush_str qs pw
      dsimp only
      by_cases hc2 : pw ∈ qs
      · rw [if_pos (decide_eq_true hc2)] at hh
        rw [if_pos (decide_eq_true hc2)]
        refine ⟨sz2, fun p hp => ?_⟩
        refine q _ _ (Evl.Ex.new hp) (of_pair (.inl (.inl ?_)))
        rw [upd_same, ← hh]
      · rw [if_neg (by rw [decide_eq_true_eq]; exact hc2)] at hh
        rw [if_neg (by rw [decide_eq_true_eq]; exact hc2)]
        refine ⟨_, rfl, sz2, fun p hp => ?_⟩
        refine q _ _ (Evl.Ex.new hp) (of_pair (.inl (.inl ?_)))
        rw [upd_same, ← hh]
    · intro D H7 xs hD e8 hD7 hall
      have ht := allP_tp hall
      rw [hlw, range_map_get (R.getD i []) (fun p => pairD (p.1, hushW qs p.2)) (0, PySem.Str.empty)] at ht
      refine ⟨D, xs, rfl, .inl ⟨SqL.of hD7, fun p hp => ?_⟩⟩
      have e9 : Ex H7 (upd H7 p (.tup xs)) := Evl.Ex.new hp
      have e10 := e8.trans e9
      have hl8 := e10 _ _ hl1
      have hn : Nl H' (upd (upd H7 p (.tup xs)) l (.lst (ys ++ [.ref p]))) := (Nl.ex e10).trans (Nl.lst hl8)
      refine ⟨l, ys, .ref p, rfl, rfl, hl8, ?_, Evl.Ex.mut (e1.trans e10) hl, ⟨_, upd_same, ?_⟩, _, _, _, rfl⟩
      · rw [ty.length, List.length_map]
        exact small_len (by have := List.length_take_le i R; have := wf.le; have := List.length_take_le' i R; omega)
      · rw [take_snoc (show R[i]? = some (R.getD i []) by rw [List.getD_eq_getElem?_getD, List.getElem?_eq_getElem hi]; rfl), List.map_append]
        exact (ty.mono hn).snoc (.tup (nl_t (Nl.lst hl8) (.inl (.inl upd_same))) (by rw [show (hushR qs (R.getD i [])).map pairD = (R.getD i []).map (fun p => pairD (p.1, hushW qs p.2)) by unfold hushR; rw [List.map_map]; rfl]; exact ht.mono ((Nl.ex e9).trans (Nl.lst hl8))))
  · rintro σ' H' ⟨e1, ⟨ys, hl1, ty⟩, z1, z2, z3, rfl⟩
    rw [hlenR, List.take_length] at ty
    refine ⟨_, rfl, _, _, _, _, rfl, rfl, nl_t (Nl.ex e1) hT, atI_nat (j := 0) rfl, _, rfl, l, ys, rfl, .inl ⟨SqL.of hl1, fun p hp => ⟨sz2, fun p2 hp2 => ?_⟩⟩⟩
    have e9 : Ex H' (upd H' p (.tup ys)) := Evl.Ex.new hp
    have e10 : Ex (upd H' p (.tup ys)) (upd (upd H' p (.tup ys)) p2 (.tup [.ref al, .ref p])) := Evl.Ex.new hp2
    have e11 := e9.trans e10
    refine q _ _ (e1.trans e11) (.tup (.inl (.inl upd_same)) (.cons ((of_tS hl0).mono (Nl.ex (e1.trans e11))) (.cons (.tup (nl_t (Nl.ex e10) (.inl (.inl upd_same))) ?_) .nil)))
    have := ty.mono (Nl.ex e11)
    rw [show hush qs R = R.map (hushR qs) from rfl, List.map_map]
    exact this
end
end AN
end

-- ANw5
section
set_option Elab.async false
set_option linter.all false
set_option maxRecDepth 100000
set_option maxHeartbeats 4000000
namespace AN
open PySem PySem.Spec PyProof.Rows L2 StX
open Evl (Ex)

/-- tuples are kept -/
def Tk (H H' : Hp) : Prop := (∀ a xs, H a = some (.tup xs) → H' a = some (.tup xs)) ∧ ∀ a o u, H a = some (.frz o u) → H' a = some (.frz o u)
theorem Tk.nl {H H' : Hp} (e : Nl H H') : Tk H H' := ⟨fun a xs h => e a _ h fun _ => nofun, fun a o u h => e a _ h fun _ => nofun⟩
theorem Tk.trans {H H1 H2 : Hp} (a : Tk H H1) (b : Tk H1 H2) : Tk H H2 := ⟨fun x xs h => b.1 x xs (a.1 x xs h), fun x o u h => b.2 x o u (a.2 x o u h)⟩
theorem Tk.ins {H : Hp} {a C dx : Addr} {fs : List (PySem.Str × V)} {o : HO} (h : H a = some (.ins C dx fs)) : Tk H (upd H a o) :=
  ⟨fun b xs e => by rw [upd_ne (ne_of e h nofun)]; exact e, fun b u v e => by rw [upd_ne (ne_of e h nofun)]; exact e⟩
theorem tk_t {K : PySem.W.Frag} {H H' : Hp} {a : Addr} {xs : List V} (e : Tk H H') (h : SqT K H a xs) : SqT K H' a xs := by
  rcases h with (h | ⟨o, h⟩) | h
  · exact .inl (.inl (e.1 _ _ h))
  · exact .inl (.inr ⟨o, e.2 _ _ _ h⟩)
  · exact .inr h
mutual
theorem Tp.tk {K : PySem.W.Frag} {H H' : Hp} (e : Tk H H') : ∀ {v : V} {d : PyData}, Tp K H v d → Tp K H' v d
  | _, _, .non => .non
  | _, _, .bl b => .bl b
  | _, _, .int i => .int i
  | _, _, .str x => .str x
  | _, _, .tup h t => .tup (tk_t e h) (TpA.tk e t)
theorem TpA.tk {K : PySem.W.Frag} {H H' : Hp} (e : Tk H H') : ∀ {vs : List V} {ds : List PyData}, TpA K H vs ds → TpA K H' vs ds
  | _, _, .nil => .nil
  | _, _, .cons h t => .cons (Tp.tk e h) (TpA.tk e t)
end
/-- an instance of Look -/
def LookI (K : PySem.W.Frag) (H : Hp) (x : Addr) (L : List PySem.Str) (R : Rows) : Prop := ∃ dx sv sg mv, H x = some (.ins (He.ga K "Look") dx [("seen", sv), ("signs", sg), ("moves", mv)]) ∧ Tp K H sv (machD L R) ∧ Tp K H sg (tS L) ∧ Tp K H mv (rowsD R)
theorem LookI.mono {K : PySem.W.Frag} {H H' : Hp} {x : Addr} {L : List PySem.Str} {R : Rows} (e : Nl H H') (h : LookI K H x L R) : LookI K H' x L R := by
  obtain ⟨dx, sv, sg, mv, h0, h1, h2, h3⟩ := h
  exact ⟨dx, sv, sg, mv, e _ _ h0 fun _ => nofun, h1.mono e, h2.mono e, h3.mono e⟩
/-- all but the object at x is kept -/
def Kx (x : Addr) (H H' : Hp) : Prop := ∀ b o, b ≠ x → H b = some o → H' b = some o
abbrev bLook (K : PySem.W.Frag) : B3 := fun self m qv H Q => ∃ (x dx : Addr) (L : List PySem.Str) (R : Rows) (qs : List PySem.Str), self = .ref x ∧ H x = some (.ins (He.ga K "Look") dx []) ∧ Tp K H m (machD L R) ∧ Tp K H qv (tS qs) ∧ Wf L.length R ∧ L.length ≤ 100 ∧ ∀ H', Kx x H H' → LookI K H' x L (hush qs R) → Q .non H'
theorem pair2 {K : PySem.W.Frag} {H : Hp} {v : V} {L : List PySem.Str} {R : Rows} (h : Tp K H v (machD L R)) : ∃ a x y, v = .ref a ∧ SqT K H a [x, y] ∧ Tp K H x (tS L) ∧ Tp K H y (rowsD R) := mach_of h

theorem allP_eq {H : Hp} {f : Nat → V} : ∀ {l : List Nat} {xs : List V}, AllP (fun i v _ => v = f i) H l xs → xs = l.map f
  | [], [], _ => rfl
  | _ :: _, _ :: _, ⟨h, t⟩ => by rw [h, allP_eq t]; rfl
  | [], _ :: _, h => h.elim
  | _ :: _, [], h => h.elim

abbrev N_d_Look_init : List PySem.Str := ["self", "machine", "quiet"]
theorem sc_d_Look_init : FnScope N_d_Look_init ["self", "machine", "quiet"] AN.d_Look_init.scope := ⟨rfl, rfl, rfl, by decide +kernel, rfl, by decide +kernel, by decide +kernel⟩
section
variable {P : Program} {w : World} {K : PySem.W.Frag} {mg : PySem.Str → Option Value} {base : Heap} (T : Kit K mg)
include T
theorem ok_Look_init : ∃ fd, FunD K AN.d_Look_init.name AN.d_Look_init.qual AN.d_Look_init.params AN.d_Look_init.body AN.d_Look_init.scope (AN.d_Look_init.dvs K) (AN.d_Look_init.kws K) (AN.d_Look_init.at_ K) fd ∧ FnOk P w K mg base CX0 2 (AN.d_Look_init.at_ K) fd ["self", "machine", "quiet"] (sp3 (bLook K)) := by
  obtain ⟨fd, F⟩ := T.d_Look_init
  refine ⟨fd, F, F.ok sc_d_Look_init len3 (fun cdv A outer s H vs Q E hr h => ?_)⟩
  have hu64 : (A.deeper (envOfC AN.d_Look_init.qual AN.d_Look_init.scope s.heap.objs.size (AN.d_Look_init.at_ K) cdv)).units + 65 < cLine := hu_of65 hr
  have hu63 : (A.deeper (envOfC AN.d_Look_init.qual AN.d_Look_init.scope s.heap.objs.size (AN.d_Look_init.at_ K) cdv)).units + 64 < cLine := Nat.lt_of_succ_lt hu64
  have hu1 : (A.deeper (envOfC AN.d_Look_init.qual AN.d_Look_init.scope s.heap.objs.size (AN.d_Look_init.at_ K) cdv)).units + 1 < cLine := hu_of hr
  have nd := sc_d_Look_init.nd
  obtain ⟨self, m, qv, rfl, x, dx, L, R, qs, rfl, hx, hm, hq, wf, hL, q⟩ := h
  refine ⟨_, PSs.nox (pss_cons (ps_fld (pv 0) (pe_gf (w_quieted T) (hr.mono (by decide)) (by rfl) T.g_quieted pass0 (pa_cons (pv 1) (pa_cons (pv 2) pa_nil))) rfl) (pss_one (ps_asg (pe_fld (pv 0) rfl) (pg_tup rfl (pgs_cons (pg_fld (pv 0)) (pgs_cons (pg_fld (pv 0)) pgs_nil)))))), ?_⟩

  refine ⟨_, rfl, _, rfl, _, _, rfl, L, R, qs, hm, hq, wf, hL, fun v H1 e1 tv => ?_⟩
  have hx1 := e1 _ _ hx
  refine ⟨_, rfl, x, _, dx, [], rfl, hx1, T.cl_Look, T.n_Look_seen, by decide, ?_⟩
  have t2 : Tk H1 (upd H1 x (.ins (He.ga K "Look") dx [("seen", v)])) := Tk.ins hx1
  obtain ⟨a, y, z, rfl, hT, ty, tz⟩ := mach_of (tv.tk t2)
  refine ⟨_, rfl, x, _, dx, _, .ref a, rfl, upd_same, T.cl_Look, T.n_Look_seen, rfl, ?_⟩
  refine ⟨a, _, rfl, hT, rfl, _, _, rfl, ?_⟩
  refine ⟨_, rfl, x, _, dx, _, rfl, upd_same, T.cl_Look, T.n_Look_signs, by show (1 : Nat) < 1000; omega, ?_⟩
  have t3 := t2.trans (Tk.ins (H := upd H1 x (.ins (He.ga K "Look") dx [("seen", V.ref a)])) (o := .ins (He.ga K "Look") dx (putF "signs" y [("seen", V.ref a)])) upd_same)
  refine ⟨_, _, rfl, _, rfl, x, _, dx, _, rfl, upd_same, T.cl_Look, T.n_Look_moves, by show (2 : Nat) < 1000; omega, rfl, ?_⟩
  have t4 := t3.trans (Tk.ins (H := upd (upd H1 x (.ins (He.ga K "Look") dx [("seen", V.ref a)])) x (.ins (He.ga K "Look") dx (putF "signs" y [("seen", V.ref a)]))) (o := .ins (He.ga K "Look") dx (putF "moves" z (putF "signs" y [("seen", V.ref a)]))) upd_same)
  have t34 : Tk (upd H1 x (.ins (He.ga K "Look") dx [("seen", V.ref a)])) _ := (Tk.ins (H := upd H1 x (.ins (He.ga K "Look") dx [("seen", V.ref a)])) (o := .ins (He.ga K "Look") dx (putF "signs" y [("seen", V.ref a)])) upd_same).trans (Tk.ins (H := upd (upd H1 x (.ins (He.ga K "Look") dx [("seen", V.ref a)])) x (.ins (He.ga K "Look") dx (putF "signs" y [("seen", V.ref a)]))) (o := .ins (He.ga K "Look") dx (putF "moves" z (putF "signs" y [("seen", V.ref a)]))) upd_same)
  refine q _ (fun b o hb h => ?_) ⟨dx, .ref a, y, z, upd_same, tv.tk t4, ty.tk t34, tz.tk t34⟩
  rw [upd_ne hb, upd_ne hb, upd_ne hb]
  exact e1 _ _ h
end

section
variable {P : Program} {w : World} {K : PySem.W.Frag} {mg : PySem.Str → Option Value} {base : Heap} (T : Kit K mg)
include T
theorem w_Look_init2 : GF P w K mg base 2 (He.ma K (He.ga K "Look") "__init__") (sp3 (bLook K)) := by
  obtain ⟨fd, F, G⟩ := ok_Look_init (P := P) (w := w) (base := base) T
  obtain ⟨ds, hv, hb⟩ := FunD.binds1 (ps := ["self", "machine", "quiet"]) F 3 1 (List.cons_ne_nil _ _) rfl (fun _ _ _ _ _ _ _ us its h1 h2 => match us, its, h1, h2 with | [_, _, _], [_], _, _ => ⟨_, rfl, rfl⟩)
  have : ds = [] := by cases hv; rfl
  subst this
  exact ⟨(FnOk.raw (dvs := []) G hb .nil).imp fun vs H Q E h => by simpa using h, F.kp⟩
theorem w_Look_init1 : GF P w K mg base 2 (He.ma K (He.ga K "Look") "__init__") (fun vs H Q E => sp3 (bLook K) (vs ++ [.ref (dfAt (fun K => He.ma K (He.ga K "Look") "__init__") 0 K)]) H Q E) := by
  obtain ⟨fd, F, G⟩ := ok_Look_init (P := P) (w := w) (base := base) T
  obtain ⟨ds, hv, hb⟩ := FunD.binds1 (ps := ["self", "machine", "quiet"]) F 2 0 (List.cons_ne_nil _ _) rfl (fun _ _ _ _ _ _ _ us its h1 h2 => match us, its, h1, h2 with | [_, _], [_], _, _ => ⟨_, rfl, rfl⟩)
  exact ⟨FnOk.raw G hb hv, F.kp⟩
omit T in
theorem make_look {H1 : Hp} {Q : VK} {m qv : V} {L : List PySem.Str} {R : Rows} {qs : List PySem.Str} (hm : Tp K H1 m (machD L R)) (hq : Tp K H1 qv (tS qs)) (wf : Wf L.length R) (hL : L.length ≤ 100) (q : ∀ x H2, H1 x = none → Ex H1 H2 → LookI K H2 x L (hush qs R) → Q (.ref x) H2) :
    ∀ x dx, H1 x = none → H1 dx = none → dx ≠ x → sp3 (bLook K) [.ref x, m, qv] (upd (upd H1 dx (.own x)) x (.ins (He.ga K "Look") dx [])) (fun v H2 => v = .non ∧ Q (.ref x) H2) E0 := by
  intro x dx h1 h2 ne
  have e1 : Ex H1 (upd H1 dx (.own x)) := Evl.Ex.new h2
  have hx : (upd H1 dx (.own x)) x = none := by rw [upd_ne (Ne.symm ne)]; exact h1
  have e2 : Ex H1 (upd (upd H1 dx (.own x)) x (.ins (He.ga K "Look") dx [])) := e1.trans (Evl.Ex.new hx)
  refine ⟨_, _, _, rfl, x, dx, L, R, qs, rfl, upd_same, hm.mono (Nl.ex e2), hq.mono (Nl.ex e2), wf, hL, fun H' k li => ⟨rfl, q x H' h1 (fun b o hb => k b o (ne_of_none hb h1) (e2 b o hb)) li⟩⟩
end

abbrev N_d_Look_len : List PySem.Str := ["self"]
theorem sc_d_Look_len : FnScope N_d_Look_len ["self"] AN.d_Look_len.scope := ⟨rfl, rfl, rfl, by decide +kernel, rfl, by decide +kernel, by decide +kernel⟩
section
variable {P : Program} {w : World} {K : PySem.W.Frag} {mg : PySem.Str → Option Value} {base : Heap} (T : Kit K mg)
include T
theorem ok_Look_len : ∃ fd, FunD K AN.d_Look_len.name AN.d_Look_len.qual AN.d_Look_len.params AN.d_Look_len.body AN.d_Look_len.scope (AN.d_Look_len.dvs K) (AN.d_Look_len.kws K) (AN.d_Look_len.at_ K) fd ∧ FnOk P w K mg base CX0 1 (AN.d_Look_len.at_ K) fd ["self"] (sp1 (fun self H Q => ∃ (x : Addr) (L : List PySem.Str) (R : Rows), self = .ref x ∧ LookI K H x L R ∧ Q (.int (R.length : Nat)) H)) := by
  obtain ⟨fd, F⟩ := T.d_Look_len
  refine ⟨fd, F, F.ok sc_d_Look_len len1 (fun cdv A outer s H vs Q E hr h => ?_)⟩
  have hu64 : (A.deeper (envOfC AN.d_Look_len.qual AN.d_Look_len.scope s.heap.objs.size (AN.d_Look_len.at_ K) cdv)).units + 65 < cLine := hu_of65 hr
  have hu63 : (A.deeper (envOfC AN.d_Look_len.qual AN.d_Look_len.scope s.heap.objs.size (AN.d_Look_len.at_ K) cdv)).units + 64 < cLine := Nat.lt_of_succ_lt hu64
  have hu1 : (A.deeper (envOfC AN.d_Look_len.qual AN.d_Look_len.scope s.heap.objs.size (AN.d_Look_len.at_ K) cdv)).units + 1 < cLine := hu_of hr
  have nd := sc_d_Look_len.nd
  obtain ⟨self, rfl, x, L, R, rfl, ⟨dx, sv, sg, mv, h0, h1, h2, h3⟩, q⟩ := h
  refine ⟨_, PSs.nox (pss_one (ps_ret (pe_callB call_len_seq (by rfl) T.f_len (by decide +kernel) (pa_cons (pe_fld (pv 0) rfl) pa_nil)))), ?_⟩

  obtain ⟨a, xs, rfl, hs, t⟩ := h3.tupE
  refine ⟨_, rfl, x, _, dx, _, .ref a, rfl, h0, T.cl_Look, T.n_Look_moves, rfl, ?_⟩
  refine ⟨_, _, rfl, .inr hs, ?_⟩
  rw [t.length, List.length_map]
  exact q
end
abbrev N_d_Look_need : List PySem.Str := ["self", "numbers"]
theorem sc_d_Look_need : FnScope N_d_Look_need ["self", "numbers"] AN.d_Look_need.scope := ⟨rfl, rfl, rfl, by decide +kernel, rfl, by decide +kernel, by decide +kernel⟩
section
variable {P : Program} {w : World} {K : PySem.W.Frag} {mg : PySem.Str → Option Value} {base : Heap} (T : Kit K mg)
include T
theorem w_Look_need : GF P w K mg base 4 (AN.d_Look_need.at_ K) (fun vs H Q _ => ∃ (x : Addr) (L : List PySem.Str) (R : Rows) (ns : List Nat), vs = .ref x :: (ns.map fun (n : Nat) => V.int (n : Int)) ∧ LookI K H x L R ∧ (∀ n ∈ ns, n < R.length) ∧ ns.length ≤ 100 ∧ ∀ H', Ex H H' → Q .non H') := by
  obtain ⟨fd, F⟩ := T.d_Look_need
  refine GF.imp (rrS (sp := sp2 (fun self t H Q => ∃ (x : Addr) (L : List PySem.Str) (R : Rows) (ns : List Nat) (a : Addr), self = .ref x ∧ LookI K H x L R ∧ t = .ref a ∧ SqT K H a (ns.map fun (n : Nat) => V.int (n : Int)) ∧ (∀ n ∈ ns, n < R.length) ∧ ns.length ≤ 100 ∧ ∀ H', Ex H H' → Q .non H')) (ps := ["self"]) F sc_d_Look_need (fun kV doc pm an cdv ct => bind_star1 (B := fun us => bindArgs (PySem.W.fnOf AN.d_Look_need.name AN.d_Look_need.qual AN.d_Look_need.params AN.d_Look_need.body AN.d_Look_need.scope .none kV doc pm an cdv ct) ⟨us, []⟩) (fun _ => rfl) (fun _ _ _ => rfl)) (fun cdv A outer s H vs Q E hr h => ?_)) ?_
  rotate_left

  · rintro vs H Q E ⟨x, L, R, ns, rfl, hm, hn, hl, q⟩
    refine ⟨[.ref x], _, rfl, rfl, by rw [List.length_map, sizeLine_eq]; omega, fun p hp => ⟨_, _, rfl, x, L, R, ns, p, rfl, hm.mono (Nl.ex (Evl.Ex.new hp)), rfl, .inl (.inl upd_same), hn, hl, fun H' e => q H' ((Evl.Ex.new hp).trans e)⟩⟩
  have hu64 : (A.deeper (envOfC AN.d_Look_need.qual AN.d_Look_need.scope s.heap.objs.size (AN.d_Look_need.at_ K) cdv)).units + 65 < cLine := hu_of65 hr
  have hu63 : (A.deeper (envOfC AN.d_Look_need.qual AN.d_Look_need.scope s.heap.objs.size (AN.d_Look_need.at_ K) cdv)).units + 64 < cLine := Nat.lt_of_succ_lt hu64
  have hu1 : (A.deeper (envOfC AN.d_Look_need.qual AN.d_Look_need.scope s.heap.objs.size (AN.d_Look_need.at_ K) cdv)).units + 1 < cLine := hu_of hr
  have nd := sc_d_Look_need.nd
  obtain ⟨self, t, rfl, x, L, R, ns, a, rfl, ⟨dx, sv, sg, mv, h0, h1, h2, h3⟩, rfl, hs, hn, hl, q⟩ := h
  refine ⟨_, PSs.nox (pss_one (ps_expr (pe_callS2 (w_require_states T).1 (hr.mono (by decide)) (w_require_states (P := P) (w := w) (base := base) T).2 (by rfl) T.g_require_states pass0 (pa_cons (pe_fld (pv 0) rfl) (pa_star (pv 1) pa_nil))))), ?_⟩

  refine ⟨_, rfl, x, _, dx, _, sv, rfl, h0, T.cl_Look, T.n_Look_seen, rfl, ?_⟩
  refine ⟨_, rfl, a, _, rfl, .inl hs, ?_⟩
  exact ⟨sv, L, R, ns, by simp, h1, hn, hl, fun H' e => q H' e⟩
end
abbrev N_d_Look_nexts : List PySem.Str := ["self", "number", "after", "word"]
theorem sc_d_Look_nexts : FnScope N_d_Look_nexts ["self", "number"] AN.d_Look_nexts.scope := ⟨rfl, rfl, rfl, by decide +kernel, rfl, by decide +kernel, by decide +kernel⟩
section
variable {P : Program} {w : World} {K : PySem.W.Frag} {mg : PySem.Str → Option Value} {base : Heap} (T : Kit K mg)
include T
theorem w_Look_nexts : GF P w K mg base 1 (AN.d_Look_nexts.at_ K) (sp2 (fun self n H Q => ∃ (x : Addr) (L : List PySem.Str) (R : Rows) (s : Nat), self = .ref x ∧ LookI K H x L R ∧ n = .int (s : Int) ∧ s < R.length ∧ Wf L.length R ∧ L.length ≤ 100 ∧ Ret H (fun v H' => ∃ a, v = .ref a ∧ H a = none ∧ H' a = some (.lst ((R.getD s []).map fun p => V.int (p.1 : Int)))) Q)) := by
  obtain ⟨fd, F⟩ := T.d_Look_nexts
  refine rr F sc_d_Look_nexts len2 (fun _ _ _ _ _ _ us hl => match us, hl with | [_, _], _ => rfl) (fun cdv A outer s H vs Q E hr h => ?_)
  have hu64 : (A.deeper (envOfC AN.d_Look_nexts.qual AN.d_Look_nexts.scope s.heap.objs.size (AN.d_Look_nexts.at_ K) cdv)).units + 65 < cLine := hu_of65 hr
  have hu63 : (A.deeper (envOfC AN.d_Look_nexts.qual AN.d_Look_nexts.scope s.heap.objs.size (AN.d_Look_nexts.at_ K) cdv)).units + 64 < cLine := Nat.lt_of_succ_lt hu64
  have hu1 : (A.deeper (envOfC AN.d_Look_nexts.qual AN.d_Look_nexts.scope s.heap.objs.size (AN.d_Look_nexts.at_ K) cdv)).units + 1 < cLine := hu_of hr
  have nd := sc_d_Look_nexts.nd
  obtain ⟨self, n, rfl, x, L, R, sn, rfl, ⟨dx, sv, sg, mv, h0, h1, h2, h3⟩, rfl, hs, wf, hL, q⟩ := h
  refine ⟨_, PSs.nox (pss_one (ps_ret (pe_lc (own := [("after", 2), ("word", 3)]) (g := gTup K 2 (gCons (gName 2) (gCons (gName 3) gNil))) rfl nd (pi_tup (pe_ix ix_tup (pe_fld (pv 0) rfl) (pv 1) (fun _ _ => rfl))) (blkOk_by (own := [("after", 2), ("word", 3)]) (N := N_d_Look_nexts) (sc := AN.d_Look_nexts.scope) (by decide +kernel)) (fun _ _ _ _ _ => (pg_tup rfl (pgs_cons (pg_name (i := 2) nd rfl (Or.inl rfl)) (pgs_cons (pg_name (i := 3) nd rfl (Or.inl rfl)) pgs_nil)))) (fun _ _ _ _ _ => pts_nil) (fun _ _ _ _ _ => (pv 2))))), ?_⟩

  obtain ⟨am, xm, rfl, hm, tm⟩ := h3.tupE
  obtain ⟨vr, hvr, tvr⟩ := tm.get (map_get (f := rowD) hs [])
  obtain ⟨aw, xw, rfl, hw, tw⟩ := tvr.tupE
  have hrow : (R.getD sn []).length = L.length := wf.row _ (getD_mem hs)
  have hlw : xw.length = (R.getD sn []).length := by rw [tw.length, List.length_map]
  ((try dsimp only); (repeat (first | refine w_lc ?_ | unfold gName | unfold tIfS | unfold tNot | unfold tB | unfold tTest | unfold tRet | unfold tAsg | unfold tSeq | unfold tDrop | unfold tCB | unfold tCons)))
  refine ⟨_, rfl, x, _, dx, _, .ref am, rfl, h0, T.cl_Look, T.n_Look_moves, rfl, ?_⟩
  refine ⟨_, rfl, _, _, _, _, rfl, rfl, hm, atI_nat hvr, aw, rfl, ⟨_, hw⟩, ?_⟩
  refine lc_pure (n := xw.length) (runs_t hw) (fun _ => true) (fun k v _ => v = V.int ((((R.getD sn []).getD k (0, PySem.Str.empty)).1 : Nat) : Int)) (by rw [hlw, hrow]; omega) (fun _ _ _ _ _ h => h) ?_ ?_
  · intro k u H7 hk e8 hu C kk
    obtain ⟨d, hd, tu⟩ := tw.got hu
    rw [map_get (f := pairD) (by rw [← hlw]; exact hk) (0, PySem.Str.empty)] at hd
    cases hd
    obtain ⟨ap, rfl, hp⟩ := pair_of (tu.mono (Nl.ex e8))
    refine ⟨ap, _, rfl, hp, rfl, _, _, rfl, _, _, rfl, rfl, ?_⟩
    refine kk _ _ rfl (Ex.refl _) (fun Q q => q _ (Ex.refl _)) fun _ H8 e9 Q q => ?_
    exact ⟨_, rfl, q _ _ (Ex.refl _) rfl⟩
  · intro D H7 xs hD e8 hD7 hall
    have hx : xs = (List.range xw.length).map fun k => V.int ((((R.getD sn []).getD k (0, PySem.Str.empty)).1 : Nat) : Int) := by
      rw [filter_true] at hall
      exact allP_eq hall
    rw [hx, hlw, range_map_get (R.getD sn []) (fun p => V.int (p.1 : Int)) (0, PySem.Str.empty)] at hD7
    exact q _ _ e8 ⟨D, rfl, hD, hD7⟩
end
abbrev N_d_Look_words : List PySem.Str := ["self", "number", "after", "word"]
theorem sc_d_Look_words : FnScope N_d_Look_words ["self", "number"] AN.d_Look_words.scope := ⟨rfl, rfl, rfl, by decide +kernel, rfl, by decide +kernel, by decide +kernel⟩
section
variable {P : Program} {w : World} {K : PySem.W.Frag} {mg : PySem.Str → Option Value} {base : Heap} (T : Kit K mg)
include T
theorem w_Look_words : GF P w K mg base 1 (AN.d_Look_words.at_ K) (sp2 (fun self n H Q => ∃ (x : Addr) (L : List PySem.Str) (R : Rows) (s : Nat), self = .ref x ∧ LookI K H x L R ∧ n = .int (s : Int) ∧ s < R.length ∧ Wf L.length R ∧ L.length ≤ 100 ∧ Ret H (fun v H' => ∃ a, v = .ref a ∧ H a = none ∧ H' a = some (.lst ((R.getD s []).map fun p => V.str p.2))) Q)) := by
  obtain ⟨fd, F⟩ := T.d_Look_words
  refine rr F sc_d_Look_words len2 (fun _ _ _ _ _ _ us hl => match us, hl with | [_, _], _ => rfl) (fun cdv A outer s H vs Q E hr h => ?_)
  have hu64 : (A.deeper (envOfC AN.d_Look_words.qual AN.d_Look_words.scope s.heap.objs.size (AN.d_Look_words.at_ K) cdv)).units + 65 < cLine := hu_of65 hr
  have hu63 : (A.deeper (envOfC AN.d_Look_words.qual AN.d_Look_words.scope s.heap.objs.size (AN.d_Look_words.at_ K) cdv)).units + 64 < cLine := Nat.lt_of_succ_lt hu64
  have hu1 : (A.deeper (envOfC AN.d_Look_words.qual AN.d_Look_words.scope s.heap.objs.size (AN.d_Look_words.at_ K) cdv)).units + 1 < cLine := hu_of hr
  have nd := sc_d_Look_words.nd
  obtain ⟨self, n, rfl, x, L, R, sn, rfl, ⟨dx, sv, sg, mv, h0, h1, h2, h3⟩, rfl, hs, wf, hL, q⟩ := h
  refine ⟨_, PSs.nox (pss_one (ps_ret (pe_lc (own := [("after", 2), ("word", 3)]) (g := gTup K 2 (gCons (gName 2) (gCons (gName 3) gNil))) rfl nd (pi_tup (pe_ix ix_tup (pe_fld (pv 0) rfl) (pv 1) (fun _ _ => rfl))) (blkOk_by (own := [("after", 2), ("word", 3)]) (N := N_d_Look_words) (sc := AN.d_Look_words.scope) (by decide +kernel)) (fun _ _ _ _ _ => (pg_tup rfl (pgs_cons (pg_name (i := 2) nd rfl (Or.inl rfl)) (pgs_cons (pg_name (i := 3) nd rfl (Or.inl rfl)) pgs_nil)))) (fun _ _ _ _ _ => pts_nil) (fun _ _ _ _ _ => (pv 3))))), ?_⟩

  obtain ⟨am, xm, rfl, hm, tm⟩ := h3.tupE
  obtain ⟨vr, hvr, tvr⟩ := tm.get (map_get (f := rowD) hs [])
  obtain ⟨aw, xw, rfl, hw, tw⟩ := tvr.tupE
  have hrow : (R.getD sn []).length = L.length := wf.row _ (getD_mem hs)
  have hlw : xw.length = (R.getD sn []).length := by rw [tw.length, List.length_map]
  ((try dsimp only); (repeat (first | refine w_lc ?_ | unfold gName | unfold tIfS | unfold tNot | unfold tB | unfold tTest | unfold tRet | unfold tAsg | unfold tSeq | unfold tDrop | unfold tCB | unfold tCons)))
  refine ⟨_, rfl, x, _, dx, _, .ref am, rfl, h0, T.cl_Look, T.n_Look_moves, rfl, ?_⟩
  refine ⟨_, rfl, _, _, _, _, rfl, rfl, hm, atI_nat hvr, aw, rfl, ⟨_, hw⟩, ?_⟩
  refine lc_pure (n := xw.length) (runs_t hw) (fun _ => true) (fun k v _ => v = V.str ((R.getD sn []).getD k (0, PySem.Str.empty)).2) (by rw [hlw, hrow]; omega) (fun _ _ _ _ _ h => h) ?_ ?_
  · intro k u H7 hk e8 hu C kk
    obtain ⟨d, hd, tu⟩ := tw.got hu
    rw [map_get (f := pairD) (by rw [← hlw]; exact hk) (0, PySem.Str.empty)] at hd
    cases hd
    obtain ⟨ap, rfl, hp⟩ := pair_of (tu.mono (Nl.ex e8))
    refine ⟨ap, _, rfl, hp, rfl, _, _, rfl, _, _, rfl, rfl, ?_⟩
    refine kk _ _ rfl (Ex.refl _) (fun Q q => q _ (Ex.refl _)) fun _ H8 e9 Q q => ?_
    exact ⟨_, rfl, q _ _ (Ex.refl _) rfl⟩
  · intro D H7 xs hD e8 hD7 hall
    have hx : xs = (List.range xw.length).map fun k => V.str ((R.getD sn []).getD k (0, PySem.Str.empty)).2 := by
      rw [filter_true] at hall
      exact allP_eq hall
    rw [hx, hlw, range_map_get (R.getD sn []) (fun p => V.str p.2) (0, PySem.Str.empty)] at hD7
    exact q _ _ e8 ⟨D, rfl, hD, hD7⟩
end
end AN
end

-- ANw6
section
set_option Elab.async false
set_option linter.all false
set_option maxRecDepth 100000
set_option maxHeartbeats 4000000
namespace AN
open PySem PySem.Spec PyProof.Rows L2 StX
open Evl (Ex)

theorem Tk.ext {H : Hp} {a : Addr} {φ : Heap → Prop} {o : HO} (h : H a = some (.ext φ)) : Tk H (upd H a o) :=
  ⟨fun b xs e => by rw [upd_ne (ne_of e h nofun)]; exact e, fun b u v e => by rw [upd_ne (ne_of e h nofun)]; exact e⟩
theorem K3At.tk {K : PySem.W.Frag} {H H' : Hp} (e : Tk H H') {t : Addr} {k : K3} (h : K3At K H t k) : K3At K H' t k := by
  obtain ⟨t1, t2, h0, h1, h2⟩ := h
  exact ⟨t1, t2, tk_t e h0, tk_t e h1, tk_t e h2⟩
def toK3 (k : KeyT) : K3 := ⟨(k.1 : Int), k.2.1, k.2.2.map fun (n : Nat) => (n : Int)⟩
theorem map_cast_inj : ∀ {a b : List Nat}, (a.map fun (n : Nat) => (n : Int)) = b.map (fun (n : Nat) => (n : Int)) → a = b
  | [], [], _ => rfl
  | x :: a, y :: b, h => by
    simp only [List.map_cons, List.cons.injEq] at h
    rw [map_cast_inj h.2, Int.ofNat.inj h.1]
  | [], _ :: _, h => by simp at h
  | _ :: _, [], h => by simp at h
theorem toK3_inj {a b : KeyT} (h : toK3 a = toK3 b) : a = b := by
  obtain ⟨a1, a2, a3⟩ := a
  obtain ⟨b1, b2, b3⟩ := b
  simp only [toK3, K3.mk.injEq] at h
  obtain ⟨h1, h2, h3⟩ := h
  rw [Int.ofNat.inj h1, h2, map_cast_inj h3]
def fst3 (R : Rows) (c : List Nat) (i : Nat) (k : K3) : Option Nat := (List.range i).find? fun m => decide (toK3 (keyAt R c m) = k)
theorem fst3_succ (R : Rows) (c : List Nat) (i : Nat) (k : K3) : fst3 R c (i + 1) k = (fst3 R c i k).or (if toK3 (keyAt R c i) = k then some i else none) := by
  unfold fst3
  rw [List.range_succ, List.find?_append]
  congr 1
  by_cases h : toK3 (keyAt R c i) = k <;> simp [h]
theorem fst3_val {R : Rows} {c : List Nat} {i : Nat} (hi : i < R.length) : (rfn R c).getD i 0 = (fst3 R c i (toK3 (keyAt R c i))).getD i := by
  rw [rfn_getD hi]
  obtain ⟨h1, h2⟩ := idx_key (c := c) hi
  cases e : fst3 R c i (toK3 (keyAt R c i)) with
  | none =>
    have hn := List.find?_eq_none.mp e
    have hle := idx_le (c := c) hi hi rfl
    rcases Nat.lt_or_ge ((keys R c).idxOf (keyAt R c i)) i with hlt | hge
    · exact absurd (by rw [h2]; exact decide_eq_true rfl) (hn _ (List.mem_range.mpr hlt))
    · exact Nat.le_antisymm hle hge
  | some m =>
    obtain ⟨hm1, hm2, hm3⟩ := List.find?_range_eq_some.mp e
    have hmi := List.mem_range.mp hm2
    have hk := toK3_inj (of_decide_eq_true hm1)
    have hle := idx_le (c := c) hi (j := m) (by omega) hk
    show _ = m
    rcases Nat.lt_or_ge ((keys R c).idxOf (keyAt R c i)) m with hlt | hge
    · have := hm3 _ hlt
      rw [h2] at this
      simp at this
    · exact Nat.le_antisymm hle hge
theorem at3_snoc (D : List (K3 × Addr × V)) (k0 : K3) (t : Addr) (y : V) (k : K3) : at3 (D ++ [(k0, t, y)]) k = (at3 D k).or (if k0 = k then some y else none) := by
  unfold at3
  rw [List.find?_append]
  cases e : D.find? (fun p => decide (p.1 = k)) with
  | some p => rfl
  | none => by_cases h : k0 = k <;> simp [h]
theorem rfn_snoc {R : Rows} {c : List Nat} {i : Nat} (hi : i < R.length) : ((rfn R c).take (i + 1)).map (fun (n : Nat) => V.int (n : Int)) = ((rfn R c).take i).map (fun (n : Nat) => V.int (n : Int)) ++ [.int (((rfn R c).getD i 0 : Nat) : Int)] := by
  rw [take_snoc (x := (rfn R c).getD i 0), List.map_append]
  · rfl
  · rw [List.getD_eq_getElem?_getD, List.getElem?_eq_getElem (by rw [rfn_length]; exact hi)]
    rfl

abbrev N_d_refined : List PySem.Str := ["look", "classes", "known", "found", "number", "nexts", "after"]
theorem sc_d_refined : FnScope N_d_refined ["look", "classes"] AN.d_refined.scope := ⟨rfl, rfl, rfl, by decide +kernel, rfl, by decide +kernel, by decide +kernel⟩
section
variable {P : Program} {w : World} {K : PySem.W.Frag} {mg : PySem.Str → Option Value} {base : Heap} (T : Kit K mg)
include T
theorem w_refined : GF P w K mg base 3 (AN.d_refined.at_ K) (sp2 (fun lk cs H Q => ∃ (x a : Addr) (L : List PySem.Str) (R : Rows) (c : List Nat), lk = .ref x ∧ cs = .ref a ∧ LookI K H x L R ∧ H a = some (.lst (c.map fun (n : Nat) => V.int (n : Int))) ∧ c.length = R.length ∧ Wf L.length R ∧ L.length ≤ 100 ∧ Ret H (fun v H' => ∃ b, v = .ref b ∧ H' b = some (.lst ((rfn R c).map fun (n : Nat) => V.int (n : Int)))) Q)) := by
  obtain ⟨fd, F⟩ := T.d_refined
  refine rr F sc_d_refined len2 (fun _ _ _ _ _ _ us hl => match us, hl with | [_, _], _ => rfl) (fun cdv A outer s H vs Q E hr h => ?_)
  have hu64 : (A.deeper (envOfC AN.d_refined.qual AN.d_refined.scope s.heap.objs.size (AN.d_refined.at_ K) cdv)).units + 65 < cLine := hu_of65 hr
  have hu63 : (A.deeper (envOfC AN.d_refined.qual AN.d_refined.scope s.heap.objs.size (AN.d_refined.at_ K) cdv)).units + 64 < cLine := Nat.lt_of_succ_lt hu64
  have hu1 : (A.deeper (envOfC AN.d_refined.qual AN.d_refined.scope s.heap.objs.size (AN.d_refined.at_ K) cdv)).units + 1 < cLine := hu_of hr

  obtain ⟨fdL, FL, GL⟩ := ok_Look_len (P := P) (w := w) (base := base) T
  have bL : Binds K fdL ["self"] [] := FL.bindsN (fun _ _ _ _ _ _ us hl => match us, hl with | [_], _ => rfl)
  have nd := sc_d_refined.nd
  obtain ⟨lk, cs, rfl, x, a, L, R, c, rfl, rfl, hl, ha, hc, wf, hL, q⟩ := h
  refine ⟨_, PSs.nox (pss_cons (ps_set (i := 2) nd rfl (Or.inl rfl) pe_dnew3) (pss_cons (ps_set (i := 3) nd rfl (Or.inl rfl) (pe_lst pa_nil)) (pss_cons (ps_for PassesOwn.never rfl (pi_range1 (by rfl) T.f_range (pa_cons (pe_callB (cr_lenO T.m_Look_len.at_ T.m_Look_len.fn GL (hr.mono (by decide)).in1 (bL) pass0) (by rfl) T.f_len (by decide +kernel) (pa_cons (pv 0) pa_nil)) pa_nil)) (pg_name (i := 4) nd rfl (Or.inl rfl)) (pss_cons (ps_set (i := 5) nd rfl (Or.inl rfl) (pe_callTy call_tuple_of (by rfl) T.f_tuple (by decide +kernel) (pa_cons (pe_lc (own := [("after", 6)]) rfl nd (pi_list (pe_methR (pv 0) T.cl_Look T.m_Look_nexts (w_Look_nexts T).1 (hr.mono (by decide)) pass0 (pa_cons (pv 4) pa_nil))) (blkOk_by (own := [("after", 6)]) (N := N_d_refined) (sc := AN.d_refined.scope) (by decide +kernel)) (fun _ _ _ _ _ => (pg_name (i := 6) nd rfl (Or.inl rfl))) (fun _ _ _ _ _ => pts_nil) (fun _ _ _ _ _ => (pe_ix (r := rIxL K) ix_list (pv 1) (pv 6) (fun _ _ => rfl)))) pa_nil))) (pss_one (ps_expr (pe_bm PySem.F.plainAttrs_list PySem.F.slot_list_append PySem.F.type_list_append mt_append (pv 3) (pa_cons (pe_bmX okD_is PySem.F.plainAttrs_dict PySem.F.slot_dict_setdefault PySem.F.type_dict_setdefault (mt_setdef3 hu63) (pv 2) (pa_cons (pe_tup (pa_cons (pe_ix ix_list (pv 1) (pv 4) (fun _ _ => rfl)) (pa_cons (pe_callTy call_tuple_of (by rfl) T.f_tuple (by decide +kernel) (pa_cons (pe_methR (pv 0) T.cl_Look T.m_Look_words (w_Look_words T).1 (hr.mono (by decide)) pass0 (pa_cons (pv 4) pa_nil)) pa_nil)) (pa_cons (pv 5) pa_nil)))) (pa_cons (pv 4) pa_nil))) pa_nil)))))) (pss_one (ps_ret (pv 3)))))), ?_⟩

  intro d hd hsm
  have e1 : Ex H (upd H d (DkO P w d [])) := Evl.Ex.new hd
  refine ⟨Nat.zero_le _, fun l hl0 => ?_⟩
  have hnl : d ≠ l := by
    rintro rfl
    rw [upd_same] at hl0
    cases hl0
  have hlH : H l = none := by
    rw [upd_ne (Ne.symm hnl)] at hl0
    exact hl0
  have e2 : Ex H (upd (upd H d (DkO P w d [])) l (.lst [])) := e1.trans (Evl.Ex.new hl0)

  have hl2 := hl.mono (Nl.ex e2)
  have hRl := wf.le
  have hlk := hl
  obtain ⟨dx, sv, sg, mv, hx, _, _, _⟩ := hl
  refine ⟨_, rfl, x, dx, _, rfl, e2 _ _ hx, ⟨_, rfl, x, L, R, rfl, hl2, _, rfl, by omega, by omega, ?_⟩⟩
  refine ⟨(R.length : Int), rfl, by omega, by omega, ?_⟩
  refine for_range (fun i σ' H' => Ex H H' ∧ (∃ D, H' d = some (DkO P w d D) ∧ D.length ≤ i ∧ (∀ k, at3 D k = (fst3 R c i k).map fun (m : Nat) => V.int (m : Int)) ∧ ∀ p ∈ D, K3At K H' p.2.1 p.1) ∧ H' l = some (.lst (((rfn R c).take i).map fun (n : Nat) => V.int (n : Int))) ∧ ∃ z1 z2 z3, σ' = [some (.ref x), some (.ref a), some (.ref d), some (.ref l), z1, z2, z3]) ⟨e2, ⟨[], ?_, Nat.zero_le _, fun _ => rfl, fun _ h => by cases h⟩, upd_same, _, _, _, rfl⟩ ?_ ?_
  · rw [upd_ne hnl]
    exact upd_same
  · rintro i σ' H1 hi ⟨e3, ⟨D, hD, hDl, hat, hDk⟩, hl1, z1, z2, z3, rfl⟩
    have hi : i < R.length := by simpa using hi
    rw [show (0 : Int) + (i : Int) = (i : Int) from Int.zero_add _]
    have hlk1 := hlk.mono (Nl.ex e3)
    have ha1 := e3 _ _ ha
    ((try dsimp only); (repeat (first | refine w_lc ?_ | unfold gName | unfold tIfS | unfold tNot | unfold tB | unfold tTest | unfold tRet | unfold tAsg | unfold tSeq | unfold tDrop | unfold tCB | unfold tCons)))
    refine ⟨_, rfl, x, dx, _, rfl, e3 _ _ hx, rfl, _, rfl, _, _, rfl, x, L, R, i, rfl, hlk1, rfl, hi, wf, hL, fun v H2 e4 hv => ?_⟩
    obtain ⟨b, rfl, _, hb⟩ := hv
    refine ⟨b, rfl, ⟨_, SqL.of hb⟩, ?_⟩
    have hrow : (R.getD i []).length = L.length := wf.row _ (getD_mem hi)
    refine lc_pure (n := ((R.getD i []).map fun p => V.int (p.1 : Int)).length) (runs_l (SqL.of hb)) (fun _ => true) (fun k v _ => v = V.int (((c.getD ((R.getD i []).getD k (0, PySem.Str.empty)).1 0 : Nat)) : Int)) (by rw [List.length_map, hrow]; omega) (fun _ _ _ _ _ h => h) ?_ ?_
    · intro k u H7 hk e8 hu C kk
      refine kk _ _ rfl (Ex.refl _) (fun Q q => q _ (Ex.refl _)) fun _ H8 e9 Q q => ?_
      have hk' : k < (R.getD i []).length := by simpa using hk
      rw [map_get (f := fun (p : Nat × PySem.Str) => V.int (p.1 : Int)) hk' (0, PySem.Str.empty)] at hu
      cases hu
      have hp : ((R.getD i []).getD k (0, PySem.Str.empty)).1 < c.length := by
        rw [hc]
        exact nx_lt wf hi (by omega)
      exact ⟨_, rfl, _, rfl, a, _, _, _, rfl, rfl, SqL.of (e9 _ _ (e8 _ _ (e4 _ _ ha1))), atI_nat (map_get hp 0), q _ _ (Ex.refl _) rfl⟩
    · intro D7 H7 xs hD0 e8 hD7 hall
      have hx7 : xs = (toK3 (keyAt R c i)).ns.map V.int := by
        rw [filter_true] at hall
        rw [allP_eq hall, List.length_map, range_map_get (R.getD i []) (fun p => V.int ((c.getD p.1 0 : Nat) : Int)) (0, PySem.Str.empty)]
        simp [toK3, keyAt, List.map_map]
      have e5 := (e3.trans e4).trans e8
      refine ⟨D7, xs, rfl, .inl ⟨SqL.of hD7, fun p2 hp2 => ?_⟩⟩
      have e6 : Ex H7 (upd H7 p2 (.tup xs)) := Evl.Ex.new hp2
      have e7 := e5.trans e6
      have hl8 : (upd H7 p2 (.tup xs)) l = some (.lst (((rfn R c).take i).map fun (n : Nat) => V.int (n : Int))) := e6 _ _ (e8 _ _ (e4 _ _ hl1))
      have hd8 : (upd H7 p2 (.tup xs)) d = some (DkO P w d D) := e6 _ _ (e8 _ _ (e4 _ _ hD))
      refine ⟨_, rfl, .inl ⟨rfl, _, SqL.of hl8⟩, ?_⟩
      refine ⟨_, rfl, ⟨d, D, rfl, hd8⟩, ?_⟩
      refine ⟨_, rfl, _, rfl, a, _, _, _, rfl, rfl, SqL.of (e7 _ _ ha), atI_nat (map_get (by rw [hc]; exact hi) 0), ?_⟩
      refine ⟨_, rfl, x, dx, _, rfl, e7 _ _ hx, rfl, _, rfl, _, _, rfl, x, L, R, i, rfl, hlk.mono (Nl.ex e7), rfl, hi, wf, hL, fun v H9 e9 hv => ?_⟩
      obtain ⟨b9, rfl, _, hb9⟩ := hv
      refine ⟨b9, _, rfl, .inl ⟨SqL.of hb9, fun p3 hp3 => ?_⟩⟩
      have e10 := e9.trans (Evl.Ex.new (o := .tup ((R.getD i []).map fun p => V.str p.2)) hp3)
      refine ⟨_, rfl, sz3, fun p4 hp4 => ?_⟩
      have e11 := e10.trans (Evl.Ex.new (o := .tup [V.int ((c.getD i 0 : Nat) : Int), .ref p3, .ref p2]) hp4)
      have hk3 : K3At K (upd (upd H9 p3 (.tup ((R.getD i []).map fun p => V.str p.2))) p4 (.tup [V.int ((c.getD i 0 : Nat) : Int), .ref p3, .ref p2])) p4 (toK3 (keyAt R c i)) := by
        refine ⟨p3, p2, .inl (.inl upd_same), ?_, ?_⟩
        · refine .inl (.inl ?_)
          rw [show (toK3 (keyAt R c i)).ws.map V.str = (R.getD i []).map fun p => V.str p.2 by simp [toK3, keyAt, List.map_map]]
          exact Evl.Ex.new hp4 _ _ upd_same
        · rw [← hx7]
          exact .inl (.inl (e11 _ _ upd_same))
      refine ⟨_, rfl, d, p4, D, toK3 (keyAt R c i), _, rfl, rfl, e11 _ _ hd8, hk3, ?_, ?_, hsm, ?_, ?_⟩
      · exact fun p hp => (hDk p hp).tk (Tk.nl (Nl.ex (((e4.trans e8).trans e6).trans e11)))
      · omega
      · intro v hv
        rw [hat] at hv
        obtain ⟨m, hm, rfl⟩ := Option.map_eq_some_iff.mp hv
        have hl11 := e11 _ _ hl8
        have hd11 := e11 _ _ hd8
        have hval : (rfn R c).getD i 0 = m := by rw [fst3_val hi, hm]; rfl
        refine ⟨l, _, _, rfl, rfl, hl11, small_len (by rw [List.length_map]; have := List.length_take_le i (rfn R c); omega), Evl.Ex.mut (e7.trans e11) hlH, ⟨D, ?_, by omega, fun k => ?_, fun p hp => ?_⟩, ?_, _, _, _, rfl⟩
        · rw [upd_ne hnl]
          exact hd11
        · rw [hat k, fst3_succ]
          congr 1
          by_cases hk : toK3 (keyAt R c i) = k
          · subst hk
            rw [hm]
            rfl
          · rw [if_neg hk, Option.or_none]
        · exact ((hDk p hp).tk (Tk.nl (Nl.ex (((e4.trans e8).trans e6).trans e11)))).tk (Tk.nl (Nl.lst hl11))
        · rw [upd_same, rfn_snoc hi, hval]
      · intro hv
        rw [hat] at hv
        have hm : fst3 R c i (toK3 (keyAt R c i)) = none := Option.map_eq_none_iff.mp hv
        have hl11 := e11 _ _ hl8
        have hd11 := e11 _ _ hd8
        have hval : (rfn R c).getD i 0 = i := by rw [fst3_val hi, hm]; rfl
        refine ⟨l, _, _, rfl, rfl, (upd_ne (Ne.symm hnl)).trans hl11, small_len (by rw [List.length_map]; have := List.length_take_le i (rfn R c); omega), Evl.Ex.mut (Evl.Ex.mut (e7.trans e11) hd) hlH, ⟨_, (upd_ne hnl).trans upd_same, by rw [List.length_append, List.length_singleton]; omega, fun k => ?_, fun p hp => ?_⟩, ?_, _, _, _, rfl⟩
        · rw [at3_snoc, hat k, fst3_succ]
          cases fst3 R c i k with
          | some m => rfl
          | none =>
            by_cases hk : toK3 (keyAt R c i) = k
            · rw [if_pos hk, if_pos hk]; rfl
            · rw [if_neg hk, if_neg hk]; rfl
        · refine K3At.tk (Tk.nl (Nl.lst ((upd_ne (Ne.symm hnl)).trans hl11))) (K3At.tk (Tk.ext hd11) ?_)
          rw [List.mem_append, List.mem_singleton] at hp
          rcases hp with hp | rfl
          · exact (hDk p hp).tk (Tk.nl (Nl.ex (((e4.trans e8).trans e6).trans e11)))
          · exact hk3
        · rw [upd_same, rfn_snoc hi, hval]
  · rintro σ' H1 ⟨e3, _, hl1, z1, z2, z3, rfl⟩
    rw [show (((R.length : Int)).toNat) = R.length from rfl, List.take_of_length_le (by rw [rfn_length]; exact Nat.le_refl _)] at hl1
    exact ⟨_, rfl, q _ _ e3 ⟨l, rfl, hl1⟩⟩
end
end AN
end

-- ANw7
section
set_option Elab.async false
set_option linter.all false
set_option maxRecDepth 100000
set_option maxHeartbeats 4000000
namespace AN
open PySem PySem.Spec PyProof.Rows L2 StX
open Evl (Ex)

theorem newI_ok {X : Cx} (H : Hp) (h : Heap) : ObjOk X.prog X.w H (h.push (newS X.w)) h.objs.size (SetO X.w h.objs.size (fun _ => false) 0) := setO_new (setR_fresh X.w)
theorem dpL {K : PySem.W.Frag} {H : Hp} {b : Addr} {c : List Nat} (h : H b = some (.lst (c.map fun (n : Nat) => V.int (n : Int)))) : Dp K H (.ref b) (.list (c.map fun (n : Nat) => PyData.int (n : Int))) := .lst (SqL.of h) (TpA.dp (tpA_of_ints c))
theorem eqv_L (a b : List Nat) : PyData.eqv (.list (a.map fun (n : Nat) => PyData.int (n : Int))) (.list (b.map fun (n : Nat) => PyData.int (n : Int))) = decide (a = b) := by
  rw [PyData.eqv, eqv_ints]
theorem rep_zero (n : Nat) : (List.replicate n [V.int 0]).flatten = (List.replicate n 0).map fun (n : Nat) => V.int (n : Int) := by
  induction n with
  | zero => rfl
  | succ n ih => rw [List.replicate_succ, List.flatten_cons, ih]; rfl
theorem make_lk {K : PySem.W.Frag} {H1 : Hp} {Pk : Addr → Hp → Prop} {m qv : V} {L : List PySem.Str} {R : Rows} {qs : List PySem.Str} (hm : Tp K H1 m (machD L R)) (hq : Tp K H1 qv (tS qs)) (wf : Wf L.length R) (hL : L.length ≤ 100) (q : ∀ x H2, H1 x = none → Ex H1 H2 → LookI K H2 x L (hush qs R) → Pk x H2) :
    ∀ x dx, H1 x = none → H1 dx = none → dx ≠ x → sp3 (bLook K) [.ref x, m, qv] (upd (upd H1 dx (.own x)) x (.ins (He.ga K "Look") dx [])) (fun v H2 => v = .non ∧ Pk x H2) E0 :=
  fun x dx h1 h2 ne => make_look (Q := fun v H2 => ∀ y, v = .ref y → Pk y H2) hm hq wf hL (fun y H2 e1 e2 e3 z ez => by cases ez; exact q y H2 e1 e2 e3) x dx h1 h2 ne |> fun ⟨a, b, c, e, x2, dx2, L2, R2, qs2, h⟩ =>
    ⟨a, b, c, e, x2, dx2, L2, R2, qs2, h.1, h.2.1, h.2.2.1, h.2.2.2.1, h.2.2.2.2.1, h.2.2.2.2.2.1, fun H' k li => ⟨((h.2.2.2.2.2.2 H' k li)).1, (h.2.2.2.2.2.2 H' k li).2 _ rfl⟩⟩
theorem iter_succ (R : Rows) (k : Nat) : iter R (k + 1) = rfn R (iter R k) := rfl

abbrev N_d_classes_of : List PySem.Str := ["machine", "quiet", "look", "found", "later"]
theorem sc_d_classes_of : FnScope N_d_classes_of ["machine", "quiet"] AN.d_classes_of.scope := ⟨rfl, rfl, rfl, by decide +kernel, rfl, by decide +kernel, by decide +kernel⟩
section
variable {P : Program} {w : World} {K : PySem.W.Frag} {mg : PySem.Str → Option Value} {base : Heap} (T : Kit K mg)
include T
theorem w_classes_of : GK P w K mg base 4 (AN.d_classes_of.at_ K) 1 ["quiet"] (sp2 (fun m qv H Q => ∃ (L : List PySem.Str) (R : Rows) (qs : List PySem.Str), Tp K H m (machD L R) ∧ Tp K H qv (tS qs) ∧ Wf L.length R ∧ L.length ≤ 100 ∧ Ret H (fun v H' => Tp K H' v (tI (cls (hush qs R)))) Q)) := by
  obtain ⟨fd, F⟩ := T.d_classes_of
  obtain ⟨mv, kb⟩ := FunD.kbinds0 (ps := ["machine", "quiet"]) F 1 ["quiet"] [] (fun us _ ws => us ++ ws) (List.cons_ne_nil _ _) (fun _ h => by cases h) (fun r1 _ r2 => r1.append r2) (fun _ _ _ _ _ _ us mv ws h1 _ h2 => match us, ws, h1, h2 with | [_], [_], _, _ => rfl)
  refine ⟨⟨fd, ["machine", "quiet"], _, F.ok sc_d_classes_of len2 (fun cdv A outer s H vs Q E hr h => ?_), kb⟩, F.kp⟩
  have hu64 : (A.deeper (envOfC AN.d_classes_of.qual AN.d_classes_of.scope s.heap.objs.size (AN.d_classes_of.at_ K) cdv)).units + 65 < cLine := hu_of65 hr
  have hu63 : (A.deeper (envOfC AN.d_classes_of.qual AN.d_classes_of.scope s.heap.objs.size (AN.d_classes_of.at_ K) cdv)).units + 64 < cLine := Nat.lt_of_succ_lt hu64
  have hu1 : (A.deeper (envOfC AN.d_classes_of.qual AN.d_classes_of.scope s.heap.objs.size (AN.d_classes_of.at_ K) cdv)).units + 1 < cLine := hu_of hr

  obtain ⟨fdL, FL, GL⟩ := ok_Look_len (P := P) (w := w) (base := base) T
  have bL : Binds K fdL ["self"] [] := FL.bindsN (fun _ _ _ _ _ _ us hl => match us, hl with | [_], _ => rfl)
  have hu64m := hu63
  have nd := sc_d_classes_of.nd
  obtain ⟨m, qv, rfl, L, R, qs, hm, hq, wf, hL, q⟩ := h
  refine ⟨_, PSs.nox (pss_cons (ps_set (i := 2) nd rfl (Or.inl rfl) (pe_makeR T.mk_Look (w_Look_init2 T).1 (hr.mono (by decide)) (by rfl) T.g_Look pass0 (pa_cons (pv 0) (pa_cons (pv 1) pa_nil)))) (pss_cons (ps_set (i := 3) nd rfl (Or.inl rfl) (pe_op op_rep (pe_lst (pa_cons pe_int pa_nil)) (pe_callB (cr_lenO T.m_Look_len.at_ T.m_Look_len.fn GL (hr.mono (by decide)).in1 (bL) pass0) (by rfl) T.f_len (by decide +kernel) (pa_cons (pv 2) pa_nil)))) (pss_cons (ps_set (i := 4) nd rfl (Or.inl rfl) (pe_gf (w_refined T) (hr.mono (by decide)) (by rfl) T.g_refined pass0 (pa_cons (pv 2) (pa_cons (pv 3) pa_nil)))) (pss_cons (ps_while PassesOwn.never (pt_cmpR (op_neD hu64m) (pv 4) (pv 3) (nomark _)) (pss_one (ps_par (i := 3) (j := 4) rfl nd rfl rfl (by decide) rfl rfl (pa_cons (pv 4) (pa_cons (pe_gf (w_refined T) (hr.mono (by decide)) (by rfl) T.g_refined pass0 (pa_cons (pv 2) (pa_cons (pv 4) pa_nil))) pa_nil)) rfl))) (pss_one (ps_ret (pe_callTy call_tuple_of (by rfl) T.f_tuple (by decide +kernel) (pa_cons (pv 3) pa_nil)))))))), ?_⟩

  refine ⟨_, rfl, _, rfl, ?_⟩
  refine make_lk hm hq wf hL (fun x H1 hx0 e1 hl => ?_)
  have wf2 := hush_wf wf qs
  generalize hush qs R = R2 at hl wf2 q
  have hRl := wf2.le
  have hlk := hl
  obtain ⟨dx, sv, sg, mv, hx, _, _, _⟩ := hl
  refine ⟨by decide, fun b0 hb0 => ?_⟩
  have e2 := e1.trans (Evl.Ex.new (o := .lst [V.int 0]) hb0)
  have e2x := Evl.Ex.new (o := .lst [V.int 0]) hb0
  refine ⟨_, rfl, x, dx, _, rfl, e2x _ _ hx, ⟨_, rfl, x, L, R2, rfl, hlk.mono (Nl.ex e2x), _, rfl, by omega, by omega, ?_⟩⟩
  refine ⟨b0, _, _, rfl, rfl, upd_same, by omega, by omega, by simp [sizeLine_eq]; omega, fun b1 hb1 => ?_⟩
  have e3 := e2.trans (Evl.Ex.new (o := .lst (List.replicate ((R2.length : Int)).toNat [V.int 0]).flatten) hb1)
  have e3x := e2x.trans (Evl.Ex.new (o := .lst (List.replicate ((R2.length : Int)).toNat [V.int 0]).flatten) hb1)
  refine ⟨_, rfl, _, rfl, _, _, rfl, x, b1, L, R2, iter R2 0, rfl, rfl, hlk.mono (Nl.ex e3x), ?_, iter_length R2 0, wf2, hL, fun v H3 e4 hv => ?_⟩
  · rw [show ((R2.length : Int)).toNat = R2.length from rfl, rep_zero] 
    exact upd_same
  obtain ⟨b2, rfl, hb2⟩ := hv
  have hb1' : H3 b1 = some (.lst ((iter R2 0).map fun (n : Nat) => V.int (n : Int))) := by
    refine e4 _ _ ?_
    rw [show ((R2.length : Int)).toNat = R2.length from rfl, rep_zero] 
    exact upd_same
  refine ⟨fun mm σ' H' => ∃ k b1 b2, mm = R2.length * R2.length - tot (iter R2 k) ∧ σ' = [some m, some qv, some (.ref x), some (.ref b1), some (.ref b2)] ∧ Ex H H' ∧ LookI K H' x L R2 ∧ H' b1 = some (.lst ((iter R2 k).map fun (n : Nat) => V.int (n : Int))) ∧ H' b2 = some (.lst ((iter R2 (k + 1)).map fun (n : Nat) => V.int (n : Int))), ⟨_, 0, b1, b2, rfl, rfl, e3.trans e4, hlk.mono (Nl.ex (e3x.trans e4)), hb1', hb2⟩, ?_⟩
  rintro mm σ' H4 ⟨k, c1, c2, rfl, rfl, e5, hl5, h1, h2⟩
  refine ⟨_, rfl, _, rfl, _, _, dpL h2, dpL h1, intsL_shaped _, intsL_shaped _, ?_⟩
  rw [eqv_L]
  by_cases hh : iter R2 (k + 1) = iter R2 k
  · rw [decide_eq_true hh]
    refine ⟨_, rfl, ?_⟩
    show (if (!true) = true then _ else _)
    rw [if_neg (by decide)]
    refine ⟨_, rfl, c1, _, rfl, .inl ⟨SqL.of h1, fun p hp => ?_⟩⟩
    have e6 := e5.trans (Evl.Ex.new (o := .tup ((iter R2 k).map fun (n : Nat) => V.int (n : Int))) hp)
    refine q _ _ e6 ?_
    rw [← cls_of_fix hh]
    exact of_tI (.inl (.inl upd_same))
  · rw [decide_eq_false hh]
    have g1 := (iter_least R2 k).grow
    have g2 := g1.2 hh
    have g3 := (iter_least R2 (k + 1)).tot_le
    refine ⟨_, rfl, ?_⟩
    show (if (!false) = true then _ else _)
    rw [if_pos (by decide)]
    refine ⟨fun σ2 H2 => ∃ b, Ex H4 H2 ∧ σ2 = [some m, some qv, some (.ref x), some (.ref c2), some (.ref b)] ∧ H2 b = some (.lst ((iter R2 (k + 2)).map fun (n : Nat) => V.int (n : Int))), ?_, ?_⟩
    · rintro σ2 H2 ⟨b, e6, rfl, hb⟩
      refine ⟨R2.length * R2.length - tot (iter R2 (k + 1)), ?_, k + 1, c2, b, rfl, rfl, e5.trans e6, hl5.mono (Nl.ex e6), e6 _ _ h2, hb⟩
      have g4 : tot (iter R2 k) < tot (iter R2 (k + 1)) := g2
      omega
    · refine ⟨_, rfl, _, rfl, _, rfl, _, _, rfl, x, c2, L, R2, iter R2 (k + 1), rfl, rfl, hl5, h2, iter_length R2 _, wf2, hL, fun v H5 e6 hv => ?_⟩
      obtain ⟨b, rfl, hb⟩ := hv
      exact ⟨_, _, rfl, b, e6, rfl, hb⟩
end
end AN
end

-- ANw8
section
set_option Elab.async false
set_option linter.all false
set_option maxRecDepth 100000
set_option maxHeartbeats 4000000
namespace AN
open PySem PySem.Spec PyProof.Rows L2 StX
open Evl (Ex)

theorem hushW_nil (x : PySem.Str) : hushW [] x = x := by unfold hushW; rw [if_neg (by simp)]
theorem hush_nil (R : Rows) : hush [] R = R := by
  unfold hush hushR
  simp [hushW_nil]
/-- a machine, the letters known to their object -/
def Mt (K : PySem.W.Frag) (H : Hp) (v : V) (L : List PySem.Str) (R : Rows) : Prop := ∃ a al r, v = .ref a ∧ SqT K H a [.ref al, r] ∧ NdT H al (L.map .str) ∧ Tp K H r (rowsD R)
theorem NdT.mono {H H' : Hp} (e : Nl H H') {a : Addr} {xs : List V} (h : NdT H a xs) : NdT H' a xs := by
  obtain ⟨o, h1, h2, h3⟩ := h
  exact ⟨o, e _ _ h1 fun _ => nofun, h2, h3⟩
theorem Mt.mono {K : PySem.W.Frag} {H H' : Hp} {v : V} {L : List PySem.Str} {R : Rows} (e : Nl H H') (h : Mt K H v L R) : Mt K H' v L R := by
  obtain ⟨a, al, r, rfl, h1, h2, h3⟩ := h
  exact ⟨a, al, r, rfl, nl_t e h1, h2.mono e, h3.mono e⟩
theorem Mt.tp {K : PySem.W.Frag} {H : Hp} {v : V} {L : List PySem.Str} {R : Rows} (h : Mt K H v L R) : Tp K H v (machD L R) := by
  obtain ⟨a, al, r, rfl, h1, h2, h3⟩ := h
  exact .tup h1 (.cons (of_tS h2.sq) (.cons h3 .nil))
theorem dec_nat (i j : Nat) : decide (V.int (i : Int) = V.int (j : Int)) = decide (i = j) := by
  by_cases h : i = j
  · subst h; simp
  · rw [decide_eq_false h, decide_eq_false]
    intro e
    injection e with e
    omega
abbrev MtA (K : PySem.W.Frag) (L : List PySem.Str) : Rows → VP := fun R v H => Mt K H v L R
/-- versions -/
def Vt (K : PySem.W.Frag) (H : Hp) (v : V) (L : List PySem.Str) (vs : List Rows) : Prop := ∃ a xs, v = .ref a ∧ SqT K H a xs ∧ AllP (MtA K L) H vs xs
theorem Vt.mono {K : PySem.W.Frag} {H H' : Hp} {v : V} {L : List PySem.Str} {vs : List Rows} (e : Nl H H') (h : Vt K H v L vs) : Vt K H' v L vs := by
  obtain ⟨a, xs, rfl, h1, h2⟩ := h
  exact ⟨a, xs, rfl, nl_t e h1, h2.mono fun _ _ h => h.mono e⟩
theorem MtA.tp {K : PySem.W.Frag} {H : Hp} {L : List PySem.Str} : ∀ {vs : List Rows} {xs : List V}, AllP (MtA K L) H vs xs → TpA K H xs (vs.map (machD L))
  | [], [], _ => .nil
  | _ :: _, _ :: _, ⟨h, t⟩ => .cons (Mt.tp h) (MtA.tp t)
  | [], _ :: _, h => h.elim
  | _ :: _, [], h => h.elim
theorem Vt.tp {K : PySem.W.Frag} {H : Hp} {v : V} {L : List PySem.Str} {vs : List Rows} (h : Vt K H v L vs) : Tp K H v (versD L vs) := by
  obtain ⟨a, xs, rfl, h1, h2⟩ := h
  exact .tup h1 (MtA.tp h2)
/-- what is asked of versions: letters, machines -/
structure Vok (L : List PySem.Str) (vs : List Rows) : Prop where
  nd : L.Nodup
  le : L.length ≤ 3
  lp : 1 ≤ L.length
  sok : Sok L
  wf : ∀ R ∈ vs, Wf L.length R
  vp : 1 ≤ vs.length
  vl : vs.length ≤ 3
/-- an instance of Knowledge -/
def KnI (K : PySem.W.Frag) (H : Hp) (x : Addr) (L : List PySem.Str) (vs : List Rows) (S : List (List Nat)) : Prop := ∃ dx kv v s, H x = some (.ins (He.ga K "Knowledge") dx [("known", .ref kv)]) ∧ SqT K H kv [v, s] ∧ Vt K H v L vs ∧ Tp K H s (stsD S)
theorem KnI.mono {K : PySem.W.Frag} {H H' : Hp} {x : Addr} {L : List PySem.Str} {vs : List Rows} {S : List (List Nat)} (e : Nl H H') (h : KnI K H x L vs S) : KnI K H' x L vs S := by
  obtain ⟨dx, kv, v, s, h0, h1, h2, h3⟩ := h
  exact ⟨dx, kv, v, s, e _ _ h0 fun _ => nofun, nl_t e h1, h2.mono e, h3.mono e⟩
theorem Vt.get {K : PySem.W.Frag} {H : Hp} {v : V} {L : List PySem.Str} {vs : List Rows} (h : Vt K H v L vs) : ∃ a xs, v = .ref a ∧ SqT K H a xs ∧ xs.length = vs.length ∧ ∀ i, i < vs.length → ∃ m, xs[i]? = some m ∧ Mt K H m L (vs.getD i []) := by
  obtain ⟨a, xs, rfl, h1, h2⟩ := h
  refine ⟨a, xs, rfl, h1, h2.length.symm, fun i hi => ?_⟩
  refine h2.get (i := i) (a := vs.getD i []) ?_
  rw [List.getD_eq_getElem?_getD, List.getElem?_eq_getElem hi]
  rfl

abbrev N_d_are_alike : List PySem.Str := ["machine", "one", "other", "quiet", "classes"]
theorem sc_d_are_alike : FnScope N_d_are_alike ["machine", "one", "other", "quiet"] AN.d_are_alike.scope := ⟨rfl, rfl, rfl, by decide +kernel, rfl, by decide +kernel, by decide +kernel⟩
section
variable {P : Program} {w : World} {K : PySem.W.Frag} {mg : PySem.Str → Option Value} {base : Heap} (T : Kit K mg)
include T
theorem w_are_alike : GK P w K mg base 5 (AN.d_are_alike.at_ K) 3 ["quiet"] (sp4 (fun m o1 o2 qv H Q => ∃ (L : List PySem.Str) (R : Rows) (qs : List PySem.Str) (a b : Nat), Tp K H m (machD L R) ∧ o1 = .int (a : Int) ∧ o2 = .int (b : Int) ∧ Tp K H qv (tS qs) ∧ Wf L.length R ∧ L.length ≤ 100 ∧ a < R.length ∧ b < R.length ∧ ∀ H', Ex H H' → Q (.bl (decide (cl (hush qs R) a = cl (hush qs R) b))) H')) := by
  obtain ⟨fd, F⟩ := T.d_are_alike
  obtain ⟨mv, kb⟩ := FunD.kbinds0 (ps := ["machine", "one", "other", "quiet"]) F 3 ["quiet"] [] (fun us _ ws => us ++ ws) (List.cons_ne_nil _ _) (fun _ h => by cases h) (fun r1 _ r2 => r1.append r2) (fun _ _ _ _ _ _ us mv ws h1 _ h2 => match us, ws, h1, h2 with | [_, _, _], [_], _, _ => rfl)
  refine ⟨⟨fd, ["machine", "one", "other", "quiet"], _, F.ok sc_d_are_alike len4 (fun cdv A outer s H vs Q E hr h => ?_), kb⟩, F.kp⟩
  have hu64 : (A.deeper (envOfC AN.d_are_alike.qual AN.d_are_alike.scope s.heap.objs.size (AN.d_are_alike.at_ K) cdv)).units + 65 < cLine := hu_of65 hr
  have hu63 : (A.deeper (envOfC AN.d_are_alike.qual AN.d_are_alike.scope s.heap.objs.size (AN.d_are_alike.at_ K) cdv)).units + 64 < cLine := Nat.lt_of_succ_lt hu64
  have hu1 : (A.deeper (envOfC AN.d_are_alike.qual AN.d_are_alike.scope s.heap.objs.size (AN.d_are_alike.at_ K) cdv)).units + 1 < cLine := hu_of hr
  have nd := sc_d_are_alike.nd
  obtain ⟨m, o1, o2, qv, rfl, L, R, qs, a, b, hm, rfl, rfl, hq, wf, hL, ha, hb, q⟩ := h
  refine ⟨_, PSs.nox (pss_cons (ps_expr (pe_methR (pe_makeR T.mk_Look (w_Look_init1 T).1 (hr.mono (by decide)) (by rfl) T.g_Look pass0 (pa_cons (pv 0) pa_nil)) T.cl_Look T.m_Look_need (w_Look_need T).1 (hr.mono (by decide)) pass0 (pa_cons (pv 1) (pa_cons (pv 2) pa_nil)))) (pss_cons (ps_set (i := 4) nd rfl (Or.inl rfl) (pe_gk (w_classes_of T) (hr.mono (by decide)) (by rfl) T.g_classes_of pass0 (pa_cons (pv 0) pa_nil) (pk_cons (pv 3) pk_nil))) (pss_one (ps_ret (pe_cmpR op_eq (pe_ix ix_tup (pv 4) (pv 1) (fun _ _ => rfl)) (pe_ix ix_tup (pv 4) (pv 2) (fun _ _ => rfl)) (nomark _)))))), ?_⟩

  refine ⟨_, rfl, ?_⟩
  refine make_lk (m := m) hm (of_tS (l := []) (T.look0 _)) wf hL (fun x H1 hx0 e1 hl => ?_)
  rw [hush_nil] at hl
  have hlk := hl
  obtain ⟨dx, sv, sg, mv, hx, _, _, _⟩ := hl
  refine ⟨x, dx, _, rfl, hx, rfl, _, rfl, _, rfl, x, L, R, [a, b], rfl, hlk, ?_, by simp, fun H2 e2 => ?_⟩
  · intro n hn
    simp only [List.mem_cons, List.not_mem_nil, or_false] at hn
    rcases hn with rfl | rfl
    · exact ha
    · exact hb
  have e3 := e1.trans e2
  refine ⟨_, rfl, _, rfl, rfl, rfl, _, _, rfl, L, R, qs, hm.mono (Nl.ex e3), hq.mono (Nl.ex e3), wf, hL, fun v H3 e4 hv => ?_⟩
  obtain ⟨ac, rfl, hc⟩ := tI_of hv
  have hlen : (cls (hush qs R)).length = R.length := by rw [cls_length, hush_length]
  refine ⟨_, rfl, _, rfl, _, _, _, _, rfl, rfl, hc, atI_nat (map_get (by rw [hlen]; exact ha) 0), ?_⟩
  refine ⟨_, rfl, _, rfl, _, _, _, _, rfl, rfl, hc, atI_nat (map_get (by rw [hlen]; exact hb) 0), ?_⟩
  refine ⟨rfl, ?_⟩
  rw [dec_nat]
  exact q H3 (e3.trans e4)
end
abbrev N_d_Knowledge_versions : List PySem.Str := ["self"]
theorem sc_d_Knowledge_versions : FnScope N_d_Knowledge_versions ["self"] AN.d_Knowledge_versions.scope := ⟨rfl, rfl, rfl, by decide +kernel, rfl, by decide +kernel, by decide +kernel⟩
section
variable {P : Program} {w : World} {K : PySem.W.Frag} {mg : PySem.Str → Option Value} {base : Heap} (T : Kit K mg)
include T
theorem ok_Knowledge_versions : ∃ fd, FunD K AN.d_Knowledge_versions.name AN.d_Knowledge_versions.qual AN.d_Knowledge_versions.params AN.d_Knowledge_versions.body AN.d_Knowledge_versions.scope (AN.d_Knowledge_versions.dvs K) (AN.d_Knowledge_versions.kws K) (AN.d_Knowledge_versions.at_ K) fd ∧ FnOk P w K mg base CX0 1 (AN.d_Knowledge_versions.at_ K) fd ["self"] (sp1 (fun self H Q => ∃ (x : Addr) (L : List PySem.Str) (vs : List Rows) (S : List (List Nat)), self = .ref x ∧ KnI K H x L vs S ∧ ∀ v, Vt K H v L vs → Q v H)) := by
  obtain ⟨fd, F⟩ := T.d_Knowledge_versions
  refine ⟨fd, F, F.ok sc_d_Knowledge_versions len1 (fun cdv A outer s H vs Q E hr h => ?_)⟩
  have hu64 : (A.deeper (envOfC AN.d_Knowledge_versions.qual AN.d_Knowledge_versions.scope s.heap.objs.size (AN.d_Knowledge_versions.at_ K) cdv)).units + 65 < cLine := hu_of65 hr
  have hu63 : (A.deeper (envOfC AN.d_Knowledge_versions.qual AN.d_Knowledge_versions.scope s.heap.objs.size (AN.d_Knowledge_versions.at_ K) cdv)).units + 64 < cLine := Nat.lt_of_succ_lt hu64
  have hu1 : (A.deeper (envOfC AN.d_Knowledge_versions.qual AN.d_Knowledge_versions.scope s.heap.objs.size (AN.d_Knowledge_versions.at_ K) cdv)).units + 1 < cLine := hu_of hr
  have nd := sc_d_Knowledge_versions.nd
  obtain ⟨self, rfl, x, L, vs, S, rfl, ⟨dx, kv, v, s, h0, h1, h2, h3⟩, q⟩ := h
  refine ⟨_, PSs.nox (pss_one (ps_ret (pe_ix ix_tup (pe_fld (pv 0) rfl) pe_int (fun _ _ => rfl)))), ?_⟩

  exact ⟨_, rfl, x, _, dx, _, .ref kv, rfl, h0, T.cl_Knowledge, T.n_Knowledge_known, rfl, _, _, _, _, rfl, rfl, h1, atI_nat (j := 0) rfl, q v h2⟩
end
abbrev N_d_Knowledge_standings : List PySem.Str := ["self"]
theorem sc_d_Knowledge_standings : FnScope N_d_Knowledge_standings ["self"] AN.d_Knowledge_standings.scope := ⟨rfl, rfl, rfl, by decide +kernel, rfl, by decide +kernel, by decide +kernel⟩
section
variable {P : Program} {w : World} {K : PySem.W.Frag} {mg : PySem.Str → Option Value} {base : Heap} (T : Kit K mg)
include T
theorem ok_Knowledge_standings : ∃ fd, FunD K AN.d_Knowledge_standings.name AN.d_Knowledge_standings.qual AN.d_Knowledge_standings.params AN.d_Knowledge_standings.body AN.d_Knowledge_standings.scope (AN.d_Knowledge_standings.dvs K) (AN.d_Knowledge_standings.kws K) (AN.d_Knowledge_standings.at_ K) fd ∧ FnOk P w K mg base CX0 1 (AN.d_Knowledge_standings.at_ K) fd ["self"] (sp1 (fun self H Q => ∃ (x : Addr) (L : List PySem.Str) (vs : List Rows) (S : List (List Nat)), self = .ref x ∧ KnI K H x L vs S ∧ ∀ v, Tp K H v (stsD S) → Q v H)) := by
  obtain ⟨fd, F⟩ := T.d_Knowledge_standings
  refine ⟨fd, F, F.ok sc_d_Knowledge_standings len1 (fun cdv A outer s H vs Q E hr h => ?_)⟩
  have hu64 : (A.deeper (envOfC AN.d_Knowledge_standings.qual AN.d_Knowledge_standings.scope s.heap.objs.size (AN.d_Knowledge_standings.at_ K) cdv)).units + 65 < cLine := hu_of65 hr
  have hu63 : (A.deeper (envOfC AN.d_Knowledge_standings.qual AN.d_Knowledge_standings.scope s.heap.objs.size (AN.d_Knowledge_standings.at_ K) cdv)).units + 64 < cLine := Nat.lt_of_succ_lt hu64
  have hu1 : (A.deeper (envOfC AN.d_Knowledge_standings.qual AN.d_Knowledge_standings.scope s.heap.objs.size (AN.d_Knowledge_standings.at_ K) cdv)).units + 1 < cLine := hu_of hr
  have nd := sc_d_Knowledge_standings.nd
  obtain ⟨self, rfl, x, L, vs, S, rfl, ⟨dx, kv, v, s, h0, h1, h2, h3⟩, q⟩ := h
  refine ⟨_, PSs.nox (pss_one (ps_ret (pe_ix ix_tup (pe_fld (pv 0) rfl) pe_int (fun _ _ => rfl)))), ?_⟩

  exact ⟨_, rfl, x, _, dx, _, .ref kv, rfl, h0, T.cl_Knowledge, T.n_Knowledge_known, rfl, _, _, _, _, rfl, rfl, h1, atI_nat (j := 1) rfl, q s h3⟩
end
abbrev N_d_Knowledge_need_version : List PySem.Str := ["self", "i"]
theorem sc_d_Knowledge_need_version : FnScope N_d_Knowledge_need_version ["self", "i"] AN.d_Knowledge_need_version.scope := ⟨rfl, rfl, rfl, by decide +kernel, rfl, by decide +kernel, by decide +kernel⟩
section
variable {P : Program} {w : World} {K : PySem.W.Frag} {mg : PySem.Str → Option Value} {base : Heap} (T : Kit K mg)
include T
theorem w_Knowledge_need_version : GF P w K mg base 3 (AN.d_Knowledge_need_version.at_ K) (sp2 (fun self i H Q => ∃ (x : Addr) (L : List PySem.Str) (vs : List Rows) (S : List (List Nat)) (n : Nat), self = .ref x ∧ KnI K H x L vs S ∧ i = .int (n : Int) ∧ n < vs.length ∧ Q .non H)) := by
  obtain ⟨fd, F⟩ := T.d_Knowledge_need_version
  refine rr F sc_d_Knowledge_need_version len2 (fun _ _ _ _ _ _ us hl => match us, hl with | [_, _], _ => rfl) (fun cdv A outer s H vs Q E hr h => ?_)
  have hu64 : (A.deeper (envOfC AN.d_Knowledge_need_version.qual AN.d_Knowledge_need_version.scope s.heap.objs.size (AN.d_Knowledge_need_version.at_ K) cdv)).units + 65 < cLine := hu_of65 hr
  have hu63 : (A.deeper (envOfC AN.d_Knowledge_need_version.qual AN.d_Knowledge_need_version.scope s.heap.objs.size (AN.d_Knowledge_need_version.at_ K) cdv)).units + 64 < cLine := Nat.lt_of_succ_lt hu64
  have hu1 : (A.deeper (envOfC AN.d_Knowledge_need_version.qual AN.d_Knowledge_need_version.scope s.heap.objs.size (AN.d_Knowledge_need_version.at_ K) cdv)).units + 1 < cLine := hu_of hr
  have nd := sc_d_Knowledge_need_version.nd
  obtain ⟨self, i, rfl, x, L, vs, S, n, rfl, ⟨dx, kv, v, s, h0, h1, h2, h3⟩, rfl, hn, q⟩ := h
  refine ⟨_, PSs.nox (pss_one (ps_expr (pe_gf (w_require_known T) (hr.mono (by decide)) (by rfl) T.g_require_known pass0 (pa_cons (pe_and (pe_gf (w_is_number T) (hr.mono (by decide)) (by rfl) T.g_is_number pass0 (pa_cons (pv 1) pa_nil)) (pe_one (pe_cmpR op_lt (pv 1) (pe_callB call_len_seq (by rfl) T.f_len (by decide +kernel) (pa_cons (pe_ix ix_tup (pe_fld (pv 0) rfl) pe_int (fun _ _ => rfl)) pa_nil)) (nomark _)))) (pa_cons pe_str (pa_cons (pv 1) pa_nil)))))), ?_⟩

  obtain ⟨a, xs, rfl, ht, hl, _⟩ := h2.get
  refine ⟨_, rfl, _, rfl, n, rfl, ?_⟩
  refine ⟨_, rfl, ?_⟩
  rw [if_pos rfl]
  refine ⟨_, rfl, _, rfl, x, _, dx, _, .ref kv, rfl, h0, T.cl_Knowledge, T.n_Knowledge_known, rfl, ?_⟩
  refine ⟨_, _, _, _, rfl, rfl, h1, atI_nat (j := 0) rfl, ?_⟩
  refine ⟨_, _, rfl, .inr ht, ?_⟩
  refine ⟨_, _, rfl, rfl, _, rfl, _, _, _, rfl, ?_, q⟩
  show V.bl (decide _) = _
  rw [decide_eq_true (by omega)]
end
end AN
end

-- ANsc
section
set_option Elab.async false
set_option linter.all false
set_option maxRecDepth 100000
set_option maxHeartbeats 4000000
/-! Set comprehensions over what stays. -/
namespace AN
open PySem PySem.Spec PyProof.Rows L2 StX
open Evl (Ex)

/-- the rounds of a set comprehension -/
def ScB (O : Addr → HO) (add : AddR) (J : It) (g : TG) (tt : TT) (te : TE) (vs : List Nat) (σ : L2.St) (H1 : Hp) (Q : VK) : Prop := ∀ D, H1 D = none → ∃ W : Nat → Nat → Hp → Prop, (∃ m, W 0 m (upd H1 D (O D))) ∧ ∀ i m H, W i m H →
  (J.stop i H ∧ Q (.ref D) H) ∨ (J.go i H ∧ ∃ Nx : Hp → Prop, (∀ H', Nx H' → ∃ m', m' < m ∧ W (i + 1) m' H') ∧ ∀ x H', J.yld i H x H' → g x (wipe σ vs) H' fun σ2 H2 => wipe σ2 vs = wipe σ vs ∧ tt σ2 H2 fun b H3 =>
    if b = true then te σ2 H3 fun y H4 => add (.ref D) [y] H4 fun _ H5 => Nx H5 else Nx H3)
theorem w_sc {O : Addr → HO} {add : AddR} {wi : TI} {g : TG} {tt : TT} {te : TE} {vs : List Nat} {σ : L2.St} {H : Hp} {Q : VK} (h : wi σ H fun J H1 => ScB O add J g tt te vs σ H1 Q) : tScG O add wi g tt te vs σ H Q := h
theorem sc_int {w : World} {J : It} {g : TG} {tt : TT} {te : TE} {vs : List Nat} {σ : L2.St} {H1 : Hp} {Q : VK} {n : Nat} {Y : Nat → V → Hp → Prop} (R : Runs J H1 n Y) (f : Nat → Nat) (hn : n < 60)
    (hs : ∀ i x H, i < n → Ex H1 H → Y i x H → ∀ C : L2.St → Hp → Prop, (∀ σ2 H2, wipe σ2 vs = wipe σ vs → Ex H H2 → (∀ Q : Bool → Hp → Prop, (∀ H3, Ex H2 H3 → Q true H3) → tt σ2 H2 Q) →
      (∀ H3, Ex H2 H3 → ∀ Q : VK, (∀ H4, Ex H3 H4 → Q (.int (f i : Nat)) H4) → te σ2 H3 Q) → C σ2 H2) → g x (wipe σ vs) H C)
    (hd : ∀ D H (S : Int → Bool) (m : Nat), H1 D = none → Ex H1 H → H D = some (SetO w D S m) → m ≤ n → (∀ k : Int, S k = true ↔ ∃ i, i < n ∧ (f i : Int) = k) → Q (.ref D) H) :
    ScB (fun D => SetO w D (fun _ => false) 0) (rSAdd w) J g tt te vs σ H1 Q := fun D hD => by
  refine ⟨fun i m H => m = n - i ∧ i ≤ n ∧ Ex H1 H ∧ ∃ (S : Int → Bool) (c : Nat), H D = some (SetO w D S c) ∧ c ≤ i ∧ ∀ k : Int, S k = true ↔ ∃ j, j < i ∧ (f j : Int) = k, ⟨n, by simp, Nat.zero_le _, Evl.Ex.new hD, _, 0, upd_same, Nat.le_refl _, fun k => ⟨fun h => by simp at h, fun ⟨j, h, _⟩ => absurd h (Nat.not_lt_zero j)⟩⟩, ?_⟩
  rintro i m H ⟨rfl, hi, e, S, c, hS, hc, hk⟩
  by_cases hlt : i < n
  · refine .inr ⟨R.go i H hlt e, fun H' => i < n ∧ Ex H1 H' ∧ ∃ (S : Int → Bool) (c : Nat), H' D = some (SetO w D S c) ∧ c ≤ i + 1 ∧ ∀ k : Int, S k = true ↔ ∃ j, j < i + 1 ∧ (f j : Int) = k, fun H' h' => ⟨n - (i + 1), by omega, rfl, hlt, h'.2⟩, fun x H' y => ?_⟩
    obtain ⟨e2, hy⟩ := R.yld i H x H' hlt e y
    refine hs i x H' hlt (e.trans e2) hy _ fun σ2 H2 hw e3 htt hte => ⟨hw, htt _ fun H3 e4 => ?_⟩
    simp only [if_true]
    refine hte H3 e4 _ fun H4 e5 => ?_
    have e6 := ((e2.trans e3).trans e4).trans e5
    have hS4 := e6 _ _ hS
    refine ⟨D, _, S, c, rfl, rfl, hS4, Nat.lt_of_lt_of_le (show c + 1 < 1000 by omega) (by decide), hlt, Ex.mut (e.trans e6) hD, _, _, upd_same, ?_, fun k => ?_⟩
    · split <;> omega
    · rw [Bool.or_eq_true, hk, decide_eq_true_eq]
      constructor
      · rintro (⟨j, h1, h2⟩ | h)
        · exact ⟨j, by omega, h2⟩
        · exact ⟨i, by omega, h.symm⟩
      · rintro ⟨j, h1, h2⟩
        by_cases hj : j = i
        · subst hj
          exact .inr h2.symm
        · exact .inl ⟨j, by omega, h2⟩
  · have ei : i = n := by omega
    subst ei
    exact .inl ⟨R.stop H e, hd D H S c hD e hS hc hk⟩
abbrev ic (l : List Nat) : List Int := l.map fun (n : Nat) => (n : Int)
theorem ic_inj : ∀ {a b : List Nat}, ic a = ic b → a = b := map_cast_inj
theorem sc_tup {K : PySem.W.Frag} {P : Program} {w : World} {J : It} {g : TG} {tt : TT} {te : TE} {vs : List Nat} {σ : L2.St} {H1 : Hp} {Q : VK} {n : Nat} {Y : Nat → V → Hp → Prop} (R : Runs J H1 n Y) (f : Nat → List Nat) (hn : n < 60)
    (hs : ∀ i x H, i < n → Ex H1 H → Y i x H → ∀ C : L2.St → Hp → Prop, (∀ σ2 H2, wipe σ2 vs = wipe σ vs → Ex H H2 → (∀ Q : Bool → Hp → Prop, (∀ H3, Ex H2 H3 → Q true H3) → tt σ2 H2 Q) →
      (∀ H3, Ex H2 H3 → ∀ Q : VK, (∀ v H4, Ex H3 H4 → Tp K H4 v (tI (f i)) → Q v H4) → te σ2 H3 Q) → C σ2 H2) → g x (wipe σ vs) H C)
    (hd : ∀ D H (Ls : List (Addr × List Int)), H1 D = none → Ex H1 H → H D = some (SetTO P w D Ls) → (∀ p ∈ Ls, SqT K H p.1 (p.2.map V.int)) → Ls.length ≤ n → (∀ k : List Int, k ∈ Ls.map (·.2) ↔ ∃ i, i < n ∧ ic (f i) = k) → Q (.ref D) H) :
    ScB (fun D => SetTO P w D []) (rAddT K P w) J g tt te vs σ H1 Q := fun D hD => by
  refine ⟨fun i m H => m = n - i ∧ i ≤ n ∧ Ex H1 H ∧ ∃ Ls : List (Addr × List Int), H D = some (SetTO P w D Ls) ∧ (∀ p ∈ Ls, SqT K H p.1 (p.2.map V.int)) ∧ Ls.length ≤ i ∧ ∀ k, k ∈ Ls.map (·.2) ↔ ∃ j, j < i ∧ ic (f j) = k, ⟨n, by simp, Nat.zero_le _, Evl.Ex.new hD, [], upd_same, (fun p hp => absurd hp List.not_mem_nil), Nat.le_refl _, fun k => ⟨fun h => absurd h List.not_mem_nil, fun ⟨j, h, _⟩ => absurd h (Nat.not_lt_zero j)⟩⟩, ?_⟩
  rintro i m H ⟨rfl, hi, e, Ls, hS, hq, hc, hk⟩
  by_cases hlt : i < n
  · refine .inr ⟨R.go i H hlt e, fun H' => i < n ∧ Ex H1 H' ∧ ∃ Ls : List (Addr × List Int), H' D = some (SetTO P w D Ls) ∧ (∀ p ∈ Ls, SqT K H' p.1 (p.2.map V.int)) ∧ Ls.length ≤ i + 1 ∧ ∀ k, k ∈ Ls.map (·.2) ↔ ∃ j, j < i + 1 ∧ ic (f j) = k, fun H' h' => ⟨n - (i + 1), by omega, rfl, hlt, h'.2⟩, fun x H' y => ?_⟩
    obtain ⟨e2, hy⟩ := R.yld i H x H' hlt e y
    refine hs i x H' hlt (e.trans e2) hy _ fun σ2 H2 hw e3 htt hte => ⟨hw, htt _ fun H3 e4 => ?_⟩
    simp only [if_true]
    refine hte H3 e4 _ fun v H4 e5 hv => ?_
    have e6 := ((e2.trans e3).trans e4).trans e5
    have hS4 := e6 _ _ hS
    obtain ⟨t, rfl, ht⟩ := tI_of hv
    have ht' : SqT K H4 t ((ic (f i)).map V.int) := by rw [show (ic (f i)).map V.int = (f i).map fun (n : Nat) => V.int (n : Int) by simp [ic, List.map_map]]; exact ht
    have hq4 : ∀ p ∈ Ls, SqT K H4 p.1 (p.2.map V.int) := fun p hp => nl_t (Nl.ex e6) (hq p hp)
    refine ⟨D, t, Ls, ic (f i), rfl, rfl, hS4, ht', hq4, by omega, fun L' c1 c2 => ?_⟩
    have tk : Tk H4 (upd H4 D (SetTO P w D L')) := Tk.ext hS4
    by_cases hm : ic (f i) ∈ Ls.map (·.2)
    · have hL := c1 hm
      subst hL
      refine ⟨hlt, Ex.mut (e.trans e6) hD, L', upd_same, fun p hp => tk_t tk (hq4 p hp), by omega, fun k => ?_⟩
      rw [hk]
      constructor
      · rintro ⟨j, h1, h2⟩
        exact ⟨j, by omega, h2⟩
      · rintro ⟨j, h1, h2⟩
        by_cases hj : j = i
        · subst hj
          rw [← h2]
          exact (hk _).mp hm
        · exact ⟨j, by omega, h2⟩
    · have hp := c2 hm
      refine ⟨hlt, Ex.mut (e.trans e6) hD, L', upd_same, fun p hpL => ?_, by have := hp.length_eq; simp at this; omega, fun k => ?_⟩
      · rcases List.mem_cons.mp (hp.mem_iff.mp hpL) with rfl | h
        · exact tk_t tk ht'
        · exact tk_t tk (hq4 p h)
      · rw [(hp.map (·.2)).mem_iff, List.map_cons, List.mem_cons, hk]
        constructor
        · rintro (h | ⟨j, h1, h2⟩)
          · exact ⟨i, by omega, h.symm⟩
          · exact ⟨j, by omega, h2⟩
        · rintro ⟨j, h1, h2⟩
          by_cases hj : j = i
          · subst hj
            exact .inl h2.symm
          · exact .inr ⟨j, by omega, h2⟩
  · have ei : i = n := by omega
    subst ei
    exact .inl ⟨R.stop H e, hd D H Ls hD e hS hq hc hk⟩

/-- the sorted tuples of a set of them -/
theorem sorted_data {K : PySem.W.Frag} {H : Hp} : ∀ {L : List (Addr × List Int)}, (∀ p ∈ L, SqT K H p.1 (p.2.map V.int)) → (∀ p ∈ L, ∃ l, p.2 = ic l) → ∃ S : List (List Nat), L.map (·.2) = S.map ic ∧ TpA K H (L.map fun p => V.ref p.1) (S.map tI)
  | [], _, _ => ⟨[], rfl, .nil⟩
  | p :: L, h1, h2 => by
    obtain ⟨S, e1, e2⟩ := sorted_data (L := L) (fun q hq => h1 q (List.mem_cons_of_mem _ hq)) (fun q hq => h2 q (List.mem_cons_of_mem _ hq))
    obtain ⟨l, hl⟩ := h2 p List.mem_cons_self
    refine ⟨l :: S, by simp [e1, hl], .cons (of_tI ?_) e2⟩
    have h := h1 p List.mem_cons_self
    rw [hl] at h
    rw [show (l.map fun (n : Nat) => V.int (n : Int)) = (ic l).map V.int by simp [ic, List.map_map]]
    exact h
theorem nodup_of_map {α β : Type} {f : α → β} : ∀ {l : List α}, (l.map f).Nodup → l.Nodup
  | [], _ => List.nodup_nil
  | a :: l, h => by
    rw [List.map_cons, List.nodup_cons] at h
    exact List.nodup_cons.mpr ⟨fun m => h.1 (List.mem_map.mpr ⟨a, m, rfl⟩), nodup_of_map h.2⟩
/-- sorted(set): what is asked and given -/
theorem sortedT_by {K : PySem.W.Frag} {P : Program} {w : World} {D : Addr} {H : Hp} {Ls : List (Addr × List Int)} {n d : Nat} {f : Nat → List Nat} {Q : VK} (hS : H D = some (SetTO P w D Ls)) (hq : ∀ p ∈ Ls, SqT K H p.1 (p.2.map V.int)) (hk : ∀ k : List Int, k ∈ Ls.map (·.2) ↔ ∃ i, i < n ∧ ic (f i) = k)
    (hd : 1 ≤ d) (hf : ∀ i, i < n → (f i).length = d ∧ ∀ x ∈ f i, x < 64)
    (q : ∀ (S : List (List Nat)) (p : Addr) (xs : List V) H', Ex H H' → H' p = some (.lst xs) → xs.length < 64 → TpA K H' xs (S.map tI) → S.Nodup → (∀ s, s ∈ S ↔ ∃ i, i < n ∧ f i = s) → Q (.ref p) H') : rSortedT K P w [.ref D] H Q := by
  refine ⟨D, Ls, d, 64, rfl, hS, hq, hd, fun p hp => ?_, fun L' p pm nd lt _ hp => ?_⟩
  · obtain ⟨i, hi, e⟩ := (hk p.2).mp (List.mem_map.mpr ⟨p, hp, rfl⟩)
    obtain ⟨h1, h2⟩ := hf i hi
    rw [← e]
    refine ⟨by simp [ic, h1], fun z hz => ?_⟩
    obtain ⟨x, hx, rfl⟩ := List.mem_map.mp hz
    have := h2 x hx
    omega
  · have e : Ex H (upd H p (.lst (L'.map fun q => V.ref q.1))) := Evl.Ex.new hp
    have hin : ∀ p ∈ L', p ∈ Ls := fun p hp => pm.mem_iff.mp hp
    obtain ⟨S, e1, e2⟩ := sorted_data (K := K) (H := H) (L := L') (fun p hp => hq p (hin p hp)) (fun p hp => by
      obtain ⟨i, _, e⟩ := (hk p.2).mp (List.mem_map.mpr ⟨p, hin p hp, rfl⟩)
      exact ⟨_, e.symm⟩)
    refine q S p _ _ e upd_same (by simpa using lt) (e2.mono (Nl.ex e)) (nodup_of_map (f := ic) (by rw [← e1]; exact nd)) fun s => ?_
    constructor
    · intro hs
      have : ic s ∈ L'.map (·.2) := by rw [e1]; exact List.mem_map.mpr ⟨s, hs, rfl⟩
      obtain ⟨i, hi, e⟩ := (hk _).mp ((pm.map (·.2)).mem_iff.mp this)
      exact ⟨i, hi, ic_inj e⟩
    · rintro ⟨i, hi, rfl⟩
      have : ic (f i) ∈ L'.map (·.2) := (pm.map (·.2)).mem_iff.mpr ((hk _).mpr ⟨i, hi, rfl⟩)
      rw [e1] at this
      obtain ⟨s, hs, e⟩ := List.mem_map.mp this
      rw [← ic_inj e]
      exact hs
/-- sorted(set of ints) -/
theorem sortedI_by {K : PySem.W.Frag} {w : World} {D : Addr} {H : Hp} {S : Int → Bool} {m n : Nat} {f : Nat → Nat} {Q : VK} (hS : H D = some (SetO w D S m)) (hm : m ≤ n) (hn : n < 60) (hk : ∀ k : Int, S k = true ↔ ∃ i, i < n ∧ (f i : Int) = k)
    (q : ∀ (ns : List Nat) (p : Addr) H', Ex H H' → H' p = some (.lst (ns.map fun (n : Nat) => V.int (n : Int))) → (∀ s, s ∈ ns ↔ ∃ i, i < n ∧ f i = s) → ns.length ≤ n → Q (.ref p) H') : rSortedSet w [.ref D] H Q := by
  refine ⟨D, S, m, rfl, hS, by omega, fun ns p _ hm2 hl hp => ?_⟩
  have hz : ∃ ms : List Nat, ns = ms.map fun (n : Nat) => (n : Int) := by
    have : ∀ l : List Int, (∀ z ∈ l, S z = true) → ∃ ms : List Nat, l = ms.map fun (n : Nat) => (n : Int) := by
      intro l
      induction l with
      | nil => exact fun _ => ⟨[], rfl⟩
      | cons a l ih =>
        intro h
        obtain ⟨ms, e⟩ := ih fun z hz => h z (List.mem_cons_of_mem _ hz)
        obtain ⟨i, _, e2⟩ := (hk a).mp (h a List.mem_cons_self)
        exact ⟨f i :: ms, by rw [e, List.map_cons, e2]⟩
    exact this ns fun z hz => (hm2 z).mp hz
  obtain ⟨ms, rfl⟩ := hz
  refine q ms p _ (Evl.Ex.new hp) (by rw [upd_same, List.map_map]; rfl) (fun s => ?_) (by simp at hl; omega)
  constructor
  · intro hs
    obtain ⟨i, hi, e⟩ := (hk s).mp ((hm2 s).mp (List.mem_map.mpr ⟨s, hs, rfl⟩))
    exact ⟨i, hi, by omega⟩
  · rintro ⟨i, hi, rfl⟩
    obtain ⟨x, hx, e⟩ := List.mem_map.mp ((hm2 (f i : Int)).mpr ((hk _).mpr ⟨i, hi, rfl⟩))
    have : x = f i := by omega
    rw [← this]
    exact hx
end AN
end

-- ANsd
section
set_option Elab.async false
set_option linter.all false
set_option maxRecDepth 100000
set_option maxHeartbeats 4000000
/-! A dict comprehension {int: True} over what stays. -/
namespace AN
open PySem PySem.Spec PyProof.Rows L2 StX
open Evl (Ex)

/-- the rounds of a dict comprehension -/
def DcB (J : It) (g : TG) (tt : TT) (tk tv : TE) (vs : List Nat) (σ : L2.St) (H1 : Hp) (Q : VK) : Prop := ∀ D, H1 D = none → ∃ W : Nat → Nat → Hp → Prop, (∃ m, W 0 m (upd H1 D (.dK []))) ∧ ∀ i m H, W i m H →
  (J.stop i H ∧ Q (.ref D) H) ∨ (J.go i H ∧ ∃ Nx : Hp → Prop, (∀ H', Nx H' → ∃ m', m' < m ∧ W (i + 1) m' H') ∧ ∀ x H', J.yld i H x H' → g x (wipe σ vs) H' fun σ2 H2 => wipe σ2 vs = wipe σ vs ∧ tt σ2 H2 fun b H3 =>
    if b = true then tk σ2 H3 fun y H4 => tv σ2 H4 fun z H5 => ∃ kvs k, y = kV k ∧ H5 D = some (.dK kvs) ∧ kvs.length < sizeLine ∧ Nx (upd H5 D (.dK (putK kvs k z))) else Nx H3)
theorem w_dc {wi : TI} {g : TG} {tt : TT} {tk tv : TE} {vs : List Nat} {σ : L2.St} {H : Hp} {Q : VK} (h : wi σ H fun J H1 => DcB J g tt tk tv vs σ H1 Q) : tDc wi g tt tk tv vs σ H Q := h
theorem fst_put (kvs : List (Key × V)) (k : Key) (v : V) : ((putK kvs k v).map (·.1)) = if (valV kvs k).isSome then kvs.map (·.1) else kvs.map (·.1) ++ [k] := by
  unfold putK
  rw [valV_any]
  split
  · rw [List.map_map]
    apply List.map_congr_left
    intro a _
    show (if a.1 = k then (a.1, v) else a).1 = a.1
    split <;> rfl
  · rw [List.map_append]
    rfl
theorem dc_int {J : It} {g : TG} {tt : TT} {tk tv : TE} {vs : List Nat} {σ : L2.St} {H1 : Hp} {Q : VK} {n : Nat} {Y : Nat → V → Hp → Prop} (R : Runs J H1 n Y) (f : Nat → Nat) (hn : n < 1000)
    (hs : ∀ i x H, i < n → Ex H1 H → Y i x H → ∀ C : L2.St → Hp → Prop, (∀ σ2 H2, wipe σ2 vs = wipe σ vs → Ex H H2 → (∀ Q : Bool → Hp → Prop, (∀ H3, Ex H2 H3 → Q true H3) → tt σ2 H2 Q) →
      (∀ H3, Ex H2 H3 → ∀ Q : VK, (∀ H4, Ex H3 H4 → Q (.int (f i : Nat)) H4) → tk σ2 H3 Q) → (∀ H3, Ex H2 H3 → ∀ Q : VK, (∀ v H4, Ex H3 H4 → Q v H4) → tv σ2 H3 Q) → C σ2 H2) → g x (wipe σ vs) H C)
    (hd : ∀ D H (kvs : List (Key × V)), H1 D = none → Ex H1 H → H D = some (.dK kvs) → kvs.length ≤ n → (kvs.map (·.1)).Nodup → (∀ k, k ∈ kvs.map (·.1) ↔ ∃ i, i < n ∧ .inl (f i : Int) = k) → Q (.ref D) H) :
    DcB J g tt tk tv vs σ H1 Q := fun D hD => by
  refine ⟨fun i m H => m = n - i ∧ i ≤ n ∧ Ex H1 H ∧ ∃ kvs : List (Key × V), H D = some (.dK kvs) ∧ kvs.length ≤ i ∧ (kvs.map (·.1)).Nodup ∧ ∀ k, k ∈ kvs.map (·.1) ↔ ∃ j, j < i ∧ .inl (f j : Int) = k, ⟨n, by simp, Nat.zero_le _, Evl.Ex.new hD, [], upd_same, Nat.le_refl _, List.nodup_nil, fun k => ⟨fun h => absurd h List.not_mem_nil, fun ⟨j, h, _⟩ => absurd h (Nat.not_lt_zero j)⟩⟩, ?_⟩
  rintro i m H ⟨rfl, hi, e, kvs, hS, hc, hnd, hk⟩
  by_cases hlt : i < n
  · refine .inr ⟨R.go i H hlt e, fun H' => i < n ∧ Ex H1 H' ∧ ∃ kvs : List (Key × V), H' D = some (.dK kvs) ∧ kvs.length ≤ i + 1 ∧ (kvs.map (·.1)).Nodup ∧ ∀ k, k ∈ kvs.map (·.1) ↔ ∃ j, j < i + 1 ∧ .inl (f j : Int) = k, fun H' h' => ⟨n - (i + 1), by omega, rfl, hlt, h'.2⟩, fun x H' y => ?_⟩
    obtain ⟨e2, hy⟩ := R.yld i H x H' hlt e y
    refine hs i x H' hlt (e.trans e2) hy _ fun σ2 H2 hw e3 htt htk htv => ⟨hw, htt _ fun H3 e4 => ?_⟩
    simp only [if_true]
    refine htk H3 e4 _ fun H4 e5 => htv H4 (e4.trans e5) _ fun v H5 e5' => ?_
    have e6 := (((e2.trans e3).trans e4).trans e5).trans e5'
    have hS4 := e6 _ _ hS
    have hf := fst_put kvs (.inl (f i : Int)) v
    have hiff : (valV kvs (.inl (f i : Int))).isSome = true ↔ .inl (f i : Int) ∈ kvs.map (·.1) := by
      constructor
      · intro h
        obtain ⟨z, hz⟩ := Option.isSome_iff_exists.mp h
        exact valV_in hz
      · intro h
        cases e : valV kvs (.inl (f i : Int)) with
        | some z => rfl
        | none => exact absurd h (valV_not e)
    refine ⟨kvs, .inl (f i : Int), rfl, hS4, small_len (by omega), hlt, Ex.mut (e.trans e6) hD, _, upd_same, ?_, ?_, fun k => ?_⟩
    · have : (putK kvs (.inl (f i : Int)) v).length = ((putK kvs (.inl (f i : Int)) v).map (·.1)).length := by rw [List.length_map]
      rw [this, hf]
      split <;> simp <;> omega
    · rw [hf]
      split
      · exact hnd
      · rename_i h
        rw [hiff] at h
        rw [List.nodup_append]
        refine ⟨hnd, by simp, fun a ha b hb => ?_⟩
        rw [List.mem_singleton] at hb
        subst hb
        exact fun e => h (e ▸ ha)
    · have hor : k ∈ (putK kvs (.inl (f i : Int)) v).map (·.1) ↔ k ∈ kvs.map (·.1) ∨ k = .inl (f i : Int) := by
        rw [hf]
        split
        · rename_i h
          rw [hiff] at h
          exact ⟨.inl, fun z => z.elim id fun e => e ▸ h⟩
        · rw [List.mem_append, List.mem_singleton]
      rw [hor, hk]
      constructor
      · rintro (⟨j, h1, h2⟩ | h)
        · exact ⟨j, by omega, h2⟩
        · exact ⟨i, by omega, h.symm⟩
      · rintro ⟨j, h1, h2⟩
        by_cases hj : j = i
        · subst hj
          exact .inr h2.symm
        · exact .inl ⟨j, by omega, h2⟩
  · have ei : i = n := by omega
    subst ei
    exact .inl ⟨R.stop H e, hd D H kvs hD e hS hc hnd hk⟩
theorem keys_one {kvs : List (Key × V)} {n : Nat} {f : Nat → Nat} (hk : ∀ k, k ∈ kvs.map (·.1) ↔ ∃ i, i < n ∧ .inl (f i : Int) = k) (h : kvs.length ≤ 1) : ∀ i j, i < n → j < n → f i = f j := by
  intro i j hi hj
  have h1 := (hk _).mpr ⟨i, hi, rfl⟩
  have h2 := (hk _).mpr ⟨j, hj, rfl⟩
  match kvs, h with
  | [], _ => simp at h1
  | [a], _ =>
    rw [List.map_cons, List.map_nil, List.mem_singleton] at h1 h2
    have := h1.trans h2.symm
    injection this with e
    omega
theorem keys_two {kvs : List (Key × V)} {n : Nat} {f : Nat → Nat} (hnd : (kvs.map (·.1)).Nodup) (hk : ∀ k, k ∈ kvs.map (·.1) ↔ ∃ i, i < n ∧ .inl (f i : Int) = k) (h : 1 < kvs.length) : ∃ i j, i < n ∧ j < n ∧ f i ≠ f j := by
  match kvs, h with
  | a :: b :: r, _ =>
    obtain ⟨i, hi, e1⟩ := (hk a.1).mp (by simp)
    obtain ⟨j, hj, e2⟩ := (hk b.1).mp (by simp)
    refine ⟨i, j, hi, hj, fun e => ?_⟩
    rw [List.map_cons, List.map_cons, List.nodup_cons] at hnd
    refine hnd.1 ?_
    rw [← e1, ← e2, e]
    exact List.mem_cons_self
theorem in_keys {kvs : List (Key × V)} {n : Nat} {f : Nat → Nat} (hk : ∀ k, k ∈ kvs.map (·.1) ↔ ∃ i, i < n ∧ .inl (f i : Int) = k) (c : Nat) : (valV kvs (.inl (c : Int))).isSome = true ↔ ∃ i, i < n ∧ f i = c := by
  have h1 : (valV kvs (.inl (c : Int))).isSome = true ↔ .inl (c : Int) ∈ kvs.map (·.1) := by
    constructor
    · intro h
      obtain ⟨z, hz⟩ := Option.isSome_iff_exists.mp h
      exact valV_in hz
    · intro h
      cases e : valV kvs (.inl (c : Int)) with
      | some z => rfl
      | none => exact absurd h (valV_not e)
  rw [h1, hk]
  constructor
  · rintro ⟨i, hi, e⟩
    injection e with e
    exact ⟨i, hi, by omega⟩
  · rintro ⟨i, hi, rfl⟩
    exact ⟨i, hi, rfl⟩
end AN
end

-- ANw9
section
set_option Elab.async false
set_option linter.all false
set_option maxRecDepth 100000
set_option maxHeartbeats 4000000
namespace AN
open PySem PySem.Spec PyProof.Rows L2 StX
open Evl (Ex)

/-- what Knowledge keeps to -/
structure Kok (L : List PySem.Str) (vs : List Rows) (S : List (List Nat)) : Prop extends Vok L vs where
  ne : S ≠ []
  st : ∀ s ∈ S, StOk vs s
  few : S.length < 60
  re : ∀ s ∈ S, Reach L.length vs s
theorem getD_of {α : Type} {l : List α} {i : Nat} (h : i < l.length) (d : α) : l[i]? = some (l.getD i d) := by
  rw [List.getD_eq_getElem?_getD, List.getElem?_eq_getElem h]
  rfl
theorem ex_mem {α β : Type} {l : List α} {f : α → β} {d : α} {b : β} : (∃ i, i < l.length ∧ f (l.getD i d) = b) ↔ ∃ a ∈ l, f a = b := by
  constructor
  · rintro ⟨i, hi, e⟩
    exact ⟨_, getD_mem hi, e⟩
  · rintro ⟨a, ha, e⟩
    obtain ⟨i, hi, e2⟩ := List.mem_iff_getElem.mp ha
    refine ⟨i, hi, ?_⟩
    rw [List.getD_eq_getElem?_getD, List.getElem?_eq_getElem hi, e2]
    exact e
theorem trueM_two {R : Rows} {q : List PySem.Str} {ns : List Nat} (h : ∃ i j, i < ns.length ∧ j < ns.length ∧ cl (hush q R) (ns.getD i 0) ≠ cl (hush q R) (ns.getD j 0)) : trueM R q ns = [] := by
  obtain ⟨i, j, hi, hj, ne⟩ := h
  refine List.eq_nil_iff_forall_not_mem.mpr fun t ht => ?_
  obtain ⟨_, h⟩ := mem_trueM.mp ht
  exact ne ((h _ (getD_mem hi)).trans (h _ (getD_mem hj)).symm)
theorem any_int (S : List Nat) (z : Nat) : ((S.map fun (n : Nat) => PyData.int (n : Int)).any fun y => PyData.eqv y (.int (z : Int))) = decide (z ∈ S) := by
  induction S with
  | nil => simp
  | cons x S ih =>
    rw [List.map_cons, List.any_cons, ih, PyData.eqv]
    by_cases h : x = z
    · subst h; simp
    · have : ((x : Int) == (z : Int)) = false := beq_eq_false_iff_ne.mpr (by omega)
      simp [this, List.mem_cons, Ne.symm h, eq_comm (a := z)]
theorem int_shaped (i : Int) : SeqAt.shaped (.int i) = true := shaped_of (by simp [PyData.canLay0]) (by simp [PyData.depth])
theorem StOk.lt {vs : List Rows} {s : List Nat} (h : StOk vs s) {i : Nat} (hi : i < vs.length) : s[i]? = some (s.getD i 0) := getD_of (by rw [h.1]; exact hi) 0
theorem Vok.mem {L : List PySem.Str} {vs : List Rows} (h : Vok L vs) {i : Nat} (hi : i < vs.length) : Wf L.length (vs.getD i []) := h.wf _ (getD_mem hi)

abbrev N_d_Knowledge_places : List PySem.Str := ["self", "i", "standing"]
theorem sc_d_Knowledge_places : FnScope N_d_Knowledge_places ["self", "i"] AN.d_Knowledge_places.scope := ⟨rfl, rfl, rfl, by decide +kernel, rfl, by decide +kernel, by decide +kernel⟩
section
variable {P : Program} {w : World} {K : PySem.W.Frag} {mg : PySem.Str → Option Value} {base : Heap} (T : Kit K mg)
include T
theorem w_Knowledge_places : GF P w K mg base 4 (AN.d_Knowledge_places.at_ K) (sp2 (fun self i H Q => ∃ (x : Addr) (L : List PySem.Str) (vs : List Rows) (S : List (List Nat)) (n : Nat), self = .ref x ∧ KnI K H x L vs S ∧ i = .int (n : Int) ∧ n < vs.length ∧ Kok L vs S ∧ ∀ v ns H', Ex H H' → Tp K H' v (tI ns) → (∀ p, p ∈ ns ↔ ∃ s ∈ S, s.getD n 0 = p) → ns.length ≤ S.length → Q v H')) := by
  obtain ⟨fd, F⟩ := T.d_Knowledge_places
  refine rr F sc_d_Knowledge_places len2 (fun _ _ _ _ _ _ us hl => match us, hl with | [_, _], _ => rfl) (fun cdv A outer s H vs Q E hr h => ?_)
  have hu64 : (A.deeper (envOfC AN.d_Knowledge_places.qual AN.d_Knowledge_places.scope s.heap.objs.size (AN.d_Knowledge_places.at_ K) cdv)).units + 65 < cLine := hu_of65 hr
  have hu63 : (A.deeper (envOfC AN.d_Knowledge_places.qual AN.d_Knowledge_places.scope s.heap.objs.size (AN.d_Knowledge_places.at_ K) cdv)).units + 64 < cLine := Nat.lt_of_succ_lt hu64
  have hu1 : (A.deeper (envOfC AN.d_Knowledge_places.qual AN.d_Knowledge_places.scope s.heap.objs.size (AN.d_Knowledge_places.at_ K) cdv)).units + 1 < cLine := hu_of hr
  obtain ⟨fdS, FS, GS⟩ := ok_Knowledge_standings (P := P) (w := w) (base := base) T
  have bS : Binds K fdS ["self"] [] := FS.bindsN (fun _ _ _ _ _ _ us hl => match us, hl with | [_], _ => rfl)
  have nd := sc_d_Knowledge_places.nd
  obtain ⟨self, i, rfl, x, L, vs, S, n, rfl, hk, rfl, hn, kok, q⟩ := h
  refine ⟨_, PSs.nox (pss_cons (ps_expr (pe_methR (pv 0) T.cl_Knowledge T.m_Knowledge_need_version (w_Knowledge_need_version T).1 (hr.mono (by decide)) pass0 (pa_cons (pv 1) pa_nil))) (pss_one (ps_ret (pe_callTy call_tuple_of (by rfl) T.f_tuple (by decide +kernel) (pa_cons (pe_callB (cr_sortedSet rfl) (by rfl) T.f_sorted (by decide +kernel) (pa_cons (pe_scG (O := fun D => SetO w D (fun _ => false) 0) (own := [("standing", 2)]) newI_ok addI_ok rfl nd (pi_tup (pe_prop (pv 0) T.cl_Knowledge T.p_standings GS (hr.mono (by decide)) bS .nil pass0 rfl)) (blkOk_by (own := [("standing", 2)]) (N := N_d_Knowledge_places) (sc := AN.d_Knowledge_places.scope) (by decide +kernel)) (fun _ _ _ _ _ => (pg_name (i := 2) nd rfl (Or.inl rfl))) (fun _ _ _ _ _ => pts_nil) (fun _ _ _ _ _ => (pe_ix (r := rIxT K) ix_tup (pv 2) (pv 1) (fun _ _ => rfl)))) pa_nil)) pa_nil))))), ?_⟩

  have hk0 := hk
  obtain ⟨dx, kv, v, s0, h0, h1, h2, h3⟩ := hk
  refine ⟨_, rfl, x, dx, _, rfl, h0, rfl, _, rfl, _, _, rfl, x, L, vs, S, n, rfl, hk0, rfl, hn, ?_⟩
  have few := kok.few
  ((try dsimp only); (repeat (first | refine w_lc ?_ | unfold gName | unfold tIfS | unfold tNot | unfold tB | unfold tTest | unfold tRet | unfold tAsg | unfold tSeq | unfold tDrop | unfold tCB | unfold tCons)))
  refine w_sc ?_
  refine ⟨_, rfl, x, dx, _, rfl, h0, _, rfl, x, L, vs, S, rfl, hk0, fun v hv => ?_⟩
  obtain ⟨a, xs, rfl, hs, t⟩ := hv.tupE
  have hxl : xs.length = S.length := by rw [t.length, List.length_map]
  refine ⟨a, rfl, ⟨_, hs⟩, ?_⟩
  refine sc_int (n := xs.length) (runs_t hs) (fun k => (S.getD k []).getD n 0) (by omega) ?_ ?_
  · intro k u H7 hk7 e8 hu C kk
    obtain ⟨d, hd, tu⟩ := t.got hu
    have hks : k < S.length := by omega
    rw [map_get (f := tI) hks []] at hd
    cases hd
    refine kk _ _ rfl (Ex.refl _) (fun Q q => q _ (Ex.refl _)) fun H8 e9 Q q => ?_
    obtain ⟨au, rfl, hau⟩ := tI_of (tu.mono (Nl.ex (e8.trans e9)))
    have hso := kok.st _ (getD_mem (d := []) hks)
    exact ⟨_, rfl, _, rfl, _, _, _, _, rfl, rfl, hau, atI_nat (map_get (by rw [hso.1]; exact hn) 0), q _ (Ex.refl _)⟩
  · intro D H7 S7 m7 hD e8 hS hm hk7
    unfold tNil
    dsimp only
    show rSortedSet w [V.ref D] H7 _
    refine sortedI_by (K := K) hS hm (by omega) hk7 fun ns p H8 e9 hp hns hl => ?_
    refine ⟨p, _, rfl, .inl ⟨SqL.of hp, fun p2 hp2 => ?_⟩⟩
    have e10 := (e8.trans e9).trans (Evl.Ex.new (o := .tup (ns.map fun (n : Nat) => V.int (n : Int))) hp2)
    refine q _ ns _ e10 (of_tI (.inl (.inl upd_same))) (fun p => ?_) (by omega)
    rw [hns, hxl]
    exact ex_mem (f := fun s : List Nat => s.getD n 0)
end
abbrev N_d_true_states : List PySem.Str := ["k", "i", "quiet", "places", "classes", "known", "place", "t", "own"]
theorem sc_d_true_states : FnScope N_d_true_states ["k", "i", "quiet"] AN.d_true_states.scope := ⟨rfl, rfl, rfl, by decide +kernel, rfl, by decide +kernel, by decide +kernel⟩
section
variable {P : Program} {w : World} {K : PySem.W.Frag} {mg : PySem.Str → Option Value} {base : Heap} (T : Kit K mg)
include T
theorem w_true_states : GK P w K mg base 5 (AN.d_true_states.at_ K) 2 ["quiet"] (sp3 (fun k i qv H Q => ∃ (x : Addr) (L : List PySem.Str) (vs : List Rows) (S : List (List Nat)) (n : Nat) (qs : List PySem.Str), k = .ref x ∧ KnI K H x L vs S ∧ i = .int (n : Int) ∧ n < vs.length ∧ Kok L vs S ∧ Tp K H qv (tS qs) ∧ Ret H (fun v H' => Tp K H' v (tI (trueM (vs.getD n []) qs (S.map fun s => s.getD n 0)))) Q)) := by
  obtain ⟨fd, F⟩ := T.d_true_states
  obtain ⟨mv, kb⟩ := FunD.kbinds0 (ps := ["k", "i", "quiet"]) F 2 ["quiet"] [] (fun us _ ws => us ++ ws) (List.cons_ne_nil _ _) (fun _ h => by cases h) (fun r1 _ r2 => r1.append r2) (fun _ _ _ _ _ _ us mv ws h1 _ h2 => match us, ws, h1, h2 with | [_, _], [_], _, _ => rfl)
  refine ⟨⟨fd, ["k", "i", "quiet"], _, F.ok sc_d_true_states len3 (fun cdv A outer s H vs Q E hr h => ?_), kb⟩, F.kp⟩
  have hu64 : (A.deeper (envOfC AN.d_true_states.qual AN.d_true_states.scope s.heap.objs.size (AN.d_true_states.at_ K) cdv)).units + 65 < cLine := hu_of65 hr
  have hu63 : (A.deeper (envOfC AN.d_true_states.qual AN.d_true_states.scope s.heap.objs.size (AN.d_true_states.at_ K) cdv)).units + 64 < cLine := Nat.lt_of_succ_lt hu64
  have hu1 : (A.deeper (envOfC AN.d_true_states.qual AN.d_true_states.scope s.heap.objs.size (AN.d_true_states.at_ K) cdv)).units + 1 < cLine := hu_of hr
  obtain ⟨fdV, FV, GV⟩ := ok_Knowledge_versions (P := P) (w := w) (base := base) T
  have bV : Binds K fdV ["self"] [] := FV.bindsN (fun _ _ _ _ _ _ us hl => match us, hl with | [_], _ => rfl)
  have nd := sc_d_true_states.nd
  obtain ⟨k, i, qv, rfl, x, L, vs, S, n, qs, rfl, hk, rfl, hn, kok, hq, q⟩ := h
  refine ⟨_, PSs.nox (pss_cons (ps_set (i := 3) nd rfl (Or.inl rfl) (pe_methR (pv 0) T.cl_Knowledge T.m_Knowledge_places (w_Knowledge_places T).1 (hr.mono (by decide)) pass0 (pa_cons (pv 1) pa_nil))) (pss_cons (ps_set (i := 4) nd rfl (Or.inr rfl) (pe_gk (w_classes_of T) (hr.mono (by decide)) (by rfl) T.g_classes_of pass0 (pa_cons (pe_ix ix_tup (pe_prop (pv 0) T.cl_Knowledge T.p_versions GV (hr.mono (by decide)) bV .nil pass0 rfl) (pv 1) (fun _ _ => rfl)) pa_nil) (pk_cons (pv 2) pk_nil))) (pss_cons (ps_set (i := 5) nd rfl (Or.inr rfl) (pe_dc (own := [("place", 6)]) rfl nd (pi_tup (pv 3)) (blkOk_by (own := [("place", 6)]) (N := N_d_true_states) (sc := AN.d_true_states.scope) (by decide +kernel)) (fun _ _ _ _ _ => (pg_name (i := 6) nd rfl (Or.inl rfl))) (fun _ _ _ _ _ => pts_nil) (fun _ _ _ _ _ => (pe_ix (r := rIxT K) ix_tup (pv 4) (pv 6) (fun _ _ => rfl))) (fun _ _ _ _ _ => pe_bl))) (pss_cons (ps_if (pt_cmpR op_gt (pe_callB call_lenD (by rfl) T.f_len (by decide +kernel) (pa_cons (pv 5) pa_nil)) pe_int (nomark _)) (pss_one (ps_ret (pe_tup pa_nil))) pss_nil) (pss_one (ps_ret (pe_callTy call_tuple_of (by rfl) T.f_tuple (by decide +kernel) (pa_cons (pe_lc (own := [("t", 7), ("own", 8)]) (g := gTup K 2 (gCons (gName 7) (gCons (gName 8) gNil))) rfl nd (pi_en (by rfl) T.f_enumerate (pa_cons (pv 4) pa_nil)) (blkOk_by (own := [("t", 7), ("own", 8)]) (N := N_d_true_states) (sc := AN.d_true_states.scope) (by decide +kernel)) (fun _ _ _ _ _ => (pg_tup rfl (pgs_cons (pg_name (i := 7) nd rfl (Or.inl rfl)) (pgs_cons (pg_name (i := 8) nd rfl (Or.inl rfl)) pgs_nil)))) (fun _ _ _ _ _ => (pts_one (pt_cmp (pc_din hu1 (pv 8) (pv 5))))) (fun _ _ _ _ _ => (pv 7))) pa_nil)))))))), ?_⟩

  have hk0 := hk
  obtain ⟨dx, kv, v, s0, h0, h1, h2, h3⟩ := hk
  have wf := kok.mem hn
  have hL : L.length ≤ 100 := by have := kok.le; omega
  refine ⟨_, rfl, x, dx, _, rfl, h0, rfl, _, rfl, _, _, rfl, x, L, vs, S, n, rfl, hk0, rfl, hn, kok, fun pv ns H1 e1 tp hns hnl => ?_⟩
  refine ⟨_, rfl, x, dx, _, rfl, e1 _ _ h0, _, rfl, x, L, vs, S, rfl, hk0.mono (Nl.ex e1), fun vv hvv => ?_⟩
  obtain ⟨av, xv, rfl, hav, hxv, hgv⟩ := hvv.get
  obtain ⟨m, hm, hmt⟩ := hgv n hn
  refine ⟨_, rfl, _, _, _, _, rfl, rfl, hav, atI_nat hm, ?_⟩
  refine ⟨_, rfl, rfl, rfl, _, _, rfl, L, vs.getD n [], qs, hmt.tp, hq.mono (Nl.ex e1), wf, hL, fun vc H2 e2 hc => ?_⟩
  obtain ⟨ac, rfl, hac⟩ := tI_of hc
  obtain ⟨ap, rfl, hap⟩ := tI_of (tp.mono (Nl.ex e2))
  have few := kok.few
  have hRl := wf.le
  have hlen : (cls (hush qs (vs.getD n []))).length = (vs.getD n []).length := by rw [cls_length, hush_length]
  have hnr : ∀ p ∈ ns, p < (vs.getD n []).length := by
    intro p hp
    obtain ⟨s, hs, rfl⟩ := (hns p).mp hp
    exact (kok.st s hs).2 n hn
  have e12 := e1.trans e2
  ((try dsimp only); (repeat (first | refine w_lc ?_ | unfold gName | unfold tIfS | unfold tNot | unfold tB | unfold tTest | unfold tRet | unfold tAsg | unfold tSeq | unfold tDrop | unfold tCB | unfold tCons)))
  refine w_dc ?_
  refine ⟨_, rfl, ap, rfl, ⟨_, hap⟩, ?_⟩
  refine dc_int (n := (ns.map fun (n : Nat) => V.int (n : Int)).length) (runs_t hap) (fun k => cl (hush qs (vs.getD n [])) (ns.getD k 0)) (by rw [List.length_map]; omega) ?_ ?_
  · intro k u H7 hk7 e8 hu C kk
    refine kk _ _ rfl (Ex.refl _) (fun Q q => q _ (Ex.refl _)) (fun H8 e9 Q q => ?_) (fun H8 e9 Q q => q _ _ (Ex.refl _))
    have hks : k < ns.length := by simpa using hk7
    rw [map_get (f := fun (n : Nat) => V.int (n : Int)) hks 0] at hu
    cases hu
    exact ⟨_, rfl, _, rfl, _, _, _, _, rfl, rfl, nl_t (Nl.ex (e8.trans e9)) hac, atI_nat (map_get (by rw [hlen]; exact hnr _ (getD_mem (d := 0) hks)) 0), q _ (Ex.refl _)⟩
  · intro D H7 kvs hD e8 hS hkl hkn hkk
    rw [List.length_map] at hkk
    have hmem : ∀ p, p ∈ ns ↔ p ∈ S.map fun s => s.getD n 0 := fun p => by rw [hns, List.mem_map]
    rw [← trueM_congr hmem] at q
    have hne : ns ≠ [] := fun e => by
      obtain ⟨s1, hs1⟩ := List.exists_mem_of_ne_nil _ kok.ne
      have := (hns _).mpr ⟨s1, hs1, rfl⟩
      rw [e] at this
      exact List.not_mem_nil this
    refine ⟨_, rfl, D, kvs, rfl, hS, ?_⟩
    refine ⟨_, _, rfl, rfl, ?_⟩
    refine ⟨_, rfl, ?_⟩
    dsimp only
    by_cases h1k : 1 < kvs.length
    · rw [if_pos (by rw [decide_eq_true_eq]; omega)]
      refine ⟨Nat.zero_le _, fun p hp => ?_⟩
      have e9 := (e12.trans e8).trans (Evl.Ex.new (o := .tup []) hp)
      refine q _ _ e9 ?_
      rw [trueM_two (keys_two hkn hkk h1k)]
      exact of_tI (l := []) (.inl (.inl upd_same))
    · rw [if_neg (by rw [decide_eq_true_eq]; omega)]
      have hone := keys_one hkk (by omega)
      have hac7 := nl_t (Nl.ex e8) hac
      unfold tNext
      dsimp only
      refine w_lc ?_
      refine ⟨_, rfl, ac, true, _, rfl, hac7, ?_⟩
      refine lc_pure (n := ((cls (hush qs (vs.getD n []))).map fun (n : Nat) => V.int (n : Int)).length) (runs_e (c := true) hac7) (fun k => ns.all fun p => cl (hush qs (vs.getD n [])) p == cl (hush qs (vs.getD n [])) k) (fun k v _ => v = .int (k : Int)) (by rw [List.length_map, hlen]; omega) (fun _ _ _ _ _ h => h) ?_ ?_
      · intro k u H8 hk8 e9 hu C kk
        have hks : k < (cls (hush qs (vs.getD n []))).length := by simpa using hk8
        obtain ⟨tT, xx, rfl, hT, hxx⟩ := hu
        rw [map_get (f := fun (n : Nat) => V.int (n : Int)) hks 0] at hxx
        cases hxx
        refine ⟨tT, _, rfl, .inl (.inl hT), rfl, _, _, rfl, _, _, rfl, rfl, ?_⟩
        refine kk _ _ rfl (Ex.refl _) (fun Q q => ?_) (fun _ H9 e10 Q q => ⟨_, rfl, q _ _ (Ex.refl _) rfl⟩)
        refine ⟨_, rfl, _, rfl, D, _, rfl, DGet.k (k := .inl _) (e9 _ _ hS), _, rfl, ?_⟩
        have hb : (valV kvs (.inl ((((cls (hush qs (vs.getD n []))).getD k 0 : Nat)) : Int))).isSome = (ns.all fun p => cl (hush qs (vs.getD n [])) p == cl (hush qs (vs.getD n [])) k) := by
          rw [Bool.eq_iff_iff, in_keys hkk, List.all_eq_true]
          constructor
          · rintro ⟨i, hi, e⟩ p hp
            obtain ⟨j, hj, ej⟩ := List.mem_iff_getElem.mp hp
            have := hone j i hj hi
            have hpj : ns.getD j 0 = p := getD_at (by rw [List.getElem?_eq_getElem hj, ej]) 0
            rw [beq_iff_eq]
            show _ = (cls _).getD k 0
            rw [← e, ← this, hpj]
          · intro h
            have hp : 0 < ns.length := List.length_pos_iff.mpr hne
            refine ⟨0, hp, ?_⟩
            have := h _ (getD_mem (d := 0) hp)
            rw [beq_iff_eq] at this
            exact this
        rw [hb]
        exact q _ (Ex.refl _)
      · intro D8 H8 xs hD8 e9 hD8' hall
        rw [allP_eq hall, List.length_map, hlen] at hD8'
        refine ⟨D8, _, rfl, .inl ⟨SqL.of hD8', fun p hp => ?_⟩⟩
        have e10 := ((e12.trans e8).trans e9).trans (Evl.Ex.new (o := .tup ((trueM (vs.getD n []) qs ns).map fun (n : Nat) => V.int (n : Int))) hp)
        exact q _ _ e10 (of_tI (.inl (.inl upd_same)))
end
abbrev N_d_is_ready : List PySem.Str := ["k", "i", "quiet"]
theorem sc_d_is_ready : FnScope N_d_is_ready ["k", "i", "quiet"] AN.d_is_ready.scope := ⟨rfl, rfl, rfl, by decide +kernel, rfl, by decide +kernel, by decide +kernel⟩
section
variable {P : Program} {w : World} {K : PySem.W.Frag} {mg : PySem.Str → Option Value} {base : Heap} (T : Kit K mg)
include T
theorem w_is_ready : GK P w K mg base 6 (AN.d_is_ready.at_ K) 2 ["quiet"] (sp3 (fun k i qv H Q => ∃ (x : Addr) (L : List PySem.Str) (vs : List Rows) (S : List (List Nat)) (n : Nat) (qs : List PySem.Str), k = .ref x ∧ KnI K H x L vs S ∧ i = .int (n : Int) ∧ n < vs.length ∧ Kok L vs S ∧ Tp K H qv (tS qs) ∧ ∀ H', Ex H H' → Q (.bl (!decide (trueM (vs.getD n []) qs (S.map fun s => s.getD n 0) = []))) H')) := by
  obtain ⟨fd, F⟩ := T.d_is_ready
  obtain ⟨mv, kb⟩ := FunD.kbinds0 (ps := ["k", "i", "quiet"]) F 2 ["quiet"] [] (fun us _ ws => us ++ ws) (List.cons_ne_nil _ _) (fun _ h => by cases h) (fun r1 _ r2 => r1.append r2) (fun _ _ _ _ _ _ us mv ws h1 _ h2 => match us, ws, h1, h2 with | [_, _], [_], _, _ => rfl)
  refine ⟨⟨fd, ["k", "i", "quiet"], _, F.ok sc_d_is_ready len3 (fun cdv A outer s H vs Q E hr h => ?_), kb⟩, F.kp⟩
  have hu64 : (A.deeper (envOfC AN.d_is_ready.qual AN.d_is_ready.scope s.heap.objs.size (AN.d_is_ready.at_ K) cdv)).units + 65 < cLine := hu_of65 hr
  have hu63 : (A.deeper (envOfC AN.d_is_ready.qual AN.d_is_ready.scope s.heap.objs.size (AN.d_is_ready.at_ K) cdv)).units + 64 < cLine := Nat.lt_of_succ_lt hu64
  have hu1 : (A.deeper (envOfC AN.d_is_ready.qual AN.d_is_ready.scope s.heap.objs.size (AN.d_is_ready.at_ K) cdv)).units + 1 < cLine := hu_of hr
  have nd := sc_d_is_ready.nd
  obtain ⟨k, i, qv, rfl, x, L, vs, S, n, qs, rfl, hk, rfl, hn, kok, hq, q⟩ := h
  refine ⟨_, PSs.nox (pss_one (ps_ret (pe_cmpR (op_neD hu63) (pe_gk (w_true_states T) (hr.mono (by decide)) (by rfl) T.g_true_states pass0 (pa_cons (pv 0) (pa_cons (pv 1) pa_nil)) (pk_cons (pv 2) pk_nil)) (pe_tup pa_nil) (nomark _)))), ?_⟩

  refine ⟨_, rfl, _, rfl, _, rfl, rfl, rfl, _, _, _, rfl, x, L, vs, S, n, qs, rfl, hk, rfl, hn, kok, hq, fun v H1 e1 hv => ?_⟩
  refine ⟨Nat.zero_le _, fun p hp => ?_⟩
  have e2 := Evl.Ex.new (o := .tup []) hp
  refine ⟨_, _, (hv.mono (Nl.ex e2)).dp, (of_tI (l := []) (.inl (.inl upd_same))).dp, tI_shaped _, tI_shaped _, ?_⟩
  rw [eqv_tI]
  exact q _ (e1.trans e2)
end
abbrev N_d_is_true : List PySem.Str := ["k", "i", "t", "quiet"]
theorem sc_d_is_true : FnScope N_d_is_true ["k", "i", "t", "quiet"] AN.d_is_true.scope := ⟨rfl, rfl, rfl, by decide +kernel, rfl, by decide +kernel, by decide +kernel⟩
section
variable {P : Program} {w : World} {K : PySem.W.Frag} {mg : PySem.Str → Option Value} {base : Heap} (T : Kit K mg)
include T
theorem w_is_true : GK P w K mg base 6 (AN.d_is_true.at_ K) 3 ["quiet"] (sp4 (fun k i t qv H Q => ∃ (x : Addr) (L : List PySem.Str) (vs : List Rows) (S : List (List Nat)) (n m : Nat) (qs : List PySem.Str), k = .ref x ∧ KnI K H x L vs S ∧ i = .int (n : Int) ∧ t = .int (m : Int) ∧ n < vs.length ∧ m < (vs.getD n []).length ∧ Kok L vs S ∧ Tp K H qv (tS qs) ∧ ∀ H', Ex H H' → Q (.bl (decide (m ∈ trueM (vs.getD n []) qs (S.map fun s => s.getD n 0)))) H')) := by
  obtain ⟨fd, F⟩ := T.d_is_true
  obtain ⟨mv, kb⟩ := FunD.kbinds0 (ps := ["k", "i", "t", "quiet"]) F 3 ["quiet"] [] (fun us _ ws => us ++ ws) (List.cons_ne_nil _ _) (fun _ h => by cases h) (fun r1 _ r2 => r1.append r2) (fun _ _ _ _ _ _ us mv ws h1 _ h2 => match us, ws, h1, h2 with | [_, _, _], [_], _, _ => rfl)
  refine ⟨⟨fd, ["k", "i", "t", "quiet"], _, F.ok sc_d_is_true len4 (fun cdv A outer s H vs Q E hr h => ?_), kb⟩, F.kp⟩
  have hu64 : (A.deeper (envOfC AN.d_is_true.qual AN.d_is_true.scope s.heap.objs.size (AN.d_is_true.at_ K) cdv)).units + 65 < cLine := hu_of65 hr
  have hu63 : (A.deeper (envOfC AN.d_is_true.qual AN.d_is_true.scope s.heap.objs.size (AN.d_is_true.at_ K) cdv)).units + 64 < cLine := Nat.lt_of_succ_lt hu64
  have hu1 : (A.deeper (envOfC AN.d_is_true.qual AN.d_is_true.scope s.heap.objs.size (AN.d_is_true.at_ K) cdv)).units + 1 < cLine := hu_of hr
  obtain ⟨fdV, FV, GV⟩ := ok_Knowledge_versions (P := P) (w := w) (base := base) T
  have bV : Binds K fdV ["self"] [] := FV.bindsN (fun _ _ _ _ _ _ us hl => match us, hl with | [_], _ => rfl)
  have nd := sc_d_is_true.nd
  obtain ⟨k, i, t, qv, rfl, x, L, vs, S, n, m, qs, rfl, hk, rfl, rfl, hn, hm, kok, hq, q⟩ := h
  refine ⟨_, PSs.nox (pss_cons (ps_expr (pe_methR (pv 0) T.cl_Knowledge T.m_Knowledge_need_version (w_Knowledge_need_version T).1 (hr.mono (by decide)) pass0 (pa_cons (pv 1) pa_nil))) (pss_cons (ps_expr (pe_gf (w_require_states T) (hr.mono (by decide)) (by rfl) T.g_require_states pass0 (pa_cons (pe_ix ix_tup (pe_prop (pv 0) T.cl_Knowledge T.p_versions GV (hr.mono (by decide)) bV .nil pass0 rfl) (pv 1) (fun _ _ => rfl)) (pa_cons (pv 2) pa_nil)))) (pss_one (ps_ret (pe_cmpR (op_inTD hu64) (pv 2) (pe_gk (w_true_states T) (hr.mono (by decide)) (by rfl) T.g_true_states pass0 (pa_cons (pv 0) (pa_cons (pv 1) pa_nil)) (pk_cons (pv 3) pk_nil)) rfl))))), ?_⟩

  have hk0 := hk
  obtain ⟨dx, kv, v, s0, h0, h1, h2, h3⟩ := hk
  refine ⟨_, rfl, x, dx, _, rfl, h0, rfl, _, rfl, _, _, rfl, x, L, vs, S, n, rfl, hk0, rfl, hn, ?_⟩
  refine ⟨_, rfl, x, dx, _, rfl, h0, _, rfl, x, L, vs, S, rfl, hk0, fun vv hvv => ?_⟩
  obtain ⟨av, xv, rfl, hav, hxv, hgv⟩ := hvv.get
  obtain ⟨mm, hmm, hmt⟩ := hgv n hn
  refine ⟨_, rfl, _, _, _, _, rfl, rfl, hav, atI_nat hmm, ?_⟩
  refine ⟨_, rfl, _, L, vs.getD n [], [m], rfl, hmt.tp, by simpa using hm, by simp, fun H1 e1 => ?_⟩
  refine ⟨_, rfl, _, rfl, _, rfl, _, rfl, rfl, rfl, _, _, _, rfl, x, L, vs, S, n, qs, rfl, hk0.mono (Nl.ex e1), rfl, hn, kok, hq.mono (Nl.ex e1), fun v H2 e2 hv => ?_⟩
  refine ⟨_, _, .int _, hv.dp, int_shaped _, tI_shaped _, ?_⟩
  rw [if_neg (by decide), any_int]
  exact q _ (e1.trans e2)
end
abbrev N_d_ready_versions : List PySem.Str := ["k", "quiet", "i"]
theorem sc_d_ready_versions : FnScope N_d_ready_versions ["k", "quiet"] AN.d_ready_versions.scope := ⟨rfl, rfl, rfl, by decide +kernel, rfl, by decide +kernel, by decide +kernel⟩
section
variable {P : Program} {w : World} {K : PySem.W.Frag} {mg : PySem.Str → Option Value} {base : Heap} (T : Kit K mg)
include T
theorem w_ready_versions : GK P w K mg base 7 (AN.d_ready_versions.at_ K) 1 ["quiet"] (sp2 (fun k qv H Q => ∃ (x : Addr) (L : List PySem.Str) (vs : List Rows) (S : List (List Nat)) (qs : List PySem.Str), k = .ref x ∧ KnI K H x L vs S ∧ Kok L vs S ∧ Tp K H qv (tS qs) ∧ Ret H (fun v H' => Tp K H' v (tI ((List.range vs.length).filter fun n => !decide (trueM (vs.getD n []) qs (S.map fun s => s.getD n 0) = [])))) Q)) := by
  obtain ⟨fd, F⟩ := T.d_ready_versions
  obtain ⟨mv, kb⟩ := FunD.kbinds0 (ps := ["k", "quiet"]) F 1 ["quiet"] [] (fun us _ ws => us ++ ws) (List.cons_ne_nil _ _) (fun _ h => by cases h) (fun r1 _ r2 => r1.append r2) (fun _ _ _ _ _ _ us mv ws h1 _ h2 => match us, ws, h1, h2 with | [_], [_], _, _ => rfl)
  refine ⟨⟨fd, ["k", "quiet"], _, F.ok sc_d_ready_versions len2 (fun cdv A outer s H vs Q E hr h => ?_), kb⟩, F.kp⟩
  have hu64 : (A.deeper (envOfC AN.d_ready_versions.qual AN.d_ready_versions.scope s.heap.objs.size (AN.d_ready_versions.at_ K) cdv)).units + 65 < cLine := hu_of65 hr
  have hu63 : (A.deeper (envOfC AN.d_ready_versions.qual AN.d_ready_versions.scope s.heap.objs.size (AN.d_ready_versions.at_ K) cdv)).units + 64 < cLine := Nat.lt_of_succ_lt hu64
  have hu1 : (A.deeper (envOfC AN.d_ready_versions.qual AN.d_ready_versions.scope s.heap.objs.size (AN.d_ready_versions.at_ K) cdv)).units + 1 < cLine := hu_of hr
  obtain ⟨fdV, FV, GV⟩ := ok_Knowledge_versions (P := P) (w := w) (base := base) T
  have bV : Binds K fdV ["self"] [] := FV.bindsN (fun _ _ _ _ _ _ us hl => match us, hl with | [_], _ => rfl)
  have nd := sc_d_ready_versions.nd
  obtain ⟨k, qv, rfl, x, L, vs, S, qs, rfl, hk, kok, hq, q⟩ := h
  refine ⟨_, PSs.nox (pss_one (ps_ret (pe_callTy call_tuple_of (by rfl) T.f_tuple (by decide +kernel) (pa_cons (pe_lc (own := [("i", 2)]) rfl nd (pi_range1 (by rfl) T.f_range (pa_cons (pe_callB call_len_seq (by rfl) T.f_len (by decide +kernel) (pa_cons (pe_prop (pv 0) T.cl_Knowledge T.p_versions GV (hr.mono (by decide)) bV .nil pass0 rfl) pa_nil)) pa_nil)) (blkOk_by (own := [("i", 2)]) (N := N_d_ready_versions) (sc := AN.d_ready_versions.scope) (by decide +kernel)) (fun _ _ _ _ _ => (pg_name (i := 2) nd rfl (Or.inl rfl))) (fun _ _ _ _ _ => (pts_one (pt_val (pe_gk (w_is_ready T) (hr.mono (by decide)) (by rfl) T.g_is_ready pass0 (pa_cons (pv 0) (pa_cons (pv 2) pa_nil)) (pk_cons (pv 1) pk_nil))))) (fun _ _ _ _ _ => (pv 2))) pa_nil)))), ?_⟩

  have hk0 := hk
  obtain ⟨dx, kv, v, s0, h0, h1, h2, h3⟩ := hk
  ((try dsimp only); (repeat (first | refine w_lc ?_ | unfold gName | unfold tIfS | unfold tNot | unfold tB | unfold tTest | unfold tRet | unfold tAsg | unfold tSeq | unfold tDrop | unfold tCB | unfold tCons)))
  refine ⟨_, rfl, x, dx, _, rfl, h0, _, rfl, x, L, vs, S, rfl, hk0, fun vv hvv => ?_⟩
  obtain ⟨av, xv, rfl, hav, hxv, hgv⟩ := hvv.get
  have hvl := kok.vl
  refine ⟨_, _, rfl, .inr hav, ?_⟩
  refine ⟨_, rfl, by omega, by omega, ?_⟩
  refine lc_pure (n := xv.length) (runs_r xv.length) (fun n => !decide (trueM (vs.getD n []) qs (S.map fun s => s.getD n 0) = [])) (fun k v _ => v = .int (k : Int)) (by omega) (fun _ _ _ _ _ h => h) ?_ ?_
  · intro k u H7 hk7 e8 hu C kk
    subst hu
    refine kk _ _ rfl (Ex.refl _) (fun Q q => ?_) (fun _ H9 e10 Q q => ⟨_, rfl, q _ _ (Ex.refl _) rfl⟩)
    refine ⟨_, rfl, _, rfl, _, rfl, rfl, rfl, _, _, _, rfl, x, L, vs, S, k, qs, rfl, hk0.mono (Nl.ex e8), rfl, by omega, kok, hq.mono (Nl.ex e8), fun H9 e9 => ⟨_, rfl, q _ e9⟩⟩
  · intro D8 H8 xs hD8 e9 hD8' hall
    rw [allP_eq hall, hxv] at hD8'
    refine ⟨D8, _, rfl, .inl ⟨SqL.of hD8', fun p hp => ?_⟩⟩
    have e10 := e9.trans (Evl.Ex.new (o := .tup (((List.range vs.length).filter fun n => !decide (trueM (vs.getD n []) qs (S.map fun s => s.getD n 0) = [])).map fun (n : Nat) => V.int (n : Int))) hp)
    exact q _ _ e10 (of_tI (.inl (.inl upd_same)))
end
end AN
end

-- ANw10
section
set_option Elab.async false
set_option linter.all false
set_option maxRecDepth 100000
set_option maxHeartbeats 4000000
namespace AN
open PySem PySem.Spec PyProof.Rows L2 StX
open Evl (Ex)

/-- (0,) * n -/
theorem rep_any {K : PySem.W.Frag} {H : Hp} {l : Addr} {n : Nat} {Q : VK} (hl : H l = some (.tup [V.int 0])) (h1 : 1 ≤ n) (h2 : n ≤ 100) (q : ∀ p H', Ex H H' → SqT K H' p ((List.replicate n 0).map fun (n : Nat) => V.int (n : Int)) → Q (.ref p) H') : rRepA K (.ref l) (.int (n : Int)) H Q := by
  by_cases h : n = 1
  · subst h
    exact .inl ⟨l, _, rfl, rfl, .inl (.inl hl), q l H (Ex.refl H) (.inl (.inl hl))⟩
  · refine .inr ⟨l, (n : Int), _, rfl, rfl, .inl (.inl hl), by simp, by omega, by omega, by simp, fun p hp => ?_⟩
    refine q p _ (Evl.Ex.new hp) (.inl (.inl ?_))
    rw [upd_same, show ((n : Int)).toNat = n from rfl, rep_zero]
theorem fresh_back' {H H' : Hp} (e : Ex H H') {a : Addr} (h : H' a = none) : H a = none := by
  cases ha : H a with
  | none => rfl
  | some o =>
    rw [e a o ha] at h
    cases h
theorem w_sa {te : TE} {g : TG} {b : TS} {D : Ends} {σ : L2.St} {H : Hp} (h : te σ H fun v H1 => g v σ H1 fun σ2 H2 => b D σ2 H2) : tSeq (tAsg te g) b D σ H := h
theorem Vt.head {K : PySem.W.Frag} {H : Hp} {v : V} {L : List PySem.Str} {vs : List Rows} (h : Vt K H v L vs) (ok : Vok L vs) : ∃ a xs am al r, v = .ref a ∧ SqT K H a xs ∧ xs.length = vs.length ∧ xs[0]? = some (.ref am) ∧ SqT K H am [.ref al, r] ∧ NdT H al (L.map .str) ∧ Tp K H r (rowsD (vs.getD 0 [])) := by
  obtain ⟨a, xs, rfl, h1, h2, h3⟩ := h.get
  obtain ⟨m, hm, am, al, r, rfl, h4, h5, h6⟩ := h3 0 ok.vp
  exact ⟨a, xs, am, al, r, rfl, h1, h2, hm, h4, h5, h6⟩

abbrev N_d_check_versions : List PySem.Str := ["versions", "i", "machine"]
theorem sc_d_check_versions : FnScope N_d_check_versions ["versions"] AN.d_check_versions.scope := ⟨rfl, rfl, rfl, by decide +kernel, rfl, by decide +kernel, by decide +kernel⟩
section
variable {P : Program} {w : World} {K : PySem.W.Frag} {mg : PySem.Str → Option Value} {base : Heap} (T : Kit K mg)
include T
theorem w_check_versions : GF P w K mg base 2 (AN.d_check_versions.at_ K) (sp1 (fun v H Q => ∃ (L : List PySem.Str) (vs : List Rows), Vt K H v L vs ∧ Vok L vs ∧ ∀ H', Ex H H' → Q .non H')) := by
  obtain ⟨fd, F⟩ := T.d_check_versions
  refine rr F sc_d_check_versions len1 (fun _ _ _ _ _ _ us hl => match us, hl with | [_], _ => rfl) (fun cdv A outer s H vs Q E hr h => ?_)
  have hu64 : (A.deeper (envOfC AN.d_check_versions.qual AN.d_check_versions.scope s.heap.objs.size (AN.d_check_versions.at_ K) cdv)).units + 65 < cLine := hu_of65 hr
  have hu63 : (A.deeper (envOfC AN.d_check_versions.qual AN.d_check_versions.scope s.heap.objs.size (AN.d_check_versions.at_ K) cdv)).units + 64 < cLine := Nat.lt_of_succ_lt hu64
  have hu1 : (A.deeper (envOfC AN.d_check_versions.qual AN.d_check_versions.scope s.heap.objs.size (AN.d_check_versions.at_ K) cdv)).units + 1 < cLine := hu_of hr
  have nd := sc_d_check_versions.nd
  obtain ⟨v, rfl, L, vs, hv, ok, q⟩ := h
  refine ⟨_, PSs.nox (pss_cons (ps_expr (pe_gf (w_require_known T) (hr.mono (by decide)) (by rfl) T.g_require_known pass0 (pa_cons (pe_cmpR op_gt (pe_callB call_len_seq (by rfl) T.f_len (by decide +kernel) (pa_cons (pv 0) pa_nil)) pe_int (nomark _)) (pa_cons pe_str (pa_cons (pe_un un_neg pe_int) pa_nil))))) (pss_one (ps_for PassesOwn.never rfl (pi_en (by rfl) T.f_enumerate (pa_cons (pv 0) pa_nil)) (pg_tup rfl (pgs_cons (pg_name (i := 1) nd rfl (Or.inl rfl)) (pgs_cons (pg_name (i := 2) nd rfl (Or.inl rfl)) pgs_nil))) (pss_one (ps_expr (pe_gf (w_require_known T) (hr.mono (by decide)) (by rfl) T.g_require_known pass0 (pa_cons (pe_cmpR (op_eqD hu63) (pe_ix ix_tup (pv 2) pe_int (fun _ _ => rfl)) (pe_ix ix_tup (pe_ix ix_tup (pv 0) pe_int (fun _ _ => rfl)) pe_int (fun _ _ => rfl)) (nomark _)) (pa_cons pe_str (pa_cons (pv 1) pa_nil))))))))), ?_⟩

  have hv0 := hv
  obtain ⟨a, xs, rfl, h1, h2, h7⟩ := hv.get
  obtain ⟨m0, h3, am, al, r, rfl, h4, h5, h6⟩ := h7 0 ok.vp
  have hp := ok.vp
  have hl3 := ok.vl
  refine ⟨_, rfl, ?_⟩
  refine ⟨_, _, rfl, .inr h1, _, _, rfl, rfl, _, rfl, _, _, _, rfl, ?_, ?_⟩
  · show V.bl (decide _) = _
    rw [decide_eq_true (by omega)]
  refine ⟨_, rfl, a, true, xs, rfl, h1, ?_⟩
  refine for_runs (runs_e (c := true) h1) (fun i σ' H' => Ex H H' ∧ ∃ z1 z2, σ' = [some (.ref a), z1, z2]) (fun i σ' H' p => p.1) ⟨Ex.refl H, _, _, rfl⟩ ?_ (fun σ' H' p => q H' p.1)
  rintro i x σ' H1 H2 hi ⟨e1, z1, z2, rfl⟩ e2 ⟨tT, xx, rfl, hT, hxx⟩
  have e3 := e1.trans e2
  obtain ⟨m1, hm1, bm, bl, br, rfl, g4, g5, g6⟩ := h7 i (by omega)
  rw [hm1] at hxx
  cases hxx
  refine ⟨tT, _, rfl, .inl (.inl hT), rfl, _, _, rfl, _, _, rfl, rfl, ?_⟩
  refine ⟨_, rfl, _, _, _, _, rfl, rfl, nl_t (Nl.ex e3) g4, atI_nat (j := 0) rfl, ?_⟩
  refine ⟨_, rfl, _, _, _, _, rfl, rfl, nl_t (Nl.ex e3) h1, atI_nat (j := 0) h3, ?_⟩
  refine ⟨_, _, _, _, rfl, rfl, nl_t (Nl.ex e3) h4, atI_nat (j := 0) rfl, ?_⟩
  refine ⟨_, _, (of_tS (g5.mono (Nl.ex e3)).sq).dp, (of_tS (h5.mono (Nl.ex e3)).sq).dp, tS_shaped ok.sok, tS_shaped ok.sok, ?_⟩
  refine ⟨_, rfl, _, _, _, rfl, ?_, e3, _, _, rfl⟩
  rw [eqv_tS, decide_eq_true rfl]
end
abbrev N_d_is_standing : List PySem.Str := ["versions", "thing", "own", "machine"]
theorem sc_d_is_standing : FnScope N_d_is_standing ["versions", "thing"] AN.d_is_standing.scope := ⟨rfl, rfl, rfl, by decide +kernel, rfl, by decide +kernel, by decide +kernel⟩
section
variable {P : Program} {w : World} {K : PySem.W.Frag} {mg : PySem.Str → Option Value} {base : Heap} (T : Kit K mg)
include T
theorem w_is_standing : GF P w K mg base 3 (AN.d_is_standing.at_ K) (sp2 (fun v t H Q => ∃ (L : List PySem.Str) (vs : List Rows) (s : List Nat), Vt K H v L vs ∧ Vok L vs ∧ Tp K H t (tI s) ∧ StOk vs s ∧ ∀ H', Ex H H' → Q (.bl true) H')) := by
  obtain ⟨fd, F⟩ := T.d_is_standing
  refine rr F sc_d_is_standing len2 (fun _ _ _ _ _ _ us hl => match us, hl with | [_, _], _ => rfl) (fun cdv A outer s H vs Q E hr h => ?_)
  have hu64 : (A.deeper (envOfC AN.d_is_standing.qual AN.d_is_standing.scope s.heap.objs.size (AN.d_is_standing.at_ K) cdv)).units + 65 < cLine := hu_of65 hr
  have hu63 : (A.deeper (envOfC AN.d_is_standing.qual AN.d_is_standing.scope s.heap.objs.size (AN.d_is_standing.at_ K) cdv)).units + 64 < cLine := Nat.lt_of_succ_lt hu64
  have hu1 : (A.deeper (envOfC AN.d_is_standing.qual AN.d_is_standing.scope s.heap.objs.size (AN.d_is_standing.at_ K) cdv)).units + 1 < cLine := hu_of hr
  have nd := sc_d_is_standing.nd
  obtain ⟨v, t, rfl, L, vs, st, hv, ok, ht, so, q⟩ := h
  refine ⟨_, PSs.nox (pss_cons (ps_if (pt_cmpR op_ne (pe_callB call_len_seq (by rfl) T.f_len (by decide +kernel) (pa_cons (pv 1) pa_nil)) (pe_callB call_len_seq (by rfl) T.f_len (by decide +kernel) (pa_cons (pv 0) pa_nil)) (nomark _)) (pss_one (ps_ret pe_bl)) pss_nil) (pss_one (ps_ret (pe_callB (cr_all rfl) (by rfl) T.f_all (by decide +kernel) (pa_cons (pe_lc (own := [("own", 2), ("machine", 3)]) (g := gTup K 2 (gCons (gName 2) (gCons (gName 3) gNil))) rfl nd (pi_zs (by rfl) T.f_zip (pa_cons (pv 1) (pa_cons (pv 0) pa_nil))) (blkOk_by (own := [("own", 2), ("machine", 3)]) (N := N_d_is_standing) (sc := AN.d_is_standing.scope) (by decide +kernel)) (fun _ _ _ _ _ => (pg_tup rfl (pgs_cons (pg_name (i := 2) nd rfl (Or.inl rfl)) (pgs_cons (pg_name (i := 3) nd rfl (Or.inl rfl)) pgs_nil)))) (fun _ _ _ _ _ => pts_nil) (fun _ _ _ _ _ => (pe_and (pe_gf (w_is_number T) (hr.mono (by decide)) (by rfl) T.g_is_number pass0 (pa_cons (pv 2) pa_nil)) (pe_one (pe_cmpR op_lt (pv 2) (pe_callB (r := rLenK K) call_len_seq (by rfl) T.f_len (by decide +kernel) (pa_cons (pe_ix (r := rIxT K) ix_tup (pv 3) pe_int (fun _ _ => rfl)) pa_nil)) (nomark _)))))) pa_nil))))), ?_⟩

  have hv0 := hv
  obtain ⟨a, xs, rfl, h1, h2, h7⟩ := hv.get
  obtain ⟨as, rfl, hs⟩ := tI_of ht
  have hl3 := ok.vl
  have hsl := so.1
  refine ⟨_, rfl, _, _, rfl, .inr hs, ?_⟩
  refine ⟨_, rfl, _, _, rfl, .inr h1, ?_⟩
  refine ⟨rfl, ?_⟩
  refine ⟨_, rfl, ?_⟩
  dsimp only
  rw [if_neg (by rw [List.length_map, h2, hsl]; simp)]
  unfold tNext
  ((try dsimp only); (repeat (first | refine w_lc ?_ | unfold gName | unfold tIfS | unfold tNot | unfold tB | unfold tTest | unfold tRet | unfold tAsg | unfold tSeq | unfold tDrop | unfold tCB | unfold tCons)))
  refine ⟨_, rfl, _, rfl, as, a, true, true, _, _, rfl, hs, h1, ?_⟩
  refine lc_pure (n := (st.map fun (n : Nat) => V.int (n : Int)).length) (runs_z (c := true) (d := true) hs h1 (by rw [List.length_map, h2, hsl])) (fun _ => true) (fun k v _ => v = .bl true) (by rw [List.length_map]; omega) (fun _ _ _ _ _ h => h) ?_ ?_
  · intro k u H7 hk7 e8 hu C kk
    rw [List.length_map] at hk7
    obtain ⟨tT, y1, y2, rfl, hT, hy1, hy2⟩ := hu
    rw [map_get (f := fun (n : Nat) => V.int (n : Int)) hk7 0] at hy1
    cases hy1
    obtain ⟨m1, hm1, bm, bl, br, rfl, g4, g5, g6⟩ := h7 k (by omega)
    rw [hm1] at hy2
    cases hy2
    obtain ⟨ar, xr, rfl, hr', tr⟩ := g6.tupE
    have hxr : xr.length = (vs.getD k []).length := by rw [tr.length, List.length_map]
    refine ⟨tT, _, rfl, .inl (.inl hT), rfl, _, _, rfl, _, _, rfl, rfl, ?_⟩
    refine kk _ _ rfl (Ex.refl _) (fun Q q => q _ (Ex.refl _)) (fun _ H9 e10 Q q => ?_)
    have e11 := e8.trans e10
    refine ⟨_, rfl, _, rfl, _, rfl, ?_⟩
    refine ⟨_, rfl, ?_⟩
    rw [if_pos rfl]
    refine ⟨_, rfl, _, rfl, _, _, _, _, rfl, rfl, nl_t (Nl.ex e11) g4, atI_nat (j := 1) rfl, ?_⟩
    refine ⟨_, _, rfl, .inr (nl_t (Nl.ex e11) hr'), ?_⟩
    refine ⟨_, _, rfl, rfl, q _ _ (Ex.refl _) ?_⟩
    have := so.2 k (by omega)
    show V.bl (decide _) = _
    rw [decide_eq_true (by omega)]
  · intro D8 H8 xs8 hD8 e9 hD8' hall
    rw [filter_true] at hall
    rw [allP_bl (f := fun _ => true) hall] at hD8'
    refine ⟨_, _, rfl, SqL.of hD8', ?_⟩
    rw [List.all_eq_true.mpr (by intro b hb; obtain ⟨_, _, rfl⟩ := List.mem_map.mp hb; rfl)]
    exact q _ e9
end
abbrev N_d_all_reached : List PySem.Str := ["versions", "found", "at", "rows", "machine", "own", "j", "later", "row"]
theorem sc_d_all_reached : FnScope N_d_all_reached ["versions"] AN.d_all_reached.scope := ⟨rfl, rfl, rfl, by decide +kernel, rfl, by decide +kernel, by decide +kernel⟩
section
variable {P : Program} {w : World} {K : PySem.W.Frag} {mg : PySem.Str → Option Value} {base : Heap} (T : Kit K mg)
include T
theorem w_all_reached : GF P w K mg base 1 (AN.d_all_reached.at_ K) (sp1 (fun v H Q => ∃ (L : List PySem.Str) (vs : List Rows), Vt K H v L vs ∧ Vok L vs ∧ ∀ (l : Addr) (H' : Hp) (xs : List V) (S : List (List Nat)), Ex H H' → H' l = some (.lst xs) → TpA K H' xs (S.map tI) → S.Nodup → (∀ s, s ∈ S ↔ Reach L.length vs s) → Q (.ref l) H')) := by
  obtain ⟨fd, F⟩ := T.d_all_reached
  refine rr F sc_d_all_reached len1 (fun _ _ _ _ _ _ us hl => match us, hl with | [_], _ => rfl) (fun cdv A outer s H vs Q E hr h => ?_)
  have hu64 : (A.deeper (envOfC AN.d_all_reached.qual AN.d_all_reached.scope s.heap.objs.size (AN.d_all_reached.at_ K) cdv)).units + 65 < cLine := hu_of65 hr
  have hu63 : (A.deeper (envOfC AN.d_all_reached.qual AN.d_all_reached.scope s.heap.objs.size (AN.d_all_reached.at_ K) cdv)).units + 64 < cLine := Nat.lt_of_succ_lt hu64
  have hu1 : (A.deeper (envOfC AN.d_all_reached.qual AN.d_all_reached.scope s.heap.objs.size (AN.d_all_reached.at_ K) cdv)).units + 1 < cLine := hu_of hr
  have nd := sc_d_all_reached.nd
  obtain ⟨v, rfl, L, vs, hv, ok, q⟩ := h
  refine ⟨_, PSs.nox (pss_cons (ps_set (i := 1) nd rfl (Or.inl rfl) (pe_lst (pa_cons (pe_op op_repA (pe_tup (pa_cons pe_int pa_nil)) (pe_callB call_len_seq (by rfl) T.f_len (by decide +kernel) (pa_cons (pv 0) pa_nil))) pa_nil))) (pss_cons (ps_set (i := 2) nd rfl (Or.inl rfl) pe_int) (pss_cons (ps_while PassesOwn.never (pt_cmpR op_lt (pv 2) (pe_callB call_len_seq (by rfl) T.f_len (by decide +kernel) (pa_cons (pv 1) pa_nil)) (nomark _)) (pss_cons (ps_setLc (i := 3) (own := [("machine", 4), ("own", 5)]) (g := gTup K 2 (gCons (gName 4) (gCons (gName 5) gNil))) rfl nd rfl rfl (sw_true rfl rfl rfl (by decide +kernel)) (pi_zs (by rfl) T.f_zip (pa_cons (pv 0) (pa_cons (pe_ix ix_list (pv 1) (pv 2) (fun _ _ => rfl)) pa_nil))) (blkOk_by (own := [("machine", 4), ("own", 5)]) (N := N_d_all_reached) (sc := AN.d_all_reached.scope) (by decide +kernel)) (fun _ _ _ _ _ => (pg_tup rfl (pgs_cons (pg_name (i := 4) nd rfl (Or.inl rfl)) (pgs_cons (pg_name (i := 5) nd rfl (Or.inl rfl)) pgs_nil)))) (fun _ _ _ _ _ => pts_nil) (fun _ _ _ _ _ => (pe_ix (r := rIxT K) ix_tup (pe_ix (r := rIxT K) ix_tup (pv 4) pe_int (fun _ _ => rfl)) (pv 5) (fun _ _ => rfl)))) (pss_cons (ps_set (i := 2) nd rfl (Or.inl rfl) (pe_op op_add (pv 2) pe_int)) (pss_one (ps_for PassesOwn.never rfl (pi_range1 (by rfl) T.f_range (pa_cons (pe_callB call_len_seq (by rfl) T.f_len (by decide +kernel) (pa_cons (pe_ix ix_tup (pe_ix ix_tup (pv 0) pe_int (fun _ _ => rfl)) pe_int (fun _ _ => rfl)) pa_nil)) pa_nil)) (pg_name (i := 6) nd rfl (Or.inr rfl)) (pss_cons (ps_set (i := 7) nd rfl (Or.inl rfl) (pe_callTy call_tuple_of (by rfl) T.f_tuple (by decide +kernel) (pa_cons (pe_lc (own := [("row", 8)]) rfl nd (pi_list (pv 3)) (blkOk_by (own := [("row", 8)]) (N := N_d_all_reached) (sc := AN.d_all_reached.scope) (by decide +kernel)) (fun _ _ _ _ _ => (pg_name (i := 8) nd rfl (Or.inl rfl))) (fun _ _ _ _ _ => pts_nil) (fun _ _ _ _ _ => (pe_ix (r := rIxT K) ix_tup (pe_ix (r := rIxT K) ix_tup (pv 8) (pv 6) (fun _ _ => rfl)) pe_int (fun _ _ => rfl)))) pa_nil))) (pss_one (ps_if (pt_cmpR (op_notInD hu64) (pv 7) (pv 1) rfl) (pss_one (ps_expr (pe_bm PySem.F.plainAttrs_list PySem.F.slot_list_append PySem.F.type_list_append mt_append (pv 1) (pa_cons (pv 7) pa_nil)))) pss_nil)))))))) (pss_one (ps_ret (pv 1)))))), ?_⟩

  obtain ⟨a, xs, rfl, h1, h2, h7⟩ := hv.get
  have hl3 := ok.vl
  have hp := ok.vp
  have hn3 := ok.le
  refine ⟨sz1, fun p0 hp0 => ?_⟩
  have e1 := Evl.Ex.new (o := .tup [V.int 0]) hp0
  refine ⟨_, rfl, _, _, rfl, .inr (nl_t (Nl.ex e1) h1), ?_⟩
  refine rep_any (H := upd H p0 (.tup [V.int 0])) upd_same (by omega) (by omega) fun pz H1 e2 hz => ?_
  refine ⟨sz1, fun l hl => ?_⟩
  have e3 := (e1.trans e2).trans (Evl.Ex.new (o := .lst [V.ref pz]) hl)
  have hlH : H l = none := fresh_back' (e1.trans e2) hl
  have hz0 : TpA K (upd H1 l (.lst [V.ref pz])) [V.ref pz] ([zeroS vs].map tI) := by
    refine .cons (of_tI ?_) .nil
    rw [show zeroS vs = List.replicate xs.length 0 by rw [h2]; rfl]
    exact nl_t (Nl.ex (Evl.Ex.new hl)) hz
  refine ⟨fun mm σ' H' => ∃ (i : Nat) (ys : List V) (S : List (List Nat)) (z1 z2 z3 z4 z5 z6 : Option V), mm = 28 - i ∧ σ' = [some (.ref a), some (.ref l), some (.int (i : Int)), z1, z2, z3, z4, z5, z6] ∧ Ex H H' ∧ H' l = some (.lst ys) ∧ TpA K H' ys (S.map tI) ∧ S.Nodup ∧ zeroS vs ∈ S ∧ (∀ s ∈ S, Reach L.length vs s) ∧ i ≤ S.length ∧ ∀ k, k < i → ∀ j, j < L.length → nxS vs (S.getD k []) j ∈ S, ⟨_, 0, _, [zeroS vs], _, _, _, _, _, _, rfl, rfl, e3, upd_same, hz0, by simp, by simp, fun s hs => by rw [List.mem_singleton] at hs; rw [hs]; exact Reach.zero _ _, Nat.zero_le _, fun k hk => absurd hk (Nat.not_lt_zero k)⟩, ?_⟩
  rintro mm σ' H2 ⟨i, ys, S, z1, z2, z3, z4, z5, z6, rfl, rfl, e4, hl2, tS2, nd2, h02, hr2, hi2, hc2⟩
  have h27 := few_states ok.wf ok.vl nd2 fun s hs => (hr2 s hs).ok ok.wf
  have hys : ys.length = S.length := by rw [tS2.length, List.length_map]
  refine ⟨_, rfl, _, rfl, _, _, rfl, .inl (SqL.of hl2), _, _, rfl, rfl, _, rfl, ?_⟩
  dsimp only
  by_cases hlt : i < S.length
  · rw [if_pos (by rw [decide_eq_true_eq]; omega)]
    refine ⟨fun σ2 H3 => ∃ (ys : List V) (S : List (List Nat)) (z1 z2 z3 z4 z5 z6 : Option V), σ2 = [some (.ref a), some (.ref l), some (.int ((i + 1 : Nat) : Int)), z1, z2, z3, z4, z5, z6] ∧ Ex H H3 ∧ H3 l = some (.lst ys) ∧ TpA K H3 ys (S.map tI) ∧ S.Nodup ∧ zeroS vs ∈ S ∧ (∀ s ∈ S, Reach L.length vs s) ∧ i + 1 ≤ S.length ∧ ∀ k, k < i + 1 → ∀ j, j < L.length → nxS vs (S.getD k []) j ∈ S, ?_, ?_⟩
    · rintro σ2 H3 ⟨ys3, S3, w1, w2, w3, w4, w5, w6, rfl, r1, r2, r3, r4, r5, r6, r7, r8⟩
      exact ⟨28 - (i + 1), by omega, i + 1, ys3, S3, w1, w2, w3, w4, w5, w6, rfl, rfl, r1, r2, r3, r4, r5, r6, r7, r8⟩
    obtain ⟨vst, hvst, tst⟩ := tS2.get (map_get (f := tI) hlt [])
    obtain ⟨ast, rfl, hst⟩ := tI_of tst
    have so := (hr2 _ (getD_mem (d := []) hlt)).ok ok.wf
    have hsl := so.1
    have h14 := nl_t (Nl.ex e4) h1
    refine w_sa ?_
    refine w_lc ?_
    refine ⟨_, rfl, _, rfl, _, rfl, _, _, _, _, rfl, rfl, SqL.of hl2, atI_nat hvst, ?_⟩
    refine ⟨a, ast, true, true, _, _, rfl, h14, hst, ?_⟩
    refine lc_pure (n := xs.length) (runs_z (c := true) (d := true) h14 hst (by rw [List.length_map, h2, hsl])) (fun _ => true) (fun k v H => Tp K H v (rowD ((vs.getD k []).getD ((S.getD i []).getD k 0) []))) (by omega) (fun _ _ _ _ e h => h.mono e) ?_ ?_
    · intro k u H7 hk7 e8 hu C kk
      obtain ⟨tT, y1, y2, rfl, hT, hy1, hy2⟩ := hu
      rw [map_get (f := fun (n : Nat) => V.int (n : Int)) (by omega) 0] at hy2
      cases hy2
      obtain ⟨m1, hm1, bm, bl, br, rfl, g4, g5, g6⟩ := h7 k (by omega)
      rw [hm1] at hy1
      cases hy1
      refine ⟨tT, _, rfl, .inl (.inl hT), rfl, _, _, rfl, _, _, rfl, rfl, ?_⟩
      refine kk _ _ rfl (Ex.refl _) (fun Q q => q _ (Ex.refl _)) (fun _ H9 e10 Q q => ?_)
      have e11 := (e4.trans e8).trans e10
      obtain ⟨ar, xr, rfl, hr', tr⟩ := (g6.mono (Nl.ex e11)).tupE
      obtain ⟨vr, hvr, tvr⟩ := tr.get (map_get (f := rowD) (so.2 k (by omega)) [])
      exact ⟨_, rfl, _, _, _, _, rfl, rfl, nl_t (Nl.ex e11) g4, atI_nat (j := 1) rfl, _, rfl, _, _, _, _, rfl, rfl, hr', atI_nat hvr, q _ _ (Ex.refl _) tvr⟩
    intro Dr H5 rws hDr e5 hrw hall
    have trw := allP_tp hall
    have hrwl : rws.length = vs.length := by rw [trw.length, List.length_map, List.length_range, h2]
    obtain ⟨m0, hm0, am0, al0, ar0, rfl, g4, g5, g6⟩ := h7 0 ok.vp
    have e45 := e4.trans e5
    have hDl : Dr ≠ l := fun e => by rw [e, hl2] at hDr; cases hDr
    refine ⟨_, rfl, _, _, rfl, rfl, ?_⟩
    refine ⟨_, rfl, _, _, _, _, rfl, rfl, nl_t (Nl.ex e45) h1, atI_nat (j := 0) hm0, ?_⟩
    refine ⟨_, _, _, _, rfl, rfl, nl_t (Nl.ex e45) g4, atI_nat (j := 0) rfl, ?_⟩
    refine ⟨_, _, rfl, .inr (nl_t (Nl.ex e45) g5.sq), _, rfl, by omega, by rw [List.length_map]; omega, ?_⟩
    have sub1 : ∀ (S' : List (List Nat)) (x : List (List Nat)) (k : Nat), k < S.length → S' = S ++ x → S'.getD k [] = S.getD k [] := fun S' x k hk e => by
      rw [e, List.getD_eq_getElem?_getD, List.getElem?_append_left hk, ← List.getD_eq_getElem?_getD]
    refine for_range (fun j σ' H' => ∃ (ys : List V) (S' ex : List (List Nat)) (z4 z5 z6 z7 z8 : Option V), σ' = [some (.ref a), some (.ref l), some (.int ((i + 1 : Nat) : Int)), some (.ref Dr), z4, z5, z6, z7, z8] ∧ Xb (fun b => b = l) H5 H' ∧ H' l = some (.lst ys) ∧ TpA K H' ys (S'.map tI) ∧ S'.Nodup ∧ S' = S ++ ex ∧ (∀ s ∈ S', Reach L.length vs s) ∧ ∀ j', j' < j → nxS vs (S.getD i []) j' ∈ S') ?_ ?_ ?_
    · exact ⟨ys, S, [], _, _, _, _, _, rfl, fun b o _ h => h, e5 _ _ hl2, tS2.mono (Nl.ex e5), nd2, by simp, hr2, fun j' h => absurd h (Nat.not_lt_zero j')⟩
    · rintro j σ' H6 hj ⟨ys6, S6, ex6, w4, w5, w6, w7, w8, rfl, x6, hl6, tS6, nd6, hS6, hr6, hc6⟩
      have hj : j < L.length := by simpa using hj
      rw [show (0 : Int) + (j : Int) = (j : Int) from Int.zero_add _]
      have hl5 : H5 l = some (.lst ys) := e5 _ _ hl2
      have n6 : Nl H5 H6 := fun b o hb no => x6 b o (fun e => by subst e; rw [hl5] at hb; cases hb; exact no _ rfl) hb
      have hD6 := x6 _ _ hDl hrw
      have t6 := trw.mono n6
      have so6 := (so.next ok.wf hj)
      ((try dsimp only); (repeat (first | refine w_lc ?_ | unfold gName | unfold tIfS | unfold tNot | unfold tB | unfold tTest | unfold tRet | unfold tAsg | unfold tSeq | unfold tDrop | unfold tCB | unfold tCons)))
      refine ⟨_, rfl, Dr, rfl, ⟨_, SqL.of hD6⟩, ?_⟩
      refine lc_pure (n := rws.length) (runs_l (SqL.of hD6)) (fun _ => true) (fun k v _ => v = V.int ((nx (vs.getD k []) ((S.getD i []).getD k 0) j : Nat) : Int)) (by omega) (fun _ _ _ _ _ h => h) ?_ ?_
      · intro k u H7 hk7 e8 hu C kk
        refine kk _ _ rfl (Ex.refl _) (fun Q q => q _ (Ex.refl _)) (fun _ H9 e10 Q q => ?_)
        have hkv : k < vs.length := by omega
        obtain ⟨d, hd, tu⟩ := t6.got hu
        rw [List.getElem?_map, List.getElem?_range (by omega)] at hd
        cases hd
        have e11 := e8.trans e10
        obtain ⟨aw, xw, rfl, hw, tw⟩ := (tu.mono (Nl.ex e11)).tupE
        have hrow : ((vs.getD k []).getD ((S.getD i []).getD k 0) []).length = L.length := (ok.mem hkv).row _ (getD_mem (so.2 k hkv))
        obtain ⟨vp, hvp, tvp⟩ := tw.get (map_get (f := pairD) (i := j) (by rw [hrow]; exact hj) (0, PySem.Str.empty))
        obtain ⟨ap, rfl, hap⟩ := pair_of tvp
        exact ⟨_, rfl, _, rfl, _, _, _, _, rfl, rfl, hw, atI_nat hvp, _, _, _, _, rfl, rfl, hap, atI_nat (j := 0) rfl, q _ _ (Ex.refl _) rfl⟩
      · intro D8 H8 xs8 hD8 e9 hD8' hall8
        have hx8 : xs8 = (nxS vs (S.getD i []) j).map fun (n : Nat) => V.int (n : Int) := by
          rw [filter_true] at hall8
          rw [allP_eq hall8, hrwl, nxS, List.map_map]
          rfl
        refine ⟨D8, _, rfl, .inl ⟨SqL.of hD8', fun p hp => ?_⟩⟩
        have e10 := e9.trans (Evl.Ex.new (o := .tup xs8) hp)
        have tp : Tp K (upd H8 p (.tup xs8)) (.ref p) (tI (nxS vs (S.getD i []) j)) := of_tI (by rw [← hx8]; exact .inl (.inl upd_same))
        have hl8 := e10 _ _ hl6
        have tS8 := tS6.mono (Nl.ex e10)
        have h276 := few_states ok.wf ok.vl nd6 fun s hs => (hr6 s hs).ok ok.wf
        have hys6 : ys6.length = S6.length := by rw [tS6.length, List.length_map]
        have x8 : Xb (fun b => b = l) H5 (upd H8 p (.tup xs8)) := x6.trans (Xb.ex e10)
        have hiS6 : nxS vs (S.getD i []) j ∈ S6 ∨ nxS vs (S.getD i []) j ∉ S6 := Decidable.em _
        refine ⟨_, rfl, _, rfl, _, _, tp.dp, .lst (SqL.of hl8) (TpA.dp tS8), tI_shaped _, stsL_shaped _, ?_⟩
        rw [any_tI]
        refine ⟨_, rfl, ?_⟩
        dsimp only
        by_cases hin : nxS vs (S.getD i []) j ∈ S6
        · rw [decide_eq_true hin, if_neg (by decide)]
          refine ⟨ys6, S6, ex6, _, _, _, _, _, rfl, x8, hl8, tS8, nd6, hS6, hr6, fun j' hj' => ?_⟩
          by_cases hjj : j' = j
          · subst hjj
            exact hin
          · exact hc6 j' (by omega)
        · rw [decide_eq_false hin, if_pos (by decide)]
          refine ⟨_, rfl, .inl ⟨rfl, _, SqL.of hl8⟩, _, rfl, l, ys6, .ref p, rfl, rfl, hl8, small_len (by omega), ?_⟩
          have n9 : Nl (upd H8 p (.tup xs8)) (upd (upd H8 p (.tup xs8)) l (.lst (ys6 ++ [.ref p]))) := Nl.lst hl8
          refine ⟨ys6 ++ [.ref p], S6 ++ [nxS vs (S.getD i []) j], ex6 ++ [nxS vs (S.getD i []) j], _, _, _, _, _, rfl, fun b o hb h => ?_, upd_same, ?_, ?_, ?_, fun s hs => ?_, fun j' hj' => ?_⟩
          · rw [upd_ne hb]
            exact x8 b o hb h
          · rw [List.map_append]
            exact (tS8.mono n9).snoc (tp.mono n9)
          · rw [List.nodup_append]
            refine ⟨nd6, by simp, fun x hx y hy e => ?_⟩
            rw [List.mem_singleton] at hy
            subst hy
            subst e
            exact hin hx
          · rw [hS6, List.append_assoc]
          · rcases List.mem_append.mp hs with h | h
            · exact hr6 s h
            · rw [List.mem_singleton] at h
              rw [h]
              exact (hr2 _ (getD_mem (d := []) hlt)).next hj
          · by_cases hjj : j' = j
            · subst hjj
              exact List.mem_append_right _ (List.mem_singleton.mpr rfl)
            · exact List.mem_append_left _ (hc6 j' (by omega))
    · rintro σ' H6 ⟨ys6, S6, ex6, w4, w5, w6, w7, w8, rfl, x6, hl6, tS6, nd6, hS6, hr6, hc6⟩
      have hlen6 : S.length ≤ S6.length := by rw [hS6, List.length_append]; omega
      refine ⟨ys6, S6, _, _, _, _, _, _, rfl, fun b o hb => x6 b o (fun e => by rw [e, hlH] at hb; cases hb) (e45 b o hb), hl6, tS6, nd6, ?_, hr6, by omega, fun k hk j hj => ?_⟩
      · rw [hS6]
        exact List.mem_append_left _ h02
      · rw [sub1 S6 ex6 k (by omega) hS6]
        by_cases hki : k = i
        · subst hki
          exact hc6 j (by simpa using hj)
        · rw [hS6]
          exact List.mem_append_left _ (hc2 k (by omega) j hj)
  · rw [if_neg (by rw [decide_eq_true_eq]; omega)]
    have ei : i = S.length := by omega
    refine ⟨_, rfl, q l H2 ys S e4 hl2 tS2 nd2 fun s => ⟨hr2 s, fun h => reach_in h02 (fun s hs j hj => ?_) h⟩⟩
    obtain ⟨k, hk, rfl⟩ := List.mem_iff_getElem.mp hs
    have := hc2 k (by omega) j hj
    rwa [List.getD_eq_getElem?_getD, List.getElem?_eq_getElem hk] at this
end
end AN
end

-- ANw11
section
set_option Elab.async false
set_option linter.all false
set_option maxRecDepth 100000
set_option maxHeartbeats 4000000
namespace AN
open PySem PySem.Spec PyProof.Rows L2 StX
open Evl (Ex)

abbrev bKn (K : PySem.W.Frag) : B3 := fun self v s H Q => ∃ (x dx : Addr) (L : List PySem.Str) (vs : List Rows) (S0 : List (List Nat)), self = .ref x ∧ H x = some (.ins (He.ga K "Knowledge") dx []) ∧ Vt K H v L vs ∧ Vok L vs ∧ Tp K H s (stsD S0) ∧ S0 ≠ [] ∧ (∀ s ∈ S0, Reach L.length vs s) ∧ S0.length < 60 ∧ ∀ (H' : Hp) (S : List (List Nat)), Kx x H H' → KnI K H' x L vs S → S.Nodup → (∀ s, s ∈ S ↔ s ∈ S0) → Q .non H'
theorem Vt.tk {K : PySem.W.Frag} {H H' : Hp} (e : Tk H H') {v : V} {L : List PySem.Str} {vs : List Rows} (h : Vt K H v L vs) : Vt K H' v L vs := by
  obtain ⟨a, xs, rfl, h1, h2⟩ := h
  refine ⟨a, xs, rfl, tk_t e h1, h2.mono fun R v h => ?_⟩
  obtain ⟨a, al, r, rfl, h1, ⟨o, h2, h3, h4⟩, h5⟩ := h
  exact ⟨a, al, r, rfl, tk_t e h1, ⟨o, e.2 _ _ _ h2, h3, h4⟩, h5.tk e⟩

abbrev N_d_Knowledge_init : List PySem.Str := ["self", "versions", "standings", "n", "standing", "reached"]
theorem sc_d_Knowledge_init : FnScope N_d_Knowledge_init ["self", "versions", "standings"] AN.d_Knowledge_init.scope := ⟨rfl, rfl, rfl, by decide +kernel, rfl, by decide +kernel, by decide +kernel⟩
section
variable {P : Program} {w : World} {K : PySem.W.Frag} {mg : PySem.Str → Option Value} {base : Heap} (T : Kit K mg)
include T
theorem w_Knowledge_init : GF P w K mg base 4 (AN.d_Knowledge_init.at_ K) (sp3 (bKn K)) := by
  obtain ⟨fd, F⟩ := T.d_Knowledge_init
  refine rr F sc_d_Knowledge_init len3 (fun _ _ _ _ _ _ us hl => match us, hl with | [_, _, _], _ => rfl) (fun cdv A outer s H vs Q E hr h => ?_)
  have hu64 : (A.deeper (envOfC AN.d_Knowledge_init.qual AN.d_Knowledge_init.scope s.heap.objs.size (AN.d_Knowledge_init.at_ K) cdv)).units + 65 < cLine := hu_of65 hr
  have hu63 : (A.deeper (envOfC AN.d_Knowledge_init.qual AN.d_Knowledge_init.scope s.heap.objs.size (AN.d_Knowledge_init.at_ K) cdv)).units + 64 < cLine := Nat.lt_of_succ_lt hu64
  have hu1 : (A.deeper (envOfC AN.d_Knowledge_init.qual AN.d_Knowledge_init.scope s.heap.objs.size (AN.d_Knowledge_init.at_ K) cdv)).units + 1 < cLine := hu_of hr
  have nd := sc_d_Knowledge_init.nd
  obtain ⟨self, v, st, rfl, x, dx, L, vs, S0, rfl, hx, hv, ok, hs, hne, hre, h60, q⟩ := h
  refine ⟨_, PSs.nox (pss_cons (ps_expr (pe_gf (w_check_versions T) (hr.mono (by decide)) (by rfl) T.g_check_versions pass0 (pa_cons (pv 1) pa_nil))) (pss_cons (ps_expr (pe_gf (w_require_known T) (hr.mono (by decide)) (by rfl) T.g_require_known pass0 (pa_cons (pe_cmpR op_gt (pe_callB call_len_seq (by rfl) T.f_len (by decide +kernel) (pa_cons (pv 2) pa_nil)) pe_int (nomark _)) (pa_cons pe_str (pa_cons (pe_un un_neg pe_int) pa_nil))))) (pss_cons (ps_for PassesOwn.never rfl (pi_en (by rfl) T.f_enumerate (pa_cons (pv 2) pa_nil)) (pg_tup rfl (pgs_cons (pg_name (i := 3) nd rfl (Or.inl rfl)) (pgs_cons (pg_name (i := 4) nd rfl (Or.inl rfl)) pgs_nil))) (pss_one (ps_expr (pe_gf (w_require_known T) (hr.mono (by decide)) (by rfl) T.g_require_known pass0 (pa_cons (pe_gf (w_is_standing T) (hr.mono (by decide)) (by rfl) T.g_is_standing pass0 (pa_cons (pv 1) (pa_cons (pv 4) pa_nil))) (pa_cons pe_str (pa_cons (pv 3) pa_nil))))))) (pss_cons (ps_set (i := 5) nd rfl (Or.inl rfl) (pe_gf (w_all_reached T) (hr.mono (by decide)) (by rfl) T.g_all_reached pass0 (pa_cons (pv 1) pa_nil))) (pss_cons (ps_for PassesOwn.never rfl (pi_tup (pv 2)) (pg_name (i := 4) nd rfl (Or.inl rfl)) (pss_one (ps_if (pt_cmpR (op_notInD hu64) (pv 4) (pv 5) rfl) (pss_one ps_never) pss_nil))) (pss_one (ps_fld (pv 0) (pe_tup (pa_cons (pv 1) (pa_cons (pe_callTy call_tuple_of (by rfl) T.f_tuple (by decide +kernel) (pa_cons (pe_callB (cr_sortedT rfl) (by rfl) T.f_sorted (by decide +kernel) (pa_cons (pe_scG (O := fun D => SetTO P w D []) (own := [("standing", 4)]) newT_ok (addT_ok hu63) rfl nd (pi_tup (pv 2)) (blkOk_by (own := [("standing", 4)]) (N := N_d_Knowledge_init) (sc := AN.d_Knowledge_init.scope) (by decide +kernel)) (fun _ _ _ _ _ => (pg_name (i := 4) nd rfl (Or.inl rfl))) (fun _ _ _ _ _ => pts_nil) (fun _ _ _ _ _ => (pv 4))) pa_nil)) pa_nil)) pa_nil))) rfl))))))), ?_⟩

  obtain ⟨as, xs, rfl, has, ts⟩ := hs.tupE
  have hxl : xs.length = S0.length := by rw [ts.length, List.length_map]
  have hpos : 0 < S0.length := List.length_pos_iff.mpr hne
  refine ⟨_, rfl, _, rfl, L, vs, hv, ok, fun H1 e1 => ?_⟩
  refine ⟨_, rfl, _, _, rfl, .inr (nl_t (Nl.ex e1) has), _, _, rfl, rfl, _, rfl, _, _, _, rfl, ?_, ?_⟩
  · show V.bl (decide _) = _
    rw [decide_eq_true (by omega)]
  have has1 := nl_t (Nl.ex e1) has
  refine ⟨_, rfl, as, true, xs, rfl, has1, ?_⟩
  refine for_runs (runs_e (c := true) has1) (fun i σ' H' => Ex H1 H' ∧ ∃ z1 z2 z3, σ' = [some (.ref x), some v, some (.ref as), z1, z2, z3]) (fun i σ' H' p => p.1) ⟨Ex.refl _, _, _, _, rfl⟩ ?_ ?_
  · rintro i y σ' H2 H3 hi ⟨e2, z1, z2, z3, rfl⟩ e3 ⟨tT, xx, rfl, hT, hxx⟩
    obtain ⟨d, hd, tx⟩ := ts.got hxx
    rw [map_get (f := tI) (by omega) []] at hd
    cases hd
    have e4 := (e1.trans e2).trans e3
    refine ⟨tT, _, rfl, .inl (.inl hT), rfl, _, _, rfl, _, _, rfl, rfl, ?_⟩
    refine ⟨_, rfl, _, rfl, _, _, rfl, L, vs, S0.getD i [], hv.mono (Nl.ex e4), ok, tx.mono (Nl.ex e4), (hre _ (getD_mem (by omega))).ok ok.wf, fun H5 e5 => ?_⟩
    exact ⟨_, rfl, _, _, _, rfl, rfl, (e2.trans e3).trans e5, _, _, _, rfl⟩
  · rintro σ' H2 ⟨e2, z1, z2, z3, rfl⟩
    have e12 := e1.trans e2
    refine ⟨_, rfl, _, rfl, L, vs, hv.mono (Nl.ex e12), ok, fun l H3 ys S e3 hl tS ndS hS => ?_⟩
    have e13 := e12.trans e3
    have has3 := nl_t (Nl.ex e13) has
    refine ⟨_, rfl, as, rfl, ⟨_, has3⟩, ?_⟩
    refine for_runs (runs_t has3) (fun i σ' H' => Ex H3 H' ∧ ∃ z1 z2, σ' = [some (.ref x), some v, some (.ref as), z1, z2, some (.ref l)]) (fun i σ' H' p => p.1) ⟨Ex.refl _, _, _, rfl⟩ ?_ ?_
    · rintro i y σ' H4 H5 hi ⟨e4, z1, z2, rfl⟩ e5 hxx
      obtain ⟨d, hd, tx⟩ := ts.got hxx
      rw [map_get (f := tI) (by omega) []] at hd
      cases hd
      have e6 := e4.trans e5
      have e16 := e13.trans e6
      refine ⟨_, rfl, _, rfl, _, _, (tx.mono (Nl.ex e16)).dp, .lst (SqL.of (e6 _ _ hl)) (TpA.dp (tS.mono (Nl.ex e6))), tI_shaped _, stsL_shaped _, ?_⟩
      rw [any_tI, decide_eq_true ((hS _).mpr (hre _ (getD_mem (by omega))))]
      refine ⟨_, rfl, ?_⟩
      dsimp only
      rw [if_neg (by decide)]
      exact ⟨e6, _, _, rfl⟩
    · rintro σ' H4 ⟨e4, z1, z2, rfl⟩
      have e14 := e13.trans e4
      have has4 := nl_t (Nl.ex e14) has
      have hx4 := e14 _ _ hx
      ((try dsimp only); (repeat (first | refine w_lc ?_ | unfold gName | unfold tIfS | unfold tNot | unfold tB | unfold tTest | unfold tRet | unfold tAsg | unfold tSeq | unfold tDrop | unfold tCB | unfold tCons)))
      refine ⟨_, rfl, ?_⟩
      refine w_sc ?_
      refine ⟨_, rfl, as, rfl, ⟨_, has4⟩, ?_⟩
      refine sc_tup (K := K) (P := P) (w := w) (n := xs.length) (runs_t has4) (fun k => S0.getD k []) (by omega) ?_ ?_
      · intro k u H7 hk7 e8 hu C kk
        refine kk _ _ rfl (Ex.refl _) (fun Q q => q _ (Ex.refl _)) fun H8 e9 Q q => ?_
        obtain ⟨d, hd, tx⟩ := ts.got hu
        rw [map_get (f := tI) (by omega) []] at hd
        cases hd
        exact ⟨_, rfl, q _ _ (Ex.refl _) (tx.mono (Nl.ex ((e14.trans e8).trans e9)))⟩
      · intro D H7 Ls hD e8 hDS hq hl7 hk7
        unfold tNil
        dsimp only
        show rSortedT K P w [V.ref D] H7 _
        refine sortedT_by (d := vs.length) hDS hq hk7 ok.vp (fun i hi => ?_) fun S' p zs H8 e9 hp hpl tz ndz hz => ?_
        · have so := (hre _ (getD_mem (d := []) (show i < S0.length by omega))).ok ok.wf
          refine ⟨so.1, fun z hz => ?_⟩
          obtain ⟨m, hm, rfl⟩ := List.mem_iff_getElem.mp hz
          have h1 := so.2 m (by rw [← so.1]; exact hm)
          have h2 := (ok.mem (i := m) (by rw [← so.1]; exact hm)).le
          rw [List.getD_eq_getElem?_getD, List.getElem?_eq_getElem hm] at h1
          have h1' : (S0.getD i [])[m] < (vs.getD m []).length := h1
          omega
        · refine ⟨p, _, rfl, .inl ⟨SqL.of hp, fun p2 hp2 => ⟨sz2, fun p3 hp3 => ?_⟩⟩⟩
          have e10 : Ex H8 (upd H8 p2 (.tup zs)) := Evl.Ex.new hp2
          have e11 : Ex (upd H8 p2 (.tup zs)) (upd (upd H8 p2 (.tup zs)) p3 (.tup [v, .ref p2])) := Evl.Ex.new hp3
          have e49 := ((e8.trans e9).trans e10).trans e11
          have hx9 := e49 _ _ hx4
          have t9 := Tk.ins (o := .ins (He.ga K "Knowledge") dx [("known", .ref p3)]) hx9
          refine ⟨_, rfl, x, _, dx, [], rfl, hx9, T.cl_Knowledge, T.n_Knowledge_known, by decide, ?_⟩
          refine q _ S' (fun b o hb h => ?_) ⟨dx, p3, v, .ref p2, upd_same, tk_t t9 (.inl (.inl upd_same)), (hv.mono (Nl.ex (e14.trans e49))).tk t9, ?_⟩ ndz (fun s => ?_)
          · exact (upd_ne hb).trans (e49 _ _ (e14 _ _ h))
          · exact Tp.tk t9 (.tup (.inl (.inl (e11 _ _ upd_same))) (tz.mono (Nl.ex (e10.trans e11))))
          · rw [hz, hxl]
            have := ex_mem (l := S0) (f := fun s => s) (d := []) (b := s)
            rw [this]
            exact ⟨fun ⟨a, h, e⟩ => e ▸ h, fun h => ⟨s, h, rfl⟩⟩
end
end AN
end

-- ANw12
section
set_option Elab.async false
set_option linter.all false
set_option maxRecDepth 100000
set_option maxHeartbeats 4000000
namespace AN
open PySem PySem.Spec PyProof.Rows L2 StX
open Evl (Ex)

theorem make_kn {K : PySem.W.Frag} {H1 : Hp} {Pk : Addr → Hp → Prop} {v s : V} {L : List PySem.Str} {vs : List Rows} {S0 : List (List Nat)} (hv : Vt K H1 v L vs) (ok : Vok L vs) (hs : Tp K H1 s (stsD S0)) (hne : S0 ≠ []) (hre : ∀ s ∈ S0, Reach L.length vs s) (h60 : S0.length < 60)
    (q : ∀ x H2 S, H1 x = none → Ex H1 H2 → KnI K H2 x L vs S → Kok L vs S → (∀ s, s ∈ S ↔ s ∈ S0) → Pk x H2) :
    ∀ x dx, H1 x = none → H1 dx = none → dx ≠ x → sp3 (bKn K) [.ref x, v, s] (upd (upd H1 dx (.own x)) x (.ins (He.ga K "Knowledge") dx [])) (fun v H2 => v = .non ∧ Pk x H2) E0 := by
  intro x dx h1 h2 ne
  have e1 : Ex H1 (upd H1 dx (.own x)) := Evl.Ex.new h2
  have hx : (upd H1 dx (.own x)) x = none := by rw [upd_ne (Ne.symm ne)]; exact h1
  have e2 : Ex H1 (upd (upd H1 dx (.own x)) x (.ins (He.ga K "Knowledge") dx [])) := e1.trans (Evl.Ex.new hx)
  refine ⟨_, _, _, rfl, x, dx, L, vs, S0, rfl, upd_same, hv.mono (Nl.ex e2), ok, hs.mono (Nl.ex e2), hne, hre, h60, fun H' S k kn nd hS => ⟨rfl, q x H' S h1 (fun b o hb => k b o (ne_of_none hb h1) (e2 b o hb)) kn ?_ hS⟩⟩
  have hok : ∀ s ∈ S, StOk vs s := fun s h => (hre s ((hS s).mp h)).ok ok.wf
  refine { ok with ne := fun e => ?_, st := hok, few := ?_, re := fun s h => hre s ((hS s).mp h) }
  · obtain ⟨s1, hs1⟩ := List.exists_mem_of_ne_nil _ hne
    have := (hS s1).mpr hs1
    rw [e] at this
    exact List.not_mem_nil this
  · have := few_states ok.wf ok.vl nd hok
    omega
theorem allP_range {α : Type} {P : α → VP} {H : Hp} {d : α} : ∀ {l : List α} {xs : List V}, AllP (fun k v H => P (l.getD k d) v H) H (List.range l.length) xs → AllP P H l xs := by
  intro l xs h
  have key : ∀ (l : List α) (n : Nat) (g : Nat → α) (xs : List V), (∀ i, i < l.length → g (n + i) = l.getD i d) → AllP (fun k v H => P (g k) v H) H ((List.range l.length).map (n + ·)) xs → AllP P H l xs := by
    intro l
    induction l with
    | nil =>
      intro n g xs _ h
      exact match xs, h with | [], _ => trivial
    | cons a l ih =>
      intro n g xs hg h
      rw [List.length_cons, List.range_succ_eq_map, List.map_cons, List.map_map] at h
      match xs, h with
      | x :: xs, ⟨h1, h2⟩ =>
        refine ⟨?_, ih (n + 1) g xs (fun i hi => ?_) ?_⟩
        · have := hg 0 (by simp)
          simp only [Nat.add_zero] at this h1
          rw [this] at h1
          exact h1
        · have := hg (i + 1) (by simpa using hi)
          rw [show n + 1 + i = n + (i + 1) by omega, this]
          rfl
        · have e : ((fun x => n + x) ∘ Nat.succ) = (fun x => n + 1 + x) := by
            funext x
            show n + (x + 1) = n + 1 + x
            omega
          rw [e] at h2
          exact h2
  refine key l 0 (fun k => l.getD k d) xs (fun i _ => by rw [Nat.zero_add]) ?_
  have e : (List.range l.length).map (0 + ·) = List.range l.length := by simp
  rw [e]
  exact h
theorem AllP.imp {α : Type} {P P' : α → VP} {H H' : Hp} (hP : ∀ a v, P a v H → P' a v H') : ∀ {as : List α} {vs : List V}, AllP P H as vs → AllP P' H' as vs
  | [], [], _ => trivial
  | _ :: _, _ :: _, ⟨h, t⟩ => ⟨hP _ _ h, AllP.imp hP t⟩
  | [], _ :: _, h => h.elim
  | _ :: _, [], h => h.elim
theorem Kx.ex {x : Addr} {H H' : Hp} (e : Ex H H') : Kx x H H' := fun b o _ h => e b o h
theorem Kx.trans {x : Addr} {H H1 H2 : Hp} (a : Kx x H H1) (b : Kx x H1 H2) : Kx x H H2 := fun c o n h => b c o n (a c o n h)
theorem Kx.upd {x : Addr} {H : Hp} {o : HO} : Kx x H (L2.upd H x o) := fun b o n h => (upd_ne n).trans h
theorem LookI.kx {K : PySem.W.Frag} {H H' : Hp} {x y : Addr} {L : List PySem.Str} {R : Rows} (n : y ≠ x) (k : Kx x H H') (e : Tk H H') (h : LookI K H y L R) : LookI K H' y L R := by
  obtain ⟨dx, sv, sg, mv, h0, h1, h2, h3⟩ := h
  exact ⟨dx, sv, sg, mv, k _ _ n h0, h1.tk e, h2.tk e, h3.tk e⟩
theorem NdT.tk {H H' : Hp} (e : Tk H H') {a : Addr} {xs : List V} (h : NdT H a xs) : NdT H' a xs := by
  obtain ⟨o, h1, h2, h3⟩ := h
  exact ⟨o, e.2 _ _ _ h1, h2, h3⟩
/-- an instance of Together -/
def TgI (K : PySem.W.Frag) (H : Hp) (x : Addr) (L : List PySem.Str) (vs : List Rows) : Prop := ∃ dx al lk bg lks, H x = some (.ins (He.ga K "Together") dx [("signs", .ref al), ("looks", .ref lk), ("begin", bg)]) ∧ NdT H al (L.map .str) ∧ H lk = some (.lst lks) ∧ AllP (fun R v H => ∃ y, v = .ref y ∧ LookI K H y L R) H vs lks ∧ Tp K H bg (tI (zeroS vs))
theorem TgI.mono {K : PySem.W.Frag} {H H' : Hp} {x : Addr} {L : List PySem.Str} {vs : List Rows} (e : Ex H H') (h : TgI K H x L vs) : TgI K H' x L vs := by
  obtain ⟨dx, al, lk, bg, lks, h0, h1, h2, h3, h4⟩ := h
  exact ⟨dx, al, lk, bg, lks, e _ _ h0, h1.mono (Nl.ex e), e _ _ h2, h3.mono fun R v ⟨y, ey, hy⟩ => ⟨y, ey, hy.mono (Nl.ex e)⟩, h4.mono (Nl.ex e)⟩
abbrev Pg : Program := PySem.Challenge.pw_alwaysnew_k39_whole_readiness
abbrev bTg (K : PySem.W.Frag) : B2 := fun self v H Q => ∃ (x dx : Addr) (L : List PySem.Str) (vs : List Rows), self = .ref x ∧ H x = some (.ins (He.ga K "Together") dx []) ∧ Vt K H v L vs ∧ Vok L vs ∧ ∀ H', Kx x H H' → TgI K H' x L vs → Q .non H'

abbrev N_d_Spread_init : List PySem.Str := ["self", "signs"]
theorem sc_d_Spread_init : FnScope N_d_Spread_init ["self", "signs"] AN.d_Spread_init.scope := ⟨rfl, rfl, rfl, by decide +kernel, rfl, by decide +kernel, by decide +kernel⟩
section
variable {P : Program} {w : World} {K : PySem.W.Frag} {mg : PySem.Str → Option Value} {base : Heap} (T : Kit K mg)
include T
theorem ok_Spread_init : ∃ fd, FunD K AN.d_Spread_init.name AN.d_Spread_init.qual AN.d_Spread_init.params AN.d_Spread_init.body AN.d_Spread_init.scope (AN.d_Spread_init.dvs K) (AN.d_Spread_init.kws K) (AN.d_Spread_init.at_ K) fd ∧ FnOk P w K mg base CX0 1 (AN.d_Spread_init.at_ K) fd ["self", "signs"] (sp2 (fun self s H Q => ∃ (x dx : Addr), self = .ref x ∧ H x = some (.ins (He.ga K "Together") dx []) ∧ Q .non (upd H x (.ins (He.ga K "Together") dx [("signs", s)])))) := by
  obtain ⟨fd, F⟩ := T.d_Spread_init
  refine ⟨fd, F, F.ok sc_d_Spread_init len2 (fun cdv A outer s H vs Q E hr h => ?_)⟩
  have hu64 : (A.deeper (envOfC AN.d_Spread_init.qual AN.d_Spread_init.scope s.heap.objs.size (AN.d_Spread_init.at_ K) cdv)).units + 65 < cLine := hu_of65 hr
  have hu63 : (A.deeper (envOfC AN.d_Spread_init.qual AN.d_Spread_init.scope s.heap.objs.size (AN.d_Spread_init.at_ K) cdv)).units + 64 < cLine := Nat.lt_of_succ_lt hu64
  have hu1 : (A.deeper (envOfC AN.d_Spread_init.qual AN.d_Spread_init.scope s.heap.objs.size (AN.d_Spread_init.at_ K) cdv)).units + 1 < cLine := hu_of hr
  have nd := sc_d_Spread_init.nd
  obtain ⟨self, sv, rfl, x, dx, rfl, hx, q⟩ := h
  refine ⟨_, PSs.nox (pss_one (ps_fld (pv 0) (pv 1) rfl)), ?_⟩

  exact ⟨_, rfl, _, rfl, x, _, dx, [], rfl, hx, T.cl_Together, T.n_Together_signs, by decide, q⟩
end

abbrev N_d_Together_init : List PySem.Str := ["self", "versions", "machine"]
theorem sc_d_Together_init : SupScope N_d_Together_init ["self", "versions"] AN.d_Together_init.scope := ⟨rfl, rfl, rfl, by decide +kernel, rfl, by decide +kernel, by decide +kernel, by decide +kernel, rfl, rfl⟩
section
variable {w : World} {K : PySem.W.Frag} {mg : PySem.Str → Option Value} {base : Heap} (T : Kit K mg)
include T
theorem w_Together_init : GF Pg w K mg base 4 (AN.d_Together_init.at_ K) (sp2 (bTg K)) := by
  obtain ⟨cdv, cc, fd, F⟩ := T.d_Together_init
  obtain ⟨oc, od, dV, kV, doc, pm, an, ct, osl, hD, rfl, lk, hcd⟩ := F.ex
  obtain ⟨cda, rfl, SF⟩ := supB_ok T.sup2 lk rfl rfl
  rw [T.sup1] at SF
  obtain ⟨fdS, FS, GS⟩ := ok_Spread_init (P := Pg) (w := w) (base := base) T
  have bS : Binds K fdS ["self", "signs"] [] := FS.bindsN (fun _ _ _ _ _ _ us hl => match us, hl with | [_, _], _ => rfl)
  have G := fn_sup (x0 := "self") (ps := ["versions"]) (N := N_d_Together_init) (sp := sp2 (bTg K)) lk hcd sc_d_Together_init rfl rfl SF T.f_super (GS.mono (show 1 ≤ 3 by decide)) bS len2 (fun A outer s H vs Q E hr h => ?_)
  · rcases hD with ⟨_, rfl⟩ | ⟨e, _⟩
    · have hB : Binds K (PySem.W.ksFn AN.d_Together_init.name AN.d_Together_init.qual AN.d_Together_init.params AN.d_Together_init.body AN.d_Together_init.scope .none kV doc pm an (.ref cda) ct cc) ["self", "versions"] [] := .all fun us hl => match us, hl with | [_, _], _ => rfl
      exact ⟨(FnOk.raw (dvs := []) G hB .nil).imp fun vs H Q E h => by simpa using h, F.kp⟩
    · exact absurd rfl e
  · obtain ⟨self, v, rfl, x, dx, L, vs, rfl, hx, hv, ok, q⟩ := h
    have hu64 : (A.deeper (PySem.W.ksEnv AN.d_Together_init.qual AN.d_Together_init.scope s.heap.objs.size (AN.d_Together_init.at_ K) (.ref cda) cc)).units + 65 < cLine := by have := hr.un; omega
    have nd := sc_d_Together_init.nd
    obtain ⟨a, xs, rfl, h1, h2, h7⟩ := hv.get
    obtain ⟨m0, hm0, am0, al0, ar0, rfl, g4, g5, g6⟩ := h7 0 ok.vp
    refine ⟨x, dx, [], [.ref a], _, _, rfl, hx, pa_cons (pe_ix ix_tup (pe_ix ix_tup (pv 1) pe_int (fun _ _ => rfl)) pe_int (fun _ _ => rfl)) pa_nil, PSs.nox (pss_cons (ps_fld (pv 0) (pe_lc (own := [("machine", 2)]) rfl nd (pi_tup (pv 1)) (blkOk_by (own := [("machine", 2)]) (N := N_d_Together_init) (sc := AN.d_Together_init.scope) (by decide +kernel)) (fun _ _ _ _ _ => (pg_name (i := 2) nd rfl (Or.inl rfl))) (fun _ _ _ _ _ => pts_nil) (fun _ _ _ _ _ => (pe_makeR T.mk_Look (w_Look_init1 T).1 (hr.mono (by decide)) (by rfl) T.g_Look pass0 (pa_cons (pv 2) pa_nil)))) rfl) (pss_one (ps_fld (pv 0) (pe_op op_repA (pe_tup (pa_cons pe_int pa_nil)) (pe_callB call_len_seq (by rfl) T.f_len (by decide +kernel) (pa_cons (pv 1) pa_nil))) rfl))), ?_⟩
    refine ⟨_, rfl, _, _, _, _, rfl, rfl, h1, atI_nat (j := 0) hm0, ?_⟩
    refine ⟨_, _, _, _, rfl, rfl, g4, atI_nat (j := 0) rfl, ?_⟩
    refine ⟨_, _, rfl, x, dx, rfl, hx, ?_⟩
    have t1 : Tk H (upd H x (.ins (He.ga K "Together") dx [("signs", .ref al0)])) := Tk.ins hx
    have hv1 := hv.tk t1
    have h11 := tk_t t1 h1
    ((try dsimp only); (repeat (first | refine w_lc ?_ | unfold gName | unfold tIfS | unfold tNot | unfold tB | unfold tTest | unfold tRet | unfold tAsg | unfold tSeq | unfold tDrop | unfold tCB | unfold tCons)))
    refine ⟨_, rfl, a, rfl, ⟨_, h11⟩, ?_⟩
    refine lc_pure (n := xs.length) (runs_t h11) (fun _ => true) (fun k v H => ∃ y, v = .ref y ∧ y ≠ x ∧ LookI K H y L (vs.getD k [])) (by have := ok.vl; omega) (fun _ _ _ _ e ⟨y, e1, e2, e3⟩ => ⟨y, e1, e2, e3.mono e⟩) ?_ ?_
    · intro k u H7 hk7 e8 hu C kk
      refine kk _ _ rfl (Ex.refl _) (fun Q q => q _ (Ex.refl _)) fun _ H8 e9 Q q => ?_
      obtain ⟨m1, hm1, hmt⟩ := h7 k (by omega)
      rw [hm1] at hu
      cases hu
      have e89 := e8.trans e9
      refine ⟨_, rfl, ?_⟩
      refine make_lk ((hmt.tp.tk t1).mono (Nl.ex e89)) (of_tS (l := []) (T.look0 _)) (ok.mem (i := k) (by omega)) (by have := ok.le; omega) (fun y H9 hy e10 hl => ?_)
      rw [hush_nil] at hl
      refine q _ _ e10 ⟨y, rfl, fun e => ?_, hl⟩
      subst e
      rw [e89 _ _ upd_same] at hy
      cases hy
    · intro D H7 lks hD e8 hD7 hall
      have hall' : AllP (fun R v H => ∃ y, v = .ref y ∧ y ≠ x ∧ LookI K H y L R) H7 vs lks := by
        rw [filter_true, h2] at hall
        exact allP_range (P := fun R v H => ∃ y, v = .ref y ∧ y ≠ x ∧ LookI K H y L R) hall
      have hDx : D ≠ x := fun e => by rw [e, upd_same] at hD; cases hD
      have hx7 := e8 _ _ upd_same
      refine ⟨_, rfl, x, _, dx, _, rfl, hx7, T.cl_Together, T.n_Together_looks, by show (1 : Nat) < 1000; omega, ?_⟩
      have t2 : Tk H7 (upd H7 x (.ins (He.ga K "Together") dx [("signs", .ref al0), ("looks", .ref D)])) := Tk.ins hx7
      have t12 := (t1.trans (Tk.nl (Nl.ex e8))).trans t2
      refine ⟨sz1, fun p0 hp0 => ?_⟩
      have e9 := Evl.Ex.new (o := .tup [V.int 0]) hp0
      refine ⟨_, rfl, _, _, rfl, .inr (nl_t (Nl.ex e9) (tk_t t12 h1)), ?_⟩
      have hvl := ok.vl
      have hvp := ok.vp
      refine rep_any upd_same (by omega) (by omega) fun pz H8 e10 hz => ?_
      have e910 := e9.trans e10
      have hx8 := e910 _ _ upd_same
      refine ⟨_, rfl, x, _, dx, _, rfl, hx8, T.cl_Together, T.n_Together_begin, by show (2 : Nat) < 1000; omega, ?_⟩
      have t3 : Tk H8 (upd H8 x (.ins (He.ga K "Together") dx [("signs", .ref al0), ("looks", .ref D), ("begin", .ref pz)])) := Tk.ins hx8
      have t23 := (t2.trans (Tk.nl (Nl.ex e910))).trans t3
      have k23 : Kx x H7 (upd H8 x (.ins (He.ga K "Together") dx [("signs", .ref al0), ("looks", .ref D), ("begin", .ref pz)])) := (Kx.trans Kx.upd (Kx.ex e910)).trans Kx.upd
      refine q _ (((Kx.upd).trans (Kx.ex e8)).trans k23) ⟨dx, al0, D, .ref pz, lks, upd_same, g5.tk ((t1.trans (Tk.nl (Nl.ex e8))).trans t23), k23 _ _ hDx hD7, hall'.imp fun R v ⟨y, e1, e2, e3⟩ => ⟨y, e1, e3.kx e2 k23 t23⟩, ?_⟩
      rw [show zeroS vs = List.replicate xs.length 0 by rw [h2]; rfl]
      exact of_tI (tk_t t3 hz)
end
end AN
end

-- ANw13
section
set_option Elab.async false
set_option linter.all false
set_option maxRecDepth 100000
set_option maxHeartbeats 4000000
namespace AN
open PySem PySem.Spec PyProof.Rows L2 StX
open Evl (Ex)

/-- a comprehension whose elements are new lists -/
theorem lc_lists {J : It} {g : TG} {tt : TT} {te : TE} {vs : List Nat} {σ : L2.St} {H1 : Hp} {Q : VK} {n : Nat} {Y : Nat → V → Hp → Prop} (R : Runs J H1 n Y) (f : Nat → List V) (hn : n < 100000)
    (hs : ∀ i x H, i < n → Ex H1 H → Y i x H → ∀ C : L2.St → Hp → Prop, (∀ σ2 H2, wipe σ2 vs = wipe σ vs → Ex H H2 → (∀ Q : Bool → Hp → Prop, (∀ H3, Ex H2 H3 → Q true H3) → tt σ2 H2 Q) →
      (∀ H3, Ex H2 H3 → ∀ Q : VK, (∀ c H4, Ex H3 H4 → H3 c = none → H4 c = some (.lst (f i)) → Q (.ref c) H4) → te σ2 H3 Q) → C σ2 H2) → g x (wipe σ vs) H C)
    (hd : ∀ D H xs, H1 D = none → Ex H1 H → H D = some (.lst xs) → AllP (fun k v H => ∃ c, v = .ref c ∧ H c = some (.lst (f k))) H (List.range n) xs → Q (.ref D) H) :
    LcB J g tt te vs σ H1 Q := fun D hD => by
  refine ⟨fun i m H => m = n - i ∧ i ≤ n ∧ Ex H1 H ∧ ∃ acc, H D = some (.lst acc) ∧ AllP (fun k v H => ∃ c, v = .ref c ∧ c ≠ D ∧ H c = some (.lst (f k))) H (List.range i) acc, ⟨n, by simp, Nat.zero_le _, Evl.Ex.new hD, [], upd_same, trivial⟩, ?_⟩
  rintro i m H ⟨rfl, hi, e, acc, hS, hall⟩
  by_cases hlt : i < n
  · refine .inr ⟨R.go i H hlt e, fun H' => i < n ∧ Ex H1 H' ∧ ∃ acc, H' D = some (.lst acc) ∧ AllP (fun k v H => ∃ c, v = .ref c ∧ c ≠ D ∧ H c = some (.lst (f k))) H' (List.range (i + 1)) acc, fun H' h' => ⟨n - (i + 1), by omega, rfl, hlt, h'.2⟩, fun x H' y => ?_⟩
    obtain ⟨e2, hy⟩ := R.yld i H x H' hlt e y
    refine hs i x H' hlt (e.trans e2) hy _ fun σ2 H2 hw e3 htt hte => ⟨hw, htt _ fun H3 e4 => ?_⟩
    simp only [if_true]
    refine hte H3 e4 _ fun c H4 e5 hc0 hc => ?_
    have e34 := (e2.trans e3).trans e4
    have e6 := e34.trans e5
    have hS4 := e6 _ _ hS
    have hcD : c ≠ D := fun h => by
      have := e34 _ _ hS
      rw [← h, hc0] at this
      cases this
    have hlen : acc.length = i := by have := hall.length; simpa using this.symm
    refine ⟨acc, hS4, small_len (by omega), hlt, Ex.mut (e.trans e6) hD, _, upd_same, ?_⟩
    rw [List.range_succ]
    refine AllP.snoc (hall.imp fun k v ⟨c', h1, h2, h3⟩ => ⟨c', h1, h2, (upd_ne h2).trans (e6 _ _ h3)⟩) ⟨c, rfl, hcD, (upd_ne hcD).trans hc⟩
  · have ei : i = n := by omega
    subst ei
    exact .inl ⟨R.stop H e, hd D H acc hD e hS (hall.imp fun k v ⟨c', h1, _, h3⟩ => ⟨c', h1, h3⟩)⟩
theorem nd_first {L : List PySem.Str} (nd : L.Nodup) {j : Nat} {x : PySem.Str} (h : L[j]? = some x) : ∀ m, m < j → L[m]? ≠ some x := by
  intro m hm e
  obtain ⟨h1, e1⟩ := List.getElem?_eq_some_iff.mp h
  obtain ⟨h2, e2⟩ := List.getElem?_eq_some_iff.mp e
  have := (List.getElem_inj (h₀ := h2) (h₁ := h1) nd).mp (e2.trans e1.symm)
  omega

abbrev N_d_Together_need_reading : List PySem.Str := ["self", "reading"]
theorem sc_d_Together_need_reading : FnScope N_d_Together_need_reading ["self", "reading"] AN.d_Together_need_reading.scope := ⟨rfl, rfl, rfl, by decide +kernel, rfl, by decide +kernel, by decide +kernel⟩
section
variable {P : Program} {w : World} {K : PySem.W.Frag} {mg : PySem.Str → Option Value} {base : Heap} (T : Kit K mg)
include T
theorem w_Together_need_reading : GF P w K mg base 2 (AN.d_Together_need_reading.at_ K) (sp2 (fun self r H Q => ∃ (x : Addr) (L : List PySem.Str) (vs : List Rows) (js : List Nat), self = .ref x ∧ TgI K H x L vs ∧ Vok L vs ∧ Tp K H r (tS (rdg L js)) ∧ (∀ j ∈ js, j < L.length) ∧ ∀ H', Ex H H' → Q .non H')) := by
  obtain ⟨fd, F⟩ := T.d_Together_need_reading
  refine rr F sc_d_Together_need_reading len2 (fun _ _ _ _ _ _ us hl => match us, hl with | [_, _], _ => rfl) (fun cdv A outer s H vs Q E hr h => ?_)
  have hu64 : (A.deeper (envOfC AN.d_Together_need_reading.qual AN.d_Together_need_reading.scope s.heap.objs.size (AN.d_Together_need_reading.at_ K) cdv)).units + 65 < cLine := hu_of65 hr
  have hu63 : (A.deeper (envOfC AN.d_Together_need_reading.qual AN.d_Together_need_reading.scope s.heap.objs.size (AN.d_Together_need_reading.at_ K) cdv)).units + 64 < cLine := Nat.lt_of_succ_lt hu64
  have hu1 : (A.deeper (envOfC AN.d_Together_need_reading.qual AN.d_Together_need_reading.scope s.heap.objs.size (AN.d_Together_need_reading.at_ K) cdv)).units + 1 < cLine := hu_of hr
  have nd := sc_d_Together_need_reading.nd
  obtain ⟨self, r, rfl, x, L, vs, js, rfl, ⟨dx, al, lk, bg, lks, h0, h1, h2, h3, h4⟩, ok, hr0, hj, q⟩ := h
  refine ⟨_, PSs.nox (pss_one (ps_expr (pe_gf (w_require_letters T) (hr.mono (by decide)) (by rfl) T.g_require_letters pass0 (pa_cons (pe_fld (pv 0) rfl) (pa_cons (pv 1) pa_nil))))), ?_⟩

  refine ⟨_, rfl, x, _, dx, _, .ref al, rfl, h0, T.cl_Together, T.n_Together_signs, rfl, ?_⟩
  refine ⟨_, rfl, _, L, [r], rfl, of_tS h1.sq, by have := ok.le; omega, by simp, fun r' hr2 => ?_, fun H2 e2 => q H2 e2⟩
  have : r' = r := by simpa using hr2
  subst this
  exact ⟨_, hr0, rdg_mem hj⟩
end
abbrev N_d_Together_need_standing : List PySem.Str := ["self", "standing", "look", "number"]
theorem sc_d_Together_need_standing : FnScope N_d_Together_need_standing ["self", "standing"] AN.d_Together_need_standing.scope := ⟨rfl, rfl, rfl, by decide +kernel, rfl, by decide +kernel, by decide +kernel⟩
section
variable {P : Program} {w : World} {K : PySem.W.Frag} {mg : PySem.Str → Option Value} {base : Heap} (T : Kit K mg)
include T
theorem w_Together_need_standing : GF P w K mg base 5 (AN.d_Together_need_standing.at_ K) (sp2 (fun self st H Q => ∃ (x : Addr) (L : List PySem.Str) (vs : List Rows) (s : List Nat), self = .ref x ∧ TgI K H x L vs ∧ Vok L vs ∧ Tp K H st (tI s) ∧ StOk vs s ∧ ∀ H', Ex H H' → Q .non H')) := by
  obtain ⟨fd, F⟩ := T.d_Together_need_standing
  refine rr F sc_d_Together_need_standing len2 (fun _ _ _ _ _ _ us hl => match us, hl with | [_, _], _ => rfl) (fun cdv A outer s H vs Q E hr h => ?_)
  have hu64 : (A.deeper (envOfC AN.d_Together_need_standing.qual AN.d_Together_need_standing.scope s.heap.objs.size (AN.d_Together_need_standing.at_ K) cdv)).units + 65 < cLine := hu_of65 hr
  have hu63 : (A.deeper (envOfC AN.d_Together_need_standing.qual AN.d_Together_need_standing.scope s.heap.objs.size (AN.d_Together_need_standing.at_ K) cdv)).units + 64 < cLine := Nat.lt_of_succ_lt hu64
  have hu1 : (A.deeper (envOfC AN.d_Together_need_standing.qual AN.d_Together_need_standing.scope s.heap.objs.size (AN.d_Together_need_standing.at_ K) cdv)).units + 1 < cLine := hu_of hr
  have nd := sc_d_Together_need_standing.nd
  obtain ⟨self, st, rfl, x, L, vs, sl, rfl, ⟨dx, al, lk, bg, lks, h0, h1, h2, h3, h4⟩, ok, hst, so, q⟩ := h
  refine ⟨_, PSs.nox (pss_one (ps_for PassesOwn.never rfl (pi_zs (by rfl) T.f_zip (pa_cons (pe_fld (pv 0) rfl) (pa_cons (pv 1) pa_nil))) (pg_tup rfl (pgs_cons (pg_name (i := 2) nd rfl (Or.inl rfl)) (pgs_cons (pg_name (i := 3) nd rfl (Or.inl rfl)) pgs_nil))) (pss_one (ps_expr (pe_methR (pv 2) T.cl_Look T.m_Look_need (w_Look_need T).1 (hr.mono (by decide)) pass0 (pa_cons (pv 3) pa_nil)))))), ?_⟩

  obtain ⟨as, rfl, hs⟩ := tI_of hst
  have hll := h3.length
  refine ⟨_, rfl, x, _, dx, _, .ref lk, rfl, h0, T.cl_Together, T.n_Together_looks, rfl, ?_⟩
  refine ⟨_, rfl, lk, as, false, true, _, _, rfl, SqL.of h2, hs, ?_⟩
  refine for_runs (runs_z (c := false) (d := true) (SqL.of h2) hs (by rw [List.length_map, so.1, hll])) (fun i σ' H' => Ex H H' ∧ ∃ z1 z2, σ' = [some (.ref x), some (.ref as), z1, z2]) (fun i σ' H' p => p.1) ⟨Ex.refl H, _, _, rfl⟩ ?_ (fun σ' H' p => q H' p.1)
  rintro i y σ' H1 H2 hi ⟨e1, z1, z2, rfl⟩ e2 ⟨tT, y1, y2, rfl, hT, hy1, hy2⟩
  have hiv : i < vs.length := by omega
  rw [map_get (f := fun (n : Nat) => V.int (n : Int)) (by rw [so.1]; exact hiv) 0] at hy2
  cases hy2
  obtain ⟨v1, hv1, yy, rfl, hlk⟩ := h3.get (getD_of hiv [])
  rw [hv1] at hy1
  cases hy1
  have e3 := e1.trans e2
  refine ⟨tT, _, rfl, .inl (.inl hT), rfl, _, _, rfl, _, _, rfl, rfl, ?_⟩
  have hlk3 := hlk.mono (Nl.ex e3)
  have hlk4 := hlk3
  obtain ⟨dy, sv, sg, mv, hyy, _, _, _⟩ := hlk3
  refine ⟨_, rfl, yy, dy, _, rfl, hyy, rfl, _, rfl, yy, L, vs.getD i [], [sl.getD i 0], rfl, hlk4, by simpa using so.2 i hiv, by simp, fun H4 e4 => ⟨e3.trans e4, _, _, rfl⟩⟩
end
abbrev N_d_Together_nexts_of : List PySem.Str := ["self", "node", "columns", "look", "number", "column", "j"]
theorem sc_d_Together_nexts_of : FnScope N_d_Together_nexts_of ["self", "node"] AN.d_Together_nexts_of.scope := ⟨rfl, rfl, rfl, by decide +kernel, rfl, by decide +kernel, by decide +kernel⟩
section
variable {P : Program} {w : World} {K : PySem.W.Frag} {mg : PySem.Str → Option Value} {base : Heap} (T : Kit K mg)
include T
theorem w_Together_nexts_of : GF P w K mg base 2 (AN.d_Together_nexts_of.at_ K) (sp2 (fun self st H Q => ∃ (x : Addr) (L : List PySem.Str) (vs : List Rows) (s : List Nat), self = .ref x ∧ TgI K H x L vs ∧ Vok L vs ∧ Tp K H st (tI s) ∧ StOk vs s ∧ ∀ b H' xs, Ex H H' → H' b = some (.lst xs) → TpA K H' xs ((List.range L.length).map fun j => tI (nxS vs s j)) → Q (.ref b) H')) := by
  obtain ⟨fd, F⟩ := T.d_Together_nexts_of
  refine rr F sc_d_Together_nexts_of len2 (fun _ _ _ _ _ _ us hl => match us, hl with | [_, _], _ => rfl) (fun cdv A outer s H vs Q E hr h => ?_)
  have hu64 : (A.deeper (envOfC AN.d_Together_nexts_of.qual AN.d_Together_nexts_of.scope s.heap.objs.size (AN.d_Together_nexts_of.at_ K) cdv)).units + 65 < cLine := hu_of65 hr
  have hu63 : (A.deeper (envOfC AN.d_Together_nexts_of.qual AN.d_Together_nexts_of.scope s.heap.objs.size (AN.d_Together_nexts_of.at_ K) cdv)).units + 64 < cLine := Nat.lt_of_succ_lt hu64
  have hu1 : (A.deeper (envOfC AN.d_Together_nexts_of.qual AN.d_Together_nexts_of.scope s.heap.objs.size (AN.d_Together_nexts_of.at_ K) cdv)).units + 1 < cLine := hu_of hr
  have nd := sc_d_Together_nexts_of.nd
  obtain ⟨self, st, rfl, x, L, vs, sl, rfl, ⟨dx, al, lk, bg, lks, h0, h1, h2, h3, h4⟩, ok, hst, so, q⟩ := h
  refine ⟨_, PSs.nox (pss_cons (ps_asg (pe_lc (own := [("look", 3), ("number", 4)]) (g := gTup K 2 (gCons (gName 3) (gCons (gName 4) gNil))) rfl nd (pi_zs (by rfl) T.f_zip (pa_cons (pe_fld (pv 0) rfl) (pa_cons (pv 1) pa_nil))) (blkOk_by (own := [("look", 3), ("number", 4)]) (N := N_d_Together_nexts_of) (sc := AN.d_Together_nexts_of.scope) (by decide +kernel)) (fun _ _ _ _ _ => (pg_tup rfl (pgs_cons (pg_name (i := 3) nd rfl (Or.inl rfl)) (pgs_cons (pg_name (i := 4) nd rfl (Or.inl rfl)) pgs_nil)))) (fun _ _ _ _ _ => pts_nil) (fun _ _ _ _ _ => (pe_methR (pv 3) T.cl_Look T.m_Look_nexts (w_Look_nexts T).1 (hr.mono (by decide)) pass0 (pa_cons (pv 4) pa_nil)))) (pg_name (i := 2) nd rfl (Or.inr rfl))) (pss_one (ps_ret (pe_lc (own := [("j", 6)]) rfl nd (pi_range1 (by rfl) T.f_range (pa_cons (pe_callB call_len_seq (by rfl) T.f_len (by decide +kernel) (pa_cons (pe_fld (pv 0) rfl) pa_nil)) pa_nil)) (blkOk_by (own := [("j", 6)]) (N := N_d_Together_nexts_of) (sc := AN.d_Together_nexts_of.scope) (by decide +kernel)) (fun _ _ _ _ _ => (pg_name (i := 6) nd rfl (Or.inr rfl))) (fun _ _ _ _ _ => pts_nil) (fun _ _ _ _ _ => (pe_callTy (r := rTupleK K) call_tuple_of (by rfl) T.f_tuple (by decide +kernel) (pa_cons (pe_lc (wi := iList K _) (own := [("column", 5)]) rfl nd (pi_list (pv 2)) (blkOk_by (own := [("column", 5)]) (N := N_d_Together_nexts_of) (by rfl)) (fun _ _ _ _ _ => (pg_name (i := 5) nd rfl (Or.inl rfl))) (fun _ _ _ _ _ => pts_nil) (fun _ _ _ _ _ => (pe_ix (r := rIxL K) ix_list (pv 5) (pv 6) (fun _ _ => rfl)))) pa_nil))))))), ?_⟩

  obtain ⟨as, rfl, hs⟩ := tI_of hst
  have hll := h3.length
  ((try dsimp only); (repeat (first | refine w_lc ?_ | unfold gName | unfold tIfS | unfold tNot | unfold tB | unfold tTest | unfold tRet | unfold tAsg | unfold tSeq | unfold tDrop | unfold tCB | unfold tCons)))
  refine ⟨_, rfl, x, _, dx, _, .ref lk, rfl, h0, T.cl_Together, T.n_Together_looks, rfl, ?_⟩
  refine ⟨_, rfl, lk, as, false, true, _, _, rfl, SqL.of h2, hs, ?_⟩
  have hvl := ok.vl
  have hn3 := ok.le
  refine lc_lists (n := lks.length) (runs_z (c := false) (d := true) (SqL.of h2) hs (by rw [List.length_map, so.1, hll])) (fun k => ((vs.getD k []).getD (sl.getD k 0) []).map fun p => V.int (p.1 : Int)) (by omega) ?_ ?_
  · intro k u H7 hk7 e8 hu C kk
    obtain ⟨tT, y1, y2, rfl, hT, hy1, hy2⟩ := hu
    have hkv : k < vs.length := by omega
    rw [map_get (f := fun (n : Nat) => V.int (n : Int)) (by rw [so.1]; exact hkv) 0] at hy2
    cases hy2
    obtain ⟨v1, hv1, yy, rfl, hlk⟩ := h3.get (getD_of hkv [])
    rw [hv1] at hy1
    cases hy1
    refine ⟨tT, _, rfl, .inl (.inl hT), rfl, _, _, rfl, _, _, rfl, rfl, ?_⟩
    refine kk _ _ rfl (Ex.refl _) (fun Q q => q _ (Ex.refl _)) (fun H9 e10 Q q => ?_)
    have hlk3 := hlk.mono (Nl.ex (e8.trans e10))
    have hlk4 := hlk3
    obtain ⟨dy, sv, sg, mv, hyy, _, _, _⟩ := hlk3
    refine ⟨_, rfl, yy, dy, _, rfl, hyy, rfl, _, rfl, _, _, rfl, yy, L, vs.getD k [], sl.getD k 0, rfl, hlk4, rfl, so.2 k hkv, ok.mem hkv, by omega, fun v H' e11 hv => ?_⟩
    obtain ⟨b, rfl, hb0, hb⟩ := hv
    exact q b H' e11 hb0 hb
  · intro Dc H5 cols hDc e5 hDc5 hall
    have hcl : cols.length = vs.length := by have := hall.length; rw [List.length_range] at this; omega
    ((try dsimp only); (repeat (first | refine w_lc ?_ | unfold gName | unfold tIfS | unfold tNot | unfold tB | unfold tTest | unfold tRet | unfold tAsg | unfold tSeq | unfold tDrop | unfold tCB | unfold tCons)))
    refine ⟨_, rfl, x, _, dx, _, .ref al, rfl, e5 _ _ h0, T.cl_Together, T.n_Together_signs, rfl, ?_⟩
    refine ⟨_, _, rfl, .inr (nl_t (Nl.ex e5) h1.sq), _, rfl, by omega, by rw [List.length_map]; omega, ?_⟩
    refine lc_pure (n := (L.map V.str).length) (runs_r _) (fun _ => true) (fun j v H => Tp K H v (tI (nxS vs sl j))) (by rw [List.length_map]; omega) (fun _ _ _ _ e h => h.mono e) ?_ ?_
    · intro j u H7 hj7 e8 hu C kk
      subst hu
      rw [List.length_map] at hj7
      refine kk _ _ rfl (Ex.refl _) (fun Q q => q _ (Ex.refl _)) (fun _ H9 e10 Q q => ?_)
      have e9 := e8.trans e10
      refine w_lc ?_
      have hD9 := e9 _ _ hDc5
      refine ⟨_, rfl, Dc, rfl, ⟨_, SqL.of hD9⟩, ?_⟩
      refine lc_pure (n := cols.length) (runs_l (SqL.of hD9)) (fun _ => true) (fun k v _ => v = V.int ((nx (vs.getD k []) (sl.getD k 0) j : Nat) : Int)) (by omega) (fun _ _ _ _ _ h => h) ?_ ?_
      · intro k u H10 hk10 e11 hu C2 kk2
        refine kk2 _ _ rfl (Ex.refl _) (fun Q q => q _ (Ex.refl _)) (fun _ H12 e12 Q q => ?_)
        have hkv : k < vs.length := by omega
        obtain ⟨v1, hv1, c, rfl, hcc⟩ := hall.get (show (List.range lks.length)[k]? = some k by rw [List.getElem?_range (by omega)])
        rw [hv1] at hu
        cases hu
        have hrow : ((vs.getD k []).getD (sl.getD k 0) []).length = L.length := (ok.mem hkv).row _ (getD_mem (so.2 k hkv))
        exact ⟨_, rfl, _, rfl, c, _, _, _, rfl, rfl, SqL.of (((e9.trans e11).trans e12) _ _ hcc), atI_nat (map_get (f := fun (p : Nat × PySem.Str) => V.int (p.1 : Int)) (by rw [hrow]; exact hj7) (0, PySem.Str.empty)), q _ _ (Ex.refl _) rfl⟩
      · intro D10 H10 xs10 hD10 e11 hD10' hall10
        have hx10 : xs10 = (nxS vs sl j).map fun (n : Nat) => V.int (n : Int) := by
          rw [filter_true] at hall10
          rw [allP_eq hall10, hcl, nxS, List.map_map]
          rfl
        refine ⟨D10, _, rfl, .inl ⟨SqL.of hD10', fun p hp => ?_⟩⟩
        have e12 := e11.trans (Evl.Ex.new (o := .tup xs10) hp)
        exact q _ _ e12 (of_tI (by rw [← hx10]; exact .inl (.inl upd_same)))
    · intro D8 H8 xs8 hD8 e8 hD8' hall8
      have t8 := allP_tp hall8
      rw [List.length_map] at t8
      exact q D8 H8 xs8 (e5.trans e8) hD8' t8
end
abbrev N_d_Together_led_on : List PySem.Str := ["self", "standing", "reading", "sign"]
theorem sc_d_Together_led_on : FnScope N_d_Together_led_on ["self", "standing", "reading"] AN.d_Together_led_on.scope := ⟨rfl, rfl, rfl, by decide +kernel, rfl, by decide +kernel, by decide +kernel⟩
section
variable {P : Program} {w : World} {K : PySem.W.Frag} {mg : PySem.Str → Option Value} {base : Heap} (T : Kit K mg)
include T
theorem w_Together_led_on : GF P w K mg base 3 (AN.d_Together_led_on.at_ K) (sp3 (fun self st r H Q => ∃ (x : Addr) (L : List PySem.Str) (vs : List Rows) (s js : List Nat), self = .ref x ∧ TgI K H x L vs ∧ Vok L vs ∧ Tp K H st (tI s) ∧ StOk vs s ∧ Tp K H r (tS (rdg L js)) ∧ (∀ j ∈ js, j < L.length) ∧ Ret H (fun v H' => Tp K H' v (tI (ledS vs s js))) Q)) := by
  obtain ⟨fd, F⟩ := T.d_Together_led_on
  refine rr F sc_d_Together_led_on len3 (fun _ _ _ _ _ _ us hl => match us, hl with | [_, _, _], _ => rfl) (fun cdv A outer s H vs Q E hr h => ?_)
  have hu64 : (A.deeper (envOfC AN.d_Together_led_on.qual AN.d_Together_led_on.scope s.heap.objs.size (AN.d_Together_led_on.at_ K) cdv)).units + 65 < cLine := hu_of65 hr
  have hu63 : (A.deeper (envOfC AN.d_Together_led_on.qual AN.d_Together_led_on.scope s.heap.objs.size (AN.d_Together_led_on.at_ K) cdv)).units + 64 < cLine := Nat.lt_of_succ_lt hu64
  have hu1 : (A.deeper (envOfC AN.d_Together_led_on.qual AN.d_Together_led_on.scope s.heap.objs.size (AN.d_Together_led_on.at_ K) cdv)).units + 1 < cLine := hu_of hr
  have nd := sc_d_Together_led_on.nd
  obtain ⟨self, st, r, rfl, x, L, vs, sl, js, rfl, tg, ok, hst, so, hr0, hj, q⟩ := h
  refine ⟨_, PSs.nox (pss_cons (ps_for PassesOwn.never rfl (pi_tup (pv 2)) (pg_name (i := 3) nd rfl (Or.inl rfl)) (pss_one (ps_set (i := 1) nd rfl (Or.inl rfl) (pe_ix ix_list (pe_methR (pv 0) T.cl_Together T.m_Together_nexts_of (w_Together_nexts_of T).1 (hr.mono (by decide)) pass0 (pa_cons (pv 1) pa_nil)) (pe_bmX okT_is PySem.F.plainAttrs_tuple PySem.F.slot_tuple_index PySem.F.type_tuple_index mt_tup_index (pe_fld (pv 0) rfl) (pa_cons (pv 3) pa_nil)) (fun _ _ => rfl))))) (pss_one (ps_ret (pv 1)))), ?_⟩

  obtain ⟨ar, rfl, har⟩ := tS_of hr0
  refine ⟨_, rfl, ar, rfl, ⟨_, har⟩, ?_⟩
  refine for_runs (runs_t har) (fun i σ' H' => Ex H H' ∧ ∃ v z, σ' = [some (.ref x), some v, some (.ref ar), z] ∧ Tp K H' v (tI (ledS vs sl (js.take i)))) (fun i σ' H' p => p.1) ⟨Ex.refl H, _, _, rfl, hst⟩ ?_ ?_
  · rintro i y σ' H1 H2 hi ⟨e1, v, z, rfl, hv⟩ e2 hy
    rw [List.getElem?_map, Option.map_eq_some_iff] at hy
    obtain ⟨c, hc, rfl⟩ := hy
    obtain ⟨j, hj1, hjl, hLj⟩ := rdg_get hc hj
    have e3 := e1.trans e2
    have tg3 := tg.mono e3
    have so3 := so.led ok.wf (js := js.take i) fun x hx => hj x (List.mem_of_mem_take hx)
    obtain ⟨dx, al, lk, bg, lks, h0, h1, h2, h3, h4⟩ := tg3
    refine ⟨_, rfl, x, dx, _, rfl, h0, rfl, _, rfl, _, _, rfl, x, L, vs, _, rfl, tg.mono e3, ok, hv.mono (Nl.ex e2), so3, fun b H4 xs e4 hb tb => ?_⟩
    refine ⟨_, rfl, x, _, dx, _, .ref al, rfl, e4 _ _ h0, T.cl_Together, T.n_Together_signs, rfl, ?_⟩
    refine ⟨⟨al, _, rfl, h1.mono (Nl.ex e4)⟩, _, rfl, al, L, c, j, rfl, rfl, nl_t (Nl.ex e4) h1.sq, hLj, nd_first ok.nd hLj, ?_⟩
    obtain ⟨w1, hw1, tw1⟩ := tb.get (i := j) (by rw [List.getElem?_map, List.getElem?_range hjl]; rfl)
    refine ⟨b, _, _, _, rfl, rfl, SqL.of hb, atI_nat hw1, e3.trans e4, _, _, rfl, ?_⟩
    rw [take_snoc hj1, ledS_append]
    exact tw1
  · rintro σ' H1 ⟨e1, v, z, rfl, hv⟩
    rw [List.length_map, List.length_map, List.take_length] at hv
    exact ⟨_, rfl, q _ _ e1 hv⟩
end
end AN
end

-- ANw14
section
set_option Elab.async false
set_option linter.all false
set_option maxRecDepth 100000
set_option maxHeartbeats 4000000
namespace AN
open PySem PySem.Spec PyProof.Rows L2 StX
open Evl (Ex)

theorem make_tg {K : PySem.W.Frag} {H1 : Hp} {Pk : Addr → Hp → Prop} {v : V} {L : List PySem.Str} {vs : List Rows} (hv : Vt K H1 v L vs) (ok : Vok L vs) (q : ∀ x H2, H1 x = none → Ex H1 H2 → TgI K H2 x L vs → Pk x H2) :
    ∀ x dx, H1 x = none → H1 dx = none → dx ≠ x → sp2 (bTg K) [.ref x, v] (upd (upd H1 dx (.own x)) x (.ins (He.ga K "Together") dx [])) (fun v H2 => v = .non ∧ Pk x H2) E0 := by
  intro x dx h1 h2 ne
  have e1 : Ex H1 (upd H1 dx (.own x)) := Evl.Ex.new h2
  have hx : (upd H1 dx (.own x)) x = none := by rw [upd_ne (Ne.symm ne)]; exact h1
  have e2 : Ex H1 (upd (upd H1 dx (.own x)) x (.ins (He.ga K "Together") dx [])) := e1.trans (Evl.Ex.new hx)
  exact ⟨_, _, rfl, x, dx, L, vs, rfl, upd_same, hv.mono (Nl.ex e2), ok, fun H' k tg => ⟨rfl, q x H' h1 (fun b o hb => k b o (ne_of_none hb h1) (e2 b o hb)) tg⟩⟩
theorem fits {L : List PySem.Str} {vs : List Rows} (ok : Vok L vs) {s : List Nat} (so : StOk vs s) : s.length = vs.length ∧ ∀ x ∈ s, x < 64 := by
  refine ⟨so.1, fun z hz => ?_⟩
  obtain ⟨m, hm, rfl⟩ := List.mem_iff_getElem.mp hz
  have h1 := so.2 m (by rw [← so.1]; exact hm)
  have h2 := (ok.mem (i := m) (by rw [← so.1]; exact hm)).le
  have h1' : s[m] < (vs.getD m []).length := by rwa [List.getD_eq_getElem?_getD, List.getElem?_eq_getElem hm] at h1
  omega

abbrev N_d_standing_after : List PySem.Str := ["versions", "past", "together"]
theorem sc_d_standing_after : FnScope N_d_standing_after ["versions", "past"] AN.d_standing_after.scope := ⟨rfl, rfl, rfl, by decide +kernel, rfl, by decide +kernel, by decide +kernel⟩
section
variable {w : World} {K : PySem.W.Frag} {mg : PySem.Str → Option Value} {base : Heap} (T : Kit K mg)
include T
theorem w_standing_after : GF Pg w K mg base 6 (AN.d_standing_after.at_ K) (sp2 (fun v r H Q => ∃ (L : List PySem.Str) (vs : List Rows) (js : List Nat), Vt K H v L vs ∧ Vok L vs ∧ Tp K H r (tS (rdg L js)) ∧ (∀ j ∈ js, j < L.length) ∧ Ret H (fun v H' => Tp K H' v (tI (ledS vs (zeroS vs) js))) Q)) := by
  obtain ⟨fd, F⟩ := T.d_standing_after
  refine rr F sc_d_standing_after len2 (fun _ _ _ _ _ _ us hl => match us, hl with | [_, _], _ => rfl) (fun cdv A outer s H vs Q E hr h => ?_)
  have hu64 : (A.deeper (envOfC AN.d_standing_after.qual AN.d_standing_after.scope s.heap.objs.size (AN.d_standing_after.at_ K) cdv)).units + 65 < cLine := hu_of65 hr
  have hu63 : (A.deeper (envOfC AN.d_standing_after.qual AN.d_standing_after.scope s.heap.objs.size (AN.d_standing_after.at_ K) cdv)).units + 64 < cLine := Nat.lt_of_succ_lt hu64
  have hu1 : (A.deeper (envOfC AN.d_standing_after.qual AN.d_standing_after.scope s.heap.objs.size (AN.d_standing_after.at_ K) cdv)).units + 1 < cLine := hu_of hr
  have nd := sc_d_standing_after.nd
  obtain ⟨v, r, rfl, L, vs, js, hv, ok, hr0, hj, q⟩ := h
  refine ⟨_, PSs.nox (pss_cons (ps_set (i := 2) nd rfl (Or.inl rfl) (pe_makeR T.mk_Together (w_Together_init T).1 (hr.mono (by decide)) (by rfl) T.g_Together pass0 (pa_cons (pv 0) pa_nil))) (pss_cons (ps_expr (pe_methR (pv 2) T.cl_Together T.m_Together_need_reading (w_Together_need_reading T).1 (hr.mono (by decide)) pass0 (pa_cons (pv 1) pa_nil))) (pss_one (ps_ret (pe_methR (pv 2) T.cl_Together T.m_Together_led_on (w_Together_led_on T).1 (hr.mono (by decide)) pass0 (pa_cons (pe_fld (pv 2) rfl) (pa_cons (pv 1) pa_nil))))))), ?_⟩

  refine ⟨_, rfl, ?_⟩
  refine make_tg hv ok (fun x H1 hx0 e1 tg => ?_)
  have tg0 := tg
  obtain ⟨dx, al, lk, bg, lks, h0, h1, h2, h3, h4⟩ := tg
  refine ⟨_, rfl, x, dx, _, rfl, h0, rfl, _, rfl, _, _, rfl, x, L, vs, js, rfl, tg0, ok, hr0.mono (Nl.ex e1), hj, fun H2 e2 => ?_⟩
  refine ⟨_, rfl, x, dx, _, rfl, e2 _ _ h0, rfl, _, rfl, x, _, dx, _, bg, rfl, e2 _ _ h0, T.cl_Together, T.n_Together_begin, rfl, _, rfl, ?_⟩
  exact ⟨_, _, _, rfl, x, L, vs, _, js, rfl, tg0.mono e2, ok, h4.mono (Nl.ex e2), StOk.zero ok.wf, hr0.mono (Nl.ex (e1.trans e2)), hj, fun v H3 e3 tv => q v H3 ((e1.trans e2).trans e3) tv⟩
end
abbrev N_d_standings_led : List PySem.Str := ["versions", "standings", "reading", "together", "standing"]
theorem sc_d_standings_led : FnScope N_d_standings_led ["versions", "standings", "reading"] AN.d_standings_led.scope := ⟨rfl, rfl, rfl, by decide +kernel, rfl, by decide +kernel, by decide +kernel⟩
section
variable {w : World} {K : PySem.W.Frag} {mg : PySem.Str → Option Value} {base : Heap} (T : Kit K mg)
include T
theorem w_standings_led : GF Pg w K mg base 6 (AN.d_standings_led.at_ K) (sp3 (fun v st r H Q => ∃ (L : List PySem.Str) (vs : List Rows) (S : List (List Nat)) (js : List Nat), Vt K H v L vs ∧ Vok L vs ∧ Tp K H st (stsD S) ∧ (∀ s ∈ S, StOk vs s) ∧ S.length < 60 ∧ Tp K H r (tS (rdg L js)) ∧ (∀ j ∈ js, j < L.length) ∧ ∀ (v : V) (H' : Hp) (S' : List (List Nat)), Ex H H' → Tp K H' v (stsD S') → S'.Nodup → (∀ s', s' ∈ S' ↔ ∃ s ∈ S, ledS vs s js = s') → Q v H')) := by
  obtain ⟨fd, F⟩ := T.d_standings_led
  refine rr F sc_d_standings_led len3 (fun _ _ _ _ _ _ us hl => match us, hl with | [_, _, _], _ => rfl) (fun cdv A outer s H vs Q E hr h => ?_)
  have hu64 : (A.deeper (envOfC AN.d_standings_led.qual AN.d_standings_led.scope s.heap.objs.size (AN.d_standings_led.at_ K) cdv)).units + 65 < cLine := hu_of65 hr
  have hu63 : (A.deeper (envOfC AN.d_standings_led.qual AN.d_standings_led.scope s.heap.objs.size (AN.d_standings_led.at_ K) cdv)).units + 64 < cLine := Nat.lt_of_succ_lt hu64
  have hu1 : (A.deeper (envOfC AN.d_standings_led.qual AN.d_standings_led.scope s.heap.objs.size (AN.d_standings_led.at_ K) cdv)).units + 1 < cLine := hu_of hr
  have nd := sc_d_standings_led.nd
  obtain ⟨v, st, r, rfl, L, vs, S, js, hv, ok, hst, hso, h60, hr0, hj, q⟩ := h
  refine ⟨_, PSs.nox (pss_cons (ps_set (i := 3) nd rfl (Or.inr rfl) (pe_makeR T.mk_Together (w_Together_init T).1 (hr.mono (by decide)) (by rfl) T.g_Together pass0 (pa_cons (pv 0) pa_nil))) (pss_cons (ps_expr (pe_methR (pv 3) T.cl_Together T.m_Together_need_reading (w_Together_need_reading T).1 (hr.mono (by decide)) pass0 (pa_cons (pv 2) pa_nil))) (pss_cons (ps_for PassesOwn.never rfl (pi_tup (pv 1)) (pg_name (i := 4) nd rfl (Or.inl rfl)) (pss_one (ps_expr (pe_methR (pv 3) T.cl_Together T.m_Together_need_standing (w_Together_need_standing T).1 (hr.mono (by decide)) pass0 (pa_cons (pv 4) pa_nil))))) (pss_one (ps_ret (pe_callTy call_tuple_of (by rfl) T.f_tuple (by decide +kernel) (pa_cons (pe_callB (cr_sortedT rfl) (by rfl) T.f_sorted (by decide +kernel) (pa_cons (pe_scG (O := fun D => SetTO Pg w D []) (own := [("standing", 4)]) newT_ok (addT_ok hu63) rfl nd (pi_tup (pv 1)) (blkOk_by (own := [("standing", 4)]) (N := N_d_standings_led) (sc := AN.d_standings_led.scope) (by decide +kernel)) (fun _ _ _ _ _ => (pg_name (i := 4) nd rfl (Or.inl rfl))) (fun _ _ _ _ _ => pts_nil) (fun _ _ _ _ _ => (pe_methR (pv 3) T.cl_Together T.m_Together_led_on (w_Together_led_on T).1 (hr.mono (by decide)) pass0 (pa_cons (pv 4) (pa_cons (pv 2) pa_nil))))) pa_nil)) pa_nil))))))), ?_⟩

  obtain ⟨as, xs, rfl, has, ts⟩ := hst.tupE
  have hxl : xs.length = S.length := by rw [ts.length, List.length_map]
  refine ⟨_, rfl, ?_⟩
  refine make_tg hv ok (fun x H1 hx0 e1 tg => ?_)
  have tg0 := tg
  obtain ⟨dx, al, lk, bg, lks, h0, h1, h2, h3, h4⟩ := tg
  refine ⟨_, rfl, x, dx, _, rfl, h0, rfl, _, rfl, _, _, rfl, x, L, vs, js, rfl, tg0, ok, hr0.mono (Nl.ex e1), hj, fun H2 e2 => ?_⟩
  have e12 := e1.trans e2
  have has2 := nl_t (Nl.ex e12) has
  refine ⟨_, rfl, as, rfl, ⟨_, has2⟩, ?_⟩
  refine for_runs (runs_t has2) (fun i σ' H' => Ex H2 H' ∧ ∃ z1, σ' = [some v, some (.ref as), some r, some (.ref x), z1]) (fun i σ' H' p => p.1) ⟨Ex.refl _, _, rfl⟩ ?_ ?_
  · rintro i y σ' H3 H4 hi ⟨e3, z1, rfl⟩ e4 hy
    obtain ⟨d, hd, tx⟩ := ts.got hy
    rw [map_get (f := tI) (by omega) []] at hd
    cases hd
    have e34 := e3.trans e4
    have e24 := e2.trans e34
    refine ⟨_, rfl, x, dx, _, rfl, e24 _ _ h0, rfl, _, rfl, _, _, rfl, x, L, vs, _, rfl, tg0.mono e24, ok, tx.mono (Nl.ex (e1.trans e24)), hso _ (getD_mem (by omega)), fun H5 e5 => ⟨e34.trans e5, _, rfl⟩⟩
  · rintro σ' H3 ⟨e3, z1, rfl⟩
    have e13 := e12.trans e3
    have e23 := e2.trans e3
    have has3 := nl_t (Nl.ex e13) has
    ((try dsimp only); (repeat (first | refine w_lc ?_ | unfold gName | unfold tIfS | unfold tNot | unfold tB | unfold tTest | unfold tRet | unfold tAsg | unfold tSeq | unfold tDrop | unfold tCB | unfold tCons)))
    refine w_sc ?_
    refine ⟨_, rfl, as, rfl, ⟨_, has3⟩, ?_⟩
    refine sc_tup (K := K) (P := Pg) (w := w) (n := xs.length) (runs_t has3) (fun k => ledS vs (S.getD k []) js) (by omega) ?_ ?_
    · intro k u H7 hk7 e8 hu C kk
      refine kk _ _ rfl (Ex.refl _) (fun Q q => q _ (Ex.refl _)) fun H8 e9 Q q => ?_
      obtain ⟨d, hd, tx⟩ := ts.got hu
      rw [map_get (f := tI) (by omega) []] at hd
      cases hd
      have e89 := e8.trans e9
      have e29 := e23.trans e89
      exact ⟨_, rfl, x, dx, _, rfl, e29 _ _ h0, rfl, _, rfl, _, rfl, _, _, _, rfl, x, L, vs, _, js, rfl, tg0.mono e29, ok, tx.mono (Nl.ex (e13.trans e89)), hso _ (getD_mem (by omega)), hr0.mono (Nl.ex (e13.trans e89)), hj, fun v H3 e3 tv => q v H3 e3 tv⟩
    · intro D H7 Ls hD e8 hDS hq hl7 hk7
      unfold tNil
      dsimp only
      show rSortedT K Pg w [V.ref D] H7 _
      refine sortedT_by (d := vs.length) hDS hq hk7 ok.vp (fun i hi => fits ok ((hso _ (getD_mem (by omega))).led ok.wf hj)) fun S' p zs H8 e9 hp hpl tz ndz hz => ?_
      refine ⟨p, _, rfl, .inl ⟨SqL.of hp, fun p2 hp2 => ?_⟩⟩
      have e10 : Ex H8 (upd H8 p2 (.tup zs)) := Evl.Ex.new hp2
      refine q _ _ S' (((e13.trans e8).trans e9).trans e10) (.tup (.inl (.inl upd_same)) (tz.mono (Nl.ex e10))) ndz fun s => ?_
      rw [hz, hxl]
      exact ex_mem (f := fun s => ledS vs s js)
end
end AN
end

-- ANw15
section
set_option Elab.async false
set_option linter.all false
set_option maxRecDepth 100000
set_option maxHeartbeats 4000000
namespace AN
open PySem PySem.Spec PyProof.Rows L2 StX
open Evl (Ex)

/-- slices and sums of tuples -/
theorem cat_any {K : PySem.W.Frag} {H : Hp} {a b : Addr} {xs ys : List V} {Q : VK} (ha : SqT K H a xs) (hb : SqT K H b ys) (hl : xs.length + ys.length ≤ 1000) (q : ∀ p H', Ex H H' → SqT K H' p (xs ++ ys) → Q (.ref p) H') : rCatA K (.ref a) (.ref b) H Q := by
  refine ⟨a, b, xs, ys, rfl, rfl, ha, hb, by rw [sizeLine_eq]; omega, fun e => ?_, fun _ e => ?_, fun _ _ p hp => q p _ (Evl.Ex.new hp) (.inl (.inl upd_same))⟩
  · subst e
    exact q b H (Ex.refl H) hb
  · subst e
    refine q a H (Ex.refl H) ?_
    rw [List.append_nil]
    exact ha
theorem slA_any {K : PySem.W.Frag} {H : Hp} {a : Addr} {xs ys : List V} {lo hi : Option Int} {Q : VK} (ha : SqT K H a xs) (hw : HT.sIx xs.length 0 lo = 0 ∧ HT.sIx xs.length xs.length hi = xs.length → ys = xs) (hc : cutV xs lo hi = ys) (q : ∀ p H', Ex H H' → SqT K H' p ys → Q (.ref p) H') : rSlA K (.ref a) lo hi H Q := by
  refine ⟨a, xs, rfl, ha, fun e => ?_, fun _ p hp => q p _ (Evl.Ex.new hp) (.inl (.inl (by rw [upd_same, hc])))⟩
  refine q a H (Ex.refl H) ?_
  rw [hw e]
  exact ha
theorem sl_take {K : PySem.W.Frag} {H : Hp} {a : Addr} {xs : List V} {i : Nat} {Q : VK} (ha : SqT K H a xs) (q : ∀ p H', Ex H H' → SqT K H' p (xs.take i) → Q (.ref p) H') : rSlA K (.ref a) none (some (i : Int)) H Q := by
  refine slA_any ha (fun e => ?_) ?_ q
  · have := e.2
    rw [HT.sIx_nat] at this
    exact List.take_of_length_le (by omega)
  · unfold cutV
    rw [HT.sIx_none, HT.sIx_nat, List.drop_zero, Nat.sub_zero, ← List.take_eq_take_min]
theorem sl_drop {K : PySem.W.Frag} {H : Hp} {a : Addr} {xs : List V} {i : Nat} {Q : VK} (ha : SqT K H a xs) (q : ∀ p H', Ex H H' → SqT K H' p (xs.drop i) → Q (.ref p) H') : rSlA K (.ref a) (some (i : Int)) none H Q := by
  refine slA_any ha (fun e => ?_) ?_ q
  · have := e.1
    rw [HT.sIx_nat] at this
    rcases Nat.eq_zero_or_pos xs.length with h | h
    · rw [List.length_eq_zero_iff.mp h]; simp
    · have : i = 0 := by omega
      rw [this, List.drop_zero]
  · unfold cutV
    rw [HT.sIx_none, HT.sIx_nat]
    rcases Nat.le_total i xs.length with h | h
    · rw [Nat.min_eq_left h]
      exact List.take_of_length_le (by rw [List.length_drop]; omega)
    · rw [Nat.min_eq_right h, List.drop_eq_nil_of_le (Nat.le_refl _), List.drop_eq_nil_of_le h]
      simp
theorem sl_init {K : PySem.W.Frag} {H : Hp} {a : Addr} {xs : List V} {Q : VK} (ha : SqT K H a xs) (h0 : 0 < xs.length) (q : ∀ p H', Ex H H' → SqT K H' p xs.dropLast → Q (.ref p) H') : rSlA K (.ref a) none (some (-1)) H Q := by
  have e1 : HT.sIx xs.length xs.length (some (-1)) = xs.length - 1 := by
    show (if (-1 : Int) < 0 then ((-1 : Int) + (xs.length : Int)).toNat else min (-1 : Int).toNat xs.length) = _
    rw [if_pos (by decide)]
    omega
  refine slA_any ha (fun e => ?_) ?_ q
  · have := e.2
    rw [e1] at this
    omega
  · unfold cutV
    rw [HT.sIx_none, e1, List.drop_zero, Nat.sub_zero, List.dropLast_eq_take]
theorem map_erase {α β : Type} (f : α → β) (l : List α) (i : Nat) : (l.map f).take i ++ (l.map f).drop (i + 1) = (l.eraseIdx i).map f := by
  rw [List.eraseIdx_eq_take_drop_succ, List.map_append, List.map_take, List.map_drop]
theorem AllP.take {α : Type} {P : α → VP} {H : Hp} : ∀ {as : List α} {vs : List V} (n : Nat), AllP P H as vs → AllP P H (as.take n) (vs.take n)
  | _, _, 0, _ => by simp [AllP]
  | [], [], _ + 1, _ => trivial
  | _ :: _, _ :: _, n + 1, ⟨h, t⟩ => ⟨h, AllP.take n t⟩
  | [], _ :: _, _ + 1, h => h.elim
  | _ :: _, [], _ + 1, h => h.elim
theorem AllP.drop {α : Type} {P : α → VP} {H : Hp} : ∀ {as : List α} {vs : List V} (n : Nat), AllP P H as vs → AllP P H (as.drop n) (vs.drop n)
  | _, _, 0, h => by simpa using h
  | [], [], _ + 1, _ => trivial
  | _ :: _, _ :: _, n + 1, ⟨_, t⟩ => AllP.drop n t
  | [], _ :: _, _ + 1, h => h.elim
  | _ :: _, [], _ + 1, h => h.elim
theorem AllP.append {α : Type} {P : α → VP} {H : Hp} : ∀ {as bs : List α} {vs ws : List V}, AllP P H as vs → AllP P H bs ws → AllP P H (as ++ bs) (vs ++ ws)
  | [], _, [], _, _, t => t
  | _ :: _, _, _ :: _, _, ⟨h, r⟩, t => ⟨h, AllP.append r t⟩
  | [], _, _ :: _, _, h, _ => h.elim
  | _ :: _, _, [], _, h, _ => h.elim
/-- the new knowledge -/
abbrev KnV (K : PySem.W.Frag) (L : List PySem.Str) (vs : List Rows) (M : List Nat → Prop) : VP := fun v H => ∃ x S, v = .ref x ∧ KnI K H x L vs S ∧ Kok L vs S ∧ ∀ s, s ∈ S ↔ M s
section
variable {w : World} {K : PySem.W.Frag} {mg : PySem.Str → Option Value} {base : Heap} (T : Kit K mg)
include T
theorem w_standings_ledL : GF Pg w K mg base 6 (AN.d_standings_led.at_ K) (sp3 (fun v st r H Q => ∃ (L : List PySem.Str) (vs : List Rows) (S : List (List Nat)) (js : List Nat), Vt K H v L vs ∧ Vok L vs ∧ (∃ a xs, st = .ref a ∧ H a = some (.lst xs) ∧ TpA K H xs (S.map tI)) ∧ (∀ s ∈ S, StOk vs s) ∧ S.length < 60 ∧ Tp K H r (tS (rdg L js)) ∧ (∀ j ∈ js, j < L.length) ∧ ∀ (v : V) (H' : Hp) (S' : List (List Nat)), Ex H H' → Tp K H' v (stsD S') → S'.Nodup → (∀ s', s' ∈ S' ↔ ∃ s ∈ S, ledS vs s js = s') → Q v H')) := by
  obtain ⟨fd, F⟩ := T.d_standings_led
  refine rr F sc_d_standings_led len3 (fun _ _ _ _ _ _ us hl => match us, hl with | [_, _, _], _ => rfl) (fun cdv A outer s H vs Q E hr h => ?_)
  have hu64 : (A.deeper (envOfC AN.d_standings_led.qual AN.d_standings_led.scope s.heap.objs.size (AN.d_standings_led.at_ K) cdv)).units + 65 < cLine := hu_of65 hr
  have hu63 : (A.deeper (envOfC AN.d_standings_led.qual AN.d_standings_led.scope s.heap.objs.size (AN.d_standings_led.at_ K) cdv)).units + 64 < cLine := Nat.lt_of_succ_lt hu64
  have hu1 : (A.deeper (envOfC AN.d_standings_led.qual AN.d_standings_led.scope s.heap.objs.size (AN.d_standings_led.at_ K) cdv)).units + 1 < cLine := hu_of hr
  have nd := sc_d_standings_led.nd
  obtain ⟨v, st, r, rfl, L, vs, S, js, hv, ok, hst, hso, h60, hr0, hj, q⟩ := h
  refine ⟨_, PSs.nox (pss_cons (ps_set (i := 3) nd rfl (Or.inr rfl) (pe_makeR T.mk_Together (w_Together_init T).1 (hr.mono (by decide)) (by rfl) T.g_Together pass0 (pa_cons (pv 0) pa_nil))) (pss_cons (ps_expr (pe_methR (pv 3) T.cl_Together T.m_Together_need_reading (w_Together_need_reading T).1 (hr.mono (by decide)) pass0 (pa_cons (pv 2) pa_nil))) (pss_cons (ps_for PassesOwn.never rfl (pi_list (pv 1)) (pg_name (i := 4) nd rfl (Or.inl rfl)) (pss_one (ps_expr (pe_methR (pv 3) T.cl_Together T.m_Together_need_standing (w_Together_need_standing T).1 (hr.mono (by decide)) pass0 (pa_cons (pv 4) pa_nil))))) (pss_one (ps_ret (pe_callTy call_tuple_of (by rfl) T.f_tuple (by decide +kernel) (pa_cons (pe_callB (cr_sortedT rfl) (by rfl) T.f_sorted (by decide +kernel) (pa_cons (pe_scG (O := fun D => SetTO Pg w D []) (own := [("standing", 4)]) newT_ok (addT_ok hu63) rfl nd (pi_list (pv 1)) (blkOk_by (own := [("standing", 4)]) (N := N_d_standings_led) (sc := AN.d_standings_led.scope) (by decide +kernel)) (fun _ _ _ _ _ => (pg_name (i := 4) nd rfl (Or.inl rfl))) (fun _ _ _ _ _ => pts_nil) (fun _ _ _ _ _ => (pe_methR (pv 3) T.cl_Together T.m_Together_led_on (w_Together_led_on T).1 (hr.mono (by decide)) pass0 (pa_cons (pv 4) (pa_cons (pv 2) pa_nil))))) pa_nil)) pa_nil))))))), ?_⟩

  obtain ⟨as, xs, rfl, has, ts⟩ := hst
  have hxl : xs.length = S.length := by rw [ts.length, List.length_map]
  refine ⟨_, rfl, ?_⟩
  refine make_tg hv ok (fun x H1 hx0 e1 tg => ?_)
  have tg0 := tg
  obtain ⟨dx, al, lk, bg, lks, h0, h1, h2, h3, h4⟩ := tg
  refine ⟨_, rfl, x, dx, _, rfl, h0, rfl, _, rfl, _, _, rfl, x, L, vs, js, rfl, tg0, ok, hr0.mono (Nl.ex e1), hj, fun H2 e2 => ?_⟩
  have e12 := e1.trans e2
  have has2 := e12 _ _ has
  refine ⟨_, rfl, as, rfl, ⟨_, SqL.of has2⟩, ?_⟩
  refine for_runs (runs_l (SqL.of has2)) (fun i σ' H' => Ex H2 H' ∧ ∃ z1, σ' = [some v, some (.ref as), some r, some (.ref x), z1]) (fun i σ' H' p => p.1) ⟨Ex.refl _, _, rfl⟩ ?_ ?_
  · rintro i y σ' H3 H4 hi ⟨e3, z1, rfl⟩ e4 hy
    obtain ⟨d, hd, tx⟩ := ts.got hy
    rw [map_get (f := tI) (by omega) []] at hd
    cases hd
    have e34 := e3.trans e4
    have e24 := e2.trans e34
    refine ⟨_, rfl, x, dx, _, rfl, e24 _ _ h0, rfl, _, rfl, _, _, rfl, x, L, vs, _, rfl, tg0.mono e24, ok, tx.mono (Nl.ex (e1.trans e24)), hso _ (getD_mem (by omega)), fun H5 e5 => ⟨e34.trans e5, _, rfl⟩⟩
  · rintro σ' H3 ⟨e3, z1, rfl⟩
    have e13 := e12.trans e3
    have e23 := e2.trans e3
    have has3 := e13 _ _ has
    ((try dsimp only); (repeat (first | refine w_lc ?_ | unfold gName | unfold tIfS | unfold tNot | unfold tB | unfold tTest | unfold tRet | unfold tAsg | unfold tSeq | unfold tDrop | unfold tCB | unfold tCons)))
    refine w_sc ?_
    refine ⟨_, rfl, as, rfl, ⟨_, SqL.of has3⟩, ?_⟩
    refine sc_tup (K := K) (P := Pg) (w := w) (n := xs.length) (runs_l (SqL.of has3)) (fun k => ledS vs (S.getD k []) js) (by omega) ?_ ?_
    · intro k u H7 hk7 e8 hu C kk
      refine kk _ _ rfl (Ex.refl _) (fun Q q => q _ (Ex.refl _)) fun H8 e9 Q q => ?_
      obtain ⟨d, hd, tx⟩ := ts.got hu
      rw [map_get (f := tI) (by omega) []] at hd
      cases hd
      have e89 := e8.trans e9
      have e29 := e23.trans e89
      exact ⟨_, rfl, x, dx, _, rfl, e29 _ _ h0, rfl, _, rfl, _, rfl, _, _, _, rfl, x, L, vs, _, js, rfl, tg0.mono e29, ok, tx.mono (Nl.ex (e13.trans e89)), hso _ (getD_mem (by omega)), hr0.mono (Nl.ex (e13.trans e89)), hj, fun v H3 e3 tv => q v H3 e3 tv⟩
    · intro D H7 Ls hD e8 hDS hq hl7 hk7
      unfold tNil
      dsimp only
      show rSortedT K Pg w [V.ref D] H7 _
      refine sortedT_by (d := vs.length) hDS hq hk7 ok.vp (fun i hi => fits ok ((hso _ (getD_mem (by omega))).led ok.wf hj)) fun S' p zs H8 e9 hp hpl tz ndz hz => ?_
      refine ⟨p, _, rfl, .inl ⟨SqL.of hp, fun p2 hp2 => ?_⟩⟩
      have e10 : Ex H8 (upd H8 p2 (.tup zs)) := Evl.Ex.new hp2
      refine q _ _ S' (((e13.trans e8).trans e9).trans e10) (.tup (.inl (.inl upd_same)) (tz.mono (Nl.ex e10))) ndz fun s => ?_
      rw [hz, hxl]
      exact ex_mem (f := fun s => ledS vs s js)
end
abbrev N_d_Knowledge_after : List PySem.Str := ["self", "letters"]
theorem sc_d_Knowledge_after : FnScope N_d_Knowledge_after ["self", "letters"] AN.d_Knowledge_after.scope := ⟨rfl, rfl, rfl, by decide +kernel, rfl, by decide +kernel, by decide +kernel⟩
section
variable {w : World} {K : PySem.W.Frag} {mg : PySem.Str → Option Value} {base : Heap} (T : Kit K mg)
include T
theorem w_Knowledge_after : GF Pg w K mg base 7 (AN.d_Knowledge_after.at_ K) (fun vs H Q _ => ∃ (x : Addr) (L : List PySem.Str) (ms : List Rows) (S : List (List Nat)) (js : List Nat), vs = .ref x :: ((rdg L js).map .str) ∧ KnI K H x L ms S ∧ Kok L ms S ∧ js.length ≤ 100 ∧ (∀ j ∈ js, j < L.length) ∧ Ret H (KnV K L ms fun s' => ∃ s ∈ S, ledS ms s js = s') Q) := by
  obtain ⟨fd, F⟩ := T.d_Knowledge_after
  refine GF.imp (rrS (sp := sp2 (fun self t H Q => ∃ (x a : Addr) (L : List PySem.Str) (vs : List Rows) (S : List (List Nat)) (js : List Nat), self = .ref x ∧ KnI K H x L vs S ∧ Kok L vs S ∧ t = .ref a ∧ SqT K H a ((rdg L js).map .str) ∧ (∀ j ∈ js, j < L.length) ∧ Ret H (KnV K L vs fun s' => ∃ s ∈ S, ledS vs s js = s') Q)) (ps := ["self"]) F sc_d_Knowledge_after (fun kV doc pm an cdv ct => bind_star1 (B := fun us => bindArgs (PySem.W.fnOf AN.d_Knowledge_after.name AN.d_Knowledge_after.qual AN.d_Knowledge_after.params AN.d_Knowledge_after.body AN.d_Knowledge_after.scope .none kV doc pm an cdv ct) ⟨us, []⟩) (fun _ => rfl) (fun _ _ _ => rfl)) (fun cdv A outer s H vs Q E hr h => ?_)) ?_
  rotate_left

  · rintro vs H Q E ⟨x, L, ms, S, js, rfl, hk, kok, hl, hj, q⟩
    refine ⟨[.ref x], _, rfl, rfl, by rw [List.length_map, List.length_map, sizeLine_eq]; omega, fun p hp => ⟨_, _, rfl, x, p, L, ms, S, js, rfl, hk.mono (Nl.ex (Evl.Ex.new hp)), kok, rfl, .inl (.inl upd_same), hj, fun v H' e h => q v H' ((Evl.Ex.new hp).trans e) h⟩⟩
  have hu64 : (A.deeper (envOfC AN.d_Knowledge_after.qual AN.d_Knowledge_after.scope s.heap.objs.size (AN.d_Knowledge_after.at_ K) cdv)).units + 65 < cLine := hu_of65 hr
  have hu63 : (A.deeper (envOfC AN.d_Knowledge_after.qual AN.d_Knowledge_after.scope s.heap.objs.size (AN.d_Knowledge_after.at_ K) cdv)).units + 64 < cLine := Nat.lt_of_succ_lt hu64
  have hu1 : (A.deeper (envOfC AN.d_Knowledge_after.qual AN.d_Knowledge_after.scope s.heap.objs.size (AN.d_Knowledge_after.at_ K) cdv)).units + 1 < cLine := hu_of hr
  obtain ⟨fdV, FV, GV⟩ := ok_Knowledge_versions (P := Pg) (w := w) (base := base) T
  have bV : Binds K fdV ["self"] [] := FV.bindsN (fun _ _ _ _ _ _ us hl => match us, hl with | [_], _ => rfl)
  obtain ⟨fdS, FS, GS⟩ := ok_Knowledge_standings (P := Pg) (w := w) (base := base) T
  have bS : Binds K fdS ["self"] [] := FS.bindsN (fun _ _ _ _ _ _ us hl => match us, hl with | [_], _ => rfl)
  have nd := sc_d_Knowledge_after.nd
  obtain ⟨self, t, rfl, x, a, L, vs, S, js, rfl, hk, kok, rfl, hs, hj, q⟩ := h
  refine ⟨_, PSs.nox (pss_one (ps_ret (pe_makeR T.mk_Knowledge (w_Knowledge_init T).1 (hr.mono (by decide)) (by rfl) T.g_Knowledge pass0 (pa_cons (pe_prop (pv 0) T.cl_Knowledge T.p_versions GV (hr.mono (by decide)) bV .nil pass0 rfl) (pa_cons (pe_gf (w_standings_led T) (hr.mono (by decide)) (by rfl) T.g_standings_led pass0 (pa_cons (pe_prop (pv 0) T.cl_Knowledge T.p_versions GV (hr.mono (by decide)) bV .nil pass0 rfl) (pa_cons (pe_prop (pv 0) T.cl_Knowledge T.p_standings GS (hr.mono (by decide)) bS .nil pass0 rfl) (pa_cons (pv 1) pa_nil)))) pa_nil))))), ?_⟩

  have hk0 := hk
  obtain ⟨dx, kv, v, s0, h0, h1, h2, h3⟩ := hk
  refine ⟨_, rfl, x, dx, _, rfl, h0, _, rfl, x, L, vs, S, rfl, hk0, fun vv hvv => ?_⟩
  refine ⟨_, rfl, x, dx, _, rfl, h0, _, rfl, x, L, vs, S, rfl, hk0, fun vv2 hvv2 => ?_⟩
  refine ⟨_, rfl, x, dx, _, rfl, h0, _, rfl, x, L, vs, S, rfl, hk0, fun sv hsv => ?_⟩
  refine ⟨_, rfl, _, _, _, rfl, L, vs, S, js, hvv2, kok.toVok, hsv, kok.st, kok.few, of_tS hs, hj, fun sv2 H1 S' e1 hS' nd' hm => ?_⟩
  have hne : S' ≠ [] := fun e => by
    obtain ⟨s1, hs1⟩ := List.exists_mem_of_ne_nil _ kok.ne
    have := (hm _).mpr ⟨s1, hs1, rfl⟩
    rw [e] at this
    exact List.not_mem_nil this
  have hre : ∀ s ∈ S', Reach L.length vs s := fun s h => by
    obtain ⟨s1, hs1, rfl⟩ := (hm s).mp h
    exact (kok.re s1 hs1).led hj
  have h60 := few_states kok.wf kok.vl nd' fun s h => (hre s h).ok kok.wf
  refine make_kn (hvv.mono (Nl.ex e1)) kok.toVok hS' hne hre (by omega) (fun y H2 S2 hy e2 kn kok2 hS2 => ?_)
  exact q _ H2 (e1.trans e2) ⟨y, S2, rfl, kn, kok2, fun s => (hS2 s).trans (hm s)⟩
end
abbrev N_d_Knowledge_call : List PySem.Str := ["self", "letter"]
theorem sc_d_Knowledge_call : FnScope N_d_Knowledge_call ["self", "letter"] AN.d_Knowledge_call.scope := ⟨rfl, rfl, rfl, by decide +kernel, rfl, by decide +kernel, by decide +kernel⟩
section
variable {w : World} {K : PySem.W.Frag} {mg : PySem.Str → Option Value} {base : Heap} (T : Kit K mg)
include T
theorem w_Knowledge_call : GF Pg w K mg base 8 (AN.d_Knowledge_call.at_ K) (sp2 (fun self le H Q => ∃ (x : Addr) (L : List PySem.Str) (vs : List Rows) (S : List (List Nat)) (j : Nat) (c : PySem.Str), self = .ref x ∧ KnI K H x L vs S ∧ Kok L vs S ∧ le = .str c ∧ L[j]? = some c ∧ Ret H (KnV K L vs fun s' => ∃ s ∈ S, ledS vs s [j] = s') Q)) := by
  obtain ⟨fd, F⟩ := T.d_Knowledge_call
  refine rr F sc_d_Knowledge_call len2 (fun _ _ _ _ _ _ us hl => match us, hl with | [_, _], _ => rfl) (fun cdv A outer s H vs Q E hr h => ?_)
  have hu64 : (A.deeper (envOfC AN.d_Knowledge_call.qual AN.d_Knowledge_call.scope s.heap.objs.size (AN.d_Knowledge_call.at_ K) cdv)).units + 65 < cLine := hu_of65 hr
  have hu63 : (A.deeper (envOfC AN.d_Knowledge_call.qual AN.d_Knowledge_call.scope s.heap.objs.size (AN.d_Knowledge_call.at_ K) cdv)).units + 64 < cLine := Nat.lt_of_succ_lt hu64
  have hu1 : (A.deeper (envOfC AN.d_Knowledge_call.qual AN.d_Knowledge_call.scope s.heap.objs.size (AN.d_Knowledge_call.at_ K) cdv)).units + 1 < cLine := hu_of hr
  have nd := sc_d_Knowledge_call.nd
  obtain ⟨self, le, rfl, x, L, vs, S, j, c, rfl, hk, kok, rfl, hj, q⟩ := h
  refine ⟨_, PSs.nox (pss_one (ps_ret (pe_methR (pv 0) T.cl_Knowledge T.m_Knowledge_after (w_Knowledge_after T).1 (hr.mono (by decide)) pass0 (pa_cons (pv 1) pa_nil)))), ?_⟩

  have hk0 := hk
  obtain ⟨dx, kv, v, s0, h0, h1, h2, h3⟩ := hk
  have hjl := (List.getElem?_eq_some_iff.mp hj).1
  refine ⟨_, rfl, x, dx, _, rfl, h0, rfl, _, rfl, x, L, vs, S, [j], ?_, hk0, kok, by simp, by simpa using hjl, fun v H' e h => q v H' e h⟩
  rw [rdg, List.map_singleton, getD_at hj]
  rfl
end
abbrev N_d_Knowledge_allows : List PySem.Str := ["self", "past"]
theorem sc_d_Knowledge_allows : FnScope N_d_Knowledge_allows ["self", "past"] AN.d_Knowledge_allows.scope := ⟨rfl, rfl, rfl, by decide +kernel, rfl, by decide +kernel, by decide +kernel⟩
section
variable {w : World} {K : PySem.W.Frag} {mg : PySem.Str → Option Value} {base : Heap} (T : Kit K mg)
include T
theorem w_Knowledge_allows : GF Pg w K mg base 7 (AN.d_Knowledge_allows.at_ K) (sp2 (fun self r H Q => ∃ (x : Addr) (L : List PySem.Str) (vs : List Rows) (S : List (List Nat)) (js : List Nat), self = .ref x ∧ KnI K H x L vs S ∧ Kok L vs S ∧ Tp K H r (tS (rdg L js)) ∧ (∀ j ∈ js, j < L.length) ∧ ∀ H', Ex H H' → Q (.bl (decide (ledS vs (zeroS vs) js ∈ S))) H')) := by
  obtain ⟨fd, F⟩ := T.d_Knowledge_allows
  refine rr F sc_d_Knowledge_allows len2 (fun _ _ _ _ _ _ us hl => match us, hl with | [_, _], _ => rfl) (fun cdv A outer s H vs Q E hr h => ?_)
  have hu64 : (A.deeper (envOfC AN.d_Knowledge_allows.qual AN.d_Knowledge_allows.scope s.heap.objs.size (AN.d_Knowledge_allows.at_ K) cdv)).units + 65 < cLine := hu_of65 hr
  have hu63 : (A.deeper (envOfC AN.d_Knowledge_allows.qual AN.d_Knowledge_allows.scope s.heap.objs.size (AN.d_Knowledge_allows.at_ K) cdv)).units + 64 < cLine := Nat.lt_of_succ_lt hu64
  have hu1 : (A.deeper (envOfC AN.d_Knowledge_allows.qual AN.d_Knowledge_allows.scope s.heap.objs.size (AN.d_Knowledge_allows.at_ K) cdv)).units + 1 < cLine := hu_of hr
  obtain ⟨fdV, FV, GV⟩ := ok_Knowledge_versions (P := Pg) (w := w) (base := base) T
  have bV : Binds K fdV ["self"] [] := FV.bindsN (fun _ _ _ _ _ _ us hl => match us, hl with | [_], _ => rfl)
  obtain ⟨fdS, FS, GS⟩ := ok_Knowledge_standings (P := Pg) (w := w) (base := base) T
  have bS : Binds K fdS ["self"] [] := FS.bindsN (fun _ _ _ _ _ _ us hl => match us, hl with | [_], _ => rfl)
  have nd := sc_d_Knowledge_allows.nd
  obtain ⟨self, r, rfl, x, L, vs, S, js, rfl, hk, kok, hr0, hj, q⟩ := h
  refine ⟨_, PSs.nox (pss_one (ps_ret (pe_cmpR (op_inTD hu64) (pe_gf (w_standing_after T) (hr.mono (by decide)) (by rfl) T.g_standing_after pass0 (pa_cons (pe_prop (pv 0) T.cl_Knowledge T.p_versions GV (hr.mono (by decide)) bV .nil pass0 rfl) (pa_cons (pv 1) pa_nil))) (pe_prop (pv 0) T.cl_Knowledge T.p_standings GS (hr.mono (by decide)) bS .nil pass0 rfl) rfl))), ?_⟩

  have hk0 := hk
  obtain ⟨dx, kv, v, s0, h0, h1, h2, h3⟩ := hk
  refine ⟨_, rfl, x, dx, _, rfl, h0, _, rfl, x, L, vs, S, rfl, hk0, fun vv hvv => ?_⟩
  refine ⟨_, rfl, _, _, rfl, L, vs, js, hvv, kok.toVok, hr0, hj, fun v1 H1 e1 hv1 => ?_⟩
  refine ⟨_, rfl, x, dx, _, rfl, e1 _ _ h0, _, rfl, x, L, vs, S, rfl, hk0.mono (Nl.ex e1), fun sv hsv => ?_⟩
  refine ⟨_, _, hv1.dp, hsv.dp, tI_shaped _, stsD_shaped _, ?_⟩
  rw [if_neg (by decide), any_tI]
  exact q _ e1
end
end AN
end

-- ANw16
section
set_option Elab.async false
set_option linter.all false
set_option maxRecDepth 100000
set_option maxHeartbeats 4000000
namespace AN
open PySem PySem.Spec PyProof.Rows L2 StX
open Evl (Ex)

theorem eqv_nil {S : List (List Nat)} : PyData.eqv (.list (S.map tI)) (.list []) = decide (S = []) := by
  rw [PyData.eqv]
  cases S with
  | nil => simp [PyData.eqvAll]
  | cons a S => simp [PyData.eqvAll]
theorem filt_map {α : Type} {d : α} {f : α → Bool} : ∀ {l : List α}, ((List.range l.length).filter fun k => f (l.getD k d)).map (fun k => l.getD k d) = l.filter f := by
  intro l
  have h : (List.range l.length).map (fun k => l.getD k d) = l := by
    have := range_map_get l (fun x => x) d
    simpa using this
  have h2 : l.filter f = ((List.range l.length).map fun k => l.getD k d).filter f := by rw [h]
  rw [h2, List.filter_map]
  rfl
theorem Vok.more {L : List PySem.Str} {vs : List Rows} (ok : Vok L vs) {R : Rows} (h : vs.length ≤ 2) (w : Wf L.length R) : Vok L (vs ++ [R]) where
  nd := ok.nd
  le := ok.le
  lp := ok.lp
  sok := ok.sok
  wf := fun r hr => by
    rcases List.mem_append.mp hr with h | h
    · exact ok.wf r h
    · rw [List.mem_singleton] at h
      rw [h]
      exact w
  vp := by rw [List.length_append, List.length_singleton]; omega
  vl := by rw [List.length_append, List.length_singleton]; omega
theorem Vok.less {L : List PySem.Str} {vs : List Rows} (ok : Vok L vs) {i : Nat} (hi : i < vs.length) (h : 2 ≤ vs.length) : Vok L (vs.eraseIdx i) where
  nd := ok.nd
  le := ok.le
  lp := ok.lp
  sok := ok.sok
  wf := fun r hr => ok.wf r (List.mem_of_mem_eraseIdx hr)
  vp := by rw [List.length_eraseIdx_of_lt hi]; omega
  vl := by have := ok.vl; rw [List.length_eraseIdx_of_lt hi]; omega
theorem dropLast_map {α β : Type} (f : α → β) (l : List α) : (l.map f).dropLast = l.dropLast.map f := by
  rw [List.dropLast_eq_take, List.dropLast_eq_take, List.length_map, List.map_take]

abbrev N_d_Knowledge_extended : List PySem.Str := ["self", "machine", "tail", "versions", "ends", "found", "standing"]
theorem sc_d_Knowledge_extended : FnScope N_d_Knowledge_extended ["self", "machine", "tail"] AN.d_Knowledge_extended.scope := ⟨rfl, rfl, rfl, by decide +kernel, rfl, by decide +kernel, by decide +kernel⟩
section
variable {w : World} {K : PySem.W.Frag} {mg : PySem.Str → Option Value} {base : Heap} (T : Kit K mg)
include T
theorem w_Knowledge_extended : GF Pg w K mg base 7 (AN.d_Knowledge_extended.at_ K) (fun vs H Q E => sp3 (fun self m tl H Q => ∃ (x t : Addr) (L : List PySem.Str) (vs : List Rows) (S : List (List Nat)) (R : Rows), self = .ref x ∧ KnI K H x L vs S ∧ Kok L vs S ∧ vs.length ≤ 2 ∧ Mt K H m L R ∧ Wf L.length R ∧ tl = .ref t ∧ (∀ H, SqT K H t []) ∧ Ret H (KnV K L (vs ++ [R]) fun s => Reach L.length (vs ++ [R]) s ∧ s.dropLast ∈ S) Q) (vs ++ [V.ref (kwAt (fun K => He.ma K (He.ga K "Knowledge") "extended") "tail" K)]) H Q E) := by
  obtain ⟨fd, F⟩ := T.d_Knowledge_extended
  obtain ⟨ds, hv, hbd⟩ := FunD.binds0 (ps := ["self", "machine", "tail"]) F 2 (List.cons_ne_nil _ _) rfl (fun _ _ _ _ _ _ us ks h1 h2 => match us, ks, h1, h2 with | [_, _], [_], _, _ => ⟨_, _, _, _, _, _, rfl, rfl, rfl⟩)
  refine ⟨FnOk.raw (dvs := [V.ref (kwAt (fun K => He.ma K (He.ga K "Knowledge") "extended") "tail" K)]) (F.ok sc_d_Knowledge_extended len3 (fun cdv A outer s H vs Q E hr h => ?_)) hbd hv, F.kp⟩
  have hu64 : (A.deeper (envOfC AN.d_Knowledge_extended.qual AN.d_Knowledge_extended.scope s.heap.objs.size (AN.d_Knowledge_extended.at_ K) cdv)).units + 65 < cLine := hu_of65 hr
  have hu63 : (A.deeper (envOfC AN.d_Knowledge_extended.qual AN.d_Knowledge_extended.scope s.heap.objs.size (AN.d_Knowledge_extended.at_ K) cdv)).units + 64 < cLine := Nat.lt_of_succ_lt hu64
  have hu1 : (A.deeper (envOfC AN.d_Knowledge_extended.qual AN.d_Knowledge_extended.scope s.heap.objs.size (AN.d_Knowledge_extended.at_ K) cdv)).units + 1 < cLine := hu_of hr
  obtain ⟨fdV, FV, GV⟩ := ok_Knowledge_versions (P := Pg) (w := w) (base := base) T
  have bV : Binds K fdV ["self"] [] := FV.bindsN (fun _ _ _ _ _ _ us hl => match us, hl with | [_], _ => rfl)
  obtain ⟨fdS, FS, GS⟩ := ok_Knowledge_standings (P := Pg) (w := w) (base := base) T
  have bS : Binds K fdS ["self"] [] := FS.bindsN (fun _ _ _ _ _ _ us hl => match us, hl with | [_], _ => rfl)
  have nd := sc_d_Knowledge_extended.nd
  obtain ⟨self, m, tl, hvs, x, t, L, vs, S, R, rfl, hk, kok, hv2, hm, wR, rfl, ht, q⟩ := h
  refine ⟨_, PSs.nox (pss_cons (ps_expr (pe_gf (w_require_letters T) (hr.mono (by decide)) (by rfl) T.g_require_letters pass0 (pa_cons (pe_ix ix_tup (pe_ix ix_tup (pe_prop (pv 0) T.cl_Knowledge T.p_versions GV (hr.mono (by decide)) bV .nil pass0 rfl) pe_int (fun _ _ => rfl)) pe_int (fun _ _ => rfl)) (pa_cons (pv 2) pa_nil)))) (pss_cons (ps_expr (pe_gf (w_require_known T) (hr.mono (by decide)) (by rfl) T.g_require_known pass0 (pa_cons (pe_cmpR (op_eqD hu63) (pe_ix ix_tup (pv 1) pe_int (fun _ _ => rfl)) (pe_ix ix_tup (pe_ix ix_tup (pe_prop (pv 0) T.cl_Knowledge T.p_versions GV (hr.mono (by decide)) bV .nil pass0 rfl) pe_int (fun _ _ => rfl)) pe_int (fun _ _ => rfl)) (nomark _)) (pa_cons pe_str (pa_cons (pe_callB call_len_seq (by rfl) T.f_len (by decide +kernel) (pa_cons (pe_prop (pv 0) T.cl_Knowledge T.p_versions GV (hr.mono (by decide)) bV .nil pass0 rfl) pa_nil)) pa_nil))))) (pss_cons (ps_set (i := 3) nd rfl (Or.inl rfl) (pe_op op_catA (pe_prop (pv 0) T.cl_Knowledge T.p_versions GV (hr.mono (by decide)) bV .nil pass0 rfl) (pe_tup (pa_cons (pv 1) pa_nil)))) (pss_cons (ps_set (i := 4) nd rfl (Or.inl rfl) (pe_gf (w_standings_ledL T) (hr.mono (by decide)) (by rfl) T.g_standings_led pass0 (pa_cons (pv 3) (pa_cons (pe_gf (w_all_reached T) (hr.mono (by decide)) (by rfl) T.g_all_reached pass0 (pa_cons (pv 3) pa_nil)) (pa_cons (pv 2) pa_nil))))) (pss_cons (ps_setLc (i := 5) (own := [("standing", 6)]) rfl nd rfl rfl (sw_true rfl rfl rfl (by decide +kernel)) (pi_tup (pv 4)) (blkOk_by (own := [("standing", 6)]) (N := N_d_Knowledge_extended) (sc := AN.d_Knowledge_extended.scope) (by decide +kernel)) (fun _ _ _ _ _ => (pg_name (i := 6) nd rfl (Or.inl rfl))) (fun _ _ _ _ _ => (pts_one (pt_cmpR (r := rInTD K false) (op_inTD hu64) (pe_slice (r := rSlA K) sl_tupA (pv 6) po_none (po_some (pe_un un_neg pe_int))) (pe_prop (pv 0) T.cl_Knowledge T.p_standings GS (hr.mono (by decide)) bS .nil pass0 rfl) rfl))) (fun _ _ _ _ _ => (pv 6))) (pss_cons (ps_expr (pe_gf (w_require_known T) (hr.mono (by decide)) (by rfl) T.g_require_known pass0 (pa_cons (pe_cmpR (op_neD hu63) (pv 5) (pe_lst pa_nil) (nomark _)) (pa_cons pe_str (pa_cons (pe_un un_neg pe_int) pa_nil))))) (pss_one (ps_ret (pe_makeR T.mk_Knowledge (w_Knowledge_init T).1 (hr.mono (by decide)) (by rfl) T.g_Knowledge pass0 (pa_cons (pv 3) (pa_cons (pe_callTy call_tuple_of (by rfl) T.f_tuple (by decide +kernel) (pa_cons (pv 5) pa_nil)) pa_nil))))))))))), ?_⟩

  subst hvs
  have hk0 := hk
  obtain ⟨dx, kv, v, s0, h0, h1, h2, h3⟩ := hk
  have ok := kok.toVok
  have ok2 := ok.more hv2 wR
  refine ⟨_, rfl, x, dx, _, rfl, h0, _, rfl, x, L, vs, S, rfl, hk0, fun v1 hv1 => ?_⟩
  obtain ⟨a1, xs1, rfl, ha1, hl1, hg1⟩ := hv1.get
  obtain ⟨m1, hm1, am1, al1, ar1, rfl, g4, g5, g6⟩ := hg1 0 ok.vp
  refine ⟨_, _, _, _, rfl, rfl, ha1, atI_nat (j := 0) hm1, _, _, _, _, rfl, rfl, g4, atI_nat (j := 0) rfl, _, rfl, ?_⟩
  refine ⟨_, L, [.ref t], rfl, of_tS g5.sq, by have := ok.le; omega, by simp, fun r' hr2 => ?_, fun H1 e1 => ?_⟩
  · have : r' = .ref t := by simpa using hr2
    subst this
    exact ⟨[], of_tS (l := []) (ht _), fun x hx => absurd hx List.not_mem_nil⟩
  obtain ⟨ma, mal, mr, rfl, q4, q5, q6⟩ := hm.mono (Nl.ex e1)
  refine ⟨_, rfl, _, _, _, _, rfl, rfl, q4, atI_nat (j := 0) rfl, ?_⟩
  refine ⟨_, rfl, x, dx, _, rfl, e1 _ _ h0, _, rfl, x, L, vs, S, rfl, hk0.mono (Nl.ex e1), fun v2 hv2' => ?_⟩
  obtain ⟨a2, xs2, rfl, ha2, hl2, hg2⟩ := hv2'.get
  obtain ⟨m2, hm2, am2, al2, ar2, rfl, k4, k5, k6⟩ := hg2 0 ok.vp
  refine ⟨_, _, _, _, rfl, rfl, ha2, atI_nat (j := 0) hm2, _, _, _, _, rfl, rfl, k4, atI_nat (j := 0) rfl, ?_⟩
  refine ⟨_, _, (of_tS q5.sq).dp, (of_tS k5.sq).dp, tS_shaped ok.sok, tS_shaped ok.sok, ?_⟩
  rw [eqv_tS, decide_eq_true rfl]
  refine ⟨_, rfl, x, dx, _, rfl, e1 _ _ h0, _, rfl, x, L, vs, S, rfl, hk0.mono (Nl.ex e1), fun v3 hv3 => ?_⟩
  obtain ⟨a3, xs3, rfl, ha3, _, _⟩ := hv3.get
  refine ⟨_, _, rfl, .inr ha3, _, _, _, rfl, rfl, ?_⟩
  refine ⟨_, rfl, x, dx, _, rfl, e1 _ _ h0, _, rfl, x, L, vs, S, rfl, hk0.mono (Nl.ex e1), fun v4 hv4 => ?_⟩
  obtain ⟨a4, xs4, rfl, ha4, hall4⟩ := hv4
  refine ⟨_, rfl, sz1, fun p hp => ?_⟩
  have e2 : Ex H1 (upd H1 p (.tup [.ref ma])) := Evl.Ex.new hp
  have hl4 := hall4.length
  refine cat_any (nl_t (Nl.ex e2) ha4) (.inl (.inl upd_same)) (by rw [List.length_singleton]; omega) fun p5 H5 e5 hs5 => ?_
  have e15 := e2.trans e5
  have hv5 : Vt K H5 (.ref p5) L (vs ++ [R]) := ⟨p5, _, rfl, hs5, (hall4.mono fun R v h => h.mono (Nl.ex e15)).append ⟨(show Mt K H1 (.ref ma) L R from ⟨ma, mal, mr, rfl, q4, q5, q6⟩).mono (Nl.ex e15), trivial⟩⟩
  have e05 := e1.trans e15
  refine ⟨_, rfl, _, rfl, _, rfl, L, vs ++ [R], hv5, ok2, fun l H6 ys S6 e6 hl6 tS6 nd6 hS6 => ?_⟩
  have h276 := few_states ok2.wf ok2.vl nd6 fun s hs => ((hS6 s).mp hs).ok ok2.wf
  refine ⟨_, rfl, _, _, _, rfl, L, vs ++ [R], S6, [], hv5.mono (Nl.ex e6), ok2, ⟨l, ys, rfl, hl6, tS6⟩, fun s hs => ((hS6 s).mp hs).ok ok2.wf, by omega, of_tS (l := []) (ht _), fun j hj => absurd hj List.not_mem_nil, fun v7 H7 S7 e7 hv7 nd7 hS7 => ?_⟩
  have hS7' : ∀ s, s ∈ S7 ↔ Reach L.length (vs ++ [R]) s := fun s => by
    rw [hS7]
    constructor
    · rintro ⟨s1, hs1, rfl⟩
      exact (hS6 s1).mp hs1
    · intro h
      exact ⟨s, (hS6 s).mpr h, rfl⟩
  have h277 := few_states ok2.wf ok2.vl nd7 fun s hs => ((hS7' s).mp hs).ok ok2.wf
  have e07 := (e05.trans e6).trans e7
  obtain ⟨a7, xs7, rfl, ha7, t7⟩ := hv7.tupE
  have hx7 : xs7.length = S7.length := by rw [t7.length, List.length_map]
  ((try dsimp only); (repeat (first | refine w_lc ?_ | unfold gName | unfold tIfS | unfold tNot | unfold tB | unfold tTest | unfold tRet | unfold tAsg | unfold tSeq | unfold tDrop | unfold tCB | unfold tCons)))
  refine ⟨_, rfl, a7, rfl, ⟨_, ha7⟩, ?_⟩
  refine lc_pure (n := xs7.length) (runs_t ha7) (fun k => decide ((S7.getD k []).dropLast ∈ S)) (fun k v H => Tp K H v (tI (S7.getD k []))) (by omega) (fun _ _ _ _ e h => h.mono e) ?_ ?_
  · intro k u H8 hk8 e8 hu C kk
    obtain ⟨d, hd, tx⟩ := t7.got hu
    rw [map_get (f := tI) (by omega) []] at hd
    cases hd
    refine kk _ _ rfl (Ex.refl _) (fun Q q => ?_) (fun _ H9 e9 Q q => ⟨_, rfl, q _ _ (Ex.refl _) (tx.mono (Nl.ex (e8.trans e9)))⟩)
    obtain ⟨ax, rfl, hax⟩ := tI_of (tx.mono (Nl.ex e8))
    have so := ((hS7' _).mp (getD_mem (d := []) (show k < S7.length by omega))).ok ok2.wf
    refine ⟨_, rfl, ?_⟩
    refine ⟨1, rfl, -1, rfl, ?_⟩
    refine sl_init hax (by rw [List.length_map, so.1, List.length_append, List.length_singleton]; omega) fun p9 H9 e9 hs9 => ?_
    rw [dropLast_map] at hs9
    have e79 := e07.trans (e8.trans e9)
    refine ⟨_, rfl, x, dx, _, rfl, e79 _ _ h0, _, rfl, x, L, vs, S, rfl, hk0.mono (Nl.ex e79), fun sv hsv => ?_⟩
    refine ⟨_, _, (of_tI hs9).dp, hsv.dp, tI_shaped _, stsD_shaped _, ?_⟩
    rw [if_neg (by decide), any_tI]
    exact ⟨_, rfl, q _ e9⟩
  · intro D H8 xs8 hD8 e8 hD8' hall8
    have hnE : ((List.range xs7.length).filter fun k => decide ((S7.getD k []).dropLast ∈ S)).map (fun k => S7.getD k []) = S7.filter fun (s : List Nat) => decide (s.dropLast ∈ S) := by
      rw [hx7]
      exact filt_map (f := fun (s : List Nat) => decide (s.dropLast ∈ S))
    have t8 : TpA K H8 xs8 ((S7.filter fun (s : List Nat) => decide (s.dropLast ∈ S)).map tI) := by
      have := AllP.tp (f := fun k => tI (S7.getD k [])) hall8
      rw [← hnE, List.map_map]
      exact this
    have hmem9 : ∀ s, s ∈ (S7.filter fun (s : List Nat) => decide (s.dropLast ∈ S)) ↔ Reach L.length (vs ++ [R]) s ∧ s.dropLast ∈ S := fun s => by
      rw [List.mem_filter, hS7', decide_eq_true_eq]
    have hne9 : (S7.filter fun (s : List Nat) => decide (s.dropLast ∈ S)) ≠ [] := fun e => by
      obtain ⟨s1, hs1⟩ := List.exists_mem_of_ne_nil _ kok.ne
      obtain ⟨t1, ht1⟩ := (kok.re s1 hs1).up R
      have := (hmem9 (s1 ++ [t1])).mpr ⟨ht1, by rw [List.dropLast_concat]; exact hs1⟩
      rw [e] at this
      exact List.not_mem_nil this
    have hfl := List.length_filter_le (fun (s : List Nat) => decide (s.dropLast ∈ S)) S7
    generalize (S7.filter fun (s : List Nat) => decide (s.dropLast ∈ S)) = S9 at t8 hmem9 hne9 hfl
    refine ⟨_, rfl, Nat.zero_le _, fun l9 hl9 => ?_⟩
    have e9 : Ex H8 (upd H8 l9 (.lst [])) := Evl.Ex.new hl9
    refine ⟨_, _, .lst (SqL.of (e9 _ _ hD8')) (TpA.dp (t8.mono (Nl.ex e9))), .lst (SqL.of upd_same) .nil, stsL_shaped _, by decide +kernel, ?_⟩
    rw [eqv_nil, decide_eq_false hne9]
    refine ⟨_, rfl, _, _, _, rfl, rfl, ?_⟩
    refine ⟨_, rfl, _, rfl, D, _, rfl, .inl ⟨SqL.of (e9 _ _ hD8'), fun p10 hp10 => ?_⟩⟩
    have e10 := e9.trans (Evl.Ex.new (o := .tup xs8) hp10)
    have e710 := e7.trans (e8.trans e10)
    have e610 := e6.trans e710
    refine make_kn (hv5.mono (Nl.ex e610)) ok2 (.tup (.inl (.inl upd_same)) (t8.mono (Nl.ex e10))) hne9 (fun s hs => ((hmem9 s).mp hs).1) (by omega) (fun y H11 S2 hy e11 kn kok2 hS2 => ?_)
    exact q _ H11 ((e05.trans e610).trans e11) ⟨y, S2, rfl, kn, kok2, fun s => (hS2 s).trans (hmem9 s)⟩
end
abbrev N_d_Knowledge_forgotten : List PySem.Str := ["self", "i", "rest", "standing"]
theorem sc_d_Knowledge_forgotten : FnScope N_d_Knowledge_forgotten ["self", "i"] AN.d_Knowledge_forgotten.scope := ⟨rfl, rfl, rfl, by decide +kernel, rfl, by decide +kernel, by decide +kernel⟩
section
variable {w : World} {K : PySem.W.Frag} {mg : PySem.Str → Option Value} {base : Heap} (T : Kit K mg)
include T
theorem w_Knowledge_forgotten : GF Pg w K mg base 6 (AN.d_Knowledge_forgotten.at_ K) (sp2 (fun self i H Q => ∃ (x : Addr) (L : List PySem.Str) (vs : List Rows) (S : List (List Nat)) (n : Nat), self = .ref x ∧ KnI K H x L vs S ∧ Kok L vs S ∧ i = .int (n : Int) ∧ n < vs.length ∧ 2 ≤ vs.length ∧ Ret H (KnV K L (vs.eraseIdx n) fun s' => ∃ s ∈ S, s.eraseIdx n = s') Q)) := by
  obtain ⟨fd, F⟩ := T.d_Knowledge_forgotten
  refine rr F sc_d_Knowledge_forgotten len2 (fun _ _ _ _ _ _ us hl => match us, hl with | [_, _], _ => rfl) (fun cdv A outer s H vs Q E hr h => ?_)
  have hu64 : (A.deeper (envOfC AN.d_Knowledge_forgotten.qual AN.d_Knowledge_forgotten.scope s.heap.objs.size (AN.d_Knowledge_forgotten.at_ K) cdv)).units + 65 < cLine := hu_of65 hr
  have hu63 : (A.deeper (envOfC AN.d_Knowledge_forgotten.qual AN.d_Knowledge_forgotten.scope s.heap.objs.size (AN.d_Knowledge_forgotten.at_ K) cdv)).units + 64 < cLine := Nat.lt_of_succ_lt hu64
  have hu1 : (A.deeper (envOfC AN.d_Knowledge_forgotten.qual AN.d_Knowledge_forgotten.scope s.heap.objs.size (AN.d_Knowledge_forgotten.at_ K) cdv)).units + 1 < cLine := hu_of hr
  obtain ⟨fdV, FV, GV⟩ := ok_Knowledge_versions (P := Pg) (w := w) (base := base) T
  have bV : Binds K fdV ["self"] [] := FV.bindsN (fun _ _ _ _ _ _ us hl => match us, hl with | [_], _ => rfl)
  obtain ⟨fdS, FS, GS⟩ := ok_Knowledge_standings (P := Pg) (w := w) (base := base) T
  have bS : Binds K fdS ["self"] [] := FS.bindsN (fun _ _ _ _ _ _ us hl => match us, hl with | [_], _ => rfl)
  have nd := sc_d_Knowledge_forgotten.nd
  obtain ⟨self, i, rfl, x, L, vs, S, n, rfl, hk, kok, rfl, hn, hv2, q⟩ := h
  refine ⟨_, PSs.nox (pss_cons (ps_expr (pe_methR (pv 0) T.cl_Knowledge T.m_Knowledge_need_version (w_Knowledge_need_version T).1 (hr.mono (by decide)) pass0 (pa_cons (pv 1) pa_nil))) (pss_cons (ps_expr (pe_gf (w_require_known T) (hr.mono (by decide)) (by rfl) T.g_require_known pass0 (pa_cons (pe_cmpR op_gt (pe_callB call_len_seq (by rfl) T.f_len (by decide +kernel) (pa_cons (pe_prop (pv 0) T.cl_Knowledge T.p_versions GV (hr.mono (by decide)) bV .nil pass0 rfl) pa_nil)) pe_int (nomark _)) (pa_cons pe_str (pa_cons (pe_un un_neg pe_int) pa_nil))))) (pss_cons (ps_set (i := 2) nd rfl (Or.inl rfl) (pe_callTy call_tuple_of (by rfl) T.f_tuple (by decide +kernel) (pa_cons (pe_lc (own := [("standing", 3)]) rfl nd (pi_tup (pe_prop (pv 0) T.cl_Knowledge T.p_standings GS (hr.mono (by decide)) bS .nil pass0 rfl)) (blkOk_by (own := [("standing", 3)]) (N := N_d_Knowledge_forgotten) (sc := AN.d_Knowledge_forgotten.scope) (by decide +kernel)) (fun _ _ _ _ _ => (pg_name (i := 3) nd rfl (Or.inl rfl))) (fun _ _ _ _ _ => pts_nil) (fun _ _ _ _ _ => (pe_op (r := rCatA K) op_catA (pe_slice (r := rSlA K) sl_tupA (pv 3) po_none (po_some (pv 1))) (pe_slice (r := rSlA K) sl_tupA (pv 3) (po_some (pe_op op_add (pv 1) pe_int)) po_none)))) pa_nil))) (pss_one (ps_ret (pe_makeR T.mk_Knowledge (w_Knowledge_init T).1 (hr.mono (by decide)) (by rfl) T.g_Knowledge pass0 (pa_cons (pe_op op_catA (pe_slice sl_tupA (pe_prop (pv 0) T.cl_Knowledge T.p_versions GV (hr.mono (by decide)) bV .nil pass0 rfl) po_none (po_some (pv 1))) (pe_slice sl_tupA (pe_prop (pv 0) T.cl_Knowledge T.p_versions GV (hr.mono (by decide)) bV .nil pass0 rfl) (po_some (pe_op op_add (pv 1) pe_int)) po_none)) (pa_cons (pv 2) pa_nil)))))))), ?_⟩

  have hk0 := hk
  obtain ⟨dx, kv, v, s0, h0, h1, h2, h3⟩ := hk
  have ok := kok.toVok
  have ok2 := ok.less hn hv2
  have hv3 := ok.vl
  refine ⟨_, rfl, x, dx, _, rfl, h0, rfl, _, rfl, _, _, rfl, x, L, vs, S, n, rfl, hk0, rfl, hn, ?_⟩
  refine ⟨_, rfl, x, dx, _, rfl, h0, _, rfl, x, L, vs, S, rfl, hk0, fun v1 hv1 => ?_⟩
  obtain ⟨a1, xs1, rfl, ha1, hl1, hg1⟩ := hv1.get
  refine ⟨_, _, rfl, .inr ha1, _, _, rfl, rfl, _, rfl, _, _, _, rfl, ?_, ?_⟩
  · show V.bl (decide _) = _
    rw [decide_eq_true (by omega)]
  ((try dsimp only); (repeat (first | refine w_lc ?_ | unfold gName | unfold tIfS | unfold tNot | unfold tB | unfold tTest | unfold tRet | unfold tAsg | unfold tSeq | unfold tDrop | unfold tCB | unfold tCons)))
  refine ⟨_, rfl, x, dx, _, rfl, h0, _, rfl, x, L, vs, S, rfl, hk0, fun sv hsv => ?_⟩
  obtain ⟨a2, xs2, rfl, ha2, t2⟩ := hsv.tupE
  have hx2 : xs2.length = S.length := by rw [t2.length, List.length_map]
  have few := kok.few
  refine ⟨a2, rfl, ⟨_, ha2⟩, ?_⟩
  refine lc_pure (n := xs2.length) (runs_t ha2) (fun _ => true) (fun k v H => Tp K H v (tI ((S.getD k []).eraseIdx n))) (by omega) (fun _ _ _ _ e h => h.mono e) ?_ ?_
  · intro k u H7 hk7 e8 hu C kk
    obtain ⟨d, hd, tx⟩ := t2.got hu
    rw [map_get (f := tI) (by omega) []] at hd
    cases hd
    refine kk _ _ rfl (Ex.refl _) (fun Q q => q _ (Ex.refl _)) (fun _ H9 e9 Q q => ?_)
    obtain ⟨ax, rfl, hax⟩ := tI_of (tx.mono (Nl.ex (e8.trans e9)))
    have so := kok.st _ (getD_mem (d := []) (show k < S.length by omega))
    refine ⟨_, rfl, _, rfl, _, rfl, ?_⟩
    refine sl_take hax fun p1 H10 e10 hs10 => ?_
    refine ⟨_, rfl, _, rfl, _, _, rfl, rfl, _, rfl, ?_⟩
    unfold tNoPart
    dsimp only
    rw [show ((n : Int) + 1) = ((n + 1 : Nat) : Int) from rfl]
    refine sl_drop (i := n + 1) (nl_t (Nl.ex e10) hax) fun p2 H11 e11 hs11 => ?_
    refine cat_any (nl_t (Nl.ex e11) hs10) hs11 (by rw [List.length_take, List.length_drop, List.length_map, so.1]; omega) fun p3 H12 e12 hs12 => ?_
    rw [map_erase] at hs12
    exact q _ _ ((e10.trans e11).trans e12) (of_tI hs12)
  · intro D H8 xs8 hD8 e8 hD8' hall8
    have t8 : TpA K H8 xs8 ((S.map fun (s : List Nat) => s.eraseIdx n).map tI) := by
      have := allP_tp hall8
      rw [hx2, range_map_get S (fun (s : List Nat) => tI (s.eraseIdx n)) []] at this
      rw [List.map_map]
      exact this
    refine ⟨D, _, rfl, .inl ⟨SqL.of hD8', fun p9 hp9 => ?_⟩⟩
    have e9 : Ex H8 (upd H8 p9 (.tup xs8)) := Evl.Ex.new hp9
    have e89 := e8.trans e9
    refine ⟨_, rfl, x, dx, _, rfl, e89 _ _ h0, _, rfl, x, L, vs, S, rfl, hk0.mono (Nl.ex e89), fun v3 hv3' => ?_⟩
    obtain ⟨a3, xs3, rfl, ha3, hall3⟩ := hv3'
    have hl3 := hall3.length
    refine ⟨_, rfl, _, rfl, ?_⟩
    refine sl_take ha3 fun p1 H10 e10 hs10 => ?_
    have e810 := e89.trans e10
    refine ⟨_, rfl, x, dx, _, rfl, e810 _ _ h0, _, rfl, x, L, vs, S, rfl, hk0.mono (Nl.ex e810), fun v4 hv4' => ?_⟩
    obtain ⟨a4, xs4, rfl, ha4, hall4⟩ := hv4'
    have hl4 := hall4.length
    refine ⟨_, rfl, _, _, rfl, rfl, _, rfl, ?_⟩
    unfold tNoPart
    dsimp only
    rw [show ((n : Int) + 1) = ((n + 1 : Nat) : Int) from rfl]
    refine sl_drop (i := n + 1) ha4 fun p2 H11 e11 hs11 => ?_
    refine cat_any (nl_t (Nl.ex e11) hs10) hs11 (by rw [List.length_take, List.length_drop]; omega) fun p3 H12 e12 hs12 => ?_
    have e012 := ((e9.trans e10).trans e11).trans e12
    have hv12 : Vt K H12 (.ref p3) L (vs.eraseIdx n) := by
      refine ⟨p3, _, rfl, hs12, ?_⟩
      rw [List.eraseIdx_eq_take_drop_succ]
      exact ((hall3.take n).mono fun R v h => h.mono (Nl.ex ((e10.trans e11).trans e12))).append ((hall4.drop (n + 1)).mono fun R v h => h.mono (Nl.ex (e11.trans e12)))
    refine ⟨_, rfl, ?_⟩
    refine make_kn hv12 ok2 (.tup (.inl (.inl (((e10.trans e11).trans e12) _ _ upd_same))) (t8.mono (Nl.ex e012))) ?_ ?_ (by rw [List.length_map]; exact few) (fun y H13 S2 hy e13 kn kok2 hS2 => ?_)
    · intro e
      exact kok.ne (List.map_eq_nil_iff.mp e)
    · intro s hs
      obtain ⟨s1, h1, rfl⟩ := List.mem_map.mp hs
      exact (kok.re s1 h1).erase hn
    · exact q _ H13 ((e8.trans e012).trans e13) ⟨y, S2, rfl, kn, kok2, fun s => by rw [hS2, List.mem_map]⟩
end
end AN
end

-- ANw17
section
set_option Elab.async false
set_option linter.all false
set_option maxRecDepth 100000
set_option maxHeartbeats 4000000
namespace AN
open PySem PySem.Spec PyProof.Rows L2 StX
open Evl (Ex)

/-- all but the list at a is kept -/
def Sx (a : Addr) (H H' : Hp) : Prop := Xb (fun b => b = a) H H' ∧ Nl H H'
theorem Sx.refl (a : Addr) (H : Hp) : Sx a H H := ⟨fun _ _ _ h => h, Nl.refl H⟩
theorem Sx.trans {a : Addr} {H H1 H2 : Hp} (x : Sx a H H1) (y : Sx a H1 H2) : Sx a H H2 := ⟨x.1.trans y.1, x.2.trans y.2⟩
theorem Sx.ex {a : Addr} {H H' : Hp} (e : Ex H H') : Sx a H H' := ⟨Xb.ex e, Nl.ex e⟩
theorem Sx.upd {a : Addr} {H : Hp} {xs ys : List V} (h : H a = some (.lst xs)) : Sx a H (upd H a (.lst ys)) := ⟨fun b o n hb => (upd_ne n).trans hb, Nl.lst h⟩
theorem Sx.get {a b : Addr} {H H' : Hp} (x : Sx a H H') (n : b ≠ a) {o : HO} (h : H b = some o) : H' b = some o := x.1 b o n h
/-- the source of draws: at most N turns taken -/
def Src (H : Hp) (a l : Addr) (N : Nat) : Prop := ∃ (ns : List Int) (at_ pd tn : Nat), l ≠ a ∧ tn ≤ N ∧ H a = some (.lst [.ref l, .int (at_ : Int), .int (pd : Int), .int (tn : Int)]) ∧ H l = some (.lst (ns.map V.int)) ∧ ns.length ≤ 63
theorem Src.up {H : Hp} {a p : Addr} {N M : Nat} (h : Src H a p N) (l : N ≤ M) : Src H a p M := by
  obtain ⟨ns, a1, a2, a3, h1, h2, h3⟩ := h
  exact ⟨ns, a1, a2, a3, h1, by omega, h3⟩
theorem Src.ex {H H' : Hp} {a p : Addr} {N : Nat} (e : Ex H H') (h : Src H a p N) : Src H' a p N := by
  obtain ⟨ns, a1, a2, a3, h1, h2, h3, h4, h5⟩ := h
  exact ⟨ns, a1, a2, a3, h1, h2, e _ _ h3, e _ _ h4, h5⟩
theorem lay_intsZ : ∀ l : List Int, PyData.canLayAll0 (l.map PyData.int) = true
  | [] => by simp [PyData.canLayAll0]
  | x :: l => by simp [PyData.canLayAll0, PyData.canLay0, lay_intsZ l]
theorem dep_intsZ : ∀ l : List Int, PyData.depthAll (l.map PyData.int) ≤ 1
  | [] => by simp [PyData.depthAll]
  | x :: l => by
    have := dep_intsZ l
    simp only [List.map_cons, PyData.depthAll, PyData.depth]
    omega
theorem intsZ_shaped (l : List Int) : SeqAt.shaped (.list (l.map PyData.int)) = true := shaped_of (by simp only [PyData.canLay0]; exact lay_intsZ l) (by have := dep_intsZ l; simp only [PyData.depth]; omega)
theorem dpZ {K : PySem.W.Frag} {H : Hp} : ∀ l : List Int, DpAll K H (l.map V.int) (l.map PyData.int)
  | [] => .nil
  | x :: l => .cons (.int x) (dpZ l)
theorem eqvZ_nil {l : List Int} : PyData.eqv (.list (l.map PyData.int)) (.list []) = decide (l = []) := by
  rw [PyData.eqv]
  cases l with
  | nil => simp [PyData.eqvAll]
  | cons a l => simp [PyData.eqvAll]
theorem nil_shaped : SeqAt.shaped (.list []) = true := by decide +kernel
theorem fmodN {i : Int} {b : Nat} (h : 0 < b) : ∃ d : Nat, d < b ∧ i.fmod (b : Int) = (d : Int) := by
  have h1 : 0 ≤ i.fmod (b : Int) := Int.fmod_nonneg_of_pos i (by omega)
  have h2 : i.fmod (b : Int) < (b : Int) := Int.fmod_lt_of_pos i (by omega)
  exact ⟨(i.fmod (b : Int)).toNat, by omega, by omega⟩
theorem fdivN {n b : Nat} : ((n : Int).fdiv (b : Int)) = ((n / b : Nat) : Int) := by
  rw [Int.fdiv_eq_ediv_of_nonneg _ (by omega)]
  rfl
theorem cont_of {te : TE} {σ : L2.St} {H : Hp} {Q : VK} (P : V → Hp → Prop) (h1 : ∀ Q' : VK, (∀ v H', P v H' → Q' v H') → te σ H Q') (h2 : ∀ v H', P v H' → Q v H') : te σ H Q := h1 Q h2
theorem cont_ofT {tt : TT} {σ : L2.St} {H : Hp} {Q : Bool → Hp → Prop} (P : Bool → Hp → Prop) (h1 : ∀ Q' : Bool → Hp → Prop, (∀ v H', P v H' → Q' v H') → tt σ H Q') (h2 : ∀ v H', P v H' → Q v H') : tt σ H Q := h1 Q h2
theorem w_si {c : TT} {t u r : TS} {D : Ends} {σ : L2.St} {H : Hp} (h : c σ H fun b H1 => if b = true then t { D with nx := r D } σ H1 else u { D with nx := r D } σ H1) : tSeq (tIfS c t u) r D σ H := h
theorem ixN0 {n j : Nat} (h : j < n) : ixN n (j : Int) = some j := Evl.ixN_nat h

abbrev N_d_law_draw : List PySem.Str := ["_law_source_here", "_law_bound", "_law_turn", "_law_digit", "_law_at", "_law_cell", "_law_mixed"]
theorem sc_d_law_draw : FnScope N_d_law_draw ["_law_source_here", "_law_bound"] AN.d_law_draw.scope := ⟨rfl, rfl, rfl, by decide +kernel, rfl, by decide +kernel, by decide +kernel⟩
section
variable {P : Program} {w : World} {K : PySem.W.Frag} {mg : PySem.Str → Option Value} {base : Heap} (T : Kit K mg)
include T
theorem w_law_draw : GF P w K mg base 1 (AN.d_law_draw.at_ K) (sp2 (fun s b H Q => ∃ (a l : Addr) (N n : Nat), s = .ref a ∧ Src H a l N ∧ N < 1000000000 ∧ b = .int (n : Int) ∧ 0 < n ∧ n < 1000 ∧ ∀ (d : Nat) (H' : Hp), d < n → Sx a H H' → Src H' a l (N + 1) → Q (.int (d : Int)) H')) := by
  obtain ⟨fd, F⟩ := T.d_law_draw
  refine rr F sc_d_law_draw len2 (fun _ _ _ _ _ _ us hl => match us, hl with | [_, _], _ => rfl) (fun cdv A outer s H vs Q E hr h => ?_)
  have hu64 : (A.deeper (envOfC AN.d_law_draw.qual AN.d_law_draw.scope s.heap.objs.size (AN.d_law_draw.at_ K) cdv)).units + 65 < cLine := hu_of65 hr
  have hu63 : (A.deeper (envOfC AN.d_law_draw.qual AN.d_law_draw.scope s.heap.objs.size (AN.d_law_draw.at_ K) cdv)).units + 64 < cLine := Nat.lt_of_succ_lt hu64
  have hu1 : (A.deeper (envOfC AN.d_law_draw.qual AN.d_law_draw.scope s.heap.objs.size (AN.d_law_draw.at_ K) cdv)).units + 1 < cLine := hu_of hr
  have nd := sc_d_law_draw.nd
  obtain ⟨s0, b, rfl, a, l, N, n, rfl, hsrc, hN, rfl, hn, hn1, q⟩ := h
  refine ⟨_, PSs.nox (pss_cons (ps_set (i := 2) nd rfl (Or.inl rfl) (pe_op op_add (pe_ix ix_list (pv 0) pe_int (fun _ _ => rfl)) pe_int)) (pss_cons (ps_asg (pv 2) (pg_sub (pv 0) pe_int set_list)) (pss_cons (ps_if (pt_cmpR op_gt (pe_ix ix_list (pv 0) pe_int (fun _ _ => rfl)) pe_int (nomark _)) (pss_cons (ps_set (i := 3) nd rfl (Or.inl rfl) (pe_op op_modN (pe_callTy call_int1 (by rfl) T.f_int (by decide +kernel) (pa_cons (pe_ix ix_list (pv 0) pe_int (fun _ _ => rfl)) pa_nil)) (pv 1))) (pss_cons (ps_asg (pe_op op_fdivN (pe_ix ix_list (pv 0) pe_int (fun _ _ => rfl)) (pv 1)) (pg_sub (pv 0) pe_int set_list)) (pss_one (ps_ret (pv 3))))) pss_nil) (pss_cons (ps_set (i := 4) nd rfl (Or.inl rfl) (pe_ix ix_list (pv 0) pe_int (fun _ _ => rfl))) (pss_cons (ps_asg (pe_op op_add (pv 4) pe_int) (pg_sub (pv 0) pe_int set_list)) (pss_cons (ps_set (i := 5) nd rfl (Or.inl rfl) (pe_ifExp (pt_cmpR (op_neD hu63) (pe_ix ix_list (pv 0) pe_int (fun _ _ => rfl)) (pe_lst pa_nil) (nomark _)) (pe_ix ix_list (pe_ix ix_list (pv 0) pe_int (fun _ _ => rfl)) (pe_op op_modN (pe_callTy call_int1 (by rfl) T.f_int (by decide +kernel) (pa_cons (pv 4) pa_nil)) (pe_callB call_len_seq (by rfl) T.f_len (by decide +kernel) (pa_cons (pe_ix ix_list (pv 0) pe_int (fun _ _ => rfl)) pa_nil))) (fun _ _ => rfl)) pe_int)) (pss_cons (ps_if (PW.pt (pw_and (pt_cmpR op_ge (pv 5) (pe_op op_pow pe_int pe_int) (nomark _)) (pw_and1 (pt_cmpR op_lt (pv 4) (pe_callB call_len_seq (by rfl) T.f_len (by decide +kernel) (pa_cons (pe_ix ix_list (pv 0) pe_int (fun _ _ => rfl)) pa_nil)) (nomark _))))) (pss_cons (ps_asg (pe_op op_fdivN (pv 5) (pv 1)) (pg_sub (pv 0) pe_int set_list)) (pss_one (ps_ret (pe_op op_modN (pe_callTy call_int1 (by rfl) T.f_int (by decide +kernel) (pa_cons (pv 5) pa_nil)) (pv 1))))) pss_nil) (pss_cons (ps_set (i := 6) nd rfl (Or.inl rfl) (pe_op op_modN (pe_callTy call_int1 (by rfl) T.f_int (by decide +kernel) (pa_cons (pe_op op_pow (pe_op op_add (pe_op op_add (pe_op op_modN (pe_callTy call_int1 (by rfl) T.f_int (by decide +kernel) (pa_cons (pv 5) pa_nil)) pe_int) (pe_op op_mul pe_int (pv 2))) pe_int) pe_int) pa_nil)) pe_int)) (pss_one (ps_ret (pe_op op_modN (pe_callTy call_int1 (by rfl) T.f_int (by decide +kernel) (pa_cons (pe_op op_fdivN (pe_op op_modN (pe_callTy call_int1 (by rfl) T.f_int (by decide +kernel) (pa_cons (pe_op op_pow (pe_op op_add (pv 6) (pe_op op_mul pe_int (pv 2))) pe_int) pa_nil)) pe_int) pe_int) pa_nil)) (pv 1)))))))))))), ?_⟩

  obtain ⟨ns, at_, pd, tn, hla, htN, ha, hl, hlen⟩ := hsrc
  refine ⟨_, rfl, a, _, 3, _, rfl, rfl, SqL.of ha, atI_nat (j := 3) rfl, _, _, rfl, rfl, ?_⟩
  refine ⟨_, rfl, _, rfl, a, _, 3, 3, rfl, rfl, ha, rfl, ?_⟩
  have hla' : l ≠ a := hla
  have s1 : Sx a H (upd H a (.lst [.ref l, .int (at_ : Int), .int (pd : Int), .int ((tn + 1 : Nat) : Int)])) := Sx.upd ha
  have ha1 : (upd H a (.lst [.ref l, .int (at_ : Int), .int (pd : Int), .int ((tn + 1 : Nat) : Int)])) a = some (.lst [.ref l, .int (at_ : Int), .int (pd : Int), .int ((tn + 1 : Nat) : Int)]) := upd_same
  have hl1 := s1.get hla hl
  change tSeq _ _ _ _ (upd H a (.lst [.ref l, .int (at_ : Int), .int (pd : Int), .int ((tn + 1 : Nat) : Int)]))
  generalize upd H a (.lst [.ref l, .int (at_ : Int), .int (pd : Int), .int ((tn + 1 : Nat) : Int)]) = H1 at s1 ha1 hl1
  refine ⟨_, rfl, a, _, _, _, rfl, rfl, SqL.of ha1, atI_nat (j := 2) rfl, _, _, rfl, rfl, _, rfl, ?_⟩
  dsimp only
  by_cases hp : 0 < pd
  · rw [if_pos (by rw [decide_eq_true_eq]; omega)]
    obtain ⟨d, hd1, hd2⟩ := fmodN (i := (pd : Int)) hn
    refine ⟨_, rfl, a, _, _, _, rfl, rfl, SqL.of ha1, atI_nat (j := 2) rfl, .inl ⟨_, rfl, ?_⟩⟩
    refine ⟨_, rfl, _, _, rfl, rfl, (by omega), ?_⟩
    refine ⟨_, rfl, a, _, _, _, rfl, rfl, SqL.of ha1, atI_nat (j := 2) rfl, _, rfl, _, _, rfl, rfl, ⟨by omega, by omega⟩, ?_⟩
    refine ⟨_, rfl, a, _, 2, 2, rfl, rfl, ha1, rfl, _, rfl, ?_⟩
    show Q (V.int ((pd : Int).fmod (n : Int))) (upd H1 a (.lst [.ref l, .int (at_ : Int), .int ((pd : Int).fdiv (n : Int)), .int ((tn + 1 : Nat) : Int)]))
    rw [fdivN, hd2]
    exact q d _ hd1 (s1.trans (Sx.upd ha1)) ⟨ns, at_, pd / n, tn + 1, hla, by omega, upd_same, (upd_ne hla).trans hl1, hlen⟩
  · rw [if_neg (by rw [decide_eq_true_eq]; omega)]
    have hp0 : pd = 0 := by omega
    subst hp0
    unfold tNext
    dsimp only
    refine ⟨_, rfl, a, _, _, _, rfl, rfl, SqL.of ha1, atI_nat (j := 1) rfl, ?_⟩
    refine ⟨_, rfl, _, _, rfl, rfl, _, rfl, a, _, 1, 1, rfl, rfl, ha1, rfl, ?_⟩
    have s2 : Sx a H1 (upd H1 a (.lst [.ref l, .int ((at_ + 1 : Nat) : Int), .int ((0 : Nat) : Int), .int ((tn + 1 : Nat) : Int)])) := Sx.upd ha1
    have ha2 : (upd H1 a (.lst [.ref l, .int ((at_ + 1 : Nat) : Int), .int ((0 : Nat) : Int), .int ((tn + 1 : Nat) : Int)])) a = some (.lst [.ref l, .int ((at_ + 1 : Nat) : Int), .int ((0 : Nat) : Int), .int ((tn + 1 : Nat) : Int)]) := upd_same
    have hl2 := s2.get hla hl1
    have s12 := s1.trans s2
    dsimp only
    refine w_sa ?_
    refine cont_of (fun v H3 => ∃ c : Int, v = .int c ∧ Sx a H H3 ∧ H3 a = some (.lst [.ref l, .int ((at_ + 1 : Nat) : Int), .int ((0 : Nat) : Int), .int ((tn + 1 : Nat) : Int)]) ∧ H3 l = some (.lst (ns.map V.int))) (fun Q' q' => ?_) ?_
    · refine ⟨_, rfl, a, _, _, _, rfl, rfl, SqL.of ha2, atI_nat (j := 0) rfl, Nat.zero_le _, fun l0 hl0 => ?_⟩
      have e3 := Evl.Ex.new (o := .lst []) hl0
      have ha3 := e3 _ _ ha2
      have hl3 := e3 _ _ hl2
      refine ⟨_, _, .lst (SqL.of hl3) (dpZ ns), .lst (SqL.of upd_same) .nil, intsZ_shaped ns, nil_shaped, ?_⟩
      rw [eqvZ_nil]
      refine ⟨_, rfl, ?_⟩
      dsimp only
      by_cases hns : ns = []
      · rw [decide_eq_true hns, if_neg (by decide)]
        exact q' _ _ ⟨39, rfl, s12.trans (Sx.ex e3), ha3, hl3⟩
      · rw [decide_eq_false hns, if_pos (by decide)]
        have hpos : 0 < ns.length := List.length_pos_iff.mpr hns
        obtain ⟨k, hk1, hk2⟩ := fmodN (i := (at_ : Int)) hpos
        refine ⟨_, rfl, a, _, _, _, rfl, rfl, SqL.of ha3, atI_nat (j := 0) rfl, ?_⟩
        refine ⟨_, rfl, .inl ⟨_, rfl, ?_⟩⟩
        refine ⟨_, rfl, a, _, _, _, rfl, rfl, SqL.of ha3, atI_nat (j := 0) rfl, ?_⟩
        refine ⟨_, _, rfl, .inl (SqL.of hl3), _, _, rfl, rfl, by rw [List.length_map]; omega, ?_⟩
        show rIxL K (.ref l) (.int ((at_ : Int).fmod ((ns.map V.int).length : Int))) _ _
        rw [List.length_map, hk2]
        exact ⟨l, _, _, _, rfl, rfl, SqL.of hl3, atI_nat (map_get hk1 0), q' _ _ ⟨_, rfl, s12.trans (Sx.ex e3), ha3, hl3⟩⟩
    · rintro v H3 ⟨c, rfl, s13, ha3, hl3⟩
      have qm : ∀ (i : Int) H', Sx a H H' → Src H' a l (N + 1) → Q (.int (i.fmod (n : Int))) H' := fun i H' s h => by
        obtain ⟨d, h1, h2⟩ := fmodN (i := i) hn
        rw [h2]
        exact q d H' h1 s h
      refine w_si ?_
      refine cont_ofT (fun b H4 => H4 = H3 ∧ (b = true → 0 ≤ c)) (fun Q' q' => ?_) ?_
      · refine ⟨_, rfl, _, _, rfl, rfl, ⟨by decide, by decide, by decide⟩, _, _, rfl, rfl, _, rfl, ?_⟩
        show if decide ((10 : Int) ^ (18 : Int).toNat ≤ c) = true then _ else _
        by_cases hc : (10 : Int) ^ (18 : Int).toNat ≤ c
        · rw [if_pos (decide_eq_true hc)]
          have hc0 : 0 ≤ c := Int.le_trans (by decide) hc
          refine ⟨_, rfl, _, rfl, a, _, _, _, rfl, rfl, SqL.of ha3, atI_nat (j := 0) rfl, ?_⟩
          refine ⟨_, _, rfl, .inl (SqL.of hl3), _, _, rfl, rfl, _, rfl, q' _ _ ⟨rfl, fun _ => hc0⟩⟩
        · rw [if_neg (by rw [decide_eq_true_eq]; exact hc)]
          exact q' _ _ ⟨rfl, fun e => by cases e⟩
      · rintro b H4 ⟨rfl, hb⟩
        cases b with
        | true =>
          have hc := hb rfl
          dsimp only
          rw [if_pos rfl]
          refine ⟨_, rfl, _, rfl, _, _, rfl, rfl, ⟨by omega, by omega⟩, ?_⟩
          refine ⟨_, rfl, a, _, 2, 2, rfl, rfl, ha3, rfl, _, rfl, .inl ⟨_, rfl, _, rfl, _, _, rfl, rfl, by omega, ?_⟩⟩
          refine qm _ _ (s13.trans (Sx.upd ha3)) ⟨ns, at_ + 1, c.toNat / n, tn + 1, hla, by omega, ?_, (upd_ne hla).trans hl3, hlen⟩
          rw [upd_same]
          have : c.fdiv (n : Int) = ((c.toNat / n : Nat) : Int) := by
            rw [← fdivN]
            congr 1
            omega
          rw [← this]
          rfl
        | false =>
          dsimp only
          rw [if_neg (by decide)]
          obtain ⟨m1, hm1, hm2⟩ := fmodN (i := c) (b := 1000289) (by decide)
          have hm2 : c.fmod 1000289 = (m1 : Int) := hm2
          refine ⟨_, rfl, .inl ⟨_, rfl, _, _, rfl, rfl, (show (1000289 : Int) ≠ 0 by decide), _, rfl, _, _, rfl, rfl, .inl ⟨by decide, by decide⟩, _, _, rfl, rfl, _, _, rfl, rfl, _, _, rfl, rfl, ⟨by decide, by decide, ?_⟩, .inl ⟨_, rfl, _, _, rfl, rfl, (show (2147483647 : Int) ≠ 0 by decide), ?_⟩⟩⟩
          · show (c.fmod 1000289 + 8699 * ((tn : Int) + 1) + 97).natAbs < 2 ^ 64
            rw [hm2]
            omega
          have g2 : ∀ i : Int, ∃ m : Nat, m < 2147483647 ∧ i.fmod 2147483647 = (m : Int) := fun i => fmodN (i := i) (b := 2147483647) (by decide)
          obtain ⟨m2, hm3, hm4⟩ := g2 ((c.fmod 1000289 + 8699 * ((tn : Int) + 1) + 97) ^ (3 : Int).toNat)
          refine ⟨_, rfl, _, rfl, _, _, rfl, rfl, .inl ⟨by decide, by decide⟩, _, _, rfl, rfl, _, _, rfl, rfl, ⟨by decide, by decide, ?_⟩, .inl ⟨_, rfl, _, _, rfl, rfl, (show (2147483587 : Int) ≠ 0 by decide), _, _, rfl, rfl, ⟨by decide, by decide⟩, .inl ⟨_, rfl, _, rfl, _, _, rfl, rfl, by omega, ?_⟩⟩⟩
          · show (Int.fmod ((c.fmod 1000289 + 8699 * ((tn : Int) + 1) + 97) ^ (3 : Int).toNat) 2147483647 + 70841 * ((tn : Int) + 1)).natAbs < 2 ^ 64
            rw [hm4]
            omega
          exact qm _ _ s13 ⟨ns, at_ + 1, 0, tn + 1, hla, by omega, ha3, hl3, hlen⟩
end
end AN
end

-- ANw18
section
set_option Elab.async false
set_option linter.all false
set_option maxRecDepth 100000
set_option maxHeartbeats 4000000
namespace AN
open PySem PySem.Spec PyProof.Rows L2 StX
open Evl (Ex)

/-- the quiet words that are drawn -/
def hushes : List (List PySem.Str) := [[], [], ["x"], ["yes"], ["x", "yes"], ["no", "x"]]
theorem small_str {x : PySem.Str} (h : x.length < 100) : True := trivial
theorem Sx.fresh {a l : Addr} {H H' : Hp} {xs ys : List V} (x : Sx a H H') (h0 : H l = none) (h1 : H' l = some (.lst xs)) : Sx a H (L2.upd H' l (.lst ys)) :=
  ⟨fun b o n hb => (upd_ne (fun e => by rw [e, h0] at hb; cases hb)).trans (x.1 b o n hb), x.2.trans (Nl.lst h1)⟩
theorem Src.off {H : Hp} {a l p : Addr} {N : Nat} {ys : List V} (h : Src H a p N) (n : l ≠ a) (n2 : l ≠ p) : Src (L2.upd H l (.lst ys)) a p N := by
  obtain ⟨ns, a1, a2, a3, h1, h2, h3, h4, h5⟩ := h
  exact ⟨ns, a1, a2, a3, h1, h2, (upd_ne (Ne.symm n)).trans h3, (upd_ne (Ne.symm n2)).trans h4, h5⟩
theorem TpA.erase {K : PySem.W.Frag} {H : Hp} : ∀ {vs : List V} {ds : List PyData} (i : Nat), TpA K H vs ds → TpA K H (vs.eraseIdx i) (ds.eraseIdx i)
  | _, _, _, .nil => .nil
  | _, _, 0, .cons _ t => t
  | _, _, i + 1, .cons h t => .cons h (TpA.erase i t)
theorem erase_map {α β : Type} (f : α → β) : ∀ (l : List α) (i : Nat), (l.map f).eraseIdx i = (l.eraseIdx i).map f
  | [], _ => rfl
  | _ :: _, 0 => rfl
  | a :: l, i + 1 => by
    show f a :: (l.map f).eraseIdx i = f a :: (l.eraseIdx i).map f
    rw [erase_map f l i]
theorem tpA_perm {K : PySem.W.Frag} {H : Hp} {xs ys : List V} (pm : xs.Perm ys) : ∀ {S : List (List Nat)}, TpA K H xs (S.map tI) → ∃ S' : List (List Nat), S'.Perm S ∧ TpA K H ys (S'.map tI) := by
  induction pm with
  | nil =>
    intro S h
    exact ⟨S, .refl _, h⟩
  | cons x _ ih =>
    intro S h
    match S, h with
    | s :: S, .cons h1 t =>
      obtain ⟨S', p', t'⟩ := ih t
      exact ⟨s :: S', p'.cons s, .cons h1 t'⟩
  | swap x y l =>
    intro S h
    match S, h with
    | s1 :: s2 :: S, .cons h1 (.cons h2 t) => exact ⟨s2 :: s1 :: S, .swap s1 s2 S, .cons h2 (.cons h1 t)⟩
  | trans _ _ ih1 ih2 =>
    intro S h
    obtain ⟨S1, p1, t1⟩ := ih1 h
    obtain ⟨S2, p2, t2⟩ := ih2 t1
    exact ⟨S2, p2.trans p1, t2⟩
theorem Mt.nl {K : PySem.W.Frag} {H H' : Hp} {v : V} {L : List PySem.Str} {R : Rows} (e : Nl H H') (h : Mt K H v L R) : Mt K H' v L R := h.mono e

abbrev N_d_law_source : List PySem.Str := ["_law_script"]
theorem sc_d_law_source : FnScope N_d_law_source ["_law_script"] AN.d_law_source.scope := ⟨rfl, rfl, rfl, by decide +kernel, rfl, by decide +kernel, by decide +kernel⟩
section
variable {P : Program} {w : World} {K : PySem.W.Frag} {mg : PySem.Str → Option Value} {base : Heap} (T : Kit K mg)
include T
theorem w_law_source : GF P w K mg base 1 (AN.d_law_source.at_ K) (sp1 (fun v H Q => ∃ (p : Addr) (ns : List Int), v = .ref p ∧ SqL K H p (ns.map V.int) ∧ ns.length ≤ 63 ∧ ∀ (a l : Addr) (H' : Hp), Ex H H' → H l = none → Src H' a l 0 → Q (.ref a) H')) := by
  obtain ⟨fd, F⟩ := T.d_law_source
  refine rr F sc_d_law_source len1 (fun _ _ _ _ _ _ us hl => match us, hl with | [_], _ => rfl) (fun cdv A outer s H vs Q E hr h => ?_)
  have hu64 : (A.deeper (envOfC AN.d_law_source.qual AN.d_law_source.scope s.heap.objs.size (AN.d_law_source.at_ K) cdv)).units + 65 < cLine := hu_of65 hr
  have hu63 : (A.deeper (envOfC AN.d_law_source.qual AN.d_law_source.scope s.heap.objs.size (AN.d_law_source.at_ K) cdv)).units + 64 < cLine := Nat.lt_of_succ_lt hu64
  have hu1 : (A.deeper (envOfC AN.d_law_source.qual AN.d_law_source.scope s.heap.objs.size (AN.d_law_source.at_ K) cdv)).units + 1 < cLine := hu_of hr
  have nd := sc_d_law_source.nd
  obtain ⟨v, rfl, p, ns, rfl, hs, hl, q⟩ := h
  refine ⟨_, PSs.nox (pss_one (ps_ret (pe_lst (pa_cons (pe_slice sl_list (pv 0) po_none (po_some pe_int)) (pa_cons pe_int (pa_cons pe_int (pa_cons pe_int pa_nil))))))), ?_⟩

  refine ⟨_, rfl, 63, rfl, p, _, rfl, hs, fun p2 hp2 => ?_⟩
  have hc : cutV (ns.map V.int) none (some 63) = ns.map V.int := by
    unfold cutV
    rw [HT.sIx_none, show (63 : Int) = ((63 : Nat) : Int) from rfl, HT.sIx_nat, List.drop_zero, Nat.sub_zero]
    exact List.take_of_length_le (by rw [List.length_map]; omega)
  rw [hc]
  have e1 : Ex H (upd H p2 (.lst (ns.map V.int))) := Evl.Ex.new hp2
  refine ⟨(show 4 ≤ sizeLine by decide), fun a ha => ?_⟩
  have hne : p2 ≠ a := fun e => by rw [e, upd_same] at ha; cases ha
  exact q a p2 _ (e1.trans (Evl.Ex.new ha)) hp2 ⟨ns, 0, 0, 0, hne, Nat.le_refl _, upd_same, (upd_ne hne).trans upd_same, hl⟩
end
abbrev N_d_law_hush : List PySem.Str := ["_law_source_here"]
theorem sc_d_law_hush : FnScope N_d_law_hush ["_law_source_here"] AN.d_law_hush.scope := ⟨rfl, rfl, rfl, by decide +kernel, rfl, by decide +kernel, by decide +kernel⟩
section
variable {P : Program} {w : World} {K : PySem.W.Frag} {mg : PySem.Str → Option Value} {base : Heap} (T : Kit K mg)
include T
theorem w_law_hush : GF P w K mg base 2 (AN.d_law_hush.at_ K) (sp1 (fun s H Q => ∃ (a l : Addr) (N : Nat), s = .ref a ∧ Src H a l N ∧ N < 100000000 ∧ ∀ (v : V) (H' : Hp) (qs : List PySem.Str), qs ∈ hushes → Tp K H' v (tS qs) → Sx a H H' → Src H' a l (N + 1) → Q v H')) := by
  obtain ⟨fd, F⟩ := T.d_law_hush
  refine rr F sc_d_law_hush len1 (fun _ _ _ _ _ _ us hl => match us, hl with | [_], _ => rfl) (fun cdv A outer s H vs Q E hr h => ?_)
  have hu64 : (A.deeper (envOfC AN.d_law_hush.qual AN.d_law_hush.scope s.heap.objs.size (AN.d_law_hush.at_ K) cdv)).units + 65 < cLine := hu_of65 hr
  have hu63 : (A.deeper (envOfC AN.d_law_hush.qual AN.d_law_hush.scope s.heap.objs.size (AN.d_law_hush.at_ K) cdv)).units + 64 < cLine := Nat.lt_of_succ_lt hu64
  have hu1 : (A.deeper (envOfC AN.d_law_hush.qual AN.d_law_hush.scope s.heap.objs.size (AN.d_law_hush.at_ K) cdv)).units + 1 < cLine := hu_of hr
  have nd := sc_d_law_hush.nd
  obtain ⟨s0, rfl, a, lp, N, rfl, hsrc, hN, q⟩ := h
  refine ⟨_, PSs.nox (pss_one (ps_ret (pe_ix ix_tup (pe_tup (pa_cons (pe_tup pa_nil) (pa_cons (pe_tup pa_nil) (pa_cons (pe_tup (pa_cons pe_str pa_nil)) (pa_cons (pe_tup (pa_cons pe_str pa_nil)) (pa_cons (pe_tup (pa_cons pe_str (pa_cons pe_str pa_nil))) (pa_cons (pe_tup (pa_cons pe_str (pa_cons pe_str pa_nil))) pa_nil))))))) (pe_gf (w_law_draw T) (hr.mono (by decide)) (by rfl) T.g_law_draw pass0 (pa_cons (pv 0) (pa_cons pe_int pa_nil))) (fun _ _ => rfl)))), ?_⟩

  refine ⟨Nat.zero_le _, fun p1 h1 => ?_⟩
  have e1 := Evl.Ex.new (o := .tup []) h1
  refine ⟨Nat.zero_le _, fun p2 h2 => ?_⟩
  have e2 := Evl.Ex.new (o := .tup []) h2
  refine ⟨sz1, fun p3 h3 => ?_⟩
  have e3 := Evl.Ex.new (o := .tup [V.str "x"]) h3
  refine ⟨sz1, fun p4 h4 => ?_⟩
  have e4 := Evl.Ex.new (o := .tup [V.str "yes"]) h4
  refine ⟨sz2, fun p5 h5 => ?_⟩
  have e5 := Evl.Ex.new (o := .tup [V.str "x", V.str "yes"]) h5
  refine ⟨sz2, fun p6 h6 => ?_⟩
  have e6 := Evl.Ex.new (o := .tup [V.str "no", V.str "x"]) h6
  refine ⟨(show 6 ≤ sizeLine by decide), fun p7 h7 => ?_⟩
  have e7 := Evl.Ex.new (o := .tup [V.ref p1, V.ref p2, V.ref p3, V.ref p4, V.ref p5, V.ref p6]) h7
  have e27 := ((((e2.trans e3).trans e4).trans e5).trans e6).trans e7
  have e37 := (((e3.trans e4).trans e5).trans e6).trans e7
  have e47 := ((e4.trans e5).trans e6).trans e7
  have e57 := (e5.trans e6).trans e7
  have e67 := e6.trans e7
  have e17 := e1.trans e27
  have t1 := of_tS (K := K) (l := []) (.inl (.inl (e27 _ _ upd_same)))
  have t2 := of_tS (K := K) (l := []) (.inl (.inl (e37 _ _ upd_same)))
  have t3 := of_tS (K := K) (l := ["x"]) (.inl (.inl (e47 _ _ upd_same)))
  have t4 := of_tS (K := K) (l := ["yes"]) (.inl (.inl (e57 _ _ upd_same)))
  have t5 := of_tS (K := K) (l := ["x", "yes"]) (.inl (.inl (e67 _ _ upd_same)))
  have t6 := of_tS (K := K) (l := ["no", "x"]) (.inl (.inl (e7 _ _ upd_same)))
  refine ⟨_, rfl, _, _, rfl, a, lp, N, 6, rfl, hsrc.ex e17, by omega, rfl, by decide, by decide, fun d H' hd sx src => ?_⟩
  have tt : TpA K (upd _ p7 (.tup [V.ref p1, V.ref p2, V.ref p3, V.ref p4, V.ref p5, V.ref p6])) [V.ref p1, V.ref p2, V.ref p3, V.ref p4, V.ref p5, V.ref p6] (hushes.map tS) := .cons t1 (.cons t2 (.cons t3 (.cons t4 (.cons t5 (.cons t6 .nil)))))
  have tp : Tp K H' (.ref p7) (.tuple (hushes.map tS)) := Tp.mono sx.2 (.tup (.inl (.inl upd_same)) tt)
  exact w_ix tp (map_get (f := tS) (show d < hushes.length from hd) []) fun v hv => q v H' _ (getD_mem (show d < hushes.length from hd)) hv ((Sx.ex e17).trans sx) src
end
abbrev N_d_law_next : List PySem.Str := ["_law_engine_here", "_law_spot", "_law_sign"]
theorem sc_d_law_next : FnScope N_d_law_next ["_law_engine_here", "_law_spot", "_law_sign"] AN.d_law_next.scope := ⟨rfl, rfl, rfl, by decide +kernel, rfl, by decide +kernel, by decide +kernel⟩
section
variable {P : Program} {w : World} {K : PySem.W.Frag} {mg : PySem.Str → Option Value} {base : Heap} (T : Kit K mg)
include T
theorem w_law_next : GF P w K mg base 1 (AN.d_law_next.at_ K) (sp3 (fun m s le H Q => ∃ (L : List PySem.Str) (R : Rows) (n j : Nat) (c : PySem.Str), Mt K H m L R ∧ Wf L.length R ∧ L.Nodup ∧ s = .int (n : Int) ∧ n < R.length ∧ le = .str c ∧ L[j]? = some c ∧ Q (.int (nx R n j : Nat)) H)) := by
  obtain ⟨fd, F⟩ := T.d_law_next
  refine rr F sc_d_law_next len3 (fun _ _ _ _ _ _ us hl => match us, hl with | [_, _, _], _ => rfl) (fun cdv A outer s H vs Q E hr h => ?_)
  have hu64 : (A.deeper (envOfC AN.d_law_next.qual AN.d_law_next.scope s.heap.objs.size (AN.d_law_next.at_ K) cdv)).units + 65 < cLine := hu_of65 hr
  have hu63 : (A.deeper (envOfC AN.d_law_next.qual AN.d_law_next.scope s.heap.objs.size (AN.d_law_next.at_ K) cdv)).units + 64 < cLine := Nat.lt_of_succ_lt hu64
  have hu1 : (A.deeper (envOfC AN.d_law_next.qual AN.d_law_next.scope s.heap.objs.size (AN.d_law_next.at_ K) cdv)).units + 1 < cLine := hu_of hr
  have nd := sc_d_law_next.nd
  obtain ⟨m, s0, le, rfl, L, R, n, j, c, ⟨am, al, r, rfl, g4, g5, g6⟩, wf, nd0, rfl, hn, rfl, hj, q⟩ := h
  refine ⟨_, PSs.nox (pss_one (ps_ret (pe_ix ix_tup (pe_ix ix_tup (pe_ix ix_tup (pe_ix ix_tup (pv 0) pe_int (fun _ _ => rfl)) (pv 1) (fun _ _ => rfl)) (pe_bmX okT_is PySem.F.plainAttrs_tuple PySem.F.slot_tuple_index PySem.F.type_tuple_index mt_tup_index (pe_ix ix_tup (pv 0) pe_int (fun _ _ => rfl)) (pa_cons (pv 2) pa_nil)) (fun _ _ => rfl)) pe_int (fun _ _ => rfl)))), ?_⟩

  obtain ⟨ar, xr, rfl, hr', tr⟩ := g6.tupE
  obtain ⟨vr, hvr, tvr⟩ := tr.get (map_get (f := rowD) hn [])
  obtain ⟨aw, xw, rfl, hw, tw⟩ := tvr.tupE
  have hjl := (List.getElem?_eq_some_iff.mp hj).1
  have hrow : (R.getD n []).length = L.length := wf.row _ (getD_mem hn)
  obtain ⟨vp, hvp, tvp⟩ := tw.get (map_get (f := pairD) (i := j) (by rw [hrow]; exact hjl) (0, PySem.Str.empty))
  obtain ⟨ap, rfl, hap⟩ := pair_of tvp
  refine ⟨_, rfl, _, _, _, _, rfl, rfl, g4, atI_nat (j := 1) rfl, _, rfl, _, _, _, _, rfl, rfl, hr', atI_nat hvr, ?_⟩
  refine ⟨_, rfl, _, _, _, _, rfl, rfl, g4, atI_nat (j := 0) rfl, ⟨al, _, rfl, g5⟩, _, rfl, al, L, c, j, rfl, rfl, g5.sq, hj, nd_first nd0 hj, ?_⟩
  exact ⟨_, _, _, _, rfl, rfl, hw, atI_nat hvp, _, _, _, _, rfl, rfl, hap, atI_nat (j := 0) rfl, q⟩
end
abbrev N_d_law_sample : List PySem.Str := ["_law_source_here", "_law_pool", "_law_amount", "_law_left", "_law_found", "_law_lap"]
theorem sc_d_law_sample : FnScope N_d_law_sample ["_law_source_here", "_law_pool", "_law_amount"] AN.d_law_sample.scope := ⟨rfl, rfl, rfl, by decide +kernel, rfl, by decide +kernel, by decide +kernel⟩
section
variable {P : Program} {w : World} {K : PySem.W.Frag} {mg : PySem.Str → Option Value} {base : Heap} (T : Kit K mg)
include T
theorem w_law_sample : GF P w K mg base 2 (AN.d_law_sample.at_ K) (sp3 (fun s p am H Q => ∃ (a l pl : Addr) (N m dd : Nat) (xs : List V) (S : List (List Nat)), s = .ref a ∧ Src H a l N ∧ N < 100000000 ∧ p = .ref pl ∧ H pl = some (.lst xs) ∧ TpA K H xs (S.map tI) ∧ S.length < 60 ∧ am = .int (m : Int) ∧ m < 1000 ∧ 1 ≤ dd ∧ (∀ s ∈ S, s.length = dd ∧ ∀ x ∈ s, x < 64) ∧ ∀ (v : V) (H' : Hp) (S' : List (List Nat)), Sx a H H' → Src H' a l (N + 60) → Tp K H' v (stsD S') → (∀ s ∈ S', s ∈ S) → S'.length = min m S.length → Q v H')) := by
  obtain ⟨fd, F⟩ := T.d_law_sample
  refine rr F sc_d_law_sample len3 (fun _ _ _ _ _ _ us hl => match us, hl with | [_, _, _], _ => rfl) (fun cdv A outer s H vs Q E hr h => ?_)
  have hu64 : (A.deeper (envOfC AN.d_law_sample.qual AN.d_law_sample.scope s.heap.objs.size (AN.d_law_sample.at_ K) cdv)).units + 65 < cLine := hu_of65 hr
  have hu63 : (A.deeper (envOfC AN.d_law_sample.qual AN.d_law_sample.scope s.heap.objs.size (AN.d_law_sample.at_ K) cdv)).units + 64 < cLine := Nat.lt_of_succ_lt hu64
  have hu1 : (A.deeper (envOfC AN.d_law_sample.qual AN.d_law_sample.scope s.heap.objs.size (AN.d_law_sample.at_ K) cdv)).units + 1 < cLine := hu_of hr
  have nd := sc_d_law_sample.nd
  obtain ⟨s0, p, am, rfl, a, lp, pl, N, m, dd, xs, S, rfl, hsrc, hN, rfl, hpl, tp, h60, rfl, hm, hdd, hS, q⟩ := h
  refine ⟨_, PSs.nox (pss_cons (ps_par (i := 3) (j := 4) rfl nd rfl rfl (by decide) rfl rfl (pa_cons (pe_callTy call_list_of (by rfl) T.f_list (by decide +kernel) (pa_cons (pv 1) pa_nil)) (pa_cons (pe_lst pa_nil) pa_nil)) rfl) (pss_cons (ps_for PassesOwn.never rfl (pi_range1 (by rfl) T.f_range (pa_cons (pe_callB (call_min2 rfl) (by rfl) T.f_min (by decide +kernel) (pa_cons (pv 2) (pa_cons (pe_callB call_len_seq (by rfl) T.f_len (by decide +kernel) (pa_cons (pv 3) pa_nil)) pa_nil))) pa_nil)) (pg_name (i := 5) nd rfl (Or.inl rfl)) (pss_one (ps_expr (pe_bm PySem.F.plainAttrs_list PySem.F.slot_list_append PySem.F.type_list_append mt_append (pv 4) (pa_cons (pe_bm PySem.F.plainAttrs_list PySem.F.slot_list_pop PySem.F.type_list_pop mt_popAt (pv 3) (pa_cons (pe_gf (w_law_draw T) (hr.mono (by decide)) (by rfl) T.g_law_draw pass0 (pa_cons (pv 0) (pa_cons (pe_callB call_len_seq (by rfl) T.f_len (by decide +kernel) (pa_cons (pv 3) pa_nil)) pa_nil))) pa_nil)) pa_nil))))) (pss_one (ps_ret (pe_callTy call_tuple_of (by rfl) T.f_tuple (by decide +kernel) (pa_cons (pe_callB (cr_sortT (d := dd) (B := 64) hdd) (by rfl) T.f_sorted (by decide +kernel) (pa_cons (pv 4) pa_nil)) pa_nil)))))), ?_⟩

  have hxl : xs.length = S.length := by rw [tp.length, List.length_map]
  refine ⟨_, rfl, pl, xs, rfl, .inl (SqL.of hpl), fun l1 hl1 => ?_⟩
  have e1 := Evl.Ex.new (o := .lst xs) hl1
  refine ⟨Nat.zero_le _, fun l2 hl2 => ?_⟩
  have e2 := Evl.Ex.new (o := .lst []) hl2
  have hn12 : l1 ≠ l2 := fun e => by rw [← e, upd_same] at hl2; cases hl2
  have e12 := e1.trans e2
  have hl2H : H l2 = none := fresh_back' e1 hl2
  have hl1a : l1 ≠ a := fun e => by
    obtain ⟨_, _, _, _, _, _, h3, _⟩ := hsrc
    rw [← e, hl1] at h3
    cases h3
  have hl2a : l2 ≠ a := fun e => by
    obtain ⟨_, _, _, _, _, _, h3, _⟩ := hsrc
    rw [← e, hl2H] at h3
    cases h3
  have hl1p : l1 ≠ lp := fun e => by
    obtain ⟨_, _, _, _, _, _, _, h3, _⟩ := hsrc
    rw [← e, hl1] at h3
    cases h3
  have hl2p : l2 ≠ lp := fun e => by
    obtain ⟨_, _, _, _, _, _, _, h3, _⟩ := hsrc
    rw [← e, hl2H] at h3
    cases h3
  refine ⟨_, _, rfl, ?_⟩
  refine ⟨_, rfl, _, rfl, _, _, rfl, .inl (SqL.of (e2 _ _ upd_same)), _, _, rfl, ((min m xs.length : Nat) : Int), ?_, by omega, by omega, ?_⟩
  · show [V.int (if (xs.length : Int) < (m : Int) then (xs.length : Int) else (m : Int))] = _
    congr 2
    split <;> omega
  have hsrc0 := hsrc.ex e12
  have hk : min m xs.length ≤ S.length := by omega
  refine for_range (fun i σ' H' => ∃ (ls fs : List V) (Sl Sf : List (List Nat)) (z : Option V), σ' = [some (.ref a), some (.ref pl), some (.int (m : Int)), some (.ref l1), some (.ref l2), z] ∧ Sx a H H' ∧ Src H' a lp (N + i) ∧ H' l1 = some (.lst ls) ∧ TpA K H' ls (Sl.map tI) ∧ H' l2 = some (.lst fs) ∧ TpA K H' fs (Sf.map tI) ∧ (∀ s ∈ Sl, s ∈ S) ∧ (∀ s ∈ Sf, s ∈ S) ∧ Sl.length = S.length - i ∧ Sf.length = i) ?_ ?_ ?_
  · exact ⟨xs, [], S, [], _, rfl, Sx.ex e12, hsrc0, e2 _ _ upd_same, tp.mono (Nl.ex e12), upd_same, .nil, fun _ h => h, fun _ h => absurd h List.not_mem_nil, rfl, rfl⟩
  · rintro i σ' H3 hi ⟨ls, fs, Sl, Sf, z, rfl, sx3, src3, hl1', tl, hl2', tf, hSl, hSf, hn1, hn2⟩
    have hi : i < min m xs.length := hi
    have hll : ls.length = Sl.length := by rw [tl.length, List.length_map]
    have hfl : fs.length = Sf.length := by rw [tf.length, List.length_map]
    refine ⟨_, rfl, .inl ⟨rfl, _, SqL.of hl2'⟩, _, rfl, .inl ⟨rfl, _, SqL.of hl1'⟩, _, rfl, _, rfl, _, _, rfl, .inl (SqL.of hl1'), _, _, rfl, a, lp, N + i, ls.length, rfl, src3, by omega, rfl, by omega, by omega, fun d H4 hd sx4 src4 => ?_⟩
    have hl14 := sx4.get hl1a hl1'
    have hl24 := sx4.get hl2a hl2'
    obtain ⟨y, hy, ty⟩ := tl.get (map_get (f := tI) (show d < Sl.length by omega) [])
    refine ⟨l1, ls, (d : Int), d, y, rfl, rfl, hl14, by omega, by omega, seqIndex_of (by omega) (by omega), hy, ?_⟩
    have n45 : Nl H4 (upd H4 l1 (.lst (ls.eraseIdx d))) := Nl.lst hl14
    have hl25 : (upd H4 l1 (.lst (ls.eraseIdx d))) l2 = some (.lst fs) := (upd_ne (Ne.symm hn12)).trans hl24
    have n56 : Nl (upd H4 l1 (.lst (ls.eraseIdx d))) (upd (upd H4 l1 (.lst (ls.eraseIdx d))) l2 (.lst (fs ++ [y]))) := Nl.lst hl25
    have n36 := (sx4.2.trans n45).trans n56
    refine ⟨l2, fs, y, rfl, rfl, hl25, small_len (by omega), ?_⟩
    refine ⟨ls.eraseIdx d, fs ++ [y], Sl.eraseIdx d, Sf ++ [Sl.getD d []], _, rfl, ((sx3.trans sx4).fresh hl1 hl14).fresh hl2H hl25, (src4.off hl1a hl1p).off hl2a hl2p, (upd_ne hn12).trans upd_same, ?_, upd_same, ?_, fun s h => hSl s (List.mem_of_mem_eraseIdx h), fun s h => ?_, ?_, ?_⟩
    · rw [← erase_map]
      exact TpA.erase d (tl.mono n36)
    · rw [List.map_append]
      exact (tf.mono n36).snoc (ty.mono n36)
    · rcases List.mem_append.mp h with h | h
      · exact hSf s h
      · rw [List.mem_singleton] at h
        rw [h]
        exact hSl _ (getD_mem (by omega))
    · rw [List.length_eraseIdx_of_lt (by omega)]
      omega
    · rw [List.length_append, List.length_singleton, hn2]
  · rintro σ' H3 ⟨ls, fs, Sl, Sf, z, rfl, sx3, src3, hl1', tl, hl2', tf, hSl, hSf, hn1, hn2⟩
    have hn2' : Sf.length = min m S.length := by rw [hn2, hxl]; rfl
    have hfl : fs.length = Sf.length := by rw [tf.length, List.length_map]
    refine ⟨_, rfl, l2, fs, rfl, SqL.of hl2', by omega, fun x hx => ?_, fun ys p pm _ hp => ?_⟩
    · obtain ⟨i, hi⟩ := List.mem_iff_getElem?.mp hx
      obtain ⟨dt, hdt, tx⟩ := tf.got hi
      have hil := (List.getElem?_eq_some_iff.mp hi).1
      rw [map_get (f := tI) (show i < Sf.length by omega) []] at hdt
      cases hdt
      obtain ⟨t, rfl, ht⟩ := tI_of tx
      obtain ⟨g1, g2⟩ := hS _ (hSf _ (getD_mem (d := []) (show i < Sf.length by omega)))
      refine ⟨ic (Sf.getD i []), ⟨t, rfl, by rw [show (ic (Sf.getD i [])).map V.int = (Sf.getD i []).map fun (n : Nat) => V.int (n : Int) by simp [ic, List.map_map]]; exact ht⟩, by simp [ic]; exact g1, fun z hz => ?_⟩
      obtain ⟨x, hx, rfl⟩ := List.mem_map.mp hz
      have := g2 x hx
      omega
    · obtain ⟨S', pm', t'⟩ := tpA_perm pm.symm tf
      have e4 : Ex H3 (upd H3 p (.lst ys)) := Evl.Ex.new hp
      refine ⟨p, ys, rfl, .inl ⟨SqL.of upd_same, fun p2 hp2 => ?_⟩⟩
      have e5 : Ex (upd H3 p (.lst ys)) (upd (upd H3 p (.lst ys)) p2 (.tup ys)) := Evl.Ex.new hp2
      have e45 := e4.trans e5
      exact q _ _ S' (sx3.trans (Sx.ex e45)) ((src3.ex e45).up (by have : (((min m xs.length : Nat) : Int)).toNat = min m xs.length := rfl; omega)) (.tup (.inl (.inl upd_same)) (t'.mono (Nl.ex e45))) (fun s h => hSf s (pm'.mem_iff.mp h)) (by rw [pm'.length_eq, hn2'])
end
end AN
end

-- ANw19
section
set_option Elab.async false
set_option linter.all false
set_option maxRecDepth 100000
set_option maxHeartbeats 4000000
namespace AN
open PySem PySem.Spec PyProof.Rows L2 StX
open Evl (Ex)

theorem ledS_snoc (vs : List Rows) (js : List Nat) (j : Nat) (s : List Nat) : ledS vs s (js ++ [j]) = nxS vs (ledS vs s js) j := by
  rw [ledS_append]
  rfl
/-- the same, the list new -/
theorem sortedT_fr {K : PySem.W.Frag} {P : Program} {w : World} {D : Addr} {H : Hp} {Ls : List (Addr × List Int)} {n d : Nat} {f : Nat → List Nat} {Q : VK} (hS : H D = some (SetTO P w D Ls)) (hq : ∀ p ∈ Ls, SqT K H p.1 (p.2.map V.int)) (hk : ∀ k : List Int, k ∈ Ls.map (·.2) ↔ ∃ i, i < n ∧ ic (f i) = k)
    (hd : 1 ≤ d) (hf : ∀ i, i < n → (f i).length = d ∧ ∀ x ∈ f i, x < 64)
    (q : ∀ (S : List (List Nat)) (p : Addr) (xs : List V) H', H p = none → Ex H H' → H' p = some (.lst xs) → xs.length < 64 → TpA K H' xs (S.map tI) → S.Nodup → (∀ s, s ∈ S ↔ ∃ i, i < n ∧ f i = s) → Q (.ref p) H') : rSortedT K P w [.ref D] H Q := by
  refine ⟨D, Ls, d, 64, rfl, hS, hq, hd, fun p hp => ?_, fun L' p pm nd lt _ hp => ?_⟩
  · obtain ⟨i, hi, e⟩ := (hk p.2).mp (List.mem_map.mpr ⟨p, hp, rfl⟩)
    obtain ⟨h1, h2⟩ := hf i hi
    rw [← e]
    refine ⟨by simp [ic, h1], fun z hz => ?_⟩
    obtain ⟨x, hx, rfl⟩ := List.mem_map.mp hz
    have := h2 x hx
    omega
  · have e : Ex H (upd H p (.lst (L'.map fun q => V.ref q.1))) := Evl.Ex.new hp
    have hin : ∀ p ∈ L', p ∈ Ls := fun p hp => pm.mem_iff.mp hp
    obtain ⟨S, e1, e2⟩ := sorted_data (K := K) (H := H) (L := L') (fun p hp => hq p (hin p hp)) (fun p hp => by
      obtain ⟨i, _, e⟩ := (hk p.2).mp (List.mem_map.mpr ⟨p, hin p hp, rfl⟩)
      exact ⟨_, e.symm⟩)
    refine q S p _ _ hp e upd_same (by simpa using lt) (e2.mono (Nl.ex e)) (nodup_of_map (f := ic) (by rw [← e1]; exact nd)) fun s => ?_
    constructor
    · intro hs
      have : ic s ∈ L'.map (·.2) := by rw [e1]; exact List.mem_map.mpr ⟨s, hs, rfl⟩
      obtain ⟨i, hi, e⟩ := (hk _).mp ((pm.map (·.2)).mem_iff.mp this)
      exact ⟨i, hi, ic_inj e⟩
    · rintro ⟨i, hi, rfl⟩
      have : ic (f i) ∈ L'.map (·.2) := (pm.map (·.2)).mem_iff.mpr ((hk _).mpr ⟨i, hi, rfl⟩)
      rw [e1] at this
      obtain ⟨s, hs, e⟩ := List.mem_map.mp this
      rw [← ic_inj e]
      exact hs
/-- set(list of tuples), then sorted: what is asked and given -/
theorem setOf_by {K : PySem.W.Frag} {P : Program} {w : World} {l : Addr} {H : Hp} {xs : List V} {S : List (List Nat)} {d : Nat} {Q : VK} (hl : H l = some (.lst xs)) (tS : TpA K H xs (S.map tI)) (h60 : S.length < 60) (hd : 1 ≤ d) (hf : ∀ s ∈ S, s.length = d ∧ ∀ x ∈ s, x < 64)
    (q : ∀ (a : Addr) (H1 : Hp), Ex H H1 → (∀ Q2 : VK, (∀ (S' : List (List Nat)) (p : Addr) (zs : List V) (H' : Hp), H p = none → Ex H H' → H' p = some (.lst zs) → TpA K H' zs (S'.map tI) → S'.Nodup → (∀ s, s ∈ S' ↔ s ∈ S) → Q2 (.ref p) H') → rSortedT K P w [.ref a] H1 Q2) → Q (.ref a) H1) : rSetOfT K P w [.ref l] H Q := by
  obtain ⟨ks, e1, e2, e3⟩ : ∃ ks : List (Addr × List Int), xs = ks.map (fun p => V.ref p.1) ∧ (∀ p ∈ ks, SqT K H p.1 (p.2.map V.int)) ∧ ks.map (·.2) = S.map ic := by
    clear h60 hf q hl
    induction S generalizing xs with
    | nil =>
      cases tS
      exact ⟨[], rfl, fun _ h => absurd h List.not_mem_nil, rfl⟩
    | cons s S ih =>
      match xs, tS with
      | x :: xs, .cons h t =>
        obtain ⟨ks, r1, r2, r3⟩ := ih t
        obtain ⟨a, rfl, ha⟩ := tI_of h
        refine ⟨(a, ic s) :: ks, by rw [List.map_cons, ← r1], fun p hp => ?_, by rw [List.map_cons, List.map_cons, r3]⟩
        rcases List.mem_cons.mp hp with rfl | hp
        · rw [show (ic s).map V.int = s.map fun (n : Nat) => V.int (n : Int) by simp [ic, List.map_map]]
          exact ha
        · exact r2 p hp
  have hlen : ks.length = S.length := by
    have := congrArg List.length e3
    simpa using this
  refine ⟨l, ks, rfl, by rw [← e1]; exact SqL.of hl, e2, by omega, fun a Ls ha hL1 hL2 => ?_⟩
  have e : Ex H (upd H a (SetTO P w a Ls)) := Evl.Ex.new ha
  refine q a _ e fun Q2 q2 => ?_
  have hmS : ∀ k : List Int, k ∈ Ls.map (·.2) ↔ ∃ i, i < S.length ∧ ic (S.getD i []) = k := by
    intro k
    constructor
    · intro h
      obtain ⟨p, hp, rfl⟩ := List.mem_map.mp h
      have : p.2 ∈ S.map ic := by rw [← e3]; exact List.mem_map.mpr ⟨p, hL1 p hp, rfl⟩
      obtain ⟨s, hs, es⟩ := List.mem_map.mp this
      obtain ⟨i, hi, ei⟩ := List.mem_iff_getElem.mp hs
      exact ⟨i, hi, by rw [getD_at (by rw [List.getElem?_eq_getElem hi, ei]), es]⟩
    · rintro ⟨i, hi, rfl⟩
      have : ic (S.getD i []) ∈ ks.map (·.2) := by rw [e3]; exact List.mem_map.mpr ⟨_, getD_mem hi, rfl⟩
      obtain ⟨p, hp, ep⟩ := List.mem_map.mp this
      rw [← ep]
      exact hL2 p hp
  refine sortedT_fr (K := K) (d := d) upd_same (fun p hp => nl_t (Nl.ex e) (e2 p (hL1 p hp))) hmS hd (fun i hi => hf _ (getD_mem hi)) fun S' p zs H8 hp0 e9 hp _ tz ndz hz => ?_
  refine q2 S' p zs H8 (fresh_back' e hp0) (e.trans e9) hp tz ndz fun s => ?_
  rw [hz]
  have := ex_mem (l := S) (f := fun s => s) (d := []) (b := s)
  rw [this]
  exact ⟨fun ⟨a, h, e⟩ => e ▸ h, fun h => ⟨s, h, rfl⟩⟩

abbrev N_d_law_led : List PySem.Str := ["_law_crowd_here", "_law_spots", "_law_signs_here", "_law_here", "_law_sign", "_law_goals", "_law_spot", "_law_q"]
theorem sc_d_law_led : FnScope N_d_law_led ["_law_crowd_here", "_law_spots", "_law_signs_here"] AN.d_law_led.scope := ⟨rfl, rfl, rfl, by decide +kernel, rfl, by decide +kernel, by decide +kernel⟩
section
variable {P : Program} {w : World} {K : PySem.W.Frag} {mg : PySem.Str → Option Value} {base : Heap} (T : Kit K mg)
include T
theorem w_law_led : GF P w K mg base 2 (AN.d_law_led.at_ K) (sp3 (fun v sp sg H Q => ∃ (L : List PySem.Str) (vs : List Rows) (l : Addr) (xs : List V) (S : List (List Nat)) (js : List Nat), Vt K H v L vs ∧ Vok L vs ∧ sp = .ref l ∧ H l = some (.lst xs) ∧ TpA K H xs (S.map tI) ∧ S.length < 60 ∧ (∀ s ∈ S, StOk vs s) ∧ Tp K H sg (tS (rdg L js)) ∧ (∀ j ∈ js, j < L.length) ∧ ∀ (p : Addr) (zs : List V) (H' : Hp) (S' : List (List Nat)), H p = none → Ex H H' → H' p = some (.lst zs) → TpA K H' zs (S'.map tI) → S'.Nodup → (∀ s', s' ∈ S' ↔ ∃ s ∈ S, ledS vs s js = s') → Q (.ref p) H')) := by
  obtain ⟨fd, F⟩ := T.d_law_led
  refine rr F sc_d_law_led len3 (fun _ _ _ _ _ _ us hl => match us, hl with | [_, _, _], _ => rfl) (fun cdv A outer s H vs Q E hr h => ?_)
  have hu64 : (A.deeper (envOfC AN.d_law_led.qual AN.d_law_led.scope s.heap.objs.size (AN.d_law_led.at_ K) cdv)).units + 65 < cLine := hu_of65 hr
  have hu63 : (A.deeper (envOfC AN.d_law_led.qual AN.d_law_led.scope s.heap.objs.size (AN.d_law_led.at_ K) cdv)).units + 64 < cLine := Nat.lt_of_succ_lt hu64
  have hu1 : (A.deeper (envOfC AN.d_law_led.qual AN.d_law_led.scope s.heap.objs.size (AN.d_law_led.at_ K) cdv)).units + 1 < cLine := hu_of hr
  have nd := sc_d_law_led.nd
  obtain ⟨v, sp, sg, rfl, L, vs, l, xs, S, js, hv, ok, rfl, hl, tS, h60, hso, hsg, hj, q⟩ := h
  refine ⟨_, PSs.nox (pss_cons (ps_set (i := 3) nd rfl (Or.inl rfl) (pe_callB (cr_sortedT rfl) (by rfl) T.f_sorted (by decide +kernel) (pa_cons (pe_callTy (cr_setOfT rfl hu63) (by rfl) T.f_set (by decide +kernel) (pa_cons (pv 1) pa_nil)) pa_nil))) (pss_cons (ps_for PassesOwn.never rfl (pi_tup (pv 2)) (pg_name (i := 4) nd rfl (Or.inr rfl)) (pss_cons (ps_set (i := 5) nd rfl (Or.inl rfl) (pe_lst pa_nil)) (pss_cons (ps_for PassesOwn.never rfl (pi_list (pv 3)) (pg_name (i := 6) nd rfl (Or.inr rfl)) (pss_one (ps_expr (pe_bm PySem.F.plainAttrs_list PySem.F.slot_list_append PySem.F.type_list_append mt_append (pv 5) (pa_cons (pe_callTy call_tuple_of (by rfl) T.f_tuple (by decide +kernel) (pa_cons (pe_lc (own := [("_law_q", 7)]) rfl nd (pi_range1 (by rfl) T.f_range (pa_cons (pe_callB call_len_seq (by rfl) T.f_len (by decide +kernel) (pa_cons (pv 0) pa_nil)) pa_nil)) (blkOk_by (own := [("_law_q", 7)]) (N := N_d_law_led) (sc := AN.d_law_led.scope) (by decide +kernel)) (fun _ _ _ _ _ => (pg_name (i := 7) nd rfl (Or.inl rfl))) (fun _ _ _ _ _ => pts_nil) (fun _ _ _ _ _ => (pe_gf (w_law_next T) (hr.mono (by decide)) (by rfl) T.g_law_next pass0 (pa_cons (pe_ix (r := rIxT K) ix_tup (pv 0) (pv 7) (fun _ _ => rfl)) (pa_cons (pe_ix (r := rIxT K) ix_tup (pv 6) (pv 7) (fun _ _ => rfl)) (pa_cons (pv 4) pa_nil)))))) pa_nil)) pa_nil))))) (pss_one (ps_set (i := 3) nd rfl (Or.inl rfl) (pe_callB (cr_sortedT rfl) (by rfl) T.f_sorted (by decide +kernel) (pa_cons (pe_callTy (cr_setOfT rfl hu63) (by rfl) T.f_set (by decide +kernel) (pa_cons (pv 5) pa_nil)) pa_nil))))))) (pss_one (ps_ret (pv 3))))), ?_⟩

  obtain ⟨a, xv, rfl, ha, hxv, hgv⟩ := hv.get
  obtain ⟨ag, rfl, hag⟩ := tS_of hsg
  have hvl := ok.vl
  refine ⟨_, rfl, ?_⟩
  unfold tNil
  dsimp only
  refine setOf_by (K := K) (P := P) (w := w) (d := vs.length) hl tS h60 ok.vp (fun s hs => fits ok (hso s hs)) fun a1 H1 e1 hq => ?_
  refine hq _ fun S1 p1 zs1 H2 hf1 e2 hp1 t1 nd1 hm1 => ?_
  refine ⟨_, rfl, ag, rfl, ⟨_, nl_t (Nl.ex e2) hag⟩, ?_⟩
  refine for_runs (runs_t (nl_t (Nl.ex e2) hag)) (fun i σ' H' => Ex H2 H' ∧ ∃ (p : Addr) (zs : List V) (S' : List (List Nat)) (z4 z5 z6 z7 : Option V), σ' = [some (.ref a), some (.ref l), some (.ref ag), some (.ref p), z4, z5, z6, z7] ∧ H p = none ∧ H' p = some (.lst zs) ∧ TpA K H' zs (S'.map tI) ∧ S'.Nodup ∧ ∀ s', s' ∈ S' ↔ ∃ s ∈ S, ledS vs s (js.take i) = s') (fun i σ' H' p => p.1) ⟨Ex.refl _, p1, zs1, S1, _, _, _, _, rfl, hf1, hp1, t1, nd1, fun s' => ?_⟩ ?_ ?_
  · rw [hm1]
    exact ⟨fun h => ⟨s', h, rfl⟩, fun ⟨s, h, e⟩ => by
      have e : s = s' := e
      rw [← e]
      exact h⟩
  · rintro i y σ' H3 H4 hi ⟨e3, p, zs, S', z4, z5, z6, z7, rfl, hf, hp, t, nd', hm⟩ e4 hy
    rw [List.getElem?_map, Option.map_eq_some_iff] at hy
    obtain ⟨c, hc, rfl⟩ := hy
    obtain ⟨j, hj1, hjl, hLj⟩ := rdg_get hc hj
    have e04 := (e2.trans e3).trans e4
    have hso' : ∀ s ∈ S', StOk vs s := fun s hs => by
      obtain ⟨s0, h0, rfl⟩ := (hm s).mp hs
      exact (hso s0 h0).led ok.wf fun x hx => hj x (List.mem_of_mem_take hx)
    have h27 := few_states ok.wf ok.vl nd' hso'
    have hzl : zs.length = S'.length := by rw [t.length, List.length_map]
    refine ⟨Nat.zero_le _, fun lg hlg => ?_⟩
    have e5 : Ex H4 (upd H4 lg (.lst [])) := Evl.Ex.new hlg
    refine ⟨_, rfl, p, rfl, ⟨_, SqL.of (e5 _ _ (e4 _ _ hp))⟩, ?_⟩
    refine for_list (xs := zs) (fun k σ' H' => Ex H4 H' ∧ ∃ (gs : List V) (w6 w7 : Option V), σ' = [some (.ref a), some (.ref l), some (.ref ag), some (.ref p), some (.str c), some (.ref lg), w6, w7] ∧ H' lg = some (.lst gs) ∧ TpA K H' gs ((S'.take k).map fun s => tI (nxS vs s j))) ⟨e5, [], _, _, rfl, upd_same, .nil⟩ (fun k σ' H' _ h => SqL.of (h.1 _ _ (e4 _ _ hp))) ?_ ?_
    · rintro k u σ' H6 hu ⟨e6, gs, w6, w7, rfl, hlg6, tg⟩
      obtain ⟨d, hd, tu⟩ := t.got hu
      have hk : k < S'.length := by have := (List.getElem?_eq_some_iff.mp hu).1; omega
      rw [map_get (f := tI) hk []] at hd
      cases hd
      have so := hso' _ (getD_mem (d := []) hk)
      have hgl : gs.length = k := by rw [tg.length, List.length_map, List.length_take]; omega
      have e46 := e4.trans e6
      have e06 := e04.trans e6
      obtain ⟨au, rfl, hau⟩ := tI_of (tu.mono (Nl.ex e46))
      refine ⟨_, rfl, .inl ⟨rfl, _, SqL.of hlg6⟩, ?_⟩
      ((try dsimp only); (repeat (first | refine w_lc ?_ | unfold gName | unfold tIfS | unfold tNot | unfold tB | unfold tTest | unfold tRet | unfold tAsg | unfold tSeq | unfold tDrop | unfold tCB | unfold tCons)))
      refine ⟨_, rfl, _, _, rfl, .inr (nl_t (Nl.ex e06) ha), _, rfl, by omega, by omega, ?_⟩
      refine lc_pure (n := xv.length) (runs_r _) (fun _ => true) (fun m v _ => v = V.int ((nx (vs.getD m []) ((S'.getD k []).getD m 0) j : Nat) : Int)) (by omega) (fun _ _ _ _ _ h => h) ?_ ?_
      · intro m u H7 hm7 e8 hu C kk
        subst hu
        refine kk _ _ rfl (Ex.refl _) (fun Q q => q _ (Ex.refl _)) (fun _ H9 e9 Q q => ?_)
        have hmv : m < vs.length := by omega
        obtain ⟨mm, hmm, hmt⟩ := hgv m hmv
        have e89 := e8.trans e9
        refine ⟨_, rfl, _, rfl, _, _, _, _, rfl, rfl, nl_t (Nl.ex (e06.trans e89)) ha, atI_nat hmm, ?_⟩
        refine ⟨_, rfl, _, rfl, _, _, _, _, rfl, rfl, nl_t (Nl.ex e89) hau, atI_nat (map_get (by rw [so.1]; exact hmv) 0), _, rfl, ?_⟩
        exact ⟨_, _, _, rfl, L, vs.getD m [], _, j, c, hmt.mono (Nl.ex (e06.trans e89)), ok.mem hmv, ok.nd, rfl, so.2 m hmv, rfl, hLj, q _ _ (Ex.refl _) rfl⟩
      · intro D8 H8 xs8 hD8 e9 hD8' hall8
        have hx8 : xs8 = (nxS vs (S'.getD k []) j).map fun (n : Nat) => V.int (n : Int) := by
          rw [filter_true] at hall8
          rw [allP_eq hall8, hxv, nxS, List.map_map]
          rfl
        refine ⟨D8, _, rfl, .inl ⟨SqL.of hD8', fun p9 hp9 => ?_⟩⟩
        have e10 := e9.trans (Evl.Ex.new (o := .tup xs8) hp9)
        have tp : Tp K (upd H8 p9 (.tup xs8)) (.ref p9) (tI (nxS vs (S'.getD k []) j)) := of_tI (by rw [← hx8]; exact .inl (.inl upd_same))
        have hl8 := e10 _ _ hlg6
        have n9 : Nl (upd H8 p9 (.tup xs8)) (upd (upd H8 p9 (.tup xs8)) lg (.lst (gs ++ [.ref p9]))) := Nl.lst hl8
        refine ⟨lg, gs, .ref p9, rfl, rfl, hl8, small_len (by omega), Evl.Ex.mut (e6.trans e10) hlg, gs ++ [.ref p9], _, _, rfl, upd_same, ?_⟩
        rw [take_snoc (getD_of hk []), List.map_append]
        exact (tg.mono ((Nl.ex e10).trans n9)).snoc (tp.mono n9)
    · rintro σ' H6 ⟨e6, gs, w6, w7, rfl, hlg6, tg⟩
      rw [hzl, List.take_length] at tg
      have tg' : TpA K H6 gs ((S'.map fun s => nxS vs s j).map tI) := by rw [List.map_map]; exact tg
      dsimp only
      refine ⟨_, rfl, ?_⟩
      dsimp only
      refine setOf_by (K := K) (P := P) (w := w) (d := vs.length) hlg6 tg' (by rw [List.length_map]; omega) ok.vp (fun s hs => ?_) fun a1 H7 e7 hq2 => ?_
      · obtain ⟨s0, h0, rfl⟩ := List.mem_map.mp hs
        exact fits ok ((hso' s0 h0).next ok.wf hjl)
      refine hq2 _ fun S8 p8 zs8 H8 hf8 e8 hp8 t8 nd8 hm8 => ?_
      refine ⟨((e3.trans e4).trans e6).trans e8, p8, zs8, S8, _, _, _, _, rfl, fresh_back' (e04.trans e6) hf8, hp8, t8, nd8, fun s' => ?_⟩
      rw [hm8, List.mem_map, take_snoc hj1]
      constructor
      · rintro ⟨s, hs, rfl⟩
        obtain ⟨s0, h0, rfl⟩ := (hm s).mp hs
        exact ⟨s0, h0, ledS_append _ _ _ _⟩
      · rintro ⟨s0, h0, rfl⟩
        exact ⟨_, (hm _).mpr ⟨s0, h0, rfl⟩, (ledS_snoc _ _ _ _).symm⟩
  · rintro σ' H3 ⟨e3, p, zs, S', z4, z5, z6, z7, rfl, hf, hp, t, nd', hm⟩
    refine ⟨_, rfl, q p zs H3 S' hf (e2.trans e3) hp t nd' fun s' => ?_⟩
    rw [hm, List.length_map, List.length_map, List.take_length]
end
end AN
end

-- ANw20
section
set_option Elab.async false
set_option linter.all false
set_option maxRecDepth 100000
set_option maxHeartbeats 4000000
namespace AN
open PySem PySem.Spec PyProof.Rows L2 StX
open Evl (Ex)

theorem TpA.take {K : PySem.W.Frag} {H : Hp} : ∀ {vs : List V} {ds : List PyData} (n : Nat), TpA K H vs ds → TpA K H (vs.take n) (ds.take n)
  | _, _, 0, _ => by simp only [List.take_zero]; exact .nil
  | _, _, _ + 1, .nil => .nil
  | _, _, n + 1, .cons h t => .cons h (TpA.take n t)
theorem TpA.dropLast {K : PySem.W.Frag} {H : Hp} {vs : List V} {ds : List PyData} (h : TpA K H vs ds) : TpA K H vs.dropLast ds.dropLast := by
  rw [List.dropLast_eq_take, List.dropLast_eq_take, h.length]
  exact TpA.take _ h
theorem rep01 (b : Bool) (x : V) : (List.replicate ((if b then (1 : Int) else 0)).toNat [x]).flatten = if b then [x] else [] := by
  cases b <;> rfl
/-- what the search keeps to -/
structure Rin (K : PySem.W.Frag) (L : List PySem.Str) (vs : List Rows) (lf lw : Addr) (H0 H : Hp) (fs ws : List V) (F W : List (List Nat)) : Prop where
  ex : Ex H0 H
  hf : H lf = some (.lst fs)
  tf : TpA K H fs (F.map tI)
  hw : H lw = some (.lst ws)
  tw : TpA K H ws (W.map tI)
  nd : F.Nodup
  z : zeroS vs ∈ F
  re : ∀ s ∈ F, Reach L.length vs s
  sub : ∀ s ∈ W, s ∈ F
theorem Rin.up {K : PySem.W.Frag} {L : List PySem.Str} {vs : List Rows} {lf lw : Addr} {H0 H H' : Hp} {fs ws : List V} {F W : List (List Nat)} (h : Rin K L vs lf lw H0 H fs ws F W) (e : Ex H H') : Rin K L vs lf lw H0 H' fs ws F W :=
  { h with ex := h.ex.trans e, hf := e _ _ h.hf, tf := h.tf.mono (Nl.ex e), hw := e _ _ h.hw, tw := h.tw.mono (Nl.ex e) }
theorem w_sq {t u : TS} {D : Ends} {σ : L2.St} {H : Hp} (h : t { D with nx := u D } σ H) : tSeq t u D σ H := h
/-- xs.extend([later] * int(later not in found)) -/
theorem ext_step {K : PySem.W.Frag} {D : Ends} {σ : L2.St} {H : Hp} {i : Nat} {lf lt : Addr} {x : V} {t : List Nat} {us fs : List V} {F : List (List Nat)} (s5 : σ[5]? = some (some x)) (si : σ[i]? = some (some (.ref lt))) (s1 : σ[1]? = some (some (.ref lf))) (hx : Tp K H x (tI t)) (ht : H lt = some (.lst us)) (hf : H lf = some (.lst fs)) (tf : TpA K H fs (F.map tI)) (hu : us.length ≤ 100)
    (q : ∀ H', Ex H H' → D.nx σ (upd H' lt (.lst (us ++ if t ∈ F then [] else [x])))) :
    tDrop (tBM K "list" rExtend (tVar i) (tCons (tOp rRep (tLst (tCons (tVar 5) tNil)) (tCB (fun xs H Q => (∃ i, xs = [V.int i] ∧ Q (V.int i) H) ∨ ∃ k, xs = [V.bl k] ∧ Q (V.int (if k = true then 1 else 0)) H) (tCons (tOp (rNotInD K) (tVar 5) (tVar 1)) tNil))) tNil)) D σ H := by
  refine ⟨_, si, .inl ⟨rfl, _, SqL.of ht⟩, _, s5, sz1, fun b1 hb1 => ?_⟩
  have e1 := Evl.Ex.new (o := .lst [x]) hb1
  refine ⟨_, s5, _, s1, _, _, (hx.mono (Nl.ex e1)).dp, .lst (SqL.of (e1 _ _ hf)) (TpA.dp (tf.mono (Nl.ex e1))), tI_shaped _, stsL_shaped _, ?_⟩
  rw [any_tI]
  by_cases hin : t ∈ F
  · rw [decide_eq_true hin]
    refine .inr ⟨_, rfl, b1, _, _, rfl, rfl, upd_same, by decide, by decide, by simp, fun b2 hb2 => ?_⟩
    have e2 := Evl.Ex.new (o := .lst (List.replicate (if (!true) = true then (1 : Int) else 0).toNat [x]).flatten) hb2
    refine ⟨lt, b2, us, _, rfl, rfl, e2 _ _ (e1 _ _ ht), upd_same, by simp; rw [sizeLine_eq]; omega, ?_⟩
    have := q _ (e1.trans e2)
    rw [if_pos hin] at this
    exact this
  · rw [decide_eq_false hin]
    refine .inr ⟨_, rfl, b1, _, _, rfl, rfl, upd_same, by decide, by decide, by simp [sizeLine_eq], fun b2 hb2 => ?_⟩
    have e2 := Evl.Ex.new (o := .lst (List.replicate (if (!false) = true then (1 : Int) else 0).toNat [x]).flatten) hb2
    refine ⟨lt, b2, us, _, rfl, rfl, e2 _ _ (e1 _ _ ht), upd_same, by simp; rw [sizeLine_eq]; omega, ?_⟩
    have := q _ (e1.trans e2)
    rw [if_neg hin] at this
    exact this
/-- the search within a turn: what C tells is found -/
def Rst (K : PySem.W.Frag) (L : List PySem.Str) (vs : List Rows) (lf lw : Addr) (H0 : Hp) (M : Nat) (spot : List Nat) (C : List Nat → Prop) (H : Hp) : Prop := ∃ fs ws F W, Rin K L vs lf lw H0 H fs ws F W ∧ 2 * (27 - F.length) + W.length ≤ M ∧ (∀ s ∈ F, s ∈ W ∨ s = spot ∨ ∀ j, j < L.length → nxS vs s j ∈ F) ∧ ∀ t, C t → t ∈ F
theorem last_of {α : Type} {l : List α} {d x : α} (h : x ∈ l) (n : x ∉ l.dropLast) : x = l.getD (l.length - 1) d := by
  obtain ⟨i, hi, e⟩ := List.mem_iff_getElem.mp h
  by_cases hl : i < l.length - 1
  · refine absurd ?_ n
    have h2 : i < l.dropLast.length := by rw [List.length_dropLast]; exact hl
    have : l.dropLast[i] = x := by rw [List.getElem_dropLast, e]
    rw [← this]
    exact List.getElem_mem h2
  · have : i = l.length - 1 := by omega
    subst this
    exact (getD_at (by rw [List.getElem?_eq_getElem hi, e]) d).symm
theorem Rin.few {K : PySem.W.Frag} {L : List PySem.Str} {vs : List Rows} {lf lw : Addr} {H0 H : Hp} {fs ws : List V} {F W : List (List Nat)} (h : Rin K L vs lf lw H0 H fs ws F W) (ok : Vok L vs) : F.length ≤ 27 := few_states ok.wf ok.vl h.nd fun s hs => (h.re s hs).ok ok.wf

abbrev N_d_law_reached : List PySem.Str := ["_law_crowd_here", "_law_found", "_law_waiting", "_law_spot", "_law_sign", "_law_later"]
theorem sc_d_law_reached : FnScope N_d_law_reached ["_law_crowd_here"] AN.d_law_reached.scope := ⟨rfl, rfl, rfl, by decide +kernel, rfl, by decide +kernel, by decide +kernel⟩
section
variable {P : Program} {w : World} {K : PySem.W.Frag} {mg : PySem.Str → Option Value} {base : Heap} (T : Kit K mg)
include T
theorem w_law_reached : GF P w K mg base 3 (AN.d_law_reached.at_ K) (sp1 (fun v H Q => ∃ (L : List PySem.Str) (vs : List Rows), Vt K H v L vs ∧ Vok L vs ∧ ∀ (p : Addr) (zs : List V) (H' : Hp) (S : List (List Nat)), Ex H H' → H' p = some (.lst zs) → TpA K H' zs (S.map tI) → S.Nodup → (∀ s, s ∈ S ↔ Reach L.length vs s) → Q (.ref p) H')) := by
  obtain ⟨fd, F⟩ := T.d_law_reached
  refine rr F sc_d_law_reached len1 (fun _ _ _ _ _ _ us hl => match us, hl with | [_], _ => rfl) (fun cdv A outer s H vs Q E hr h => ?_)
  have hu64 : (A.deeper (envOfC AN.d_law_reached.qual AN.d_law_reached.scope s.heap.objs.size (AN.d_law_reached.at_ K) cdv)).units + 65 < cLine := hu_of65 hr
  have hu63 : (A.deeper (envOfC AN.d_law_reached.qual AN.d_law_reached.scope s.heap.objs.size (AN.d_law_reached.at_ K) cdv)).units + 64 < cLine := Nat.lt_of_succ_lt hu64
  have hu1 : (A.deeper (envOfC AN.d_law_reached.qual AN.d_law_reached.scope s.heap.objs.size (AN.d_law_reached.at_ K) cdv)).units + 1 < cLine := hu_of hr
  have nd := sc_d_law_reached.nd
  obtain ⟨v, rfl, L, vs, hv, ok, q⟩ := h
  refine ⟨_, PSs.nox (pss_cons (ps_par (i := 1) (j := 2) rfl nd rfl rfl (by decide) rfl rfl (pa_cons (pe_lst (pa_cons (pe_callTy call_tuple_of (by rfl) T.f_tuple (by decide +kernel) (pa_cons (pe_op op_rep (pe_lst (pa_cons pe_int pa_nil)) (pe_callB call_len_seq (by rfl) T.f_len (by decide +kernel) (pa_cons (pv 0) pa_nil))) pa_nil)) pa_nil)) (pa_cons (pe_lst (pa_cons (pe_callTy call_tuple_of (by rfl) T.f_tuple (by decide +kernel) (pa_cons (pe_op op_rep (pe_lst (pa_cons pe_int pa_nil)) (pe_callB call_len_seq (by rfl) T.f_len (by decide +kernel) (pa_cons (pv 0) pa_nil))) pa_nil)) pa_nil)) pa_nil)) rfl) (pss_cons (ps_while PassesOwn.never (pt_cmpR (op_neD hu63) (pv 2) (pe_lst pa_nil) (nomark _)) (pss_cons (ps_set (i := 3) nd rfl (Or.inl rfl) (pe_bm0 PySem.F.plainAttrs_list PySem.F.slot_list_pop PySem.F.type_list_pop mt_pop (pv 2))) (pss_one (ps_for PassesOwn.never rfl (pi_tup (pe_ix ix_tup (pe_ix ix_tup (pv 0) pe_int (fun _ _ => rfl)) pe_int (fun _ _ => rfl))) (pg_name (i := 4) nd rfl (Or.inl rfl)) (pss_one (ps_for PassesOwn.never rfl (pi_list (pe_gf (w_law_led T) (hr.mono (by decide)) (by rfl) T.g_law_led pass0 (pa_cons (pv 0) (pa_cons (pe_lst (pa_cons (pv 3) pa_nil)) (pa_cons (pe_tup (pa_cons (pv 4) pa_nil)) pa_nil))))) (pg_name (i := 5) nd rfl (Or.inl rfl)) (pss_cons (ps_expr (pe_bm PySem.F.plainAttrs_list PySem.F.slot_list_extend PySem.F.type_list_extend mt_extend (pv 2) (pa_cons (pe_op op_rep (pe_lst (pa_cons (pv 5) pa_nil)) (pe_callTy call_int1 (by rfl) T.f_int (by decide +kernel) (pa_cons (pe_cmpR (op_notInD hu64) (pv 5) (pv 1) rfl) pa_nil))) pa_nil))) (pss_one (ps_expr (pe_bm PySem.F.plainAttrs_list PySem.F.slot_list_extend PySem.F.type_list_extend mt_extend (pv 1) (pa_cons (pe_op op_rep (pe_lst (pa_cons (pv 5) pa_nil)) (pe_callTy call_int1 (by rfl) T.f_int (by decide +kernel) (pa_cons (pe_cmpR (op_notInD hu64) (pv 5) (pv 1) rfl) pa_nil))) pa_nil))))))))))) (pss_one (ps_ret (pe_callB (cr_sortT (d := vs.length) (B := 64) ok.vp) (by rfl) T.f_sorted (by decide +kernel) (pa_cons (pv 1) pa_nil)))))), ?_⟩

  obtain ⟨a, xs, rfl, ha, hxl, hgv⟩ := hv.get
  obtain ⟨m0, hm0, am, al, r, rfl, g4, g5, g6⟩ := hgv 0 ok.vp
  have hvl := ok.vl
  have hvp := ok.vp
  have hz : ((List.replicate ((xs.length : Int)).toNat [V.int 0]).flatten) = (zeroS vs).map fun (n : Nat) => V.int (n : Int) := by
    rw [show ((xs.length : Int)).toNat = xs.length from rfl, rep_zero, hxl]
    rfl
  refine ⟨sz1, fun b0 hb0 => ?_⟩
  have e0 := Evl.Ex.new (o := .lst [V.int 0]) hb0
  refine ⟨_, rfl, _, _, rfl, .inr (nl_t (Nl.ex e0) ha), b0, _, _, rfl, rfl, upd_same, by omega, by omega, by simp [sizeLine_eq]; omega, fun b1 hb1 => ?_⟩
  have e1 := Evl.Ex.new (o := .lst (List.replicate ((xs.length : Int)).toNat [V.int 0]).flatten) hb1
  refine ⟨b1, _, rfl, .inl ⟨SqL.of upd_same, fun t1 ht1 => ?_⟩⟩
  have e2 := Evl.Ex.new (o := .tup (List.replicate ((xs.length : Int)).toNat [V.int 0]).flatten) ht1
  refine ⟨sz1, fun lf hlf => ?_⟩
  have e3 := Evl.Ex.new (o := .lst [V.ref t1]) hlf
  have e03 := ((e0.trans e1).trans e2).trans e3
  refine ⟨sz1, fun b2 hb2 => ?_⟩
  have e4 := Evl.Ex.new (o := .lst [V.int 0]) hb2
  refine ⟨_, rfl, _, _, rfl, .inr (nl_t (Nl.ex (e03.trans e4)) ha), b2, _, _, rfl, rfl, upd_same, by omega, by omega, by simp [sizeLine_eq]; omega, fun b3 hb3 => ?_⟩
  have e5 := Evl.Ex.new (o := .lst (List.replicate ((xs.length : Int)).toNat [V.int 0]).flatten) hb3
  refine ⟨b3, _, rfl, .inl ⟨SqL.of upd_same, fun t2 ht2 => ?_⟩⟩
  have e6 := Evl.Ex.new (o := .tup (List.replicate ((xs.length : Int)).toNat [V.int 0]).flatten) ht2
  refine ⟨sz1, fun lw hlw => ?_⟩
  have e7 := Evl.Ex.new (o := .lst [V.ref t2]) hlw
  have e46 := (e4.trans e5).trans e6
  have e47 := e46.trans e7
  have e37 := e3.trans e47
  have hfH : H lf = none := fresh_back' ((e0.trans e1).trans e2) hlf
  have hwH : H lw = none := fresh_back' (e03.trans e46) hlw
  have hfw : lf ≠ lw := by
    rintro rfl
    have := e46 _ _ upd_same
    rw [hlw] at this
    cases this
  have tz : ∀ {HH : Hp} {t : Addr}, HH t = some (.tup (List.replicate ((xs.length : Int)).toNat [V.int 0]).flatten) → Tp K HH (.ref t) (tI (zeroS vs)) := fun h => of_tI (.inl (.inl (by rw [← hz]; exact h)))
  refine ⟨_, _, rfl, ?_⟩
  have ri0 := Rin.mk (K := K) (L := L) (vs := vs) (F := [zeroS vs]) (W := [zeroS vs]) (e03.trans e47) (e47 _ _ upd_same) (.cons (tz (e37 _ _ upd_same)) .nil) upd_same (.cons (tz (e7 _ _ upd_same)) .nil) (by simp) (by simp) (fun s hs => by rw [List.mem_singleton] at hs; rw [hs]; exact Reach.zero _ _) (fun s h => h)
  refine ⟨fun mm σ' H' => ∃ (fs ws : List V) (F W : List (List Nat)) (z3 z4 z5 : Option V), mm = 2 * (27 - F.length) + W.length ∧ mm ≤ 53 ∧ σ' = [some (.ref a), some (.ref lf), some (.ref lw), z3, z4, z5] ∧ Rin K L vs lf lw H H' fs ws F W ∧ (∀ s ∈ F, s ∈ W ∨ ∀ j, j < L.length → nxS vs s j ∈ F), ⟨_, _, _, [zeroS vs], [zeroS vs], _, _, _, rfl, by simp, rfl, ri0, fun s h => .inl h⟩, ?_⟩
  rintro mm σ' H1 ⟨fs, ws, F, W, z3, z4, z5, rfl, h53, rfl, ri, hcl⟩
  have h27 := ri.few ok
  have hwl : ws.length = W.length := by rw [ri.tw.length, List.length_map]
  refine ⟨_, rfl, Nat.zero_le _, fun l9 hl9 => ?_⟩
  have e9 := Evl.Ex.new (o := .lst []) hl9
  have ri9 := ri.up e9
  refine ⟨_, _, .lst (SqL.of ri9.hw) (TpA.dp ri9.tw), .lst (SqL.of upd_same) .nil, stsL_shaped _, nil_shaped, ?_⟩
  rw [eqv_nil]
  refine ⟨_, rfl, ?_⟩
  dsimp only
  by_cases hW : W = []
  · rw [decide_eq_true hW, if_neg (by decide)]
    subst hW
    have hfl : fs.length = F.length := by rw [ri.tf.length, List.length_map]
    refine ⟨_, rfl, lf, fs, rfl, SqL.of ri9.hf, by omega, fun x hx => ?_, fun ys p pm _ hp => ?_⟩
    · obtain ⟨i, hi⟩ := List.mem_iff_getElem?.mp hx
      obtain ⟨dt, hdt, tx⟩ := ri9.tf.got hi
      have hil := (List.getElem?_eq_some_iff.mp hi).1
      rw [map_get (f := tI) (show i < F.length by omega) []] at hdt
      cases hdt
      obtain ⟨t, rfl, ht⟩ := tI_of tx
      obtain ⟨g1, g2⟩ := fits ok ((ri.re _ (getD_mem (d := []) (show i < F.length by omega))).ok ok.wf)
      refine ⟨ic (F.getD i []), ⟨t, rfl, by rw [show (ic (F.getD i [])).map V.int = (F.getD i []).map fun (n : Nat) => V.int (n : Int) by simp [ic, List.map_map]]; exact ht⟩, by rw [List.length_map]; exact g1, fun z hz => ?_⟩
      obtain ⟨x, hx, rfl⟩ := List.mem_map.mp hz
      have := g2 x hx
      omega
    · obtain ⟨S', pm', t'⟩ := tpA_perm pm.symm ri9.tf
      have e10 := Evl.Ex.new (o := .lst ys) hp
      refine q p ys _ S' (ri9.ex.trans e10) upd_same (t'.mono (Nl.ex e10)) (pm'.nodup_iff.mpr ri.nd) fun s => ?_
      rw [pm'.mem_iff]
      refine ⟨ri.re s, fun h => reach_in ri.z (fun s hs j hj => ?_) h⟩
      rcases hcl s hs with h | h
      · exact absurd h List.not_mem_nil
      · exact h j hj
  · rw [decide_eq_false hW, if_pos (by decide)]
    have hWp : 0 < W.length := List.length_pos_iff.mpr hW
    refine ⟨fun σ' H' => ∃ (z3 z4 z5 : Option V), σ' = [some (.ref a), some (.ref lf), some (.ref lw), z3, z4, z5] ∧ Rst K L vs lf lw H (2 * (27 - F.length) + (W.length - 1)) (W.getD (W.length - 1) []) (fun t => ∃ j, j < L.length ∧ t = nxS vs (W.getD (W.length - 1) []) j) H', ?_, ?_⟩
    · rintro σ' H2 ⟨z3, z4, z5, rfl, fs2, ws2, F2, W2, ri2, hM, hcl2, hC2⟩
      refine ⟨2 * (27 - F2.length) + W2.length, by omega, fs2, ws2, F2, W2, z3, z4, z5, rfl, by omega, rfl, ri2, fun s hs => ?_⟩
      rcases hcl2 s hs with h | h | h
      · exact .inl h
      · subst h
        exact .inr fun j hj => hC2 _ ⟨j, hj, rfl⟩
      · exact .inr h
    obtain ⟨y, hy, ty⟩ := ri9.tw.get (map_get (f := tI) (show W.length - 1 < W.length by omega) [])
    have hspR : Reach L.length vs (W.getD (W.length - 1) []) := ri.re _ (ri.sub _ (getD_mem (by omega)))
    have hspO := hspR.ok ok.wf
    obtain ⟨ay, rfl, hay⟩ := tI_of ty
    refine ⟨_, rfl, .inl ⟨rfl, _, SqL.of ri9.hw⟩, lw, ws, _, rfl, rfl, ri9.hw, by rw [hwl]; exact hy, ?_⟩
    have n1 : Nl (upd H1 l9 (.lst [])) (upd (upd H1 l9 (.lst [])) lw (.lst ws.dropLast)) := Nl.lst ri9.hw
    have rs0 : Rst K L vs lf lw H (2 * (27 - F.length) + (W.length - 1)) (W.getD (W.length - 1) []) (fun t => ∃ j, j < 0 ∧ t = nxS vs (W.getD (W.length - 1) []) j) (upd (upd H1 l9 (.lst [])) lw (.lst ws.dropLast)) := by
      refine ⟨fs, ws.dropLast, F, W.dropLast, { ri9 with ex := Ex.mut ri9.ex hwH, hf := (upd_ne hfw).trans ri9.hf, tf := ri9.tf.mono n1, hw := upd_same, tw := ?_, sub := fun s h => ri.sub s (List.dropLast_subset _ h) }, by rw [List.length_dropLast]; exact Nat.le_refl _, fun s hs => ?_, fun t ⟨j, h, _⟩ => absurd h (Nat.not_lt_zero j)⟩
      · rw [← dropLast_map]
        exact TpA.dropLast (ri9.tw.mono n1)
      · rcases hcl s hs with h | h
        · by_cases hl : s ∈ W.dropLast
          · exact .inl hl
          · exact .inr (.inl (last_of h hl))
        · exact .inr (.inr h)
    have ti0 : Tp K (upd (upd H1 l9 (.lst [])) lw (.lst ws.dropLast)) (.ref ay) (tI (W.getD (W.length - 1) [])) := ty.mono n1
    generalize upd (upd H1 l9 (.lst [])) lw (.lst ws.dropLast) = H2 at rs0 ti0
    generalize W.getD (W.length - 1) [] = spot at rs0 ti0 hspR hspO
    have hM53 : 2 * (27 - F.length) + (W.length - 1) ≤ 53 := by omega
    generalize 2 * (27 - F.length) + (W.length - 1) = M at rs0 hM53
    have eH2 : Ex H H2 := by
      obtain ⟨_, _, _, _, r, _⟩ := rs0
      exact r.ex
    refine ⟨_, rfl, _, _, _, _, rfl, rfl, nl_t (Nl.ex eH2) ha, atI_nat (j := 0) hm0, _, _, _, _, rfl, rfl, nl_t (Nl.ex eH2) g4, atI_nat (j := 0) rfl, al, rfl, ⟨_, nl_t (Nl.ex eH2) g5.sq⟩, ?_⟩
    refine for_tup (xs := L.map V.str) (fun j σ' H' => ∃ (z4 z5 : Option V), σ' = [some (.ref a), some (.ref lf), some (.ref lw), some (.ref ay), z4, z5] ∧ Nl H2 H' ∧ Rst K L vs lf lw H M spot (fun t => ∃ j', j' < j ∧ t = nxS vs spot j') H') ⟨_, _, rfl, Nl.refl _, rs0⟩ (fun j σ' H' _ h => ?_) ?_ ?_
    · obtain ⟨_, _, _, _, _, _, _, _, r, _⟩ := h
      exact nl_t (Nl.ex r.ex) g5.sq
    · rintro j c σ' H3 hj ⟨z4, z5, rfl, n3, rs⟩
      rw [List.getElem?_map, Option.map_eq_some_iff] at hj
      obtain ⟨c, hc, rfl⟩ := hj
      have hjl := (List.getElem?_eq_some_iff.mp hc).1
      have eH3 : Ex H H3 := by
        obtain ⟨_, _, _, _, r, _⟩ := rs
        exact r.ex
      refine ⟨_, rfl, _, rfl, sz1, fun l1 hl1 => ?_⟩
      have e1 := Evl.Ex.new (o := .lst [V.ref ay]) hl1
      refine ⟨_, rfl, sz1, fun t1 ht1 => ?_⟩
      have e2 := Evl.Ex.new (o := .tup [V.str c]) ht1
      have e12 := e1.trans e2
      have ti3 := (ti0.mono n3).mono (Nl.ex e12)
      refine ⟨_, _, _, rfl, L, vs, l1, _, [spot], [j], hv.mono (Nl.ex (eH3.trans e12)), ok, rfl, e2 _ _ upd_same, .cons ti3 .nil, by simp, fun s hs => by rw [List.mem_singleton] at hs; rw [hs]; exact hspO, of_tS (by rw [rdg, List.map_singleton, getD_at hc]; exact .inl (.inl upd_same)), by simpa using hjl, fun p zs H5 S5 hp0 e5 hp t5 nd5 hm5 => ?_⟩
      have e15 := e12.trans e5
      have hS5 : ∀ s, s ∈ S5 ↔ s = nxS vs spot j := fun s => by
        rw [hm5]
        constructor
        · rintro ⟨s0, h0, rfl⟩
          rw [List.mem_singleton] at h0
          rw [h0]
          rfl
        · rintro rfl
          exact ⟨spot, List.mem_singleton.mpr rfl, rfl⟩
      have hzl : zs.length = S5.length := by rw [t5.length, List.length_map]
      have hpf : p ≠ lf := by
        rintro rfl
        obtain ⟨_, _, _, _, r, _⟩ := rs
        rw [e12 _ _ r.hf] at hp0
        cases hp0
      have hpw : p ≠ lw := by
        rintro rfl
        obtain ⟨_, _, _, _, r, _⟩ := rs
        rw [e12 _ _ r.hw] at hp0
        cases hp0
      refine ⟨p, rfl, ⟨_, SqL.of hp⟩, ?_⟩
      refine for_list (xs := zs) (fun k σ' H' => ∃ (z5 : Option V), σ' = [some (.ref a), some (.ref lf), some (.ref lw), some (.ref ay), some (.str c), z5] ∧ Nl H5 H' ∧ H' p = some (.lst zs) ∧ Rst K L vs lf lw H M spot (fun t => (∃ j', j' < j ∧ t = nxS vs spot j') ∨ (0 < k ∧ t = nxS vs spot j)) H') ⟨_, rfl, Nl.refl _, hp, ?_⟩ (fun k σ' H' _ h => ?_) ?_ ?_
      · obtain ⟨f1, w1, F1, W1, r1, r2, r3, r4⟩ := rs
        exact ⟨f1, w1, F1, W1, r1.up e15, r2, r3, fun t ht => ht.elim (r4 t) fun h => absurd h.1 (Nat.lt_irrefl 0)⟩
      · obtain ⟨_, _, _, h, _⟩ := h
        exact SqL.of h
      · rintro k u σ' H6 hu ⟨z5, rfl, n6, hp6, f1, w1, F1, W1, r1, r2, r3, r4⟩
        obtain ⟨d, hd, tu⟩ := t5.got hu
        have hk : k < S5.length := by have := (List.getElem?_eq_some_iff.mp hu).1; omega
        rw [map_get (f := tI) hk [], (hS5 _).mp (getD_mem hk)] at hd
        cases hd
        have h27 := r1.few ok
        have hfl : f1.length = F1.length := by rw [r1.tf.length, List.length_map]
        have hwl1 : w1.length = W1.length := by rw [r1.tw.length, List.length_map]
        have tx := tu.mono n6
        unfold gName
        dsimp only
        refine w_sq ?_
        refine ext_step (K := K) (i := 2) rfl rfl rfl tx r1.hw r1.hf r1.tf (by omega) fun H7 e7 => ?_
        dsimp only
        have r7 := r1.up e7
        have hf7 : (L2.upd H7 lw (.lst (w1 ++ if nxS vs spot j ∈ F1 then [] else [u]))) lf = some (.lst f1) := (upd_ne hfw).trans r7.hf
        have n7 : Nl H7 (L2.upd H7 lw (.lst (w1 ++ if nxS vs spot j ∈ F1 then [] else [u]))) := Nl.lst r7.hw
        refine ext_step (K := K) (i := 1) rfl rfl rfl ((tx.mono (Nl.ex e7)).mono n7) hf7 hf7 (r7.tf.mono n7) (by omega) fun H8 e8 => ?_
        have hf8 := e8 _ _ hf7
        have n8 : Nl H8 (L2.upd H8 lf (.lst (f1 ++ if nxS vs spot j ∈ F1 then [] else [u]))) := Nl.lst hf8
        have n68 := (((Nl.ex e7).trans n7).trans (Nl.ex e8)).trans n8
        have hw8 : (L2.upd H8 lf (.lst (f1 ++ if nxS vs spot j ∈ F1 then [] else [u]))) lw = some (.lst (w1 ++ if nxS vs spot j ∈ F1 then [] else [u])) := (upd_ne (Ne.symm hfw)).trans (e8 _ _ upd_same)
        have ex8 : Ex H (L2.upd H8 lf (.lst (f1 ++ if nxS vs spot j ∈ F1 then [] else [u]))) := Ex.mut ((Ex.mut (r1.ex.trans e7) hwH).trans e8) hfH
        refine ⟨_, rfl, n6.trans n68, (upd_ne hpf).trans (e8 _ _ ((upd_ne hpw).trans (e7 _ _ hp6))), ?_⟩
        by_cases hin : nxS vs spot j ∈ F1
        · have hw8 := hw8.trans (show some (HO.lst (w1 ++ if nxS vs spot j ∈ F1 then [] else [u])) = some (HO.lst w1) by rw [if_pos hin, List.append_nil])
          refine ⟨f1, w1, F1, W1, ⟨ex8, by rw [upd_same, if_pos hin, List.append_nil], r1.tf.mono n68, hw8, r1.tw.mono n68, r1.nd, r1.z, r1.re, r1.sub⟩, r2, r3, fun t ht => ?_⟩
          rcases ht with h | ⟨_, et⟩
          · exact r4 t (.inl h)
          · rw [et]
            exact hin
        · have hw8 := hw8.trans (show some (HO.lst (w1 ++ if nxS vs spot j ∈ F1 then [] else [u])) = some (HO.lst (w1 ++ [u])) by rw [if_neg hin])
          have tx8 := tx.mono n68
          refine ⟨f1 ++ [u], w1 ++ [u], F1 ++ [nxS vs spot j], W1 ++ [nxS vs spot j], ⟨ex8, by rw [upd_same, if_neg hin], ?_, hw8, ?_, ?_, List.mem_append_left _ r1.z, fun s hs => ?_, fun s hs => ?_⟩, ?_, fun s hs => ?_, fun t ht => ?_⟩
          · rw [List.map_append]
            exact (r1.tf.mono n68).snoc tx8
          · rw [List.map_append]
            exact (r1.tw.mono n68).snoc tx8
          · rw [List.nodup_append]
            refine ⟨r1.nd, by simp, fun x hx y hy e => ?_⟩
            rw [List.mem_singleton] at hy
            subst hy
            subst e
            exact hin hx
          · rcases List.mem_append.mp hs with h | h
            · exact r1.re s h
            · rw [List.mem_singleton] at h
              rw [h]
              exact hspR.next hjl
          · rcases List.mem_append.mp hs with h | h
            · exact List.mem_append_left _ (r1.sub s h)
            · exact List.mem_append_right _ h
          · have h28 : (F1 ++ [nxS vs spot j]).length ≤ 27 := by
              refine few_states ok.wf ok.vl (vs := vs) (n := L.length) ?_ fun s hs => ?_
              · rw [List.nodup_append]
                refine ⟨r1.nd, by simp, fun x hx y hy e => ?_⟩
                rw [List.mem_singleton] at hy
                subst hy
                subst e
                exact hin hx
              · rcases List.mem_append.mp hs with h | h
                · exact (r1.re s h).ok ok.wf
                · rw [List.mem_singleton] at h
                  rw [h]
                  exact (hspR.next hjl).ok ok.wf
            rw [List.length_append, List.length_singleton] at h28
            rw [List.length_append, List.length_append, List.length_singleton]
            omega
          · rcases List.mem_append.mp hs with h | h
            · rcases r3 s h with h | h | h
              · exact .inl (List.mem_append_left _ h)
              · exact .inr (.inl h)
              · exact .inr (.inr fun j hj => List.mem_append_left _ (h j hj))
            · exact .inl (List.mem_append_right _ h)
          · rcases ht with h | ⟨_, et⟩
            · exact List.mem_append_left _ (r4 t (.inl h))
            · rw [et]
              exact List.mem_append_right _ (List.mem_singleton.mpr rfl)
      · rintro σ' H6 ⟨z5, rfl, n6, hp6, f1, w1, F1, W1, r1, r2, r3, r4⟩
        refine ⟨_, _, rfl, (n3.trans (Nl.ex e15)).trans n6, f1, w1, F1, W1, r1, r2, r3, fun t ⟨j', hj', et⟩ => ?_⟩
        by_cases hjj : j' = j
        · subst hjj
          refine r4 t (.inr ⟨?_, et⟩)
          rw [hzl]
          exact List.length_pos_of_mem ((hS5 _).mpr rfl)
        · exact r4 t (.inl ⟨j', by omega, et⟩)
    · rintro σ' H3 ⟨z4, z5, rfl, n3, rs⟩
      rw [List.length_map] at rs
      exact ⟨_, _, _, rfl, rs⟩
end
end AN
end

-- ANw21
section
set_option Elab.async false
set_option linter.all false
set_option maxRecDepth 100000
set_option maxHeartbeats 4000000
namespace AN
open PySem PySem.Spec PyProof.Rows L2 StX
open Evl (Ex)

theorem Sx.nl {a : Addr} {H H' : Hp} (x : Sx a H H') : Nl H H' := x.2
theorem sx_of {a : Addr} {H H' : Hp} {xs : List V} (ha : H a = some (.lst xs)) (x : Xb (fun b => b = a) H H') : Sx a H H' := ⟨x, fun b o hb no => x b o (fun e => by subst e; rw [ha] at hb; cases hb; exact no _ rfl) hb⟩
/-- J gives n things while the source turns -/
structure RunsS (a : Addr) (J : It) (H1 : Hp) (n : Nat) (Y : Nat → V → Hp → Prop) : Prop where
  go : ∀ i H, i < n → Sx a H1 H → J.go i H
  stop : ∀ H, Sx a H1 H → J.stop n H
  yld : ∀ i H x H', i < n → Sx a H1 H → J.yld i H x H' → Ex H H' ∧ Y i x H'
theorem runsS_t {K : PySem.W.Frag} {H1 : Hp} {a b : Addr} {xs : List V} (h : SqT K H1 b xs) : RunsS a (Itt K b) H1 xs.length (fun i x _ => xs[i]? = some x) where
  go := fun i H hi e => ⟨xs, xs[i], nl_t e.2 h, by simp [hi]⟩
  stop := fun H e => ⟨xs, nl_t e.2 h, Nat.le_refl _⟩
  yld := fun i H x H' hi e y => by
    obtain ⟨rfl, y⟩ := y
    exact ⟨Ex.refl _, y xs (nl_t e.2 h)⟩
theorem runsS_r {H1 : Hp} {a : Addr} (n : Nat) : RunsS a (Itr 0 n) H1 n (fun i x _ => x = .int (i : Int)) where
  go := fun i H hi e => hi
  stop := fun H e => Nat.le_refl _
  yld := fun i H x H' hi e y => by
    obtain ⟨rfl, y⟩ := y
    exact ⟨Ex.refl _, by rw [y]; simp⟩
theorem allP_rdg {L : List PySem.Str} {H : Hp} : ∀ {l : List Nat} {xs : List V}, AllP (fun _ v _ => ∃ j, j < L.length ∧ v = .str (L.getD j PySem.Str.empty)) H l xs → ∃ js : List Nat, xs = (rdg L js).map V.str ∧ (∀ j ∈ js, j < L.length) ∧ js.length = l.length
  | [], [], _ => ⟨[], rfl, fun _ h => absurd h List.not_mem_nil, rfl⟩
  | _ :: _, _ :: _, ⟨⟨j, h1, h2⟩, t⟩ => by
    obtain ⟨js, rfl, h3, h4⟩ := allP_rdg t
    refine ⟨j :: js, by rw [h2]; rfl, fun x hx => ?_, by simp [h4]⟩
    rcases List.mem_cons.mp hx with rfl | hx
    · exact h1
    · exact h3 x hx
  | [], _ :: _, h => h.elim
  | _ :: _, [], h => h.elim
/-- a comprehension whose elements draw -/
theorem lc_src {J : It} {g : TG} {tt : TT} {te : TE} {vs : List Nat} {σ : L2.St} {H1 : Hp} {Q : VK} {n : Nat} {Y : Nat → V → Hp → Prop} {a p : Addr} {N c : Nat} (R : RunsS a J H1 n Y) (P : Nat → VP) (hn : n < 100000) (hsrc : Src H1 a p N) (hP : ∀ i v H H', Nl H H' → P i v H → P i v H')
    (hs : ∀ i x H, i < n → Sx a H1 H → Src H a p (N + c * i) → Y i x H → ∀ C : L2.St → Hp → Prop, (∀ σ2 H2, wipe σ2 vs = wipe σ vs → Ex H H2 → (∀ Q : Bool → Hp → Prop, (∀ H3, Ex H2 H3 → Q true H3) → tt σ2 H2 Q) →
      (∀ H3, Ex H2 H3 → ∀ Q : VK, (∀ v H4, Sx a H3 H4 → Src H4 a p (N + c * (i + 1)) → P i v H4 → Q v H4) → te σ2 H3 Q) → C σ2 H2) → g x (wipe σ vs) H C)
    (hd : ∀ D H xs, H1 D = none → Sx a H1 H → Src H a p (N + c * n) → H D = some (.lst xs) → AllP P H (List.range n) xs → Q (.ref D) H) :
    LcB J g tt te vs σ H1 Q := fun D hD => by
  obtain ⟨ns, at_, pd, tn, h1, h2, h3, h4, h5⟩ := id hsrc
  have hDa : D ≠ a := fun e => by rw [← e, hD] at h3; cases h3
  have hDp : D ≠ p := fun e => by rw [← e, hD] at h4; cases h4
  refine lc_go (J := J) (g := g) (tt := tt) (te := te) (vs := vs) (σ := σ) n (fun _ => true) P (fun b => b = a) (fun i H => Src H a p (N + c * i)) hD hn (fun b e => by subst e; exact ⟨_, h3⟩) (fun i H b hi e => by
      subst e
      obtain ⟨_, _, _, _, _, _, r, _⟩ := hi
      exact ⟨_, r⟩) hP (fun i H o hi => ?_) hsrc
    (fun i H hi x _ => R.go i H hi (sx_of h3 x)) (fun H x _ => R.stop H (sx_of h3 x)) ?_ (fun H xs x hin e1 e2 => hd D H xs hD (sx_of h3 x) hin e1 (by rw [filter_true] at e2; exact e2))
  · obtain ⟨ns', a1, a2, a3, r1, r2, r3, r4, r5⟩ := hi
    exact ⟨ns', a1, a2, a3, r1, r2, (upd_ne (Ne.symm hDa)).trans r3, (upd_ne (Ne.symm hDp)).trans r4, r5⟩
  · intro i x H H' hi hx hin y
    obtain ⟨e, hy⟩ := R.yld i H x H' hi (sx_of h3 hx) y
    refine ⟨e, fun C k => ?_⟩
    refine hs i x H' hi ((sx_of h3 hx).trans (Sx.ex e)) (hin.ex e) hy C fun σ2 H2 hw e2 htt hte => ?_
    exact k σ2 H2 hw e2 htt (fun _ _ h => by cases h) fun _ H3 e3 Q q => hte H3 e3 Q fun v H4 sx src pv => q v H4 sx.1 sx.2 src pv

abbrev N_d_law_signs : List PySem.Str := ["_law_source_here", "_law_crowd_here", "_law_most", "_law_lap"]
theorem sc_d_law_signs : FnScope N_d_law_signs ["_law_source_here", "_law_crowd_here", "_law_most"] AN.d_law_signs.scope := ⟨rfl, rfl, rfl, by decide +kernel, rfl, by decide +kernel, by decide +kernel⟩
section
variable {P : Program} {w : World} {K : PySem.W.Frag} {mg : PySem.Str → Option Value} {base : Heap} (T : Kit K mg)
include T
theorem w_law_signs : GF P w K mg base 2 (AN.d_law_signs.at_ K) (sp3 (fun s v mo H Q => ∃ (a l : Addr) (N m : Nat) (L : List PySem.Str) (vs : List Rows), s = .ref a ∧ Src H a l N ∧ N < 100000000 ∧ Vt K H v L vs ∧ Vok L vs ∧ mo = .int (m : Int) ∧ m ≤ 50 ∧ ∀ (v : V) (H' : Hp) (js : List Nat), Sx a H H' → Src H' a l (N + 60) → Tp K H' v (tS (rdg L js)) → (∀ j ∈ js, j < L.length) → js.length ≤ m → Q v H')) := by
  obtain ⟨fd, F⟩ := T.d_law_signs
  refine rr F sc_d_law_signs len3 (fun _ _ _ _ _ _ us hl => match us, hl with | [_, _, _], _ => rfl) (fun cdv A outer s H vs Q E hr h => ?_)
  have hu64 : (A.deeper (envOfC AN.d_law_signs.qual AN.d_law_signs.scope s.heap.objs.size (AN.d_law_signs.at_ K) cdv)).units + 65 < cLine := hu_of65 hr
  have hu63 : (A.deeper (envOfC AN.d_law_signs.qual AN.d_law_signs.scope s.heap.objs.size (AN.d_law_signs.at_ K) cdv)).units + 64 < cLine := Nat.lt_of_succ_lt hu64
  have hu1 : (A.deeper (envOfC AN.d_law_signs.qual AN.d_law_signs.scope s.heap.objs.size (AN.d_law_signs.at_ K) cdv)).units + 1 < cLine := hu_of hr
  have nd := sc_d_law_signs.nd
  obtain ⟨s0, v, mo, rfl, a, lp, N, m, L, vs, rfl, hsrc, hN, hv, ok, rfl, hm, q⟩ := h
  refine ⟨_, PSs.nox (pss_one (ps_ret (pe_callTy call_tuple_of (by rfl) T.f_tuple (by decide +kernel) (pa_cons (pe_lc (own := [("_law_lap", 3)]) rfl nd (pi_range1 (by rfl) T.f_range (pa_cons (pe_gf (w_law_draw T) (hr.mono (by decide)) (by rfl) T.g_law_draw pass0 (pa_cons (pv 0) (pa_cons (pe_op op_add (pv 2) pe_int) pa_nil))) pa_nil)) (blkOk_by (own := [("_law_lap", 3)]) (N := N_d_law_signs) (sc := AN.d_law_signs.scope) (by decide +kernel)) (fun _ _ _ _ _ => (pg_name (i := 3) nd rfl (Or.inl rfl))) (fun _ _ _ _ _ => pts_nil) (fun _ _ _ _ _ => (pe_ix (r := rIxT K) ix_tup (pe_ix (r := rIxT K) ix_tup (pe_ix (r := rIxT K) ix_tup (pv 1) pe_int (fun _ _ => rfl)) pe_int (fun _ _ => rfl)) (pe_gf (w_law_draw T) (hr.mono (by decide)) (by rfl) T.g_law_draw pass0 (pa_cons (pv 0) (pa_cons (pe_callB (r := rLenK K) call_len_seq (by rfl) T.f_len (by decide +kernel) (pa_cons (pe_ix (r := rIxT K) ix_tup (pe_ix (r := rIxT K) ix_tup (pv 1) pe_int (fun _ _ => rfl)) pe_int (fun _ _ => rfl)) pa_nil)) pa_nil))) (fun _ _ => rfl)))) pa_nil)))), ?_⟩

  obtain ⟨av, xs, rfl, ha, hxl, hgv⟩ := hv.get
  obtain ⟨m0, hm0, am, al, r, rfl, g4, g5, g6⟩ := hgv 0 ok.vp
  ((try dsimp only); (repeat (first | refine w_lc ?_ | unfold gName | unfold tIfS | unfold tNot | unfold tB | unfold tTest | unfold tRet | unfold tAsg | unfold tSeq | unfold tDrop | unfold tCB | unfold tCons)))
  refine ⟨_, rfl, _, rfl, _, _, rfl, rfl, _, _, rfl, a, lp, N, m + 1, rfl, hsrc, by omega, rfl, by omega, by omega, fun d H1 hd sx1 src1 => ?_⟩
  refine ⟨_, rfl, by omega, by omega, ?_⟩
  have hLp := ok.lp
  have hLl := ok.le
  refine lc_src (n := d) (c := 1) (runsS_r d) (fun i v _ => ∃ j, j < L.length ∧ v = .str (L.getD j PySem.Str.empty)) (by omega) src1 (fun _ _ _ _ _ h => h) ?_ ?_
  · intro i u H7 hi7 sx7 src7 hu C kk
    refine kk _ _ rfl (Ex.refl _) (fun Q q => q _ (Ex.refl _)) (fun H9 e9 Q q => ?_)
    have sx9 := (sx1.trans sx7).trans (Sx.ex e9)
    refine ⟨_, rfl, _, _, _, _, rfl, rfl, nl_t sx9.2 ha, atI_nat (j := 0) hm0, _, _, _, _, rfl, rfl, nl_t sx9.2 g4, atI_nat (j := 0) rfl, ?_⟩
    refine ⟨_, rfl, _, rfl, _, _, _, _, rfl, rfl, nl_t sx9.2 ha, atI_nat (j := 0) hm0, _, _, _, _, rfl, rfl, nl_t sx9.2 g4, atI_nat (j := 0) rfl, ?_⟩
    refine ⟨_, _, rfl, .inr (nl_t sx9.2 g5.sq), _, _, rfl, a, lp, _, (L.map V.str).length, rfl, src7.ex e9, by omega, rfl, by rw [List.length_map]; omega, by rw [List.length_map]; omega, fun j H10 hj sx10 src10 => ?_⟩
    rw [List.length_map] at hj
    exact ⟨_, _, _, _, rfl, rfl, nl_t (sx9.trans sx10).2 g5.sq, atI_nat (map_get hj PySem.Str.empty), q _ _ sx10 (src10.up (by omega)) ⟨j, hj, rfl⟩⟩
  · intro D H7 xs7 hD sx7 src7 hD7 hall
    obtain ⟨js, rfl, hjs, hjl⟩ := allP_rdg hall
    rw [List.length_range] at hjl
    refine ⟨D, _, rfl, .inl ⟨SqL.of hD7, fun p2 hp2 => ?_⟩⟩
    have e8 := Evl.Ex.new (o := .tup ((rdg L js).map V.str)) hp2
    exact q _ _ js ((sx1.trans sx7).trans (Sx.ex e8)) ((src7.ex e8).up (by omega)) (of_tS (.inl (.inl upd_same))) hjs (by omega)
end
abbrev N_d_law_lore : List PySem.Str := ["_law_source_here", "_law_crowd_here", "_law_every"]
theorem sc_d_law_lore : FnScope N_d_law_lore ["_law_source_here", "_law_crowd_here"] AN.d_law_lore.scope := ⟨rfl, rfl, rfl, by decide +kernel, rfl, by decide +kernel, by decide +kernel⟩
section
variable {P : Program} {w : World} {K : PySem.W.Frag} {mg : PySem.Str → Option Value} {base : Heap} (T : Kit K mg)
include T
theorem w_law_lore : GF P w K mg base 4 (AN.d_law_lore.at_ K) (sp2 (fun s v H Q => ∃ (a l : Addr) (N : Nat) (L : List PySem.Str) (vs : List Rows), s = .ref a ∧ Src H a l N ∧ N < 90000000 ∧ Vt K H v L vs ∧ Vok L vs ∧ ∀ (v : V) (H' : Hp) (S : List (List Nat)), Sx a H H' → Src H' a l (N + 61) → Tp K H' v (stsD S) → S ≠ [] → (∀ s ∈ S, Reach L.length vs s) → S.length < 60 → Q v H')) := by
  obtain ⟨fd, F⟩ := T.d_law_lore
  refine rr F sc_d_law_lore len2 (fun _ _ _ _ _ _ us hl => match us, hl with | [_, _], _ => rfl) (fun cdv A outer s H vs Q E hr h => ?_)
  have hu64 : (A.deeper (envOfC AN.d_law_lore.qual AN.d_law_lore.scope s.heap.objs.size (AN.d_law_lore.at_ K) cdv)).units + 65 < cLine := hu_of65 hr
  have hu63 : (A.deeper (envOfC AN.d_law_lore.qual AN.d_law_lore.scope s.heap.objs.size (AN.d_law_lore.at_ K) cdv)).units + 64 < cLine := Nat.lt_of_succ_lt hu64
  have hu1 : (A.deeper (envOfC AN.d_law_lore.qual AN.d_law_lore.scope s.heap.objs.size (AN.d_law_lore.at_ K) cdv)).units + 1 < cLine := hu_of hr
  have nd := sc_d_law_lore.nd
  obtain ⟨s0, v, rfl, a, lp, N, L, vs, rfl, hsrc, hN, hv, ok, q⟩ := h
  refine ⟨_, PSs.nox (pss_cons (ps_set (i := 2) nd rfl (Or.inl rfl) (pe_gf (w_law_reached T) (hr.mono (by decide)) (by rfl) T.g_law_reached pass0 (pa_cons (pv 1) pa_nil))) (pss_one (ps_ret (pe_gf (w_law_sample T) (hr.mono (by decide)) (by rfl) T.g_law_sample pass0 (pa_cons (pv 0) (pa_cons (pv 2) (pa_cons (pe_op op_add pe_int (pe_gf (w_law_draw T) (hr.mono (by decide)) (by rfl) T.g_law_draw pass0 (pa_cons (pv 0) (pa_cons (pe_callB (call_min2 rfl) (by rfl) T.f_min (by decide +kernel) (pa_cons pe_int (pa_cons (pe_callB call_len_seq (by rfl) T.f_len (by decide +kernel) (pa_cons (pv 2) pa_nil)) pa_nil))) pa_nil)))) pa_nil))))))), ?_⟩

  refine ⟨_, rfl, _, rfl, L, vs, hv, ok, fun p zs H1 S e1 hp tS nd0 hS => ?_⟩
  have h27 := few_states ok.wf ok.vl nd0 fun s hs => ((hS s).mp hs).ok ok.wf
  have hpos : 0 < S.length := List.length_pos_of_mem ((hS _).mpr (Reach.zero _ _))
  have hzl : zs.length = S.length := by rw [tS.length, List.length_map]
  refine ⟨_, rfl, _, rfl, _, rfl, _, rfl, _, _, rfl, .inl (SqL.of hp), _, _, rfl, _, _, rfl, a, lp, N, min 4 S.length, rfl, hsrc.ex e1, by omega, ?_, by omega, by omega, fun d H2 hd sx2 src2 => ?_⟩
  · show V.int (if (zs.length : Int) < 4 then (zs.length : Int) else 4) = _
    congr 1
    split <;> omega
  have hpa : p ≠ a := fun e => by
    obtain ⟨_, _, _, _, _, _, r, _⟩ := hsrc
    rw [e, e1 _ _ r] at hp
    have hp := Option.some.inj hp
    injection hp with hp
    rw [← hp] at tS
    obtain ⟨d1, hd1, t1⟩ := tS.got (i := 1) rfl
    rw [List.getElem?_map, Option.map_eq_some_iff] at hd1
    obtain ⟨s1, _, rfl⟩ := hd1
    obtain ⟨x, e2, _⟩ := tI_of t1
    cases e2
  refine ⟨_, _, rfl, rfl, _, _, _, rfl, a, lp, p, N + 1, 1 + d, vs.length, zs, S, rfl, src2, by omega, rfl, sx2.get hpa hp, tS.mono sx2.2, by omega, rfl, by omega, ok.vp, fun s hs => fits ok (((hS s).mp hs).ok ok.wf), fun v3 H3 S3 sx3 src3 t3 h3 hl3 => ?_⟩
  refine q v3 H3 S3 (((Sx.ex e1).trans sx2).trans sx3) (src3.up (by omega)) t3 (fun e => ?_) (fun s hs => (hS s).mp (h3 s hs)) (by omega)
  rw [e] at hl3
  simp at hl3
  omega
end
end AN
end

-- ANw22
section
set_option Elab.async false
set_option linter.all false
set_option maxRecDepth 100000
set_option maxHeartbeats 4000000
namespace AN
open PySem PySem.Spec PyProof.Rows L2 StX
open Evl (Ex)

/-- the words of a machine can be laid -/
def WOk (R : Rows) : Prop := ∀ r ∈ R, ∀ p ∈ r, PyData.strOk p.2 = true
theorem allP_row {K : PySem.W.Frag} {H : Hp} {n : Nat} : ∀ {l : List Nat} {xs : List V}, AllP (fun _ v H => ∃ pr : Nat × PySem.Str, (pr.1 < n ∧ PyData.strOk pr.2 = true) ∧ Tp K H v (pairD pr)) H l xs → ∃ r : List (Nat × PySem.Str), TpA K H xs (r.map pairD) ∧ (∀ p ∈ r, p.1 < n ∧ PyData.strOk p.2 = true) ∧ r.length = l.length
  | [], [], _ => ⟨[], .nil, fun _ h => absurd h List.not_mem_nil, rfl⟩
  | _ :: _, _ :: _, ⟨⟨pr, h1, h2⟩, t⟩ => by
    obtain ⟨r, h3, h4, h5⟩ := allP_row t
    refine ⟨pr :: r, .cons h2 h3, fun x hx => ?_, by simp [h5]⟩
    rcases List.mem_cons.mp hx with rfl | hx
    · exact h1
    · exact h4 x hx
  | [], _ :: _, h => h.elim
  | _ :: _, [], h => h.elim
theorem lay_row : ∀ {r : List (Nat × PySem.Str)}, (∀ p ∈ r, PyData.strOk p.2 = true) → PyData.canLayAll0 (r.map pairD) = true
  | [], _ => by simp [PyData.canLayAll0]
  | p :: r, h => by
    have h1 := h p List.mem_cons_self
    have h2 := lay_row fun q hq => h q (List.mem_cons_of_mem _ hq)
    simp only [List.map_cons, PyData.canLayAll0, pairD, PyData.canLay0, h1, h2, Bool.and_self]
theorem lay_rows : ∀ {R : Rows}, (∀ r ∈ R, ∀ p ∈ r, PyData.strOk p.2 = true) → PyData.canLayAll0 (R.map rowD) = true
  | [], _ => by simp [PyData.canLayAll0]
  | r :: R, h => by
    have h1 := lay_row (h r List.mem_cons_self)
    have h2 := lay_rows fun q hq => h q (List.mem_cons_of_mem _ hq)
    simp only [List.map_cons, PyData.canLayAll0, rowD, PyData.canLay0, h1, h2, Bool.and_self]
theorem dep_row : ∀ r : List (Nat × PySem.Str), PyData.depthAll (r.map pairD) ≤ 2
  | [] => by simp [PyData.depthAll]
  | p :: r => by
    have := dep_row r
    simp only [List.map_cons, PyData.depthAll, pairD, PyData.depth]
    omega
theorem dep_rows : ∀ R : Rows, PyData.depthAll (R.map rowD) ≤ 3
  | [] => by simp [PyData.depthAll]
  | r :: R => by
    have := dep_rows R
    have := dep_row r
    simp only [List.map_cons, PyData.depthAll, rowD, PyData.depth]
    omega
theorem rowsL_shaped {R : Rows} (h : ∀ r ∈ R, ∀ p ∈ r, PyData.strOk p.2 = true) : SeqAt.shaped (.list (R.map rowD)) = true := shaped_of (by simp only [PyData.canLay0]; exact lay_rows h) (by have := dep_rows R; simp only [PyData.depth]; omega)
theorem eqv_nilR {R : Rows} : PyData.eqv (.list (R.map rowD)) (.list []) = decide (R = []) := by
  rw [PyData.eqv]
  cases R with
  | nil => simp [PyData.eqvAll]
  | cons a R => simp [PyData.eqvAll]

abbrev N_d_law_engine : List PySem.Str := ["_law_source_here", "_law_signs_here", "_law_most", "_law_many", "_law_rows", "_law_spot", "_law_row", "_law_sign"]
theorem sc_d_law_engine : FnScope N_d_law_engine ["_law_source_here", "_law_signs_here", "_law_most"] AN.d_law_engine.scope := ⟨rfl, rfl, rfl, by decide +kernel, rfl, by decide +kernel, by decide +kernel⟩
section
variable {P : Program} {w : World} {K : PySem.W.Frag} {mg : PySem.Str → Option Value} {base : Heap} (T : Kit K mg)
include T
theorem w_law_engine : GF P w K mg base 2 (AN.d_law_engine.at_ K) (sp3 (fun s sg mo H Q => ∃ (a l al : Addr) (N m : Nat) (L : List PySem.Str), s = .ref a ∧ Src H a l N ∧ N < 100000000 ∧ sg = .ref al ∧ NdT H al (L.map .str) ∧ L.length ≤ 3 ∧ mo = .int (m : Int) ∧ 1 ≤ m ∧ m ≤ 3 ∧ ∀ (v : V) (H' : Hp) (R : Rows), Sx a H H' → Src H' a l (N + 100) → Mt K H' v L R → Wf L.length R → WOk R → Q v H')) := by
  obtain ⟨fd, F⟩ := T.d_law_engine
  refine rr F sc_d_law_engine len3 (fun _ _ _ _ _ _ us hl => match us, hl with | [_, _, _], _ => rfl) (fun cdv A outer s H vs Q E hr h => ?_)
  have hu64 : (A.deeper (envOfC AN.d_law_engine.qual AN.d_law_engine.scope s.heap.objs.size (AN.d_law_engine.at_ K) cdv)).units + 65 < cLine := hu_of65 hr
  have hu63 : (A.deeper (envOfC AN.d_law_engine.qual AN.d_law_engine.scope s.heap.objs.size (AN.d_law_engine.at_ K) cdv)).units + 64 < cLine := Nat.lt_of_succ_lt hu64
  have hu1 : (A.deeper (envOfC AN.d_law_engine.qual AN.d_law_engine.scope s.heap.objs.size (AN.d_law_engine.at_ K) cdv)).units + 1 < cLine := hu_of hr
  have nd := sc_d_law_engine.nd
  obtain ⟨s0, sg, mo, rfl, a, lp, al, N, m, L, rfl, hsrc, hN, rfl, hal, hL, rfl, hm1, hm3, q⟩ := h
  refine ⟨_, PSs.nox (pss_cons (ps_asg (pe_tup (pa_cons (pe_op op_add pe_int (pe_gf (w_law_draw T) (hr.mono (by decide)) (by rfl) T.g_law_draw pass0 (pa_cons (pv 0) (pa_cons (pv 2) pa_nil)))) (pa_cons (pe_lst pa_nil) pa_nil))) (pg_tup rfl (pgs_cons (pg_name (i := 3) nd rfl (Or.inr rfl)) (pgs_cons (pg_name (i := 4) nd rfl (Or.inl rfl)) pgs_nil)))) (pss_cons (ps_for PassesOwn.never rfl (pi_range1 (by rfl) T.f_range (pa_cons (pv 3) pa_nil)) (pg_name (i := 5) nd rfl (Or.inl rfl)) (pss_cons (ps_set (i := 6) nd rfl (Or.inl rfl) (pe_callTy call_tuple_of (by rfl) T.f_tuple (by decide +kernel) (pa_cons (pe_lc (own := [("_law_sign", 7)]) rfl nd (pi_tup (pv 1)) (blkOk_by (own := [("_law_sign", 7)]) (N := N_d_law_engine) (sc := AN.d_law_engine.scope) (by decide +kernel)) (fun _ _ _ _ _ => (pg_name (i := 7) nd rfl (Or.inl rfl))) (fun _ _ _ _ _ => pts_nil) (fun _ _ _ _ _ => (pe_tup (pa_cons (pe_gf (w_law_draw T) (hr.mono (by decide)) (by rfl) T.g_law_draw pass0 (pa_cons (pv 0) (pa_cons (pv 3) pa_nil))) (pa_cons (pe_ix (r := rIxT K) ix_tup (pe_tup (pa_cons pe_str (pa_cons pe_str (pa_cons pe_str (pa_cons pe_str pa_nil))))) (pe_gf (w_law_draw T) (hr.mono (by decide)) (by rfl) T.g_law_draw pass0 (pa_cons (pv 0) (pa_cons pe_int pa_nil))) (fun _ _ => rfl)) pa_nil))))) pa_nil))) (pss_cons (ps_if (PW.pt (pw_and (pt_cmpR (op_neD hu63) (pv 4) (pe_lst pa_nil) (nomark _)) (pw_and1 (pt_cmpR op_eq (pe_gf (w_law_draw T) (hr.mono (by decide)) (by rfl) T.g_law_draw pass0 (pa_cons (pv 0) (pa_cons pe_int pa_nil))) pe_int (nomark _))))) (pss_one (ps_set (i := 6) nd rfl (Or.inl rfl) (pe_ix ix_list (pv 4) (pe_gf (w_law_draw T) (hr.mono (by decide)) (by rfl) T.g_law_draw pass0 (pa_cons (pv 0) (pa_cons (pe_callB call_len_seq (by rfl) T.f_len (by decide +kernel) (pa_cons (pv 4) pa_nil)) pa_nil))) (fun _ _ => rfl)))) pss_nil) (pss_one (ps_expr (pe_bm PySem.F.plainAttrs_list PySem.F.slot_list_append PySem.F.type_list_append mt_append (pv 4) (pa_cons (pv 6) pa_nil))))))) (pss_one (ps_ret (pe_tup (pa_cons (pv 1) (pa_cons (pe_callTy call_tuple_of (by rfl) T.f_tuple (by decide +kernel) (pa_cons (pv 4) pa_nil)) pa_nil))))))), ?_⟩

  refine ⟨_, rfl, _, rfl, _, _, rfl, a, lp, N, m, rfl, hsrc, by omega, rfl, by omega, by omega, fun d H1 hd sx1 src1 => ?_⟩
  refine ⟨_, _, rfl, rfl, Nat.zero_le _, fun lr hlr => ⟨sz2, fun p2 hp2 => ?_⟩⟩
  have e2 := (Evl.Ex.new (o := .lst []) hlr).trans (Evl.Ex.new (o := .tup [V.int (1 + (d : Int)), .ref lr]) hp2)
  have hlr2 := Evl.Ex.new (o := .tup [V.int (1 + (d : Int)), .ref lr]) hp2 _ _ upd_same
  have hlrH1 : H1 lr = none := hlr
  have hlra : lr ≠ a := fun e => by
    obtain ⟨_, _, _, _, _, _, r, _⟩ := src1
    rw [← e, hlrH1] at r
    cases r
  have hlrp : lr ≠ lp := fun e => by
    obtain ⟨_, _, _, _, _, _, _, r, _⟩ := src1
    rw [← e, hlrH1] at r
    cases r
  refine ⟨p2, _, rfl, .inl (.inl upd_same), rfl, _, _, rfl, _, _, rfl, rfl, ?_⟩
  refine ⟨_, rfl, _, rfl, by omega, by omega, ?_⟩
  refine for_range (fun i σ' H' => ∃ (rs : List V) (Rl : Rows) (z5 z6 z7 : Option V), σ' = [some (.ref a), some (.ref al), some (.int (m : Int)), some (.int (1 + (d : Int))), some (.ref lr), z5, z6, z7] ∧ Sx a H1 H' ∧ Src H' a lp (N + 1 + 10 * i) ∧ H' lr = some (.lst rs) ∧ TpA K H' rs (Rl.map rowD) ∧ Rl.length = i ∧ ∀ r ∈ Rl, r.length = L.length ∧ ∀ p ∈ r, p.1 < d + 1 ∧ PyData.strOk p.2 = true) ⟨[], [], _, _, _, rfl, Sx.ex e2, src1.ex e2, hlr2, .nil, rfl, fun _ h => absurd h List.not_mem_nil⟩ ?_ ?_
  · rintro i σ' H3 hi ⟨rs, Rl, z5, z6, z7, rfl, sx3, src3, hlr3, tr, hRl, hR⟩
    have hi : i < d + 1 := by have : (1 + (d : Int)).toNat = d + 1 := by omega
                              omega
    have hrl : rs.length = i := by rw [tr.length, List.length_map, hRl]
    have hal3 := hal.mono (sx1.trans sx3).2
    refine w_sa ?_
    refine cont_of (fun v H4 => ∃ r : List (Nat × PySem.Str), Sx a H3 H4 ∧ Src H4 a lp (N + 1 + 10 * i + 2 * L.length) ∧ H4 lr = some (.lst rs) ∧ Tp K H4 v (rowD r) ∧ r.length = L.length ∧ ∀ p ∈ r, p.1 < d + 1 ∧ PyData.strOk p.2 = true) (fun Q' q' => ?_) ?_
    · have hstr : ∀ y, y < 4 → PyData.strOk (((["", "", "x", "yes"] : List PySem.Str)).getD y PySem.Str.empty) = true := by decide +kernel
      ((try dsimp only); (repeat (first | refine w_lc ?_ | unfold gName | unfold tIfS | unfold tNot | unfold tB | unfold tTest | unfold tRet | unfold tAsg | unfold tSeq | unfold tDrop | unfold tCB | unfold tCons)))
      refine ⟨_, rfl, al, rfl, ⟨_, hal3.sq⟩, ?_⟩
      refine lc_src (n := (L.map V.str).length) (c := 2) (runsS_t hal3.sq) (fun _ v H => ∃ pr : Nat × PySem.Str, (pr.1 < d + 1 ∧ PyData.strOk pr.2 = true) ∧ Tp K H v (pairD pr)) (by rw [List.length_map]; omega) src3 (fun _ _ _ _ e ⟨pr, h1, h2⟩ => ⟨pr, h1, h2.mono e⟩) ?_ ?_
      · intro k u H7 hk7 sx7 src7 hu C kk
        rw [List.length_map] at hk7
        refine kk _ _ rfl (Ex.refl _) (fun Q q => q _ (Ex.refl _)) (fun H9 e9 Q q => ?_)
        refine ⟨_, rfl, _, rfl, _, _, rfl, a, lp, _, d + 1, rfl, src7.ex e9, by omega, (show V.int (1 + (d : Int)) = V.int ((d + 1 : Nat) : Int) by congr 1; omega), by omega, by omega, fun x H10 hx sx10 src10 => ?_⟩
        refine ⟨(show 4 ≤ sizeLine by decide), fun p3 hp3 => ?_⟩
        have e11 := Evl.Ex.new (o := .tup [V.str "", V.str "", V.str "x", V.str "yes"]) hp3
        refine ⟨_, rfl, _, _, rfl, a, lp, _, 4, rfl, src10.ex e11, by omega, rfl, by decide, by decide, fun y H12 hy sx12 src12 => ?_⟩
        refine ⟨p3, _, _, _, rfl, rfl, nl_t sx12.2 (.inl (.inl upd_same)), atI_nat (map_get (f := V.str) (l := ["", "", "x", "yes"]) hy PySem.Str.empty), sz2, fun p4 hp4 => ?_⟩
        have e13 := Evl.Ex.new (o := .tup [V.int (x : Int), V.str ((["", "", "x", "yes"] : List PySem.Str).getD y PySem.Str.empty)]) hp4
        exact q _ _ (((sx10.trans (Sx.ex e11)).trans sx12).trans (Sx.ex e13)) ((src12.ex e13).up (by omega)) ⟨(x, _), ⟨hx, hstr y hy⟩, of_pair (.inl (.inl upd_same))⟩
      · intro D H7 xs7 hD sx7 src7 hD7 hall
        obtain ⟨r, t1, t2, t3⟩ := allP_row hall
        rw [List.length_range, List.length_map] at t3
        rw [List.length_map] at src7
        refine ⟨D, _, rfl, .inl ⟨SqL.of hD7, fun p4 hp4 => ?_⟩⟩
        have e8 : Ex H7 (upd H7 p4 (.tup xs7)) := Evl.Ex.new hp4
        have sx8 := sx7.trans (Sx.ex e8)
        exact q' _ _ ⟨r, sx8, src7.ex e8, sx8.get hlra hlr3, .tup (.inl (.inl upd_same)) (t1.mono (Nl.ex e8)), t3, t2⟩
    · rintro v H4 ⟨r, sx4, src4, hlr4, tv, hr1, hr2⟩
      refine w_si ?_
      have hl4 : rs.length = Rl.length := by rw [hrl, hRl]
      have tr4 := tr.mono sx4.2
      refine cont_ofT (fun b H5 => Sx a H4 H5 ∧ Src H5 a lp (N + 1 + 10 * i + 2 * L.length + 1) ∧ (b = true → Rl ≠ [])) (fun Q' q' => ?_) ?_
      · refine ⟨_, rfl, Nat.zero_le _, fun l9 hl9 => ?_⟩
        have e9 := Evl.Ex.new (o := .lst []) hl9
        refine ⟨_, _, .lst (SqL.of (e9 _ _ hlr4)) (TpA.dp (tr4.mono (Nl.ex e9))), .lst (SqL.of upd_same) .nil, rowsL_shaped fun r hr p hp => ((hR r hr).2 p hp).2, nil_shaped, ?_⟩
        rw [eqv_nilR]
        refine ⟨_, rfl, ?_⟩
        dsimp only
        by_cases hR0 : Rl = []
        · rw [decide_eq_true hR0, if_neg (by decide)]
          exact q' _ _ ⟨Sx.ex e9, (src4.ex e9).up (by omega), fun h => by cases h⟩
        · rw [decide_eq_false hR0, if_pos (by decide)]
          exact ⟨_, rfl, _, _, rfl, a, lp, _, 4, rfl, src4.ex e9, by omega, rfl, by decide, by decide, fun y H6 hy sx6 src6 => ⟨rfl, _, rfl, q' _ _ ⟨(Sx.ex e9).trans sx6, src6, fun _ => hR0⟩⟩⟩
      · rintro b H5 ⟨sx5, src5, hb⟩
        have hlr5 := sx5.get hlra hlr4
        have tr5 := tr4.mono sx5.2
        have tv5 := tv.mono sx5.2
        cases b with
        | true =>
          have hR0 := hb rfl
          have hRp : 0 < Rl.length := List.length_pos_iff.mpr hR0
          dsimp only
          rw [if_pos rfl]
          refine ⟨_, rfl, _, rfl, _, rfl, _, _, rfl, .inl (SqL.of hlr5), _, _, rfl, a, lp, _, rs.length, rfl, src5, by omega, rfl, by omega, by omega, fun y H6 hy sx6 src6 => ?_⟩
          have hlr6 := sx6.get hlra hlr5
          obtain ⟨v6, hv6, tv6⟩ := (tr5.mono sx6.2).get (map_get (f := rowD) (show y < Rl.length by omega) [])
          have hr6 := hR _ (getD_mem (d := []) (show y < Rl.length by omega))
          have n7 : Nl H6 (upd H6 lr (.lst (rs ++ [v6]))) := Nl.lst hlr6
          refine ⟨lr, _, _, _, rfl, rfl, SqL.of hlr6, atI_nat hv6, ?_⟩
          refine ⟨_, rfl, .inl ⟨rfl, _, SqL.of hlr6⟩, _, rfl, lr, rs, v6, rfl, rfl, hlr6, small_len (by omega), ?_⟩
          refine ⟨rs ++ [v6], Rl ++ [Rl.getD y []], _, _, _, rfl, (((sx3.trans sx4).trans sx5).trans sx6).fresh hlrH1 hlr6, (src6.off hlra hlrp).up (by omega), upd_same, ?_, by rw [List.length_append, List.length_singleton, hRl], fun r hr => ?_⟩
          · rw [List.map_append]
            exact ((tr5.mono sx6.2).mono n7).snoc (tv6.mono n7)
          · rcases List.mem_append.mp hr with h | h
            · exact hR r h
            · rw [List.mem_singleton] at h
              rw [h]
              exact hr6
        | false =>
          dsimp only
          rw [if_neg (by decide)]
          have n7 : Nl H5 (upd H5 lr (.lst (rs ++ [v]))) := Nl.lst hlr5
          refine ⟨_, rfl, .inl ⟨rfl, _, SqL.of hlr5⟩, _, rfl, lr, rs, v, rfl, rfl, hlr5, small_len (by omega), ?_⟩
          refine ⟨rs ++ [v], Rl ++ [r], _, _, _, rfl, ((sx3.trans sx4).trans sx5).fresh hlrH1 hlr5, (src5.off hlra hlrp).up (by omega), upd_same, ?_, by rw [List.length_append, List.length_singleton, hRl], fun r' hr => ?_⟩
          · rw [List.map_append]
            exact (tr5.mono n7).snoc (tv5.mono n7)
          · rcases List.mem_append.mp hr with h | h
            · exact hR r' h
            · rw [List.mem_singleton] at h
              rw [h]
              exact ⟨hr1, hr2⟩
  · rintro σ' H3 ⟨rs, Rl, z5, z6, z7, rfl, sx3, src3, hlr3, tr, hRl, hR⟩
    have hRl : Rl.length = d + 1 := by rw [hRl]; omega
    refine ⟨_, rfl, _, rfl, lr, rs, rfl, .inl ⟨SqL.of hlr3, fun p4 hp4 => ⟨sz2, fun p5 hp5 => ?_⟩⟩⟩
    have e4 : Ex H3 (upd H3 p4 (.tup rs)) := Evl.Ex.new hp4
    have e5 : Ex (upd H3 p4 (.tup rs)) (upd (upd H3 p4 (.tup rs)) p5 (.tup [.ref al, .ref p4])) := Evl.Ex.new hp5
    have e45 := e4.trans e5
    have sx5 := (sx1.trans sx3).trans (Sx.ex e45)
    refine q _ _ Rl sx5 ((src3.ex e45).up (by omega)) ⟨p5, al, .ref p4, rfl, .inl (.inl upd_same), hal.mono sx5.2, .tup (.inl (.inl (e5 _ _ upd_same))) (tr.mono (Nl.ex e45))⟩ ⟨by omega, by omega, fun r hr => (hR r hr).1, fun r hr p hp => ?_⟩ (fun r hr p hp => ((hR r hr).2 p hp).2)
    rw [hRl]
    exact ((hR r hr).2 p hp).1
end
end AN
end

-- ANw23
section
set_option Elab.async false
set_option linter.all false
set_option maxRecDepth 100000
set_option maxHeartbeats 4000000
namespace AN
open PySem PySem.Spec PyProof.Rows L2 StX
open Evl (Ex)

theorem allP_mt {K : PySem.W.Frag} {H : Hp} {L : List PySem.Str} : ∀ {l : List Nat} {xs : List V}, AllP (fun _ v H => ∃ R, Mt K H v L R ∧ Wf L.length R ∧ WOk R) H l xs → ∃ vs : List Rows, AllP (MtA K L) H vs xs ∧ (∀ R ∈ vs, Wf L.length R ∧ WOk R) ∧ vs.length = l.length
  | [], [], _ => ⟨[], trivial, fun _ h => absurd h List.not_mem_nil, rfl⟩
  | _ :: _, _ :: _, ⟨⟨R, h1, h2⟩, t⟩ => by
    obtain ⟨vs, h3, h4, h5⟩ := allP_mt t
    refine ⟨R :: vs, ⟨h1, h3⟩, fun x hx => ?_, by simp [h5]⟩
    rcases List.mem_cons.mp hx with rfl | hx
    · exact h2
    · exact h4 x hx
  | [], _ :: _, h => h.elim
  | _ :: _, [], h => h.elim
def lettersC : List (List PySem.Str) := [["a", "b"], ["a"], ["a", "b", "c"]]

abbrev N_d_law_crowd : List PySem.Str := ["_law_source_here", "_law_many", "_law_most", "_law_signs_here", "_law_lap"]
theorem sc_d_law_crowd : FnScope N_d_law_crowd ["_law_source_here", "_law_many", "_law_most"] AN.d_law_crowd.scope := ⟨rfl, rfl, rfl, by decide +kernel, rfl, by decide +kernel, by decide +kernel⟩
section
variable {P : Program} {w : World} {K : PySem.W.Frag} {mg : PySem.Str → Option Value} {base : Heap} (T : Kit K mg)
include T
theorem w_law_crowd : GF P w K mg base 3 (AN.d_law_crowd.at_ K) (sp3 (fun s mn mo H Q => ∃ (a l : Addr) (N m : Nat), s = .ref a ∧ Src H a l N ∧ N < 90000000 ∧ mn = .int (m : Int) ∧ 1 ≤ m ∧ m ≤ 3 ∧ mo = .int 3 ∧ ∀ (v : V) (H' : Hp) (L : List PySem.Str) (vs : List Rows), Sx a H H' → Src H' a l (N + 400) → Vt K H' v L vs → Vok L vs → vs.length = m → (∀ R ∈ vs, WOk R) → Q v H')) := by
  obtain ⟨fd, F⟩ := T.d_law_crowd
  refine rr F sc_d_law_crowd len3 (fun _ _ _ _ _ _ us hl => match us, hl with | [_, _, _], _ => rfl) (fun cdv A outer s H vs Q E hr h => ?_)
  have hu64 : (A.deeper (envOfC AN.d_law_crowd.qual AN.d_law_crowd.scope s.heap.objs.size (AN.d_law_crowd.at_ K) cdv)).units + 65 < cLine := hu_of65 hr
  have hu63 : (A.deeper (envOfC AN.d_law_crowd.qual AN.d_law_crowd.scope s.heap.objs.size (AN.d_law_crowd.at_ K) cdv)).units + 64 < cLine := Nat.lt_of_succ_lt hu64
  have hu1 : (A.deeper (envOfC AN.d_law_crowd.qual AN.d_law_crowd.scope s.heap.objs.size (AN.d_law_crowd.at_ K) cdv)).units + 1 < cLine := hu_of hr
  have nd := sc_d_law_crowd.nd
  obtain ⟨s0, mn, mo, rfl, a, lp, N, m, rfl, hsrc, hN, rfl, hm1, hm3, rfl, q⟩ := h
  refine ⟨_, PSs.nox (pss_cons (ps_set (i := 3) nd rfl (Or.inr rfl) (pe_ix ix_tup (pe_tup (pa_cons (pe_tupF (pa_cons pe_str (pa_cons pe_str pa_nil))) (pa_cons (pe_tupF (pa_cons pe_str pa_nil)) (pa_cons (pe_tupF (pa_cons pe_str (pa_cons pe_str (pa_cons pe_str pa_nil)))) pa_nil)))) (pe_callB (call_max2 rfl) (by rfl) T.f_max (by decide +kernel) (pa_cons pe_int (pa_cons (pe_op op_sub (pe_gf (w_law_draw T) (hr.mono (by decide)) (by rfl) T.g_law_draw pass0 (pa_cons (pv 0) (pa_cons pe_int pa_nil))) pe_int) pa_nil))) (fun _ _ => rfl))) (pss_one (ps_ret (pe_callTy call_tuple_of (by rfl) T.f_tuple (by decide +kernel) (pa_cons (pe_lc (own := [("_law_lap", 4)]) rfl nd (pi_range1 (by rfl) T.f_range (pa_cons (pv 1) pa_nil)) (blkOk_by (own := [("_law_lap", 4)]) (N := N_d_law_crowd) (sc := AN.d_law_crowd.scope) (by decide +kernel)) (fun _ _ _ _ _ => (pg_name (i := 4) nd rfl (Or.inl rfl))) (fun _ _ _ _ _ => pts_nil) (fun _ _ _ _ _ => (pe_gf (w_law_engine T) (hr.mono (by decide)) (by rfl) T.g_law_engine pass0 (pa_cons (pv 0) (pa_cons (pv 3) (pa_cons (pv 2) pa_nil)))))) pa_nil))))), ?_⟩

  refine ⟨sz2, fun p1 H1 _ e1 n1 => ⟨sz1, fun p2 H2 _ e2 n2 => ⟨sz3, fun p3 H3 _ e3 n3 => ⟨sz3, fun p4 hp4 => ?_⟩⟩⟩⟩
  have e1 : Ex H H1 := e1
  have e2 : Ex H1 H2 := e2
  have e3 : Ex H2 H3 := e3
  have e4 := Evl.Ex.new (o := .tup [V.ref p1, V.ref p2, V.ref p3]) hp4
  have e14 := ((e1.trans e2).trans e3).trans e4
  refine ⟨_, rfl, _, _, rfl, a, lp, N, 16, rfl, hsrc.ex e14, by omega, rfl, by decide, by decide, fun d H5 hd sx5 src5 => ?_⟩
  refine ⟨_, _, rfl, rfl, _, _, rfl, ?_⟩
  have hk : ∃ k : Nat, k < 3 ∧ (if (d : Int) - 13 > 0 then (d : Int) - 13 else 0) = (k : Int) := by
    by_cases h : (d : Int) - 13 > 0
    · exact ⟨d - 13, by omega, by rw [if_pos h]; omega⟩
    · exact ⟨0, by decide, by rw [if_neg h]; rfl⟩
  obtain ⟨k, hk3, hke⟩ := hk
  have hv : ∃ (al : Addr) (L : List PySem.Str), [V.ref p1, V.ref p2, V.ref p3][k]? = some (.ref al) ∧ NdT H5 al (L.map .str) ∧ L ∈ lettersC := by
    have m1 := (n1.mono (Nl.ex ((e2.trans e3).trans e4))).mono sx5.2
    have m2 := (n2.mono (Nl.ex (e3.trans e4))).mono sx5.2
    have m3 := (n3.mono (Nl.ex e4)).mono sx5.2
    rcases k with _ | _ | _ | k
    · exact ⟨p1, ["a", "b"], rfl, m1, by simp [lettersC]⟩
    · exact ⟨p2, ["a"], rfl, m2, by simp [lettersC]⟩
    · exact ⟨p3, ["a", "b", "c"], rfl, m3, by simp [lettersC]⟩
    · omega
  obtain ⟨al, L, hal, hnd, hL⟩ := hv
  have hL1 : L.Nodup ∧ L.length ≤ 3 ∧ 1 ≤ L.length ∧ Sok L := by
    simp only [lettersC, List.mem_cons, List.not_mem_nil, or_false] at hL
    rcases hL with rfl | rfl | rfl
    · exact ⟨by decide +kernel, by decide, by decide, by unfold Sok; decide +kernel⟩
    · exact ⟨by decide +kernel, by decide, by decide, by unfold Sok; decide +kernel⟩
    · exact ⟨by decide +kernel, by decide, by decide, by unfold Sok; decide +kernel⟩
  obtain ⟨hL1, hL2, hL3, hL4⟩ := hL1
  refine ⟨p4, _, _, _, rfl, congrArg V.int hke, nl_t sx5.2 (.inl (.inl upd_same)), atI_nat hal, ?_⟩
  ((try dsimp only); (repeat (first | refine w_lc ?_ | unfold gName | unfold tIfS | unfold tNot | unfold tB | unfold tTest | unfold tRet | unfold tAsg | unfold tSeq | unfold tDrop | unfold tCB | unfold tCons)))
  refine ⟨_, rfl, _, rfl, by omega, by omega, ?_⟩
  refine lc_src (n := m) (c := 100) (runsS_r m) (fun _ v H => ∃ R, Mt K H v L R ∧ Wf L.length R ∧ WOk R) (by omega) src5 (fun _ _ _ _ e ⟨R, h1, h2⟩ => ⟨R, h1.mono e, h2⟩) ?_ ?_
  · intro i u H7 hi7 sx7 src7 hu C kk
    refine kk _ _ rfl (Ex.refl _) (fun Q q => q _ (Ex.refl _)) (fun H9 e9 Q q => ?_)
    exact ⟨_, rfl, _, rfl, _, rfl, _, _, _, rfl, a, lp, al, _, 3, L, rfl, src7.ex e9, by omega, rfl, hnd.mono (sx7.trans (Sx.ex e9)).2, hL2, rfl, by decide, by decide, fun v H' R sx src mt wf wo => q v H' sx (src.up (by omega)) ⟨R, mt, wf, wo⟩⟩
  · intro D H7 xs7 hD sx7 src7 hD7 hall
    obtain ⟨vs, h1, h2, h3⟩ := allP_mt hall
    rw [List.length_range] at h3
    refine ⟨D, _, rfl, .inl ⟨SqL.of hD7, fun p5 hp5 => ?_⟩⟩
    have e8 : Ex H7 (upd H7 p5 (.tup xs7)) := Evl.Ex.new hp5
    refine q _ _ L vs ((((Sx.ex e14).trans sx5).trans sx7).trans (Sx.ex e8)) ((src7.ex e8).up (by omega)) ⟨p5, xs7, rfl, .inl (.inl upd_same), h1.mono fun R v h => h.mono (Nl.ex e8)⟩ ⟨hL1, hL2, hL3, hL4, fun R h => (h2 R h).1, by omega, by omega⟩ h3 (fun R h => (h2 R h).2)
end
end AN
end

-- ANst
section
set_option Elab.async false
set_option linter.all false
set_option maxRecDepth 100000
set_option maxHeartbeats 4000000
/-! sorted(set(t)) for a tuple t of few texts -/
namespace AN
open PySem PySem.Spec PyProof.Rows L2 PySem.Froz

section
variable {P : Program} {w : World}
/-- the set's payload holds the texts of l, and it can be walked -/
structure TxR (P : Program) (w : World) (D : SD) (l : List PySem.Str) : Prop where
  ok : TxOk P w D l
  ris : Ris D.2.2.place.toList
  led : w.params.followText "set-order" = true ∨ D.2.2.led = true
theorem tail_ris {ep : Nat} {es : Array (Int × Value)} {t : SetTable} {d : Bool} (h : Ris t.place.toList) : Ris (tailTx ep es t d).2.2.place.toList := by
  unfold tailTx
  split
  · exact relayAll_ris _ _ _
  · exact h
theorem tail_led {ep : Nat} {es : Array (Int × Value)} {t : SetTable} {d : Bool} : (tailTx ep es t d).2.2.led = t.led := by
  unfold tailTx
  split
  · exact relayAll_led _ _ _
  · rfl
theorem TxR.add {D : SD} {l : List PySem.Str} {k : PySem.Str} (u : Tok) (F : TxR P w D l) : TxR P w (addTx (hashStr w k) (.str k u) D) (k :: l) where
  ok := add_ok u F.ok
  ris := by
    have h := layNew_ris D.2.2 D.1 (hashStr w k) (.str k u) F.ris
    unfold addTx
    refine tail_ris ?_
    split
    · exact h
    · exact h
  led := by
    refine F.led.imp id fun h => ?_
    have h2 := layNew_led D.2.2 D.1 (hashStr w k) (.str k u)
    unfold addTx
    rw [tail_led]
    split
    · exact h2.trans h
    · exact h2.trans h
end

section
variable {P : Program} {w : World} {A : Around} {E : Value → Shared → Prop} {s : Shared}
/-- the add of a text that is there already changes nothing -/
theorem add_old {a : Addr} {T : String} {D : SD} {l : List PySem.Str} {k : PySem.Str} {u : Tok} {Q : Bool → Shared → Prop} (ho : s.heap.get? a = some (sObj T D)) (F : TxOk P w D l) (hk : k ∈ l) (hb : l.length < scanBound) (h : Q false s) :
    wpAny (model P w) A (setAddHashed a (.str k u) (hashStr w k)) Q E s := by
  obtain ⟨es, ep, t⟩ := D
  have hkey : (strKind P w).is k (.str k u) = true := is_str k u
  have hs : es.size < scanBound := by
    have h1 : es.size = l.length := F.sz
    omega
  obtain ⟨e, he, hp⟩ := (F.mem k).mp hk
  unfold setAddHashed setAddHashedIn
  refine wpAny_holding (wpAny_bind (wpAny_setState_of ho rfl F.fit ?_))
  dsimp only
  rw [byScan_of rfl hs F.el]
  simp only [↓reduceIte]
  unfold setAddByScan
  refine wpAny_bind (wpAny_bind (wpAny_rule ?_))
  refine wpAny_bind (wpAny_setScan_of (knd := strKind P w) (k := k) hkey ho rfl F.fit F.el ?_)
  cases hf : List.findIdx? (fun e => (strKind P w).is k e.2) es.toList with
  | none =>
    have := List.findIdx?_eq_none_iff.mp hf e he
    rw [hp] at this
    cases this
  | some j => exact wpAny_pure (wpAny_pure h)

/-- the texts that are gathered behind i of them -/
def Gath (P : Program) (w : World) (ss : List PySem.Str) (a : Addr) (i : Nat) (h : Heap) : Prop :=
  ∃ (D : SD) (l : List PySem.Str), h.get? a = some (sObj "set" D) ∧ TxR P w D l ∧ l.length ≤ i ∧ ∀ x, x ∈ l ↔ x ∈ ss.take i
theorem Gath.at {ss : List PySem.Str} {a : Addr} {i : Nat} {h h' : Heap} (g : Gath P w ss a i h) (k : ∀ o, h.get? a = some o → h'.get? a = some o) : Gath P w ss a i h' := by
  obtain ⟨D, l, h1, r⟩ := g
  exact ⟨D, l, k _ h1, r⟩
theorem gath_zero {ss : List PySem.Str} {a : Addr} {h : Heap} (ho : h.get? a = some { cls := .type "set", dict := none, data := .set #[] 0 (.fresh 0 0 (!w.params.followText "set-order")) }) : Gath P w ss a 0 h := by
  refine ⟨(#[], 0, .fresh 0 0 (!w.params.followText "set-order")), [], ho, ⟨TxOk.nil (by rfl), List.Pairwise.nil, ?_⟩, Nat.le_refl _, fun x => by simp⟩
  cases w.params.followText "set-order"
  · exact .inr rfl
  · exact .inl rfl
theorem mem_next {α : Type} {ss : List α} {i : Nat} {x y : α} (h : ss[i]? = some x) : y ∈ ss.take (i + 1) ↔ y ∈ ss.take i ∨ y = x := by
  rw [List.take_add_one, h, List.mem_append]
  simp
theorem tx_loop {I : Addr} {fp wr : List Addr} {G : Array GenState → Array GenState → Prop} {n : Nat} {Pv : Nat → Value → Prop} {St : Nat → Shared → Prop} {R : Result → Shared → Prop}
    (W : WalksS P w A.in1 I fp wr G n Pv St) (a : Addr) (haf : a ∉ fp) (ss : List PySem.Str) (hn : n = ss.length) (hb : ss.length + 1 < scanBound) (hv : ∀ i v, Pv i v → ∃ x t, ss[i]? = some x ∧ v = .str x t) :
    ∀ (k i : Nat) (s : Shared), n - i = k → i ≤ n → St i s → Gath P w ss a i s.heap → (∀ s', Moved (a :: wr) G s s' → Gath P w ss a n s'.heap → R (.ok (.ret .none)) s') →
      codeAny (model P w) A (.builtin "set.update.loop" ⟨[.ref a, .ref I], []⟩) R s := by
  have haw : a ∉ wr := fun h => haf (W.sub _ h)
  have up : ∀ b ∈ wr, b ∈ a :: wr := fun b h => List.mem_cons_of_mem _ h
  intro k
  induction k with
  | zero =>
    intro i s hk hi hst g hR
    obtain rfl : i = n := by omega
    refine codeAny_builtin F.entry_set_update_loop ?_
    rw [Around.under_plainId F.plain_set_update_loop _]
    show wpAny _ A.in1 (pyNext (.ref I) >>= _) _ _ s
    refine wpAny_bind (W.done s _ _ hst fun s' m => ?_)
    show wpAny _ A.in1 (ret Value.none) _ _ s'
    exact wpAny_pure (hR s' (m.mono up) (g.at fun o e => m.heap a o haw e))
  | succ k ih =>
    intro i s hk hi hst g hR
    have hlt : i < n := by omega
    refine codeAny_builtin F.entry_set_update_loop ?_
    rw [Around.under_plainId F.plain_set_update_loop _]
    show wpAny _ A.in1 (pyNext (.ref I) >>= _) _ _ s
    refine wpAny_bind (W.item i s _ _ hlt hst fun v s' hP hst' m => ?_)
    obtain ⟨x, t, hx, rfl⟩ := hv i v hP
    obtain ⟨D, l, h1, h2, h3, h4⟩ := g.at (h' := s'.heap) fun o e => m.heap a o haw e
    show wpAny _ A.in1 (holding [Value.str x t] (setAdd a (.str x t)) >>= _) _ _ s'
    refine wpAny_bind (wpAny_holding ?_)
    unfold setAdd
    refine wpAny_holding ?_
    refine wpAny_bind ((strKind P w).pyHash (k := x) (is_str _ _) ?_)
    by_cases hm : x ∈ l
    · refine add_old (s := { s' with toks := s'.toks + 1 }) h1 h2.ok hm (by omega) ?_
      have g2 : Gath P w ss a (i + 1) s'.heap := ⟨D, l, h1, h2, Nat.le_succ_of_le h3, fun y => by
        rw [mem_next hx, h4 y]
        exact ⟨.inl, fun h => h.elim id fun e => by rw [e]; exact (h4 x).mp hm⟩⟩
      refine wpAny_pure ⟨plainId_quiet F.plain_set_update_loop _, ih (i + 1) _ (by omega) hlt (W.frame _ s' _ _ hst' (Nat.le_succ _) fun b hb o e => e) g2 fun s2 m2 hg => ?_⟩
      exact hR s2 (Moved.trans W.gtrans ((m.mono up).then_heap (Nat.le_succ _) fun b o hb e => e) m2) hg
    · refine add_x (l := l) (D := D) (s := { s' with toks := s'.toks + 1 }) h1 h2.ok hm (by omega) ?_
      have h5 := get_upd (sObj "set" (addTx (hashStr w x) (.str x t) D)) h1 rfl
      have sb : ∀ b o, b ≠ a → s'.heap.get? b = some o → (s'.heap.update a fun _ => sObj "set" (addTx (hashStr w x) (.str x t) D)).get? b = some o := fun b o hb e => PySem.Heap.get?_update_of_ne _ (Ne.symm hb) e
      have g2 : Gath P w ss a (i + 1) (s'.heap.update a fun _ => sObj "set" (addTx (hashStr w x) (.str x t) D)) := ⟨_, x :: l, h5, h2.add t, by simpa using h3, fun y => by
        rw [mem_next hx, List.mem_cons, h4 y]
        exact Or.comm⟩
      refine wpAny_pure ⟨plainId_quiet F.plain_set_update_loop _, ih (i + 1) _ (by omega) hlt (W.frame _ s' _ _ hst' (Nat.le_succ _) fun b hb o e => sb b o (fun h => haf (h ▸ hb)) e) g2 fun s2 m2 hg => ?_⟩
      exact hR s2 (Moved.trans W.gtrans ((m.mono up).then_heap (Nat.le_succ _) fun b o hb e => sb b o (fun h => hb (by rw [h]; exact List.mem_cons_self)) e) m2) hg

set_option maxHeartbeats 3200000 in
/-- set(t), t a tuple of texts -/
theorem set_of_texts {l : Addr} {items : Array Value} (ss : List PySem.Str) {Q : Value → Shared → Prop} (hh : A.handled = none) (hl : s.heap.IsTuple l items) (hit : StrsAre items.toList ss) (hb : ss.length + 1 < scanBound)
    (h : ∀ (h' : Heap) (tk : Nat), Gath P w ss s.heap.objs.size ss.length h' → (∀ b o, s.heap.get? b = some o → h'.get? b = some o) → Q (.ref s.heap.objs.size) { s with heap := h', toks := tk }) :
    wpAny (model P w) A (call (.type "set") [.ref l]) Q E s := by
  have hisz : items.size = ss.length := by
    have q := hit.len_eq
    rw [Array.length_toList] at q
    exact q
  obtain ⟨c, tl, hmro⟩ := F.called_set.mro
  have hmade := F.called_set.made
  have hsub := F.called_set.sub
  refine wpAny_call (codeAny_of_tree ?_)
  show wpAny _ _ (callAny (.type "set") _) _ _ _
  refine wpAny_pure ⟨Code.quiet_builtin _ (by decide +kernel), codeAny_builtin F.entry_type_call ?_⟩
  rw [Around.under_plain (weight_type_call_type "set" [.ref l] []) rfl]
  have h1 := F.called_set.notType
  have h2 := F.called_set.canCreate
  have hct := F.typeCall_set_1 (.ref l)
  repeat (any_goals (first | assumption | wp_step))
  refine codeAny_mono (code_set_led1 (.ref l) (E := E) (Q₁ := fun obj s₁ => obj = .ref s.heap.objs.size ∧ s₁ = { s with heap := s.heap.push { cls := .type "set", dict := none, data := .set #[] 0 (.fresh 0 0 (!w.params.followText "set-order")) } }) ⟨rfl, rfl⟩) fun r s₁ hr => ?_
  cases r with
  | error e => exact hr
  | ok fl =>
    cases fl with
    | ret obj =>
      obtain ⟨rfl, rfl⟩ := hr
      generalize hob : ({ cls := .type "set", dict := none, data := .set #[] 0 (.fresh 0 0 (!w.params.followText "set-order")) } : Obj) = ob
      have hcl0 : ob.cls = .type "set" := by rw [← hob]
      have hfr0 : ob.isFreed = false := by rw [← hob] <;> rfl
      have hS : (s.heap.push ob).get? s.heap.objs.size = some ob := Heap.get?_push_size _ hfr0
      have hT : Shared.TypeIs { s with heap := s.heap.push ob } (.ref s.heap.objs.size) "set" := ⟨_, hS, hcl0⟩
      have hli := F.called_set.init.lookup
      have hbi := F.called_set.init.bind (.ref s.heap.objs.size)
      repeat (any_goals (first | assumption | wp_step))
      refine codeAny_mono (codeAny_call_builtin (R := wants (fun r s₂ => r = .none ∧ ∃ h' tk, s₂ = { s with heap := h', toks := tk } ∧ Gath P w ss s.heap.objs.size ss.length h' ∧
          (∀ b o, s.heap.get? b = some o → h'.get? b = some o)) E) F.called_set.init.plain F.entry_set_init (check_set_init_1 hT ?_)) fun r₂ s₂ hr₂ => ?_
      · subst hob
        obtain ⟨ol, hol, hcl, nl, hdl⟩ := hl
        obtain ⟨ocls, odict, odata, oslots⟩ := ol
        simp only at hcl hdl
        subst hcl; subst hdl
        have hol' : (s.heap.push { cls := .type "set", dict := none, data := .set #[] 0 (.fresh 0 0 (!w.params.followText "set-order")) }).get? l = some { cls := .type "tuple", dict := odict, data := .seq items nl, slots := oslots } := Heap.get?_push_of_some _ hol
        have hsls := F.sub_tuple_set
        have hslf := F.sub_tuple_frozenset
        have hne : (Value.type "tuple" == Value.type "dict") = false := by decide
        have hl1 : (s.heap.push { cls := .type "set", dict := none, data := .set #[] 0 (.fresh 0 0 (!w.params.followText "set-order")) }).IsTuple l items := ⟨_, hol', rfl, nl, rfl⟩
        unfold Builtin.«set.__init__» noKeywords Builtin.Frozenset.updateFrom
        generalize hPI : pyIter = PI
        wp_walk
        subst hPI
        refine wpAny_pyIter_tuple hl1 ?_
        refine wpAny_bind (wpAny_runValue ?_)
        have hlS : l < s.heap.objs.size := Heap.lt_size hol
        have hh3 : A.in1.in1.in1.handled = none := by simp [hh]
        have hz : (s.heap.push { cls := .type "set", dict := none, data := .set #[] 0 (.fresh 0 0 (!w.params.followText "set-order")) }).objs.size = s.heap.objs.size + 1 := Heap.size_push ..
        have hSf : s.heap.objs.size ∉ [(s.heap.push { cls := .type "set", dict := none, data := .set #[] 0 (.fresh 0 0 (!w.params.followText "set-order")) }).objs.size, l] := by
          rw [hz]
          simp only [List.mem_cons, List.not_mem_nil, or_false, not_or]
          exact ⟨Nat.ne_of_lt (Nat.lt_succ_self _), Nat.ne_of_gt hlS⟩
        have hval : ∀ (i : Nat) (v : Value), items[i]? = some v → ∃ x t, ss[i]? = some x ∧ v = .str x t := fun i v hv => by
          obtain ⟨y, t, e1, e2⟩ := hit.item i v (by rw [Array.getElem?_toList]; exact hv)
          exact ⟨y, t, e2, e1⟩
        refine tx_loop ((Walks.tuple hh3 _ l (by rw [hz]; exact Nat.ne_of_lt (Nat.lt_succ_of_lt hlS)) items).toS) s.heap.objs.size hSf ss hisz hb hval (items.size - 0) 0 _ (by omega) (Nat.zero_le _)
          ⟨⟨_, Heap.get?_push_size _ rfl, rfl, rfl⟩, (hl1.push _)⟩ (gath_zero (Heap.get?_push_of_some _ hS)) ?_
        intro s' hm hg
        obtain ⟨h', g2, d', tk', os'⟩ := s'
        obtain rfl : g2 = s.gens := hm.gens
        obtain rfl : d' = s.drawn := hm.drawn
        obtain rfl : os' = s.os := hm.os
        show wpAny _ _ _ _ _ _
        refine wpAny_pure ?_
        show wpAny _ _ (ret Value.none) _ _ _
        rw [hisz] at hg
        refine wpAny_pure ⟨rfl, h', tk', rfl, hg, fun b o e => ?_⟩
        have hb0 : b < s.heap.objs.size := Heap.lt_size e
        refine hm.heap b o ?_ (Heap.get?_push_of_some _ (Heap.get?_push_of_some _ e))
        simp only [List.mem_cons, List.not_mem_nil, or_false, not_or, hz]
        exact ⟨Nat.ne_of_lt hb0, Nat.ne_of_lt (Nat.lt_succ_of_lt hb0)⟩
      · cases r₂ with
        | error e => exact hr₂
        | ok fl₂ =>
          cases fl₂ with
          | ret r =>
            obtain ⟨rfl, h', tk, rfl, hg, hk'⟩ := hr₂
            repeat (any_goals (first | assumption | wp_step))
            exact h _ _ hg hk'
          | _ => exact hr₂.elim
    | _ => exact hr.elim

theorem texts_of : ∀ (l : List Value), (∀ v ∈ l, ∃ x t, v = Value.str x t) → ∃ ss, StrsAre l ss
  | [], _ => ⟨[], .nil⟩
  | v :: l, h => by
    obtain ⟨x, t, rfl⟩ := h v List.mem_cons_self
    obtain ⟨ss, h2⟩ := texts_of l fun u hu => h u (List.mem_cons_of_mem _ hu)
    exact ⟨x :: ss, .cons x t h2⟩
theorem texts_mem : ∀ {vs : List Value} {ss : List PySem.Str}, StrsAre vs ss → ∀ x, x ∈ ss ↔ ∃ t, Value.str x t ∈ vs
  | _, _, .nil, x => by simp
  | _, _, .cons y t h, x => by
    rw [List.mem_cons, texts_mem h x]
    constructor
    · rintro (rfl | ⟨u, h2⟩)
      · exact ⟨t, List.mem_cons_self⟩
      · exact ⟨u, List.mem_cons_of_mem _ h2⟩
    · rintro ⟨u, h2⟩
      rcases List.mem_cons.mp h2 with e | h2
      · injection e with e1 e2
        exact .inl e1
      · exact .inr ⟨u, h2⟩
/-- sorted(c), c such a set -/
theorem sorted_texts {a : Addr} {ss : List PySem.Str} {n : Nat} {Q : Value → Shared → Prop} (g : Gath P w ss a n s.heap) (hn : n < 64) (hss : ss.length ≤ n) (hh : A.handled = none)
    (hQ : ∀ s' p (out : Array Value) (c : Nat) (ys : List PySem.Str), (∀ b o, s.heap.get? b = some o → s'.heap.get? b = some o) → s'.gens = s.gens → s'.os = s.os → s.heap.objs.size ≤ p →
      s'.heap.get? p = some (seqObj "list" out c) → StrsAre out.toList ys → (∀ x, x ∈ ys ↔ x ∈ ss) → ys.length ≤ n → Q (.ref p) s') :
    wpAny (model P w) A (call (.builtin "sorted") [.ref a]) Q E s := by
  obtain ⟨⟨es, ep, t⟩, l, ho, R, hl, hm⟩ := g
  rw [List.take_of_length_le hss] at hm
  have hsz : es.size = l.length := R.ok.sz
  refine Calls.call_function_entry kind_sorted plain_sorted entry_sorted (args_sorted1 _) ?_
  unfold Builtin.«sorted»
  refine wpAny_bind (m := checkCount "sorted" 1 1 _) (wpAny_pure ?_)
  refine wpAny_bind (collect_set (A := A.in1) hh ⟨_, ho, rfl, rfl⟩ R.ok.fit (by show es.size < scanBound; unfold scanBound; omega) R.ris R.led fun s1 vs k1 hz g1 o1 pm => ?_)
  have hvl : vs.length = l.length := by rw [pm.length_eq, List.length_map, Array.length_toList]; exact hsz
  have hst : ∀ v ∈ vs, ∃ x t, v = Value.str x t := fun v hv => by
    obtain ⟨e, he, q⟩ := List.mem_map.mp (pm.mem_iff.mp hv)
    obtain ⟨⟨k, h1, h2⟩, h3⟩ := R.ok.el e he
    obtain ⟨tk, e1⟩ := Value.isStrOf_shape (x := k) (v := e.2) h1
    exact ⟨k, tk, by rw [← q]; exact e1⟩
  obtain ⟨zs, hzs⟩ := texts_of vs hst
  refine wpAny_bind (wpAny_newList ?_ (by rw [hvl, sizeLine_eq]; omega))
  have hoL : (s1.heap.push (seqObj "list" vs.toArray 0)).get? s1.heap.objs.size = some (seqObj "list" vs.toArray 0) := Heap.get?_push_size _ rfl
  refine wpAny_bind (wpAny_holding (wpAny_call_entry slot_list_sort ⟨_, hoL, rfl⟩ entry_list_sort (list_sort_treeK strKind_oneLt hoL hzs.keysOf (fun v₁ v₂ rest e => keyKind_strs (by rw [← e]; exact hzs)) (by omega) fun st' hp hs => ⟨_, rfl, ?_⟩) (args_list_sort _)))
  obtain ⟨ys, a1, a2, a3⟩ := sorted_out_str hzs hp hs
  obtain ⟨c, hc⟩ := sortedHeap_at (vs := vs) (out := (arrOf st').map (·.2)) hoL
  refine wpAny_pure ⟨_, rfl, hQ _ s1.heap.objs.size _ c ys (fun b u e => ?_) g1 o1 hz hc a1 (fun x => ?_) ?_⟩
  · have q := k1 b u e
    have hlt := Heap.lt_size q
    refine (sortedHeap_old (Nat.ne_of_lt hlt) (by rw [size_push']; exact Nat.lt_succ_of_lt hlt)).trans ?_
    exact Heap.get?_push_of_some _ q
  · rw [a2.mem_iff, texts_mem hzs x, ← hm x, R.ok.mem x]
    constructor
    · rintro ⟨u, hu⟩
      obtain ⟨e, he, q⟩ := List.mem_map.mp (pm.mem_iff.mp hu)
      exact ⟨e, he, by rw [q]; exact is_str x u⟩
    · rintro ⟨e, he, q⟩
      obtain ⟨tk, e1⟩ := Value.isStrOf_shape (x := x) (v := e.2) q
      exact ⟨tk, pm.mem_iff.mpr (List.mem_map.mpr ⟨e, he, e1⟩)⟩
  · rw [a2.length_eq, ← hzs.len_eq, hvl]
    exact hl
end

/-- the set of the texts ss at a -/
def SetSO (P : Program) (w : World) (a : Addr) (ss : List PySem.Str) : HO := .ext fun h => Gath P w ss a ss.length h
theorem setSO_new {P : Program} {w : World} {H : Hp} {h : Heap} {a : Addr} {ss : List PySem.Str} (g : Gath P w ss a ss.length h) : ObjOk P w H h a (SetSO P w a ss) := by
  have ⟨D, l, ho, _⟩ := g
  exact ⟨g, ⟨_, ho⟩, fun h1 h2 p k => Gath.at p k⟩
section
variable {X : Cx}
/-- set(t), t a tuple of texts -/
def rSetOfS (K : PySem.W.Frag) (P : Program) (w : World) : List V → Hp → VK → Prop := fun xs H Q => ∃ (l : Addr) (ss : List PySem.Str), xs = [V.ref l] ∧ SqT K H l (ss.map V.str) ∧ ss.length < 64 ∧ ∀ a, H a = none → Q (.ref a) (upd H a (SetSO P w a ss))
theorem cr_setOfS (hc : X.calm = true) : CallR X (.type "set") (rSetOfS X.K X.prog X.w) := by
  intro pins s σ H xs us Q I r h
  obtain ⟨l, ss, rfl, hl, hf, q⟩ := h
  rw [Vals.ref1 r]
  obtain ⟨its, rv, pl, hz⟩ := I.tuple hl
  have hn : H s.heap.objs.size = none := I.hok.fresh (Nat.le_refl _)
  refine set_of_texts (P := X.prog) (w := X.w) ss (I.ok.hd hc) pl (by simpa using rv.strs) (by unfold scanBound; omega) fun h' tk g k => ?_
  exact ⟨.ref s.heap.objs.size, upd H s.heap.objs.size (SetSO X.prog X.w s.heap.objs.size ss), I.laid (t' := tk) k (Nat.le_refl _) (setSO_new g), rfl, q _ hn⟩
/-- sorted(c), c such a set -/
def rSortedSO (P : Program) (w : World) : List V → Hp → VK → Prop := fun vs H Q => ∃ (a : Addr) (ss : List PySem.Str), vs = [V.ref a] ∧ H a = some (SetSO P w a ss) ∧ ss.length < 64 ∧
  ∀ (ys : List PySem.Str) (p : Addr), (∀ x, x ∈ ys ↔ x ∈ ss) → ys.length ≤ ss.length → H p = none → Q (.ref p) (upd H p (.lst (ys.map V.str)))
theorem cr_sortedSO (hc : X.calm = true) : CallR X (.builtin "sorted") (rSortedSO X.prog X.w) := by
  intro pins s σ H vs us Q I r h
  obtain ⟨a, ss, rfl, ha, hf, q⟩ := h
  have g : Gath X.prog X.w ss a ss.length s.heap := (I.hok a _ ha).1
  rw [Vals.ref1 r]
  refine sorted_texts g hf (Nat.le_refl _) (I.ok.hd hc) fun s' p out c ys k g o hp hg hout hm hy => ?_
  have hlen : (ys.map V.str).length ≤ sizeLine := by rw [List.length_map, sizeLine_eq]; omega
  have hn : H p = none := I.hok.fresh hp
  have J : Inv X pins σ (upd H p (.lst (ys.map V.str))) { s with heap := s'.heap, gens := s'.gens, drawn := s'.drawn, toks := s'.toks } :=
    I.call (ch := []) (Un.laid k hp hn) (I.hok.laid k hp ⟨hlen, out.toList, c, vals_of_strs hout, hg⟩) (by rw [g]; exact I.bare) (fun _ z => nomatch z)
  have e : s' = { s with heap := s'.heap, gens := s'.gens, drawn := s'.drawn, toks := s'.toks } := by
    cases s'
    cases s
    cases o
    rfl
  rw [e]
  exact ⟨.ref p, _, J, rfl, q ys p hm hy hn⟩
end
end AN
end

-- ANw24
section
set_option Elab.async false
set_option linter.all false
set_option maxRecDepth 100000
set_option maxHeartbeats 4000000
namespace AN
open PySem PySem.Spec PyProof.Rows L2 StX
open Evl (Ex)

theorem filter_none (n : Nat) : (List.range n).filter (fun _ => false) = [] := by simp
theorem allP_nil {α : Type} {P : α → VP} {H : Hp} : ∀ {xs : List V}, AllP P H [] xs → xs = []
  | [], _ => rfl
  | _ :: _, h => h.elim

abbrev N_d_law_is_led_right : List PySem.Str := ["_law_lore_here", "_law_who", "_law_hush_here", "_law_sign", "_law_engine_here", "_law_right", "_law_later", "_law_goal", "_law_two", "_law_more", "_law_less"]
theorem sc_d_law_is_led_right : FnScope N_d_law_is_led_right ["_law_lore_here", "_law_who", "_law_hush_here", "_law_sign"] AN.d_law_is_led_right.scope := ⟨rfl, rfl, rfl, by decide +kernel, rfl, by decide +kernel, by decide +kernel⟩
section
variable {w : World} {K : PySem.W.Frag} {mg : PySem.Str → Option Value} {base : Heap} (T : Kit K mg)
include T
theorem w_law_is_led_right : GF Pg w K mg base 9 (AN.d_law_is_led_right.at_ K) (sp4 (fun lo wh hq sg H Q => ∃ (x : Addr) (L : List PySem.Str) (vs : List Rows) (S : List (List Nat)) (n j : Nat) (qs : List PySem.Str) (c : PySem.Str), lo = .ref x ∧ KnI K H x L vs S ∧ Kok L vs S ∧ wh = .int (n : Int) ∧ n < vs.length ∧ Tp K H hq (tS qs) ∧ sg = .str c ∧ L[j]? = some c ∧ ∀ H', Ex H H' → Q (.bl true) H')) := by
  obtain ⟨fd, F⟩ := T.d_law_is_led_right
  refine rr F sc_d_law_is_led_right len4 (fun _ _ _ _ _ _ us hl => match us, hl with | [_, _, _, _], _ => rfl) (fun cdv A outer s H vs Q E hr h => ?_)
  have hu64 : (A.deeper (envOfC AN.d_law_is_led_right.qual AN.d_law_is_led_right.scope s.heap.objs.size (AN.d_law_is_led_right.at_ K) cdv)).units + 65 < cLine := hu_of65 hr
  have hu63 : (A.deeper (envOfC AN.d_law_is_led_right.qual AN.d_law_is_led_right.scope s.heap.objs.size (AN.d_law_is_led_right.at_ K) cdv)).units + 64 < cLine := Nat.lt_of_succ_lt hu64
  have hu1 : (A.deeper (envOfC AN.d_law_is_led_right.qual AN.d_law_is_led_right.scope s.heap.objs.size (AN.d_law_is_led_right.at_ K) cdv)).units + 1 < cLine := hu_of hr
  obtain ⟨fdV, FV, GV⟩ := ok_Knowledge_versions (P := Pg) (w := w) (base := base) T
  have bV : Binds K fdV ["self"] [] := FV.bindsN (fun _ _ _ _ _ _ us hl => match us, hl with | [_], _ => rfl)
  obtain ⟨fdS, FS, GS⟩ := ok_Knowledge_standings (P := Pg) (w := w) (base := base) T
  have bS : Binds K fdS ["self"] [] := FS.bindsN (fun _ _ _ _ _ _ us hl => match us, hl with | [_], _ => rfl)
  have nd := sc_d_law_is_led_right.nd
  obtain ⟨lo, wh, hq, sg, rfl, x, L, vs, S, n, j, qs, c, rfl, hk, kok, rfl, hn, hqt, rfl, hj, q⟩ := h
  refine ⟨_, PSs.nox (pss_cons (ps_asg (pe_tup (pa_cons (pe_ix ix_tup (pe_prop (pv 0) T.cl_Knowledge T.p_versions GV (hr.mono (by decide)) bV .nil pass0 rfl) (pv 1) (fun _ _ => rfl)) (pa_cons (pe_gk (w_true_states T) (hr.mono (by decide)) (by rfl) T.g_true_states pass0 (pa_cons (pv 0) (pa_cons (pv 1) pa_nil)) (pk_cons (pv 2) pk_nil)) pa_nil))) (pg_tup rfl (pgs_cons (pg_name (i := 4) nd rfl (Or.inr rfl)) (pgs_cons (pg_name (i := 5) nd rfl (Or.inl rfl)) pgs_nil)))) (pss_cons (ps_set (i := 6) nd rfl (Or.inl rfl) (pe_gk (w_true_states T) (hr.mono (by decide)) (by rfl) T.g_true_states pass0 (pa_cons (StX.pe_callO (pv 0) T.callO (w_Knowledge_call T).1 (hr.mono (by decide)) pass0 (pa_cons (pv 3) pa_nil)) (pa_cons (pv 1) pa_nil)) (pk_cons (pv 2) pk_nil))) (pss_cons (ps_for PassesOwn.never rfl (pi_tup (pv 5)) (pg_name (i := 7) nd rfl (Or.inr rfl)) (pss_cons (ps_if (pt_cmpR (op_notInTD hu64) (pe_ix ix_tup (pe_gf (w_step T) (hr.mono (by decide)) (by rfl) T.g_step pass0 (pa_cons (pv 4) (pa_cons (pv 7) (pa_cons (pv 3) pa_nil)))) pe_int (fun _ _ => rfl)) (pv 6) rfl) (pss_one (ps_ret pe_bl)) pss_nil) (pss_cons (ps_if (pt_cmpR (op_neD hu63) (pe_lc (own := [("_law_two", 8)]) rfl nd (pi_tup (pv 5)) (blkOk_by (own := [("_law_two", 8)]) (N := N_d_law_is_led_right) (sc := AN.d_law_is_led_right.scope) (by decide +kernel)) (fun _ _ _ _ _ => (pg_name (i := 8) nd rfl (Or.inl rfl))) (fun _ _ _ _ _ => (pts_one (pt_not (pt_val (pe_gk (w_are_alike T) (hr.mono (by decide)) (by rfl) T.g_are_alike pass0 (pa_cons (pv 4) (pa_cons (pv 7) (pa_cons (pv 8) pa_nil))) (pk_cons (pv 2) pk_nil)))))) (fun _ _ _ _ _ => (pv 8))) (pe_lst pa_nil) (nomark _)) (pss_one (ps_ret pe_bl)) pss_nil) (pss_cons (ps_setLc (i := 9) (own := [("_law_two", 8)]) rfl nd rfl rfl (sw_true rfl rfl rfl (by decide +kernel)) (pi_range1 (by rfl) T.f_range (pa_cons (pe_callB call_len_seq (by rfl) T.f_len (by decide +kernel) (pa_cons (pe_ix ix_tup (pv 4) pe_int (fun _ _ => rfl)) pa_nil)) pa_nil)) (blkOk_by (own := [("_law_two", 8)]) (N := N_d_law_is_led_right) (sc := AN.d_law_is_led_right.scope) (by decide +kernel)) (fun _ _ _ _ _ => (pg_name (i := 8) nd rfl (Or.inl rfl))) (fun _ _ _ _ _ => (pts_one (pt_val (pe_gk (w_are_alike T) (hr.mono (by decide)) (by rfl) T.g_are_alike pass0 (pa_cons (pv 4) (pa_cons (pv 7) (pa_cons (pv 8) pa_nil))) (pk_cons (pv 2) pk_nil))))) (fun _ _ _ _ _ => (pv 8))) (pss_one (ps_if (pt_cmpR (op_neD hu63) (pe_callTy call_tuple_of (by rfl) T.f_tuple (by decide +kernel) (pa_cons (pv 9) pa_nil)) (pv 5) (nomark _)) (pss_one (ps_ret pe_bl)) pss_nil)))))) (pss_cons (ps_set (i := 10) nd rfl (Or.inr rfl) (pe_makeR T.mk_Knowledge (w_Knowledge_init T).1 (hr.mono (by decide)) (by rfl) T.g_Knowledge pass0 (pa_cons (pe_prop (pv 0) T.cl_Knowledge T.p_versions GV (hr.mono (by decide)) bV .nil pass0 rfl) (pa_cons (pe_slice sl_tupA (pe_prop (pv 0) T.cl_Knowledge T.p_standings GS (hr.mono (by decide)) bS .nil pass0 rfl) po_none (po_some pe_int)) pa_nil)))) (pss_cons (ps_if (pt_cmpR (op_neD hu63) (pe_lc (own := [("_law_goal", 7)]) rfl nd (pi_tup (pv 5)) (blkOk_by (own := [("_law_goal", 7)]) (N := N_d_law_is_led_right) (sc := AN.d_law_is_led_right.scope) (by decide +kernel)) (fun _ _ _ _ _ => (pg_name (i := 7) nd rfl (Or.inl rfl))) (fun _ _ _ _ _ => (pts_one (pt_cmpR (r := rInTD K true) (op_notInTD hu64) (pv 7) (pe_gk (w_true_states T) (hr.mono (by decide)) (by rfl) T.g_true_states pass0 (pa_cons (pv 10) (pa_cons (pv 1) pa_nil)) (pk_cons (pv 2) pk_nil)) rfl))) (fun _ _ _ _ _ => (pv 7))) (pe_lst pa_nil) (nomark _)) (pss_one (ps_ret pe_bl)) pss_nil) (pss_cons (ps_if (PW.pt (pw_or (pt_cmpR (op_eqD hu63) (pe_gk (w_true_states T) (hr.mono (by decide)) (by rfl) T.g_true_states pass0 (pa_cons (pv 10) (pa_cons (pv 1) pa_nil)) (pk_cons (pv 2) pk_nil)) (pe_tup pa_nil) (nomark _)) (pw_or1 (pt_cmpR op_ne (pe_gk (w_is_ready T) (hr.mono (by decide)) (by rfl) T.g_is_ready pass0 (pa_cons (pv 0) (pa_cons (pv 1) pa_nil)) (pk_cons (pv 2) pk_nil)) (pe_cmpR (op_neD hu63) (pv 5) (pe_tup pa_nil) (nomark _)) (nomark _))))) (pss_one (ps_ret pe_bl)) pss_nil) (pss_one (ps_ret (pe_or (pe_not (pe_gk (w_is_ready T) (hr.mono (by decide)) (by rfl) T.g_is_ready pass0 (pa_cons (pv 0) (pa_cons (pv 1) pa_nil)) (pk_cons (pv 2) pk_nil))) (pe_one (pe_gk (w_is_ready T) (hr.mono (by decide)) (by rfl) T.g_is_ready pass0 (pa_cons (StX.pe_callO (pv 0) T.callO (w_Knowledge_call T).1 (hr.mono (by decide)) pass0 (pa_cons (pv 3) pa_nil)) (pa_cons (pv 1) pa_nil)) (pk_cons (pv 2) pk_nil)))))))))))), ?_⟩

  have hk0 := hk
  obtain ⟨dx, kv, v, s0, h0, h1, h2, h3⟩ := hk
  have ok := kok.toVok
  have wf := ok.mem hn
  have hjl := (List.getElem?_eq_some_iff.mp hj).1
  have hL3 := ok.le
  refine ⟨_, rfl, x, dx, _, rfl, h0, _, rfl, x, L, vs, S, rfl, hk0, fun v1 hv1 => ?_⟩
  obtain ⟨a1, xs1, rfl, ha1, hl1, hg1⟩ := hv1.get
  obtain ⟨em, hem, hmt⟩ := hg1 n hn
  refine ⟨_, rfl, _, _, _, _, rfl, rfl, ha1, atI_nat hem, ?_⟩
  refine ⟨_, rfl, _, rfl, _, rfl, rfl, rfl, _, _, _, rfl, x, L, vs, S, n, qs, rfl, hk0, rfl, hn, kok, hqt, fun tv H1 e1 ht => ?_⟩
  refine ⟨sz2, fun p1 hp1 => ?_⟩
  have e2 : Ex H1 (upd H1 p1 (.tup [em, tv])) := Evl.Ex.new hp1
  refine ⟨p1, _, rfl, .inl (.inl upd_same), rfl, _, _, rfl, _, _, rfl, rfl, ?_⟩
  have e12 := e1.trans e2
  refine ⟨_, rfl, x, rfl, _, rfl, .inr ⟨_, _, e12 _ _ h0⟩, _, _, rfl, x, L, vs, S, j, c, rfl, hk0.mono (Nl.ex e12), kok, rfl, hj, fun v3 H3 e3 hv3 => ?_⟩
  obtain ⟨y, S', rfl, kn, kok', hS'⟩ := hv3
  have e13 := e12.trans e3
  refine ⟨_, rfl, _, rfl, rfl, rfl, _, _, _, rfl, y, L, vs, S', n, qs, rfl, kn, rfl, hn, kok', hqt.mono (Nl.ex e13), fun lv H4 e4 hl => ?_⟩
  have e14 := e13.trans e4
  obtain ⟨at5, rfl, ht5⟩ := tI_of (ht.mono (Nl.ex ((e2.trans e3).trans e4)))
  refine ⟨_, rfl, at5, rfl, ⟨_, ht5⟩, ?_⟩
  refine for_runs (runs_t ht5) (fun i σ' H' => Ex H4 H' ∧ ∃ z7 z8 z9 z10, σ' = [some (.ref x), some (.int (n : Int)), some hq, some (.str c), some em, some (.ref at5), some lv, z7, z8, z9, z10]) (fun i σ' H' p => p.1) ⟨Ex.refl _, _, _, _, _, rfl⟩ ?_ ?_
  · rintro i u σ' H5 H6 hi ⟨e5, z7, z8, z9, z10, rfl⟩ e6 hu
    rw [List.getElem?_map, Option.map_eq_some_iff] at hu
    obtain ⟨t, ht, rfl⟩ := hu
    have htm : t ∈ trueM (vs.getD n []) qs (plc S n) := List.mem_of_getElem? ht
    have e16 := (e14.trans e5).trans e6
    have htl := (mem_trueM.mp htm).1
    refine ⟨_, rfl, _, rfl, _, rfl, _, _, _, rfl, L, vs.getD n [], t, j, c, hmt.tp.mono (Nl.ex e16), rfl, rfl, ok.nd, by omega, wf, htl, hj, fun pv H7 e7 tp => ?_⟩
    obtain ⟨ap, rfl, hap⟩ := pair_of tp
    have e67 := e6.trans e7
    refine ⟨_, _, _, _, rfl, rfl, hap, atI_nat (j := 0) rfl, _, rfl, _, _, .int _, (hl.mono (Nl.ex (e5.trans e67))).dp, int_shaped _, tI_shaped _, ?_⟩
    rw [if_pos rfl, any_int, decide_eq_true (true_step wf hn hjl kok.st hS' htm)]
    refine ⟨_, rfl, ?_⟩
    dsimp only
    rw [if_neg (by decide)]
    unfold tNext
    dsimp only
    refine w_si ?_
    unfold tTest tOp
    dsimp only
    refine w_lc ?_
    have ht57 := nl_t (Nl.ex (e5.trans e67)) ht5
    have e17 := e16.trans e7
    refine ⟨_, rfl, at5, rfl, ⟨_, ht57⟩, ?_⟩
    have hne : plc S n ≠ [] := fun e => kok.ne (List.map_eq_nil_iff.mp e)
    have hlen7 : ((trueM (vs.getD n []) qs (plc S n)).map fun (n : Nat) => V.int (n : Int)).length ≤ 3 := by
      rw [List.length_map]
      have h1 := filt_len (vs.getD n []).length (fun t => (plc S n).all fun p => cl (hush qs (vs.getD n [])) p == cl (hush qs (vs.getD n [])) t)
      have h2 := wf.le
      exact Nat.le_trans h1 h2
    refine lc_pure (n := ((trueM (vs.getD n []) qs (plc S n)).map fun (n : Nat) => V.int (n : Int)).length) (runs_t ht57) (fun _ => false) (fun _ _ _ => True) (by omega) (fun _ _ _ _ _ h => h) ?_ ?_
    · intro k u H8 hk8 e8 hu C kk
      rw [List.getElem?_map, Option.map_eq_some_iff] at hu
      obtain ⟨t2, ht2, rfl⟩ := hu
      have htm2 : t2 ∈ trueM (vs.getD n []) qs (plc S n) := List.mem_of_getElem? ht2
      refine kk _ _ rfl (Ex.refl _) (fun Q q => ?_) (fun h => by cases h)
      refine ⟨_, rfl, _, rfl, _, rfl, _, rfl, rfl, rfl, _, _, _, _, rfl, L, vs.getD n [], qs, t, t2, hmt.tp.mono (Nl.ex (e17.trans e8)), rfl, rfl, hqt.mono (Nl.ex (e17.trans e8)), wf, by omega, htl, (mem_trueM.mp htm2).1, fun H9 e9 => ?_⟩
      rw [decide_eq_true (trueM_all hne htm htm2)]
      exact ⟨_, rfl, q _ e9⟩
    · intro D H8 xs8 hD8 e8 hD8' hall8
      rw [filter_none] at hall8
      have hx8 := allP_nil hall8
      subst hx8
      refine ⟨Nat.zero_le _, fun l9 hl9 => ?_⟩
      have e9 := Evl.Ex.new (o := .lst []) hl9
      refine ⟨_, _, .lst (SqL.of (e9 _ _ hD8')) .nil, .lst (SqL.of upd_same) .nil, nil_shaped, nil_shaped, ?_⟩
      rw [show PyData.eqv (.list []) (.list []) = true by simp [PyData.eqv, PyData.eqvAll]]
      refine ⟨_, rfl, ?_⟩
      rw [if_neg (by decide)]
      refine w_sa ?_
      refine w_lc ?_
      have e19 := (e17.trans e8).trans e9
      obtain ⟨ma, mal, mr, hem2, m1, m2, m3⟩ := hmt.mono (Nl.ex e19)
      obtain ⟨mb, mys, rfl, m4, m5, m6⟩ := tup_at m3
      rw [List.length_map] at m6
      have hR3 := wf.le
      refine ⟨_, congrArg some (congrArg some hem2), _, _, _, _, rfl, rfl, m1, atI_nat (j := 1) rfl, mb, mys, rfl, .inr m4, _, rfl, by omega, by omega, ?_⟩
      refine lc_pure (n := mys.length) (runs_r mys.length) (fun k => cl (hush qs (vs.getD n [])) t == cl (hush qs (vs.getD n [])) k) (fun k v _ => v = V.int (k : Int)) (by omega) (fun _ _ _ _ _ h => h) ?_ ?_
      · intro k u H10 hk10 e10 hu C kk
        have hu : u = .int (k : Int) := hu
        subst hu
        have e20 := e19.trans e10
        refine kk _ _ rfl (Ex.refl _) (fun Q q => ?_) (fun hf H11 e11 Q q => ⟨_, rfl, q _ _ (Ex.refl _) rfl⟩)
        refine ⟨_, rfl, _, rfl, _, rfl, _, rfl, rfl, rfl, _, _, _, _, rfl, L, vs.getD n [], qs, t, k, hmt.tp.mono (Nl.ex e20), rfl, rfl, hqt.mono (Nl.ex e20), wf, by omega, htl, by omega, fun H12 e12 => ?_⟩
        rw [show decide (cl (hush qs (vs.getD n [])) t = cl (hush qs (vs.getD n [])) k) = (cl (hush qs (vs.getD n [])) t == cl (hush qs (vs.getD n [])) k) from rfl]
        exact ⟨_, rfl, q _ e12⟩
      · intro D9 H10 xs10 hD9 e10 hD9' hall10
        rw [m6, trueM_alike hne htm] at hall10
        have hx10 := allP_eq hall10
        subst hx10
        have e20 := e19.trans e10
        unfold gName tIfS
        dsimp only
        refine ⟨_, rfl, D9, _, rfl, .inl ⟨SqL.of hD9', fun l10 hl10 => ?_⟩⟩
        have e11 := Evl.Ex.new (o := .tup ((trueM (vs.getD n []) qs (plc S n)).map fun (i : Nat) => V.int (i : Int))) hl10
        refine ⟨_, rfl, _, _, (of_tI (.inl (.inl upd_same))).dp, (of_tI (nl_t (Nl.ex ((e8.trans e9).trans (e10.trans e11))) ht57)).dp, tI_shaped _, tI_shaped _, ?_⟩
        rw [eqv_tI, decide_eq_true rfl]
        refine ⟨_, rfl, ?_⟩
        rw [if_neg (by decide)]
        exact ⟨((((e5.trans e67).trans e8).trans e9).trans e10).trans e11, _, _, _, _, rfl⟩
  · rintro σ' H5 ⟨e5, z7, z8, z9, z10, rfl⟩
    have e15 := e14.trans e5
    have hk5 := hk0.mono (Nl.ex e15)
    refine ⟨_, rfl, x, dx, _, rfl, e15 _ _ h0, _, rfl, x, L, vs, S, rfl, hk5, fun v5 hv5 => ?_⟩
    refine ⟨_, rfl, x, dx, _, rfl, e15 _ _ h0, _, rfl, x, L, vs, S, rfl, hk5, fun s5 hs5 => ?_⟩
    obtain ⟨as5, xs5, rfl, has5, tas5⟩ := hs5.tupE
    unfold tNoPart
    dsimp only
    refine ⟨1, rfl, ?_⟩
    refine sl_take (i := 1) has5 fun p6 H6 e6 hs6 => ?_
    have hne1 : S.take 1 ≠ [] := by
      cases hS0 : S with
      | nil => exact absurd hS0 kok.ne
      | cons a b => simp
    have hts : Tp K H6 (.ref p6) (stsD (S.take 1)) := by
      refine .tup hs6 ?_
      rw [List.map_take]
      exact TpA.take 1 (tas5.mono (Nl.ex e6))
    refine make_kn (hv5.mono (Nl.ex e6)) ok hts hne1 (fun s hs => kok.re s (List.mem_of_mem_take hs)) (by rw [List.length_take]; have := kok.few; omega) (fun y2 H7 S2 hy2 e7 kn2 kok2 hS2 => ?_)
    unfold gName
    have e57 := e15.trans (e6.trans e7)
    have e47 := e5.trans (e6.trans e7)
    have hP2 : trueM (vs.getD n []) qs (plc S2 n) = trueM (vs.getD n []) qs (plc (S.take 1) n) := trueM_congr fun p => by
      rw [List.mem_map, List.mem_map]
      exact ⟨fun ⟨s, h, e⟩ => ⟨s, (hS2 s).mp h, e⟩, fun ⟨s, h, e⟩ => ⟨s, (hS2 s).mpr h, e⟩⟩
    have hlen7 : ((trueM (vs.getD n []) qs (plc S n)).map fun (n : Nat) => V.int (n : Int)).length ≤ 3 := by
      rw [List.length_map]
      have h1 := filt_len (vs.getD n []).length (fun t => (plc S n).all fun p => cl (hush qs (vs.getD n [])) p == cl (hush qs (vs.getD n [])) t)
      have h2 := wf.le
      exact Nat.le_trans h1 h2
    refine w_si ?_
    unfold tTest tOp
    dsimp only
    refine w_lc ?_
    have ht57 := nl_t (Nl.ex e47) ht5
    refine ⟨_, rfl, at5, rfl, ⟨_, ht57⟩, ?_⟩
    refine lc_pure (n := ((trueM (vs.getD n []) qs (plc S n)).map fun (n : Nat) => V.int (n : Int)).length) (runs_t ht57) (fun _ => false) (fun _ _ _ => True) (by omega) (fun _ _ _ _ _ h => h) ?_ ?_
    · intro k u H8 hk8 e8 hu C kk
      rw [List.getElem?_map, Option.map_eq_some_iff] at hu
      obtain ⟨t2, ht2, rfl⟩ := hu
      have htm2 : t2 ∈ trueM (vs.getD n []) qs (plc S n) := List.mem_of_getElem? ht2
      refine kk _ _ rfl (Ex.refl _) (fun Q q => ?_) (fun h => by cases h)
      refine ⟨_, rfl, _, rfl, _, rfl, _, rfl, rfl, rfl, _, _, _, rfl, y2, L, vs, S2, n, qs, rfl, kn2.mono (Nl.ex e8), rfl, hn, kok2, hqt.mono (Nl.ex (e57.trans e8)), fun v9 H9 e9 tv9 => ?_⟩
      refine ⟨_, _, .int _, tv9.dp, int_shaped _, tI_shaped _, ?_⟩
      rw [if_pos rfl, any_int, decide_eq_true (hP2 ▸ trueM_less plc_take htm2 : t2 ∈ trueM (vs.getD n []) qs (plc S2 n))]
      exact ⟨_, rfl, q _ e9⟩
    · intro D H8 xs8 hD8 e8 hD8' hall8
      rw [filter_none] at hall8
      have hx8 := allP_nil hall8
      subst hx8
      refine ⟨Nat.zero_le _, fun l9 hl9 => ?_⟩
      have e9 := Evl.Ex.new (o := .lst []) hl9
      refine ⟨_, _, .lst (SqL.of (e9 _ _ hD8')) .nil, .lst (SqL.of upd_same) .nil, nil_shaped, nil_shaped, ?_⟩
      rw [show PyData.eqv (.list []) (.list []) = true by simp [PyData.eqv, PyData.eqvAll]]
      refine ⟨_, rfl, ?_⟩
      rw [if_neg (by decide)]
      unfold tNext
      dsimp only
      refine w_si ?_
      have e59 := e57.trans (e8.trans e9)
      refine ⟨_, rfl, _, rfl, _, rfl, rfl, rfl, _, _, _, rfl, y2, L, vs, S2, n, qs, rfl, kn2.mono (Nl.ex (e8.trans e9)), rfl, hn, kok2, hqt.mono (Nl.ex e59), fun v10 H10 e10 tv10 => ?_⟩
      refine ⟨Nat.zero_le _, fun p11 hp11 => ?_⟩
      have e11 := Evl.Ex.new (o := .tup []) hp11
      refine ⟨_, _, (tv10.mono (Nl.ex e11)).dp, (of_tI (l := []) (.inl (.inl upd_same))).dp, tI_shaped _, tI_shaped _, ?_⟩
      rw [eqv_tI, decide_eq_false (show ¬ trueM (vs.getD n []) qs (plc S2 n) = [] by rw [hP2]; exact true_first kok.ne kok.st hn)]
      refine ⟨_, rfl, ?_⟩
      dsimp only
      rw [if_neg (by decide)]
      have e511 := e59.trans (e10.trans e11)
      refine ⟨_, rfl, _, rfl, _, rfl, rfl, rfl, _, _, _, rfl, x, L, vs, S, n, qs, rfl, hk0.mono (Nl.ex e511), rfl, hn, kok, hqt.mono (Nl.ex e511), fun H12 e12 => ?_⟩
      have ht12 := nl_t (Nl.ex (((e8.trans e9).trans (e10.trans e11)).trans e12)) ht57
      refine ⟨_, rfl, Nat.zero_le _, fun p13 hp13 => ?_⟩
      have e13 := Evl.Ex.new (o := .tup []) hp13
      refine ⟨_, _, (of_tI (nl_t (Nl.ex e13) ht12)).dp, (of_tI (l := []) (.inl (.inl upd_same))).dp, tI_shaped _, tI_shaped _, ?_⟩
      rw [eqv_tI]
      have e513 := e511.trans (e12.trans e13)
      refine ⟨rfl, _, rfl, ?_⟩
      rw [decide_eq_true rfl]
      rw [if_neg (by decide)]
      refine ⟨_, rfl, _, rfl, _, rfl, rfl, rfl, _, _, _, rfl, x, L, vs, S, n, qs, rfl, hk0.mono (Nl.ex e513), rfl, hn, kok, hqt.mono (Nl.ex e513), fun H14 e14 => ⟨_, rfl, ?_⟩⟩
      have e514 := e513.trans e14
      by_cases hr0 : trueM (vs.getD n []) qs (plc S n) = []
      · refine ⟨_, rfl, ?_⟩
        rw [decide_eq_true hr0]
        rw [if_pos (by decide)]
        exact q _ e514
      · refine ⟨_, rfl, ?_⟩
        rw [decide_eq_false hr0]
        rw [if_neg (by decide)]
        refine ⟨_, rfl, x, rfl, _, rfl, .inr ⟨_, _, e514 _ _ h0⟩, _, _, rfl, x, L, vs, S, j, c, rfl, hk0.mono (Nl.ex e514), kok, rfl, hj, fun v15 H15 e15' hv15 => ?_⟩
        obtain ⟨y3, S3, rfl, kn3, kok3, hS3⟩ := hv15
        have e515 := e514.trans e15'
        refine ⟨_, rfl, _, rfl, rfl, rfl, _, _, _, rfl, y3, L, vs, S3, n, qs, rfl, kn3, rfl, hn, kok3, hqt.mono (Nl.ex e515), fun H16 e16 => ?_⟩
        obtain ⟨t, ht⟩ := List.exists_mem_of_ne_nil _ hr0
        rw [decide_eq_false (List.ne_nil_of_mem (true_step wf hn hjl kok.st hS3 ht) : ¬ trueM (vs.getD n []) qs (plc S3 n) = [])]
        exact q _ (e515.trans e16)
end
end AN
end

-- ANw25
section
set_option Elab.async false
set_option linter.all false
set_option maxRecDepth 100000
set_option maxHeartbeats 4000000
namespace AN
open PySem PySem.Spec PyProof.Rows L2 StX
open Evl (Ex)

theorem str_empty_ok : PyData.strOk PySem.Str.empty = true := by decide +kernel
theorem wd_ok {R : Rows} (h : WOk R) (s j : Nat) : PyData.strOk (wd R s j) = true := by
  unfold wd
  by_cases h1 : s < R.length
  · by_cases h2 : j < (R.getD s []).length
    · exact h _ (getD_mem h1) _ (getD_mem h2)
    · rw [List.getD_eq_getElem?_getD, List.getElem?_eq_none (by omega)]
      exact str_empty_ok
  · rw [List.getD_eq_getElem?_getD (l := R), List.getElem?_eq_none (by omega)]
    exact str_empty_ok
theorem said_ok {R : Rows} (h : WOk R) (qs : List PySem.Str) : ∀ (js : List Nat) (s : Nat), Sok ((saidM R s js).map (hushW qs))
  | [], _ => fun _ h => absurd h List.not_mem_nil
  | j :: js, s => fun x hx => by
    rcases List.mem_cons.mp (show x ∈ hushW qs (wd R s j) :: (saidM R (nx R s j) js).map (hushW qs) from hx) with rfl | hx
    · unfold hushW
      split
      · exact str_empty_ok
      · exact wd_ok h s j
    · exact said_ok h qs js _ x hx
theorem map_const {α β : Type} {c : β} : ∀ {l : List α} {i : Nat} {d : β}, (l.map fun _ => c)[i]? = some d → d = c := by
  intro l i d h
  rw [List.getElem?_map, Option.map_eq_some_iff] at h
  obtain ⟨_, _, e⟩ := h
  exact e.symm

abbrev N_d_law_are_words_right : List PySem.Str := ["_law_lore_here", "_law_who", "_law_hush_here", "_law_past_now", "_law_signs_here", "_law_engine_here", "_law_due", "_law_told", "_law_goal", "_law_one"]
theorem sc_d_law_are_words_right : FnScope N_d_law_are_words_right ["_law_lore_here", "_law_who", "_law_hush_here", "_law_past_now", "_law_signs_here"] AN.d_law_are_words_right.scope := ⟨rfl, rfl, rfl, by decide +kernel, rfl, by decide +kernel, by decide +kernel⟩
section
variable {w : World} {K : PySem.W.Frag} {mg : PySem.Str → Option Value} {base : Heap} (T : Kit K mg)
include T
theorem w_law_are_words_right : GF Pg w K mg base 8 (AN.d_law_are_words_right.at_ K) (sp5 (fun lo wh hq pa sg H Q => ∃ (x : Addr) (L : List PySem.Str) (vs : List Rows) (S : List (List Nat)) (n : Nat) (qs : List PySem.Str) (ja jb : List Nat), lo = .ref x ∧ KnI K H x L vs S ∧ Kok L vs S ∧ wh = .int (n : Int) ∧ n < vs.length ∧ Tp K H hq (tS qs) ∧ WOk (vs.getD n []) ∧ Tp K H pa (tS (rdg L ja)) ∧ (∀ j ∈ ja, j < L.length) ∧ ja.length ≤ 50 ∧ Tp K H sg (tS (rdg L jb)) ∧ (∀ j ∈ jb, j < L.length) ∧ jb.length ≤ 50 ∧ ∀ H', Ex H H' → Q (.bl true) H')) := by
  obtain ⟨fd, F⟩ := T.d_law_are_words_right
  refine rr F sc_d_law_are_words_right len5 (fun _ _ _ _ _ _ us hl => match us, hl with | [_, _, _, _, _], _ => rfl) (fun cdv A outer s H vs Q E hr h => ?_)
  have hu64 : (A.deeper (envOfC AN.d_law_are_words_right.qual AN.d_law_are_words_right.scope s.heap.objs.size (AN.d_law_are_words_right.at_ K) cdv)).units + 65 < cLine := hu_of65 hr
  have hu63 : (A.deeper (envOfC AN.d_law_are_words_right.qual AN.d_law_are_words_right.scope s.heap.objs.size (AN.d_law_are_words_right.at_ K) cdv)).units + 64 < cLine := Nat.lt_of_succ_lt hu64
  have hu1 : (A.deeper (envOfC AN.d_law_are_words_right.qual AN.d_law_are_words_right.scope s.heap.objs.size (AN.d_law_are_words_right.at_ K) cdv)).units + 1 < cLine := hu_of hr
  obtain ⟨fdV, FV, GV⟩ := ok_Knowledge_versions (P := Pg) (w := w) (base := base) T
  have bV : Binds K fdV ["self"] [] := FV.bindsN (fun _ _ _ _ _ _ us hl => match us, hl with | [_], _ => rfl)
  have nd := sc_d_law_are_words_right.nd
  obtain ⟨lo, wh, hq, pa, sg, rfl, x, L, vs, S, n, qs, ja, jb, rfl, hk, kok, rfl, hn, hqt, hwo, hpa, hja, hjal, hsg, hjb, hjbl, q⟩ := h
  refine ⟨_, PSs.nox (pss_cons (ps_set (i := 5) nd rfl (Or.inr rfl) (pe_ix ix_tup (pe_prop (pv 0) T.cl_Knowledge T.p_versions GV (hr.mono (by decide)) bV .nil pass0 rfl) (pv 1) (fun _ _ => rfl))) (pss_cons (ps_if (pt_not (pt_val (pe_methR (pv 0) T.cl_Knowledge T.m_Knowledge_allows (w_Knowledge_allows T).1 (hr.mono (by decide)) pass0 (pa_cons (pv 3) pa_nil)))) (pss_one (ps_ret pe_bl)) pss_nil) (pss_cons (ps_set (i := 6) nd rfl (Or.inr rfl) (pe_gk (w_said T) (hr.mono (by decide)) (by rfl) T.g_said pass0 (pa_cons (pv 5) (pa_cons (pv 4) pa_nil)) (pk_cons (pe_gf (w_led0 T) (hr.mono (by decide)) (by rfl) T.g_led pass0 (pa_cons (pv 5) (pa_cons (pv 3) pa_nil))) (pk_cons (pv 2) pk_nil)))) (pss_cons (ps_setLc (i := 7) (own := [("_law_goal", 8)]) rfl nd rfl rfl (sw_true rfl rfl rfl (by decide +kernel)) (pi_tup (pe_gk (w_true_states T) (hr.mono (by decide)) (by rfl) T.g_true_states pass0 (pa_cons (pv 0) (pa_cons (pv 1) pa_nil)) (pk_cons (pv 2) pk_nil))) (blkOk_by (own := [("_law_goal", 8)]) (N := N_d_law_are_words_right) (sc := AN.d_law_are_words_right.scope) (by decide +kernel)) (fun _ _ _ _ _ => (pg_name (i := 8) nd rfl (Or.inl rfl))) (fun _ _ _ _ _ => pts_nil) (fun _ _ _ _ _ => (pe_gk (w_said T) (hr.mono (by decide)) (by rfl) T.g_said pass0 (pa_cons (pv 5) (pa_cons (pv 4) pa_nil)) (pk_cons (pv 8) (pk_cons (pv 2) pk_nil))))) (pss_one (ps_ret (pe_cmpR (op_eqD hu63) (pe_lc (own := [("_law_one", 9)]) rfl nd (pi_list (pv 7)) (blkOk_by (own := [("_law_one", 9)]) (N := N_d_law_are_words_right) (sc := AN.d_law_are_words_right.scope) (by decide +kernel)) (fun _ _ _ _ _ => (pg_name (i := 9) nd rfl (Or.inl rfl))) (fun _ _ _ _ _ => (pts_one (pt_cmpR (r := rNeD K) (op_neD hu63) (pv 9) (pv 6) (nomark _)))) (fun _ _ _ _ _ => (pv 9))) (pe_lst pa_nil) (nomark _)))))))), ?_⟩

  have hk0 := hk
  obtain ⟨dx, kv, v, s0, h0, h1, h2, h3⟩ := hk
  have ok := kok.toVok
  have wf := ok.mem hn
  have hL3 := ok.le
  refine ⟨_, rfl, x, dx, _, rfl, h0, _, rfl, x, L, vs, S, rfl, hk0, fun v1 hv1 => ?_⟩
  obtain ⟨a1, xs1, rfl, ha1, hl1, hg1⟩ := hv1.get
  obtain ⟨em, hem, hmt⟩ := hg1 n hn
  refine ⟨_, rfl, _, _, _, _, rfl, rfl, ha1, atI_nat hem, ?_⟩
  unfold gName
  dsimp only
  refine w_si ?_
  refine ⟨_, rfl, x, dx, _, rfl, h0, rfl, _, rfl, _, _, rfl, x, L, vs, S, ja, rfl, hk0, kok, hpa, hja, fun H1 e1 => ?_⟩
  refine ⟨_, rfl, ?_⟩
  by_cases hal : ledS vs (zeroS vs) ja ∈ S
  rotate_left
  · rw [decide_eq_false hal]
    dsimp only
    rw [if_pos (by decide)]
    exact q _ e1
  rw [decide_eq_true hal]
  dsimp only
  rw [if_neg (by decide)]
  unfold tNext
  dsimp only
  refine w_sa ?_
  have hps := plc_past hn hal
  have hlt := plc_lt kok.st hn _ hps
  refine ⟨_, rfl, _, rfl, _, rfl, _, rfl, _, _, _, rfl, L, vs.getD n [], 0, ja, hmt.tp.mono (Nl.ex e1), hpa.mono (Nl.ex e1), rfl, ok.nd, by omega, wf, wf.ne, hja, by omega, fun H2 e2 => ?_⟩
  have e12 := e1.trans e2
  refine ⟨_, rfl, rfl, rfl, _, _, _, _, rfl, L, vs.getD n [], _, jb, qs, hmt.tp.mono (Nl.ex e12), hsg.mono (Nl.ex e12), rfl, hqt.mono (Nl.ex e12), ok.nd, by omega, wf, hlt, hjb, by omega, fun v6 H3 e3 hv6 => ?_⟩
  have e13 := e12.trans e3
  dsimp only
  refine w_sa ?_
  refine w_lc ?_
  refine ⟨_, rfl, _, rfl, _, rfl, rfl, rfl, _, _, _, rfl, x, L, vs, S, n, qs, rfl, hk0.mono (Nl.ex e13), rfl, hn, kok, hqt.mono (Nl.ex e13), fun tv H4 e4 htv => ?_⟩
  obtain ⟨at8, rfl, ht8⟩ := tI_of htv
  have e14 := e13.trans e4
  refine ⟨at8, rfl, ⟨_, ht8⟩, ?_⟩
  have hlen8 : ((trueM (vs.getD n []) qs (plc S n)).map fun (n : Nat) => V.int (n : Int)).length ≤ 3 := by
    rw [List.length_map]
    have h1 := filt_len (vs.getD n []).length (fun t => (plc S n).all fun p => cl (hush qs (vs.getD n [])) p == cl (hush qs (vs.getD n [])) t)
    have h2 := wf.le
    exact Nat.le_trans h1 h2
  refine lc_pure (n := ((trueM (vs.getD n []) qs (plc S n)).map fun (n : Nat) => V.int (n : Int)).length) (runs_t ht8) (fun _ => true) (fun _ v H => Tp K H v (tS ((saidM (vs.getD n []) (ledM (vs.getD n []) 0 ja) jb).map (hushW qs)))) (by omega) (fun _ _ _ _ e h => h.mono e) ?_ ?_
  · intro k u H8 hk8 e8 hu C kk
    rw [List.getElem?_map, Option.map_eq_some_iff] at hu
    obtain ⟨t2, ht2, rfl⟩ := hu
    have htm2 : t2 ∈ trueM (vs.getD n []) qs (plc S n) := List.mem_of_getElem? ht2
    refine kk _ _ rfl (Ex.refl _) (fun Q q => q _ (Ex.refl _)) (fun _ H9 e9 Q q => ?_)
    have e19 := (e14.trans e8).trans e9
    refine ⟨_, rfl, _, rfl, _, rfl, _, rfl, rfl, rfl, _, _, _, _, rfl, L, vs.getD n [], t2, jb, qs, hmt.tp.mono (Nl.ex e19), hsg.mono (Nl.ex e19), rfl, hqt.mono (Nl.ex e19), ok.nd, by omega, wf, (mem_trueM.mp htm2).1, hjb, by omega, fun v10 H10 e10 hv10 => ?_⟩
    rw [words_true wf hn kok.st hal hjb htm2] at hv10
    exact q _ _ e10 hv10
  · intro D H8 xs8 hD8 e8 hD8' hall8
    rw [filter_true] at hall8
    have tp8 := hall8.tp
    have hl8 := hall8.length
    rw [List.length_range] at hl8
    have hv68 := hv6.mono (Nl.ex (e4.trans e8))
    dsimp only
    unfold tRet tOp
    dsimp only
    refine w_lc ?_
    refine ⟨_, rfl, D, rfl, ⟨_, SqL.of hD8'⟩, ?_⟩
    refine lc_pure (n := xs8.length) (runs_l (SqL.of hD8')) (fun _ => false) (fun _ _ _ => True) (by omega) (fun _ _ _ _ _ h => h) ?_ ?_
    · intro k u H9 hk9 e9 hu C kk
      obtain ⟨d9, hd9, td9⟩ := tp8.got hu
      have hd9 := map_const hd9
      subst hd9
      refine kk _ _ rfl (Ex.refl _) (fun Q q => ?_) (fun h => by cases h)
      refine ⟨_, rfl, _, rfl, _, _, (td9.mono (Nl.ex e9)).dp, (hv68.mono (Nl.ex e9)).dp, tS_shaped (said_ok hwo qs _ _), tS_shaped (said_ok hwo qs _ _), ?_⟩
      rw [eqv_tS, decide_eq_true rfl]
      exact ⟨_, rfl, q _ (Ex.refl _)⟩
    · intro D9 H9 xs9 hD9 e9 hD9' hall9
      rw [filter_none] at hall9
      have hx9 := allP_nil hall9
      subst hx9
      refine ⟨Nat.zero_le _, fun l10 hl10 => ?_⟩
      have e10 := Evl.Ex.new (o := .lst []) hl10
      refine ⟨_, _, .lst (SqL.of (e10 _ _ hD9')) .nil, .lst (SqL.of upd_same) .nil, nil_shaped, nil_shaped, ?_⟩
      rw [show PyData.eqv (.list []) (.list []) = true by simp [PyData.eqv, PyData.eqvAll]]
      exact q _ (((e14.trans e8).trans e9).trans e10)
end
end AN
end

-- ANw26
section
set_option Elab.async false
set_option linter.all false
set_option maxRecDepth 100000
set_option maxHeartbeats 4000000
namespace AN
open PySem PySem.Spec PyProof.Rows L2 StX
open Evl (Ex)

theorem w_g {i : Nat} {v : V} {σ : L2.St} {H : Hp} {k : L2.St → Hp → Prop} (h : k (σ.set i (some v)) H) : gName i v σ H k := h

abbrev N_d_law_is_forgotten_right : List PySem.Str := ["_law_lore_here", "_law_engine_here", "_law_hush_here", "_law_many", "_law_wide", "_law_who", "_law_thin", "_law_right", "_law_goal"]
theorem sc_d_law_is_forgotten_right : FnScope N_d_law_is_forgotten_right ["_law_lore_here", "_law_engine_here", "_law_hush_here"] AN.d_law_is_forgotten_right.scope := ⟨rfl, rfl, rfl, by decide +kernel, rfl, by decide +kernel, by decide +kernel⟩
section
variable {w : World} {K : PySem.W.Frag} {mg : PySem.Str → Option Value} {base : Heap} (T : Kit K mg)
include T
theorem w_law_is_forgotten_right : GF Pg w K mg base 8 (AN.d_law_is_forgotten_right.at_ K) (sp3 (fun lo en hq H Q => ∃ (x : Addr) (L : List PySem.Str) (vs : List Rows) (S : List (List Nat)) (R : Rows) (qs : List PySem.Str), lo = .ref x ∧ KnI K H x L vs S ∧ Kok L vs S ∧ vs.length ≤ 2 ∧ Mt K H en L R ∧ Wf L.length R ∧ Tp K H hq (tS qs) ∧ ∀ H', Ex H H' → Q (.bl true) H')) := by
  obtain ⟨fd, F⟩ := T.d_law_is_forgotten_right
  refine rr F sc_d_law_is_forgotten_right len3 (fun _ _ _ _ _ _ us hl => match us, hl with | [_, _, _], _ => rfl) (fun cdv A outer s H vs Q E hr h => ?_)
  have hu64 : (A.deeper (envOfC AN.d_law_is_forgotten_right.qual AN.d_law_is_forgotten_right.scope s.heap.objs.size (AN.d_law_is_forgotten_right.at_ K) cdv)).units + 65 < cLine := hu_of65 hr
  have hu63 : (A.deeper (envOfC AN.d_law_is_forgotten_right.qual AN.d_law_is_forgotten_right.scope s.heap.objs.size (AN.d_law_is_forgotten_right.at_ K) cdv)).units + 64 < cLine := Nat.lt_of_succ_lt hu64
  have hu1 : (A.deeper (envOfC AN.d_law_is_forgotten_right.qual AN.d_law_is_forgotten_right.scope s.heap.objs.size (AN.d_law_is_forgotten_right.at_ K) cdv)).units + 1 < cLine := hu_of hr
  obtain ⟨fdV, FV, GV⟩ := ok_Knowledge_versions (P := Pg) (w := w) (base := base) T
  have bV : Binds K fdV ["self"] [] := FV.bindsN (fun _ _ _ _ _ _ us hl => match us, hl with | [_], _ => rfl)
  have nd := sc_d_law_is_forgotten_right.nd
  obtain ⟨lo, en, hq, rfl, x, L, vs, S, R, qs, rfl, hk, kok, hv2, hm, wR, hqt, q⟩ := h
  refine ⟨_, PSs.nox (pss_cons (ps_set (i := 3) nd rfl (Or.inr rfl) (pe_callB call_len_seq (by rfl) T.f_len (by decide +kernel) (pa_cons (pe_prop (pv 0) T.cl_Knowledge T.p_versions GV (hr.mono (by decide)) bV .nil pass0 rfl) pa_nil))) (pss_cons (ps_set (i := 4) nd rfl (Or.inr rfl) (pe_methR (pv 0) T.cl_Knowledge T.m_Knowledge_extended (w_Knowledge_extended T).1 (hr.mono (by decide)) pass0 (pa_cons (pv 1) pa_nil))) (pss_cons (ps_for PassesOwn.never rfl (pi_range1 (by rfl) T.f_range (pa_cons (pe_ifExp (pt_cmpR op_gt (pv 3) pe_int (nomark _)) (pv 3) pe_int) pa_nil)) (pg_name (i := 5) nd rfl (Or.inl rfl)) (pss_cons (ps_set (i := 6) nd rfl (Or.inl rfl) (pe_methR (pe_methR (pv 0) T.cl_Knowledge T.m_Knowledge_forgotten (w_Knowledge_forgotten T).1 (hr.mono (by decide)) pass0 (pa_cons (pv 5) pa_nil)) T.cl_Knowledge T.m_Knowledge_extended (w_Knowledge_extended T).1 (hr.mono (by decide)) pass0 (pa_cons (pv 1) pa_nil))) (pss_cons (ps_set (i := 7) nd rfl (Or.inl rfl) (pe_gk (w_true_states T) (hr.mono (by decide)) (by rfl) T.g_true_states pass0 (pa_cons (pv 6) (pa_cons (pe_op op_sub (pv 3) pe_int) pa_nil)) (pk_cons (pv 2) pk_nil))) (pss_cons (ps_if (pt_cmpR (op_neD hu63) (pe_lc (own := [("_law_goal", 8)]) rfl nd (pi_tup (pv 7)) (blkOk_by (own := [("_law_goal", 8)]) (N := N_d_law_is_forgotten_right) (sc := AN.d_law_is_forgotten_right.scope) (by decide +kernel)) (fun _ _ _ _ _ => (pg_name (i := 8) nd rfl (Or.inl rfl))) (fun _ _ _ _ _ => (pts_one (pt_not (pt_val (pe_gk (w_is_true T) (hr.mono (by decide)) (by rfl) T.g_is_true pass0 (pa_cons (pv 4) (pa_cons (pv 3) (pa_cons (pv 8) pa_nil))) (pk_cons (pv 2) pk_nil)))))) (fun _ _ _ _ _ => (pv 8))) (pe_lst pa_nil) (nomark _)) (pss_one (ps_ret pe_bl)) pss_nil) (pss_one (ps_if (PW.pt (pw_and (pt_val (pe_gk (w_is_ready T) (hr.mono (by decide)) (by rfl) T.g_is_ready pass0 (pa_cons (pv 6) (pa_cons (pe_op op_sub (pv 3) pe_int) pa_nil)) (pk_cons (pv 2) pk_nil))) (pw_and1 (pt_not (pt_val (pe_gk (w_is_ready T) (hr.mono (by decide)) (by rfl) T.g_is_ready pass0 (pa_cons (pv 4) (pa_cons (pv 3) pa_nil)) (pk_cons (pv 2) pk_nil))))))) (pss_one (ps_ret pe_bl)) pss_nil)))))) (pss_one (ps_ret pe_bl))))), ?_⟩

  have hk0 := hk
  obtain ⟨dx, kv, v, s0, h0, h1, h2, h3⟩ := hk
  have ok := kok.toVok
  have hL3 := ok.le
  refine ⟨_, rfl, x, dx, _, rfl, h0, _, rfl, x, L, vs, S, rfl, hk0, fun v1 hv1 => ?_⟩
  obtain ⟨a1, xs1, rfl, ha1, hl1, hg1⟩ := hv1.get
  refine ⟨a1, xs1, rfl, .inr ha1, ?_⟩
  refine w_g ?_
  dsimp only
  refine w_sa ?_
  refine ⟨_, rfl, x, dx, _, rfl, h0, rfl, _, rfl, _, _, _, rfl, x, _, L, vs, S, R, rfl, hk0, kok, hv2, hm, wR, rfl, T.tail0, fun wv H1 e1 hwv => ?_⟩
  obtain ⟨y, Sw, rfl, knw, kokw, hSw⟩ := hwv
  refine w_g ?_
  rw [hl1]
  have hvp := ok.vp
  have hlw : (vs ++ [R]).length = vs.length + 1 := by rw [List.length_append, List.length_singleton]
  have hgw : (vs ++ [R]).getD vs.length [] = R := getD_append_r rfl
  refine cont_of (te := tIf _ _ _) (fun v H2 => H2 = H1 ∧ ∃ m : Nat, v = .int (m : Int) ∧ (m = 0 ∨ m = vs.length ∧ 2 ≤ vs.length)) (fun Q' q' => ?_) ?_
  · refine ⟨_, rfl, _, _, rfl, rfl, _, rfl, ?_⟩
    by_cases h2 : 1 < vs.length
    · rw [decide_eq_true (by omega)]
      dsimp only
      rw [if_pos rfl]
      exact ⟨_, rfl, q' _ _ ⟨rfl, _, rfl, .inr ⟨rfl, h2⟩⟩⟩
    · rw [decide_eq_false (by omega)]
      dsimp only
      rw [if_neg (by decide)]
      exact q' _ _ ⟨rfl, 0, rfl, .inl rfl⟩
  · rintro v H2 ⟨rfl, m, rfl, hm2⟩
    refine ⟨_, rfl, by omega, by omega, ?_⟩
    refine for_range (fun i σ' H' => Ex H2 H' ∧ ∃ z5 z6 z7 z8, σ' = [some (.ref x), some en, some hq, some (.int (vs.length : Int)), some (.ref y), z5, z6, z7, z8]) ⟨Ex.refl _, _, _, _, _, rfl⟩ ?_ ?_
    · rintro i σ' H3 hi ⟨e3, z5, z6, z7, z8, rfl⟩
      have hi : i < m := by omega
      rw [show (0 : Int) + (i : Int) = (i : Int) from Int.zero_add _]
      refine w_g ?_
      dsimp only
      have h2v : 2 ≤ vs.length := by omega
      have e13 := e1.trans e3
      refine w_sa ?_
      refine ⟨_, rfl, x, dx, _, rfl, e13 _ _ h0, rfl, _, rfl, _, _, rfl, x, L, vs, S, i, rfl, hk0.mono (Nl.ex e13), kok, rfl, by omega, h2v, fun v4 H4 e4 hv4 => ?_⟩
      obtain ⟨y4, S1, rfl, kn4, kok4, hS1⟩ := hv4
      have hk4 := kn4
      obtain ⟨dx4, kv4, v4, s4, h40, h41, h42, h43⟩ := kn4
      have hl4 : (vs.eraseIdx i).length = vs.length - 1 := List.length_eraseIdx_of_lt (by omega)
      have e14 := e13.trans e4
      refine ⟨y4, dx4, _, rfl, h40, rfl, _, rfl, _, _, _, rfl, y4, _, L, vs.eraseIdx i, S1, R, rfl, hk4, kok4, by omega, hm.mono (Nl.ex e14), wR, rfl, T.tail0, fun v5 H5 e5 hv5 => ?_⟩
      obtain ⟨y5, St, rfl, kn5, kok5, hSt⟩ := hv5
      have e15 := e14.trans e5
      have hlt : (vs.eraseIdx i ++ [R]).length = vs.length := by rw [List.length_append, List.length_singleton, hl4]; omega
      have hgt : (vs.eraseIdx i ++ [R]).getD (vs.length - 1) [] = R := getD_append_r hl4.symm
      have hsub : ((vs.length : Int) - 1) = ((vs.length - 1 : Nat) : Int) := by omega
      have hpl := forgot_places (m := L.length) (R := R) (show i < vs.length by omega) hS1 hSw hSt
      refine w_g ?_
      refine w_sa ?_
      refine ⟨_, rfl, _, rfl, _, _, rfl, rfl, _, rfl, rfl, rfl, _, _, _, rfl, y5, L, vs.eraseIdx i ++ [R], St, vs.length - 1, qs, rfl, kn5, congrArg V.int hsub, by omega, kok5, hqt.mono (Nl.ex e15), fun v6 H6 e6 hv6 => ?_⟩
      rw [hgt] at hv6
      obtain ⟨at7, rfl, ht7⟩ := tI_of hv6
      have e16 := e15.trans e6
      have e36 := e3.trans (e4.trans (e5.trans e6))
      refine w_g ?_
      refine w_si ?_
      unfold tTest tOp
      dsimp only
      refine w_lc ?_
      refine ⟨_, rfl, at7, rfl, ⟨_, ht7⟩, ?_⟩
      have hlen7 : ((trueM R qs (plc St (vs.length - 1))).map fun (n : Nat) => V.int (n : Int)).length ≤ 3 := by
        rw [List.length_map]
        have h1 := filt_len R.length (fun t => (plc St (vs.length - 1)).all fun p => cl (hush qs R) p == cl (hush qs R) t)
        have h2 := wR.le
        exact Nat.le_trans h1 h2
      refine lc_pure (n := ((trueM R qs (plc St (vs.length - 1))).map fun (n : Nat) => V.int (n : Int)).length) (runs_t ht7) (fun _ => false) (fun _ _ _ => True) (by omega) (fun _ _ _ _ _ h => h) ?_ ?_
      · intro k u H8 hk8 e8 hu C kk
        rw [List.getElem?_map, Option.map_eq_some_iff] at hu
        obtain ⟨t2, ht2, rfl⟩ := hu
        have htm2 : t2 ∈ trueM R qs (plc St (vs.length - 1)) := List.mem_of_getElem? ht2
        have hw2 : t2 ∈ trueM ((vs ++ [R]).getD vs.length []) qs (plc Sw vs.length) := by
          rw [hgw]
          exact trueM_less hpl htm2
        refine kk _ _ rfl (Ex.refl _) (fun Q q => ?_) (fun h => by cases h)
        refine ⟨_, rfl, _, rfl, _, rfl, _, rfl, rfl, rfl, _, _, _, _, rfl, y, L, vs ++ [R], Sw, vs.length, t2, qs, rfl, knw.mono (Nl.ex (e36.trans e8)), rfl, rfl, by omega, (mem_trueM.mp hw2).1, kokw, hqt.mono (Nl.ex (e16.trans e8)), fun H9 e9 => ?_⟩
        rw [decide_eq_true hw2]
        exact ⟨_, rfl, q _ e9⟩
      · intro D H8 xs8 hD8 e8 hD8' hall8
        rw [filter_none] at hall8
        have hx8 := allP_nil hall8
        subst hx8
        refine ⟨Nat.zero_le _, fun l9 hl9 => ?_⟩
        have e9 := Evl.Ex.new (o := .lst []) hl9
        refine ⟨_, _, .lst (SqL.of (e9 _ _ hD8')) .nil, .lst (SqL.of upd_same) .nil, nil_shaped, nil_shaped, ?_⟩
        rw [show PyData.eqv (.list []) (.list []) = true by simp [PyData.eqv, PyData.eqvAll]]
        refine ⟨_, rfl, ?_⟩
        rw [if_neg (by decide)]
        have e39 := e36.trans (e8.trans e9)
        have e19 := e16.trans (e8.trans e9)
        refine ⟨_, rfl, _, rfl, _, _, rfl, rfl, _, rfl, rfl, rfl, _, _, _, rfl, y5, L, vs.eraseIdx i ++ [R], St, vs.length - 1, qs, rfl, kn5.mono (Nl.ex (e6.trans (e8.trans e9))), congrArg V.int hsub, by omega, kok5, hqt.mono (Nl.ex e19), fun H10 e10 => ⟨_, rfl, ?_⟩⟩
        rw [hgt]
        by_cases hr0 : trueM R qs (plc St (vs.length - 1)) = []
        · rw [decide_eq_true hr0]
          dsimp only
          rw [if_neg (by decide), if_neg (by decide)]
          exact ⟨e39.trans e10, _, _, _, _, rfl⟩
        · rw [decide_eq_false hr0]
          have hr1 : ¬ trueM ((vs ++ [R]).getD vs.length []) qs (plc Sw vs.length) = [] := by
            rw [hgw]
            exact trueM_ne hpl hr0
          dsimp only
          rw [if_pos (by decide)]
          refine ⟨_, rfl, _, rfl, _, rfl, rfl, rfl, _, _, _, rfl, y, L, vs ++ [R], Sw, vs.length, qs, rfl, knw.mono (Nl.ex (e39.trans e10)), rfl, by omega, kokw, hqt.mono (Nl.ex (e19.trans e10)), fun H11 e11 => ⟨_, rfl, ?_⟩⟩
          rw [decide_eq_false hr1]
          dsimp only
          rw [if_neg (by decide)]
          exact ⟨(e39.trans e10).trans e11, _, _, _, _, rfl⟩
    · rintro σ' H3 ⟨e3, z5, z6, z7, z8, rfl⟩
      exact q _ (e1.trans e3)
end
end AN
end

-- ANw27
section
set_option Elab.async false
set_option linter.all false
set_option maxRecDepth 100000
set_option maxHeartbeats 4000000
namespace AN
open PySem PySem.Spec PyProof.Rows L2 StX
open Evl (Ex)

abbrev N_d_law : List PySem.Str := ["_law_script", "_law_source_here", "_law_lap", "_law_crowd_here", "_law_lore_here", "_law_hush_here", "_law_sign", "_law_wider", "_law_early", "_law_late", "_law_who", "_law_right", "_law_more", "_law_goal", "_law_one", "_law_engine_here", "_law_ready", "_law_n"]
theorem sc_d_law : FnScope N_d_law ["_law_script"] AN.d_law.scope := ⟨rfl, rfl, rfl, by decide +kernel, rfl, by decide +kernel, by decide +kernel⟩
section
variable {w : World} {K : PySem.W.Frag} {mg : PySem.Str → Option Value} {base : Heap} (T : Kit K mg)
include T
theorem ok_law {fd : FuncData} (F : FunD K AN.d_law.name AN.d_law.qual AN.d_law.params AN.d_law.body AN.d_law.scope (AN.d_law.dvs K) (AN.d_law.kws K) (AN.d_law.at_ K) fd) : FnOk Pg w K mg base CX0 10 (AN.d_law.at_ K) fd ["_law_script"] (sp1 (fun v H Q => ∃ (p : Addr) (ns : List Int), v = .ref p ∧ SqL K H p (ns.map V.int) ∧ ns.length ≤ 63 ∧ ∀ H', Q (.bl true) H')) := by
  refine F.ok sc_d_law len1 (fun cdv A outer s H vs Q E hr h => ?_)
  have hu64 : (A.deeper (envOfC AN.d_law.qual AN.d_law.scope s.heap.objs.size (AN.d_law.at_ K) cdv)).units + 65 < cLine := hu_of65 hr
  have hu63 : (A.deeper (envOfC AN.d_law.qual AN.d_law.scope s.heap.objs.size (AN.d_law.at_ K) cdv)).units + 64 < cLine := Nat.lt_of_succ_lt hu64
  have hu1 : (A.deeper (envOfC AN.d_law.qual AN.d_law.scope s.heap.objs.size (AN.d_law.at_ K) cdv)).units + 1 < cLine := hu_of hr
  have nd := sc_d_law.nd
  obtain ⟨v, rfl, p, ns, rfl, hp, hns, q⟩ := h
  refine ⟨_, PSs.nox (pss_cons (ps_set (i := 1) nd rfl (Or.inl rfl) (pe_gf (w_law_source T) (hr.mono (by decide)) (by rfl) T.g_law_source pass0 (pa_cons (pv 0) pa_nil))) (pss_cons (ps_for PassesOwn.never rfl (pi_range1 (by rfl) T.f_range (pa_cons pe_int pa_nil)) (pg_name (i := 2) nd rfl (Or.inl rfl)) (pss_cons (ps_set (i := 3) nd rfl (Or.inl rfl) (pe_gf (w_law_crowd T) (hr.mono (by decide)) (by rfl) T.g_law_crowd pass0 (pa_cons (pv 1) (pa_cons (pe_op op_add pe_int (pe_gf (w_law_draw T) (hr.mono (by decide)) (by rfl) T.g_law_draw pass0 (pa_cons (pv 1) (pa_cons pe_int pa_nil)))) (pa_cons pe_int pa_nil))))) (pss_cons (ps_asg (pe_tup (pa_cons (pe_makeR T.mk_Knowledge (w_Knowledge_init T).1 (hr.mono (by decide)) (by rfl) T.g_Knowledge pass0 (pa_cons (pv 3) (pa_cons (pe_gf (w_law_lore T) (hr.mono (by decide)) (by rfl) T.g_law_lore pass0 (pa_cons (pv 1) (pa_cons (pv 3) pa_nil))) pa_nil))) (pa_cons (pe_gf (w_law_hush T) (hr.mono (by decide)) (by rfl) T.g_law_hush pass0 (pa_cons (pv 1) pa_nil)) pa_nil))) (pg_tup rfl (pgs_cons (pg_name (i := 4) nd rfl (Or.inr rfl)) (pgs_cons (pg_name (i := 5) nd rfl (Or.inr rfl)) pgs_nil)))) (pss_cons (ps_set (i := 6) nd rfl (Or.inl rfl) (pe_ix ix_tup (pe_ix ix_tup (pe_ix ix_tup (pv 3) pe_int (fun _ _ => rfl)) pe_int (fun _ _ => rfl)) (pe_gf (w_law_draw T) (hr.mono (by decide)) (by rfl) T.g_law_draw pass0 (pa_cons (pv 1) (pa_cons (pe_callB call_len_seq (by rfl) T.f_len (by decide +kernel) (pa_cons (pe_ix ix_tup (pe_ix ix_tup (pv 3) pe_int (fun _ _ => rfl)) pe_int (fun _ _ => rfl)) pa_nil)) pa_nil))) (fun _ _ => rfl))) (pss_cons (ps_set (i := 7) nd rfl (Or.inl rfl) (pe_callTy call_tuple_of (by rfl) T.f_tuple (by decide +kernel) (pa_cons (pe_callB (cr_sortedSO rfl) (by rfl) T.f_sorted (by decide +kernel) (pa_cons (pe_callTy (cr_setOfS rfl) (by rfl) T.f_set (by decide +kernel) (pa_cons (pe_op op_catA (pv 5) (pe_tup (pa_cons pe_str pa_nil))) pa_nil)) pa_nil)) pa_nil))) (pss_cons (ps_asg (pe_tup (pa_cons (pe_gf (w_law_signs T) (hr.mono (by decide)) (by rfl) T.g_law_signs pass0 (pa_cons (pv 1) (pa_cons (pv 3) (pa_cons pe_int pa_nil)))) (pa_cons (pe_gf (w_law_signs T) (hr.mono (by decide)) (by rfl) T.g_law_signs pass0 (pa_cons (pv 1) (pa_cons (pv 3) (pa_cons pe_int pa_nil)))) pa_nil))) (pg_tup rfl (pgs_cons (pg_name (i := 8) nd rfl (Or.inr rfl)) (pgs_cons (pg_name (i := 9) nd rfl (Or.inl rfl)) pgs_nil)))) (pss_cons (ps_for PassesOwn.never rfl (pi_range1 (by rfl) T.f_range (pa_cons (pe_callB call_len_seq (by rfl) T.f_len (by decide +kernel) (pa_cons (pv 3) pa_nil)) pa_nil)) (pg_name (i := 10) nd rfl (Or.inl rfl)) (pss_cons (ps_if (pt_not (pt_val (pe_gf (w_law_is_led_right T) (hr.mono (by decide)) (by rfl) T.g_law_is_led_right pass0 (pa_cons (pv 4) (pa_cons (pv 10) (pa_cons (pv 5) (pa_cons (pv 6) pa_nil))))))) (pss_one (ps_ret pe_bl)) pss_nil) (pss_cons (ps_if (pt_not (pt_val (pe_gf (w_law_are_words_right T) (hr.mono (by decide)) (by rfl) T.g_law_are_words_right pass0 (pa_cons (pv 4) (pa_cons (pv 10) (pa_cons (pv 5) (pa_cons (pv 8) (pa_cons (pv 9) pa_nil)))))))) (pss_one (ps_ret pe_bl)) pss_nil) (pss_cons (ps_asg (pe_tup (pa_cons (pe_gk (w_true_states T) (hr.mono (by decide)) (by rfl) T.g_true_states pass0 (pa_cons (pv 4) (pa_cons (pv 10) pa_nil)) (pk_cons (pv 5) pk_nil)) (pa_cons (pe_gk (w_true_states T) (hr.mono (by decide)) (by rfl) T.g_true_states pass0 (pa_cons (pv 4) (pa_cons (pv 10) pa_nil)) (pk_cons (pv 7) pk_nil)) pa_nil))) (pg_tup rfl (pgs_cons (pg_name (i := 11) nd rfl (Or.inl rfl)) (pgs_cons (pg_name (i := 12) nd rfl (Or.inr rfl)) pgs_nil)))) (pss_cons (ps_if (pt_cmpR (op_neD hu63) (pe_lc (own := [("_law_goal", 13)]) rfl nd (pi_tup (pv 11)) (blkOk_by (own := [("_law_goal", 13)]) (N := N_d_law) (sc := AN.d_law.scope) (by decide +kernel)) (fun _ _ _ _ _ => (pg_name (i := 13) nd rfl (Or.inl rfl))) (fun _ _ _ _ _ => (pts_one (pt_cmpR (r := rInTD K true) (op_notInTD hu64) (pv 13) (pv 12) rfl))) (fun _ _ _ _ _ => (pv 13))) (pe_lst pa_nil) (nomark _)) (pss_one (ps_ret pe_bl)) pss_nil) (pss_cons (ps_set (i := 14) nd rfl (Or.inl rfl) (pe_makeR T.mk_Knowledge (w_Knowledge_init T).1 (hr.mono (by decide)) (by rfl) T.g_Knowledge pass0 (pa_cons (pv 3) (pa_cons (pe_tup (pa_cons (pe_callTy call_tuple_of (by rfl) T.f_tuple (by decide +kernel) (pa_cons (pe_lc (own := [("_law_engine_here", 15)]) rfl nd (pi_tup (pv 3)) (blkOk_by (own := [("_law_engine_here", 15)]) (N := N_d_law) (sc := AN.d_law.scope) (by decide +kernel)) (fun _ _ _ _ _ => (pg_name (i := 15) nd rfl (Or.inl rfl))) (fun _ _ _ _ _ => pts_nil) (fun _ _ _ _ _ => (pe_gf (w_led0 T) (hr.mono (by decide)) (by rfl) T.g_led pass0 (pa_cons (pv 15) (pa_cons (pv 8) pa_nil))))) pa_nil)) pa_nil)) pa_nil)))) (pss_one (ps_if (pt_cmpR (op_notInTD hu64) (pe_gf (w_led0 T) (hr.mono (by decide)) (by rfl) T.g_led pass0 (pa_cons (pe_ix ix_tup (pv 3) (pv 10) (fun _ _ => rfl)) (pa_cons (pv 8) pa_nil))) (pe_gk (w_true_states T) (hr.mono (by decide)) (by rfl) T.g_true_states pass0 (pa_cons (pv 14) (pa_cons (pv 10) pa_nil)) (pk_cons (pv 5) pk_nil)) rfl) (pss_one (ps_ret pe_bl)) pss_nil)))))))) (pss_cons (ps_setLc (i := 16) (own := [("_law_n", 17)]) rfl nd rfl rfl (sw_true rfl rfl rfl (by decide +kernel)) (pi_range1 (by rfl) T.f_range (pa_cons (pe_callB call_len_seq (by rfl) T.f_len (by decide +kernel) (pa_cons (pv 3) pa_nil)) pa_nil)) (blkOk_by (own := [("_law_n", 17)]) (N := N_d_law) (sc := AN.d_law.scope) (by decide +kernel)) (fun _ _ _ _ _ => (pg_name (i := 17) nd rfl (Or.inl rfl))) (fun _ _ _ _ _ => (pts_one (pt_val (pe_gk (w_is_ready T) (hr.mono (by decide)) (by rfl) T.g_is_ready pass0 (pa_cons (pv 4) (pa_cons (pv 17) pa_nil)) (pk_cons (pv 5) pk_nil))))) (fun _ _ _ _ _ => (pv 17))) (pss_cons (ps_if (pt_cmpR (op_neD hu63) (pe_gk (w_ready_versions T) (hr.mono (by decide)) (by rfl) T.g_ready_versions pass0 (pa_cons (pv 4) pa_nil) (pk_cons (pv 5) pk_nil)) (pe_callTy call_tuple_of (by rfl) T.f_tuple (by decide +kernel) (pa_cons (pv 16) pa_nil)) (nomark _)) (pss_one (ps_ret pe_bl)) pss_nil) (pss_one (ps_if (pt_not (pt_val (pe_gf (w_law_is_forgotten_right T) (hr.mono (by decide)) (by rfl) T.g_law_is_forgotten_right pass0 (pa_cons (pv 4) (pa_cons (pe_gf (w_law_engine T) (hr.mono (by decide)) (by rfl) T.g_law_engine pass0 (pa_cons (pv 1) (pa_cons (pe_ix ix_tup (pe_ix ix_tup (pv 3) pe_int (fun _ _ => rfl)) pe_int (fun _ _ => rfl)) (pa_cons pe_int pa_nil)))) (pa_cons (pv 5) pa_nil)))))) (pss_one (ps_ret pe_bl)) pss_nil))))))))))) (pss_one (ps_ret pe_bl)))), ?_⟩

  refine ⟨_, rfl, _, rfl, p, ns, rfl, hp, hns, fun a lp H1 e1 hl src1 => ?_⟩
  refine w_g ?_
  dsimp only
  refine ⟨_, rfl, by omega, by omega, ?_⟩
  refine for_range (fun i σ' H' => Src H' a lp (1000 * i) ∧ ∃ z2 z3 z4 z5 z6 z7 z8 z9 z10 z11 z12 z13 z14 z15 z16 z17, σ' = [some (.ref p), some (.ref a), z2, z3, z4, z5, z6, z7, z8, z9, z10, z11, z12, z13, z14, z15, z16, z17]) ⟨src1, _, _, _, _, _, _, _, _, _, _, _, _, _, _, _, _, rfl⟩ ?_ ?_
  · rintro i σ' H3 hi ⟨src3, z2, z3, z4, z5, z6, z7, z8, z9, z10, z11, z12, z13, z14, z15, z16, z17, rfl⟩
    have hi : i < 5 := by omega
    refine w_g ?_
    dsimp only
    refine w_sa ?_
    refine ⟨_, rfl, _, rfl, _, _, rfl, a, lp, _, 2, rfl, src3, by omega, rfl, by decide, by decide, fun d H4 hd sx4 src4 => ?_⟩
    refine ⟨_, _, rfl, rfl, _, _, _, rfl, a, lp, _, 1 + d, rfl, src4, by omega, congrArg V.int (show (1 : Int) + (d : Int) = ((1 + d : Nat) : Int) by omega), by omega, by omega, rfl, fun cv H5 L vs sx5 src5 vt ok hvl hwo => ?_⟩
    have hL3 := ok.le
    have hL1 := ok.lp
    obtain ⟨ac, xsc, rfl, hac, hxl, hg⟩ := vt.get
    obtain ⟨m0, hx0, hmt0⟩ := hg 0 ok.vp
    obtain ⟨am, al, r, rfl, ham, hnd, hr0⟩ := hmt0
    have hv2 : vs.length ≤ 2 := by omega
    have hvp := ok.vp
    refine w_g ?_
    refine ⟨_, rfl, _, rfl, _, rfl, _, _, rfl, a, lp, _, L, vs, rfl, src5, by omega, vt, ok, fun sv H6 S0 sx6 src6 hS0 hne0 hre0 h60 => ?_⟩
    refine make_kn (vt.mono sx6.2) ok hS0 hne0 hre0 h60 (fun y H7 S hy e7 kn kok hSS => ?_)
    refine ⟨_, rfl, _, rfl, a, lp, _, rfl, src6.ex e7, by omega, fun hv H8 qs hqs hqt sx8 src8 => ?_⟩
    refine ⟨sz2, fun p9 hp9 => ?_⟩
    have e9 := Evl.Ex.new (o := .tup [V.ref y, hv]) hp9
    refine ⟨p9, _, rfl, .inl (.inl upd_same), rfl, _, _, rfl, _, _, rfl, rfl, ?_⟩
    have sx59 := ((sx6.trans (Sx.ex e7)).trans sx8).trans (Sx.ex e9)
    have src9 := src8.ex e9
    have kn9 := kn.mono (sx8.trans (Sx.ex e9)).2
    have hq9 := hqt.mono (Nl.ex e9)
    obtain ⟨ah, rfl, hah⟩ := tS_of hq9
    refine ⟨_, rfl, _, _, _, _, rfl, rfl, nl_t sx59.2 hac, atI_nat (j := 0) hx0, _, _, _, _, rfl, rfl, nl_t sx59.2 ham, atI_nat (j := 0) rfl, ?_⟩
    have hnd9 := hnd.mono sx59.2
    refine ⟨_, rfl, _, rfl, _, _, _, _, rfl, rfl, nl_t sx59.2 hac, atI_nat (j := 0) hx0, _, _, _, _, rfl, rfl, nl_t sx59.2 ham, atI_nat (j := 0) rfl, al, _, rfl, .inr hnd9.sq, _, _, rfl, a, lp, _, L.length, rfl, src9, by omega, congrArg V.int (by rw [List.length_map]), by omega, by omega, fun dj H10 hdj sx10 src10 => ?_⟩
    have sx510 := sx59.trans sx10
    refine ⟨al, _, _, _, rfl, rfl, (hnd.mono sx510.2).sq, atI_nat (map_get (f := V.str) hdj PySem.Str.empty), ?_⟩
    have hjc := getD_of hdj PySem.Str.empty
    generalize L.getD dj PySem.Str.empty = c at hjc
    refine w_g ?_
    (try dsimp only)
    refine w_sa ?_
    have hah10 := nl_t sx10.2 hah
    have hql : qs.length ≤ 2 := by
      simp only [hushes, List.mem_cons, List.not_mem_nil, or_false] at hqs
      rcases hqs with rfl | rfl | rfl | rfl | rfl | rfl <;> decide
    refine ⟨_, rfl, sz1, fun p11 hp11 => ?_⟩
    have e11 := Evl.Ex.new (o := .tup [V.str "yes"]) hp11
    refine cat_any (nl_t (Nl.ex e11) hah10) (.inl (.inl upd_same)) (by rw [List.length_map, List.length_singleton]; omega) fun p12 H12 e12 hs12 => ?_
    have hs12 : SqT K H12 p12 ((qs ++ [("yes" : PySem.Str)]).map V.str) := by
      rw [List.map_append]
      exact hs12
    refine ⟨p12, qs ++ [("yes" : PySem.Str)], rfl, hs12, by rw [List.length_append, List.length_singleton]; omega, fun p13 hp13 => ?_⟩
    have e13 := Evl.Ex.new (o := SetSO Pg w p13 (qs ++ [("yes" : PySem.Str)])) hp13
    refine ⟨p13, _, rfl, upd_same, by rw [List.length_append, List.length_singleton]; omega, fun ys p14 hys hyl hp14 => ?_⟩
    have e14 := Evl.Ex.new (o := .lst (ys.map V.str)) hp14
    refine ⟨p14, _, rfl, .inl ⟨SqL.of upd_same, fun p15 hp15 => ?_⟩⟩
    have e15 := Evl.Ex.new (o := .tup (ys.map V.str)) hp15
    have e1115 := (e11.trans (e12.trans e13)).trans (e14.trans e15)
    have sx515 := sx510.trans (Sx.ex e1115)
    have src15 := src10.ex e1115
    refine w_g ?_
    (try dsimp only)
    refine ⟨_, rfl, _, rfl, _, _, _, rfl, a, lp, _, 4, L, vs, rfl, src15, by omega, vt.mono sx515.2, ok, rfl, by decide, fun va H16 ja sx16 src16 hja hjaL hjal => ?_⟩
    refine ⟨_, rfl, _, rfl, _, _, _, rfl, a, lp, _, 4, L, vs, rfl, src16, by omega, vt.mono (sx515.trans sx16).2, ok, rfl, by decide, fun vb H17 jb sx17 src17 hjb hjbL hjbl => ?_⟩
    refine ⟨sz2, fun p18 hp18 => ?_⟩
    have e18 := Evl.Ex.new (o := .tup [va, vb]) hp18
    refine ⟨p18, _, rfl, .inl (.inl upd_same), rfl, _, _, rfl, _, _, rfl, rfl, ?_⟩
    have sx518 := ((sx515.trans sx16).trans sx17).trans (Sx.ex e18)
    have sx918 : Sx a (upd H8 p9 (.tup [V.ref y, V.ref ah])) _ := (((sx10.trans (Sx.ex e1115)).trans sx16).trans sx17).trans (Sx.ex e18)
    have sx1518 : Sx a _ _ := (sx16.trans sx17).trans (Sx.ex e18)
    have src18 := src17.ex e18
    have vt18 := vt.mono sx518.2
    have hac18 := nl_t sx518.2 hac
    have ham18 := nl_t sx518.2 ham
    have hnd18 := hnd.mono sx518.2
    have hg18 : ∀ i, i < vs.length → ∃ m, xsc[i]? = some m ∧ Mt K (upd H17 p18 (.tup [va, vb])) m L (vs.getD i []) := fun i hi => by
      obtain ⟨m, h1, h2⟩ := hg i hi
      exact ⟨m, h1, h2.mono sx518.2⟩
    have kn18 := kn9.mono sx918.2
    have hq18 := hq9.mono sx918.2
    have hy18 : Tp K (upd H17 p18 (.tup [va, vb])) (.ref p15) (tS ys) := of_tS (nl_t sx1518.2 (.inl (.inl upd_same)))
    have hja18 := hja.mono (sx17.trans (Sx.ex e18)).2
    have hjb18 := hjb.mono (Nl.ex e18)
    generalize upd H17 p18 (.tup [va, vb]) = H18 at src18 vt18 hac18 ham18 hnd18 hg18 kn18 hq18 hy18 hja18 hjb18
    refine ⟨_, rfl, ac, _, rfl, .inr hac18, _, rfl, by omega, by omega, ?_⟩
    refine for_range (fun k σ' H' => Ex H18 H' ∧ ∃ z10 z11 z12 z13 z14 z15 z16 z17, σ' = [some (.ref p), some (.ref a), some (.int (0 + (i : Int))), some (.ref ac), some (.ref y), some (.ref ah), some (.str c), some (.ref p15), some va, some vb, z10, z11, z12, z13, z14, z15, z16, z17]) ⟨Ex.refl _, _, _, _, _, _, _, _, _, rfl⟩ ?_ ?_
    · rintro k σ' H19 hk ⟨e19, z10, z11, z12, z13, z14, z15, z16, z17, rfl⟩
      have hk : k < vs.length := by omega
      rw [show (0 : Int) + (k : Int) = (k : Int) from Int.zero_add _]
      refine w_g ?_
      (try dsimp only)
      have wf := ok.mem hk
      refine w_si ?_
      refine ⟨_, rfl, _, rfl, _, rfl, _, rfl, _, _, _, _, rfl, y, L, vs, S, k, dj, qs, c, rfl, kn18.mono (Nl.ex e19), kok, rfl, hk, hq18.mono (Nl.ex e19), rfl, hjc, fun H20 e20 => ⟨_, rfl, ?_⟩⟩
      dsimp only
      rw [if_neg (by decide)]
      (try unfold tNext)
      (try dsimp only)
      have e1820 := e19.trans e20
      refine w_si ?_
      refine ⟨_, rfl, _, rfl, _, rfl, _, rfl, _, rfl, _, _, _, _, _, rfl, y, L, vs, S, k, qs, ja, jb, rfl, kn18.mono (Nl.ex e1820), kok, rfl, hk, hq18.mono (Nl.ex e1820), hwo _ (getD_mem hk), hja18.mono (Nl.ex e1820), hjaL, by omega, hjb18.mono (Nl.ex e1820), hjbL, by omega, fun H21 e21 => ⟨_, rfl, ?_⟩⟩
      dsimp only
      rw [if_neg (by decide)]
      (try unfold tNext)
      (try dsimp only)
      have e1821 := e1820.trans e21
      refine ⟨_, rfl, _, rfl, _, rfl, rfl, rfl, _, _, _, rfl, y, L, vs, S, k, qs, rfl, kn18.mono (Nl.ex e1821), rfl, hk, kok, hq18.mono (Nl.ex e1821), fun rv H22 e22 hrv => ?_⟩
      have e1822 := e1821.trans e22
      refine ⟨_, rfl, _, rfl, _, rfl, rfl, rfl, _, _, _, rfl, y, L, vs, S, k, ys, rfl, kn18.mono (Nl.ex e1822), rfl, hk, kok, hy18.mono (Nl.ex e1822), fun mv H23 e23 hmv => ?_⟩
      refine ⟨sz2, fun p24 hp24 => ?_⟩
      have e24 := Evl.Ex.new (o := .tup [rv, mv]) hp24
      refine ⟨p24, _, rfl, .inl (.inl upd_same), rfl, _, _, rfl, _, _, rfl, rfl, ?_⟩
      have e1824 := (e1822.trans e23).trans e24
      have hrv24 := hrv.mono (Nl.ex (e23.trans e24))
      have hmv24 := hmv.mono (Nl.ex e24)
      generalize upd H23 p24 (.tup [rv, mv]) = H24 at e1824 hrv24 hmv24
      obtain ⟨at11, rfl, ht11⟩ := tI_of hrv24
      (try dsimp only)
      refine w_si ?_
      unfold tTest tOp
      dsimp only
      refine w_lc ?_
      refine ⟨_, rfl, at11, rfl, ⟨_, ht11⟩, ?_⟩
      have hlen11 : ((trueM (vs.getD k []) qs (plc S k)).map fun (n : Nat) => V.int (n : Int)).length ≤ 3 := by
        rw [List.length_map]
        have h1 := filt_len (vs.getD k []).length (fun t => (plc S k).all fun p => cl (hush qs (vs.getD k [])) p == cl (hush qs (vs.getD k [])) t)
        have h2 := wf.le
        exact Nat.le_trans h1 h2
      refine lc_pure (n := ((trueM (vs.getD k []) qs (plc S k)).map fun (n : Nat) => V.int (n : Int)).length) (runs_t ht11) (fun _ => false) (fun _ _ _ => True) (by omega) (fun _ _ _ _ _ h => h) ?_ ?_
      · intro k2 u H25 hk25 e25 hu C kk
        rw [List.getElem?_map, Option.map_eq_some_iff] at hu
        obtain ⟨t2, ht2, rfl⟩ := hu
        have htm2 : t2 ∈ trueM (vs.getD k []) qs (plc S k) := List.mem_of_getElem? ht2
        refine kk _ _ rfl (Ex.refl _) (fun Q q => ?_) (fun h => by cases h)
        refine ⟨_, rfl, _, rfl, _, _, .int _, (hmv24.mono (Nl.ex e25)).dp, int_shaped _, tI_shaped _, ?_⟩
        rw [if_pos rfl, any_int, decide_eq_true (trueM_wider wf (fun x hx => (hys x).mpr (List.mem_append_left _ hx)) (plc_lt kok.st hk) htm2 : t2 ∈ trueM (vs.getD k []) ys (plc S k))]
        exact ⟨_, rfl, q _ (Ex.refl _)⟩
      · intro D H25 xs25 hD25 e25 hD25' hall25
        rw [filter_none] at hall25
        have hx25 := allP_nil hall25
        subst hx25
        refine ⟨Nat.zero_le _, fun l26 hl26 => ?_⟩
        have e26 := Evl.Ex.new (o := .lst []) hl26
        refine ⟨_, _, .lst (SqL.of (e26 _ _ hD25')) .nil, .lst (SqL.of upd_same) .nil, nil_shaped, nil_shaped, ?_⟩
        rw [show PyData.eqv (.list []) (.list []) = true by simp [PyData.eqv, PyData.eqvAll]]
        refine ⟨_, rfl, ?_⟩
        rw [if_neg (by decide)]
        (try unfold tNext)
        (try dsimp only)
        have e1826 := e1824.trans (e25.trans e26)
        obtain ⟨emk, hemk, hmtk⟩ := hg18 k hk
        refine w_sa ?_
        refine ⟨_, rfl, ?_⟩
        (try dsimp only)
        (repeat (first | refine w_lc ?_ | unfold tCons | unfold tTup | unfold tCB))
        refine ⟨_, rfl, ac, rfl, ⟨_, nl_t (Nl.ex e1826) hac18⟩, ?_⟩
        refine lc_pure (n := xsc.length) (runs_t (nl_t (Nl.ex e1826) hac18)) (fun _ => true) (fun m v _ => v = V.int ((ledM (vs.getD m []) 0 ja : Nat) : Int)) (by omega) (fun _ _ _ _ _ h => h) ?_ ?_
        · intro m u H27 hm27 e27 hu C kk
          obtain ⟨em, hem, hmt⟩ := hg18 m (by omega)
          rw [hem] at hu
          cases hu
          refine kk _ _ rfl (Ex.refl _) (fun Q q => q _ (Ex.refl _)) (fun _ H28 e28 Q q => ?_)
          have e1828 := (e1826.trans e27).trans e28
          have wfm := ok.mem (show m < vs.length by omega)
          exact ⟨_, rfl, _, rfl, _, _, _, rfl, L, vs.getD m [], 0, ja, hmt.tp.mono (Nl.ex e1828), hja18.mono (Nl.ex e1828), rfl, ok.nd, by omega, wfm, wfm.ne, hjaL, by omega, fun H29 e29 => q _ _ e29 rfl⟩
        · intro D27 H27 xs27 hD27 e27 hD27' hall27
          rw [filter_true, hxl] at hall27
          have hx27 : xs27 = (vs.map fun R => ledM R 0 ja).map fun (n : Nat) => V.int (n : Int) := by
            rw [allP_eq hall27, List.map_map]
            exact range_map_get vs (fun R => V.int ((ledM R 0 ja : Nat) : Int)) []
          subst hx27
          refine ⟨D27, _, rfl, .inl ⟨SqL.of hD27', fun p28 hp28 => ?_⟩⟩
          have e28 := Evl.Ex.new (o := .tup ((vs.map fun R => ledM R 0 ja).map fun (n : Nat) => V.int (n : Int))) hp28
          refine ⟨sz1, fun p29 hp29 => ?_⟩
          have e29 := Evl.Ex.new (o := .tup [V.ref p28]) hp29
          have e1829 := (e1826.trans e27).trans (e28.trans e29)
          have t29 : Tp K (upd (upd H27 p28 (.tup ((vs.map fun R => ledM R 0 ja).map fun (n : Nat) => V.int (n : Int)))) p29 (.tup [V.ref p28])) (.ref p29) (stsD [vs.map fun R => ledM R 0 ja]) := .tup (.inl (.inl upd_same)) (.cons (of_tI (nl_t (Nl.ex e29) (.inl (.inl upd_same)))) .nil)
          refine make_kn (vt18.mono (Nl.ex e1829)) ok t29 (by simp) (fun s hs => by rw [List.mem_singleton.mp hs]; exact ⟨ja, hjaL, past_all⟩) (by simp) (fun y30 H30 S30 hy30 e30 kn30 kok30 hS30 => ?_)
          have e1830 := e1829.trans e30
          refine w_g ?_
          (try dsimp only)
          unfold tIfS
          (try dsimp only)
          refine ⟨_, rfl, _, rfl, _, _, _, _, rfl, rfl, nl_t (Nl.ex e1830) hac18, atI_nat hemk, _, rfl, _, _, _, rfl, L, vs.getD k [], 0, ja, hmtk.tp.mono (Nl.ex e1830), hja18.mono (Nl.ex e1830), rfl, ok.nd, by omega, wf, wf.ne, hjaL, by omega, fun H31 e31 => ?_⟩
          have e1831 := e1830.trans e31
          refine ⟨_, rfl, _, rfl, _, rfl, rfl, rfl, _, _, _, rfl, y30, L, vs, S30, k, qs, rfl, kn30.mono (Nl.ex e31), rfl, hk, kok30, hq18.mono (Nl.ex e1831), fun tv H32 e32 htv => ?_⟩
          have hone : ledM (vs.getD k []) 0 ja ∈ trueM (vs.getD k []) qs (plc S30 k) := by
            rw [trueM_congr (Q := plc [vs.map fun R => ledM R 0 ja] k) fun p => by
              rw [List.mem_map, List.mem_map]
              exact ⟨fun ⟨s, h, e⟩ => ⟨s, (hS30 s).mp h, e⟩, fun ⟨s, h, e⟩ => ⟨s, (hS30 s).mpr h, e⟩⟩]
            exact past_one wf hk hjaL
          refine ⟨_, _, .int _, htv.dp, int_shaped _, tI_shaped _, ?_⟩
          rw [if_pos rfl, any_int, decide_eq_true hone]
          refine ⟨_, rfl, ?_⟩
          (try dsimp only)
          rw [if_neg (by decide)]
          (try unfold tNext)
          (try dsimp only)
          exact ⟨e1831.trans e32, _, _, _, _, _, _, _, _, rfl⟩
    · rintro σ' H19 ⟨e19, z10, z11, z12, z13, z14, z15, z16, z17, rfl⟩
      have kn19 := kn18.mono (Nl.ex e19)
      have hac19 := nl_t (Nl.ex e19) hac18
      have hq19 := hq18.mono (Nl.ex e19)
      dsimp only
      refine w_sa ?_
      refine w_lc ?_
      refine ⟨_, rfl, ac, _, rfl, .inr hac19, _, rfl, by omega, by omega, ?_⟩
      refine lc_pure (n := xsc.length) (runs_r xsc.length) (fun k => !decide (trueM (vs.getD k []) qs (plc S k) = [])) (fun k v _ => v = V.int (k : Int)) (by omega) (fun _ _ _ _ _ h => h) ?_ ?_
      · intro k u H20 hk20 e20 hu C kk
        have hu : u = .int (k : Int) := hu
        subst hu
        refine kk _ _ rfl (Ex.refl _) (fun Q q => ?_) (fun hf H21 e21 Q q => ⟨_, rfl, q _ _ (Ex.refl _) rfl⟩)
        refine ⟨_, rfl, _, rfl, _, rfl, rfl, rfl, _, _, _, rfl, y, L, vs, S, k, qs, rfl, kn19.mono (Nl.ex e20), rfl, by omega, kok, hq19.mono (Nl.ex e20), fun H22 e22 => ⟨_, rfl, q _ e22⟩⟩
      · intro D H20 xs20 hD20 e20 hD20' hall20
        rw [hxl] at hall20
        have hx20 := allP_eq hall20
        subst hx20
        refine w_g ?_
        (try dsimp only)
        refine w_si ?_
        refine ⟨_, rfl, _, rfl, rfl, rfl, _, _, rfl, y, L, vs, S, qs, rfl, kn19.mono (Nl.ex e20), kok, hq19.mono (Nl.ex e20), fun rv H21 e21 hrv => ?_⟩
        refine ⟨_, rfl, D, _, rfl, .inl ⟨SqL.of (e21 _ _ hD20'), fun p22 hp22 => ?_⟩⟩
        have e22 := Evl.Ex.new (o := .tup (((List.range vs.length).filter fun k => !decide (trueM (vs.getD k []) qs (plc S k) = [])).map fun (i : Nat) => V.int (i : Int))) hp22
        refine ⟨_, _, (hrv.mono (Nl.ex e22)).dp, (of_tI (.inl (.inl upd_same))).dp, tI_shaped _, tI_shaped _, ?_⟩
        rw [eqv_tI, decide_eq_true rfl]
        refine ⟨_, rfl, ?_⟩
        (try dsimp only)
        rw [if_neg (by decide)]
        (try unfold tNext)
        (try dsimp only)
        have e1922 := e20.trans (e21.trans e22)
        have e1822 := e19.trans e1922
        unfold tIfS
        (try dsimp only)
        refine ⟨_, rfl, _, rfl, _, rfl, _, _, _, _, rfl, rfl, nl_t (Nl.ex e1822) hac18, atI_nat (j := 0) hx0, _, _, _, _, rfl, rfl, nl_t (Nl.ex e1822) ham18, atI_nat (j := 0) rfl, _, _, _, rfl, a, lp, al, _, 3, L, rfl, src18.ex e1822, by omega, rfl, hnd18.mono (Nl.ex e1822), hL3, rfl, by decide, by decide, fun ev H23 R sx23 src23 mt wR woR => ?_⟩
        refine ⟨_, rfl, _, _, _, rfl, y, L, vs, S, R, qs, rfl, kn18.mono ((Nl.ex e1822).trans sx23.2), kok, hv2, mt, wR, hq18.mono ((Nl.ex e1822).trans sx23.2), fun H24 e24 => ⟨_, rfl, ?_⟩⟩
        (try dsimp only)
        rw [if_neg (by decide)]
        (try unfold tNext)
        (try dsimp only)
        exact ⟨(src23.ex e24).up (by omega), _, _, _, _, _, _, _, _, _, _, _, _, _, _, _, _, rfl⟩
  · rintro σ' H3 ⟨src3, z2, z3, z4, z5, z6, z7, z8, z9, z10, z11, z12, z13, z14, z15, z16, z17, rfl⟩
    exact q _
end
end AN
end

-- ANjoin
set_option Elab.async false
set_option linter.all false
set_option maxRecDepth 100000
set_option maxHeartbeats 0
namespace AN
open PySem PySem.Spec PyProof.Rows L2
theorem kit_of {K : PySem.W.Frag} {h : Heap} {mg : PySem.Str → Option Value} (X : K.In h) (G : h.Ns mainGlobals mg) (c : SaysA fa fn exB K) : Kit K mg where
  c := c
  g := fun x hx => He.glo_ok X G (c.fact hx)
  f := fun x hx => He.free_ok X G (c.fact hx)
  s := He.str_ok X G (c.fact (f := .str "SILENT" "") (by simp [fa, fa1, fa2, fa3]))
theorem facts {w : World} {K : PySem.W.Frag} {h : Heap} {mg : PySem.Str → Option Value} {f : Addr} (X : K.In h) (G : h.Ns mainGlobals mg) (hfa : mg ("law" : PySem.Str) = some (.ref f)) (c : SaysA fa fn exB K) :
    ∃ fd : FuncData, (∀ (s : Shared) (v : Value), BindsTo s fd ⟨[v], []⟩ [("_law_script", v)]) ∧ ∀ base : Heap, K.In base → base.Ns mainGlobals mg → FnOk Pg w K mg base CX0 10 f fd ["_law_script"] (sp1 (fun v H Q => ∃ (p : Addr) (ns : List Int), v = .ref p ∧ SqL K H p (ns.map V.int) ∧ ns.length ≤ 63 ∧ ∀ H', Q (.bl true) H')) := by
  have T0 : Kit K mg := kit_of X G c
  have e := hfa.symm.trans T0.g_law
  cases e
  obtain ⟨fd, F⟩ := T0.d_law
  have b := FunD.bindsA (ps := ["_law_script"]) F fun _ _ _ _ _ _ us hl => match us, hl with | [_], _ => rfl
  exact ⟨fd, fun s v => b s [v] rfl, fun base _ _ => ok_law T0 F⟩
end AN
open PySem PySem.W PySem.Calls PyProof.Rows
theorem PySem.Challenge.cw_alwaysnew_k39_whole_readiness_holds : PySem.Challenge.rw_alwaysnew_k39_whole_readiness.Holds := by
  w_on; o_law
  refine HandSHeadRun.head_any (r := OpenLaw.row PySem.Challenge.rw_alwaysnew_k39_whole_readiness) (q := view (OpenLaw.row PySem.Challenge.rw_alwaysnew_k39_whole_readiness).prog [59]) (H := AN.hk) (ob := AN.ob) (M := 40000) (loose := AN.names1 ++ AN.names2) (d := HandSHeadRun.topDef (OpenLaw.row PySem.Challenge.rw_alwaysnew_k39_whole_readiness).prog 59) (kwd := []) AN.ob_eq
    (by kernel_rfl) (fun s => by kernel_rfl) AN.run_eq (by kernel_rfl) (by kernel_rfl) (by kernel_rfl) (by rfl) (by first | assumption | decide +kernel) (by decide +kernel) ⟨rfl, rfl, rfl, rfl, rfl, by decide +kernel⟩ ?hw ?hc
  case hw => w_witness2
  case hc =>
    refine L2.walk_ofE (l := PySem.Challenge.rw_alwaysnew_k39_whole_readiness) (n := 63) (k := 10) (x := "_law_script") (CX := L2.CX0) rfl (by decide) (by kernel_rfl) ⟨rfl, by decide, by decide⟩ ?F (fun _ _ _ _ z => z)
    intro w mg fa h Y G hmg0
    obtain ⟨K, KX, c⟩ := Y
    have hmg : mg ("law" : PySem.Str) = some (.ref fa) := by
      have e : (HandSHeadRun.topDef (OpenLaw.row PySem.Challenge.rw_alwaysnew_k39_whole_readiness).prog 59).name = ("law" : PySem.Str) := by kernel_rfl
      rw [← e]
      exact hmg0
    obtain ⟨fd, hb, hF⟩ := AN.facts (w := w) KX G hmg c
    exact ⟨K, fd, _, KX, hb, fun H a ns hl _ hS => ⟨_, rfl, a, ns, rfl, hS, hl, fun _ => rfl⟩, hF⟩
