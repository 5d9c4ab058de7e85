import PyProof.Rows.All
import Wide.All
import OpenK.AllK
import Wide.FinOn
import Open.SpecLaws
import KE.OsGo
import HandS.ForSpec
import HandS.ForMost
import PyFlatLaws
import PySem.Challenge.RW_mouldpress_s01_answers
set_option Elab.async false
set_option maxRecDepth 100000
set_option maxHeartbeats 4000000
namespace My
open Sr117 SrCommon
/-! ## plain facts -/
theorem take_more {A : Type} : ∀ {l : List A} {i : Nat} {x : A}, l[i]? = some x → l.take (i + 1) = l.take i ++ [x]
  | [], i, x, h => by simp at h
  | a :: l, 0, x, h => by
    have e : a = x := Option.some.inj h
    subst e
    rfl
  | a :: l, i + 1, x, h => by
    have ih := take_more (l := l) (i := i) (x := x) (by simpa using h)
    show a :: l.take (i + 1) = a :: l.take i ++ [x]
    rw [ih]
    rfl
theorem getD_of {A : Type} {l : List A} {i : Nat} {x d : A} (h : l[i]? = some x) : l.getD i d = x := by
  rw [List.getD_eq_getElem?_getD, h]; rfl
theorem lt_of {A : Type} {l : List A} {i : Nat} {x : A} (h : l[i]? = some x) : i < l.length := (List.getElem?_eq_some_iff.mp h).1
theorem get_of {A : Type} {l : List A} {i : Nat} (h : i < l.length) : ∃ x, l[i]? = some x := ⟨l[i], by simp [h]⟩
theorem get_map {A B : Type} {f : A → B} {l : List A} {i : Nat} {y : B} (h : (l.map f)[i]? = some y) : ∃ x, l[i]? = some x ∧ y = f x := by
  rw [List.getElem?_map] at h
  cases e : l[i]? with
  | none => rw [e] at h; cases h
  | some x => rw [e] at h; exact ⟨x, rfl, (Option.some.inj h).symm⟩
/-- a test of all numbers below n, in turns -/
theorem all_more {p : Nat → Bool} {i : Nat} (h : (List.range i).all p = true) (q : p i = true) : (List.range (i + 1)).all p = true := by
  rw [List.range_succ, List.all_append, h]
  simp [q]
theorem all_fails {p : Nat → Bool} {i n : Nat} (h : i < n) (q : p i = false) : (List.range n).all p = false := by
  cases e : (List.range n).all p with
  | false => rfl
  | true =>
    have := (List.all_eq_true.mp e) i (List.mem_range.mpr h)
    rw [q] at this; cases this
theorem filter_more {p : Nat → Bool} (i : Nat) : (List.range (i + 1)).filter p = (List.range i).filter p ++ (if p i = true then [i] else []) := by
  rw [List.range_succ, List.filter_append]
  congr 1
  cases e : p i <;> simp [e]
abbrev nI (l : List Nat) : List Int := natsToInts l
theorem nI_app (a b : List Nat) : nI (a ++ b) = nI a ++ nI b := by simp [natsToInts]
theorem nI_len (a : List Nat) : (nI a).length = a.length := by simp [natsToInts]
theorem nI_in {l : List Nat} {n : Nat} : ((n : Int) ∈ nI l) ↔ n ∈ l := by
  unfold nI natsToInts
  rw [List.mem_map]
  constructor
  · rintro ⟨a, h, e⟩
    have : a = n := by exact Int.ofNat_inj.mp e
    subst this; exact h
  · intro h; exact ⟨n, h, rfl⟩
theorem toNat_nI (l : List Nat) : intsToNats (nI l) = l := by
  unfold intsToNats nI natsToInts
  rw [List.map_map]
  have : (fun x : Int => x.toNat) ∘ (fun x : Nat => (x : Int)) = id := by funext x; simp
  rw [this, List.map_id]
theorem range_len {p : Nat → Bool} (n : Nat) : ((List.range n).filter p).length ≤ n := by
  have := List.length_filter_le p (List.range n)
  simpa using this
/-! ## ratings -/
def z0 : Rating := ⟨0, 0⟩
def fit (m k : Rating) : Bool := decide (m.clampForce ≤ k.clampForce) && decide (m.platenSize ≤ k.platenSize)
theorem fits_eq {ks ms : List Rating} {i j : Nat} {m k : Rating} (hi : ms[i]? = some m) (hj : ks[j]? = some k) : Sr117.fits ⟨ks, ms⟩ i j = fit m k := by
  have h1 := lt_of hi
  have h2 := lt_of hj
  have e1 : Sr117.mouldAt ⟨ks, ms⟩ i = m := getD_of hi
  have e2 : Sr117.machineAt ⟨ks, ms⟩ j = k := getD_of hj
  unfold Sr117.fits fit
  rw [e1, e2]
  simp [h1, h2]
theorem fits_out {ks ms : List Rating} {i j : Nat} (h : ms.length ≤ i) : Sr117.fits ⟨ks, ms⟩ i j = false := by
  unfold Sr117.fits
  have : ¬ i < ms.length := by omega
  simp [this]
/-! ## is_rating, is_index -/
def okR (x : Int) : Bool := decide (1 ≤ x) && decide (x ≤ 999)
theorem okR_eq (x : Int) : Sr117.isRating x = okR x := rfl
def okI (x : Int) (n : Nat) : Bool := decide (0 ≤ x) && decide (x < n)
theorem okI_eq (x : Int) (n : Nat) : isIndex x n = okI x n := rfl
theorem okI_iff {x : Int} {n : Nat} : okI x n = true ↔ 0 ≤ x ∧ x < n := by simp [okI]
theorem okI_get {A : Type} {x : Int} {l : List A} (h : okI x l.length = true) : ∃ (j : Nat) (a : A), x = (j : Int) ∧ l[j]? = some a := by
  obtain ⟨h1, h2⟩ := okI_iff.mp h
  obtain ⟨a, e⟩ := get_of (l := l) (i := x.toNat) (by omega)
  exact ⟨x.toNat, a, by omega, e⟩
/-! ## are_indices -/
def ixOne (ns : List Int) (n : Nat) (i : Nat) : Bool := okI (ns.getD i 0) n && !(ns.take i).contains (ns.getD i 0)
def ixAll (ns : List Int) (n : Nat) : Bool := (List.range ns.length).all (ixOne ns n)
theorem nodup_take : ∀ (l : List Int), l.Nodup ↔ ∀ i x, l[i]? = some x → x ∉ l.take i := by
  intro l
  constructor
  · intro h i x hx hm
    obtain ⟨j, hj⟩ := List.mem_iff_getElem?.mp hm
    rw [List.getElem?_take] at hj
    split at hj
    · rename_i hlt
      have a1 := lt_of hj
      have a2 := lt_of hx
      have e1 := (List.getElem?_eq_some_iff.mp hj).2
      have e2 := (List.getElem?_eq_some_iff.mp hx).2
      have := (List.getElem_inj (i := j) (j := i) (h₀ := a1) (h₁ := a2) h).mp (e1.trans e2.symm)
      omega
    · cases hj
  · intro h
    rw [List.Nodup, List.pairwise_iff_getElem]
    intro i j hi hj hij e
    refine h j l[j] (by simp [hj]) ?_
    rw [← e]
    refine List.mem_iff_getElem?.mpr ⟨i, ?_⟩
    rw [List.getElem?_take, if_pos hij]
    simp [hi]
theorem ixAll_eq (ns : List Int) (n : Nat) : ixAll ns n = (ns.all (fun x => isIndex x n) && decide ns.Nodup) := by
  rw [Bool.eq_iff_iff]
  simp only [ixAll, ixOne, List.all_eq_true, Bool.and_eq_true, decide_eq_true_eq, List.mem_range, Bool.not_eq_true', List.contains_eq_mem, decide_eq_false_iff_not]
  constructor
  · intro h
    refine ⟨fun x hx => ?_, (nodup_take ns).mpr fun i x e => ?_⟩
    · obtain ⟨i, hi⟩ := List.mem_iff_getElem?.mp hx
      have := (h i (lt_of hi)).1
      rw [getD_of hi] at this
      exact this
    · have := (h i (lt_of e)).2
      rw [getD_of e] at this
      exact this
  · rintro ⟨h1, h2⟩ i hi
    obtain ⟨x, e⟩ := get_of hi
    rw [getD_of e]
    exact ⟨h1 x (List.mem_iff_getElem?.mpr ⟨i, e⟩), (nodup_take ns).mp h2 i x e⟩
theorem ixAll_mem {ns : List Int} {n : Nat} (h : ixAll ns n = true) : ∀ x ∈ ns, 0 ≤ x ∧ x < n := by
  rw [ixAll_eq] at h
  simp only [Bool.and_eq_true, List.all_eq_true] at h
  intro x hx
  exact okI_iff.mp (h.1 x hx)
/-! ## neighbours_of -/
def nbP (ks ms : List Rating) (some : List Int) (j : Nat) : Bool := (some.filter fun n => fit (ms.getD n.toNat z0) (ks.getD j z0)) != []
def nbs (ks ms : List Rating) (some : List Int) (i : Nat) : List Nat := (List.range i).filter (nbP ks ms some)
theorem nbs_eq {ks ms : List Rating} {some : List Int} (h : ∀ x ∈ some, 0 ≤ x ∧ x < ms.length) : nbs ks ms some ks.length = Sr117.neighbours ⟨ks, ms⟩ (intsToNats some) := by
  unfold nbs Sr117.neighbours
  refine List.filter_congr fun j hj => ?_
  have hj' := List.mem_range.mp hj
  obtain ⟨k, hk⟩ := get_of hj'
  unfold nbP
  rw [Bool.eq_iff_iff]
  simp only [bne_iff_ne, ne_eq, List.filter_eq_nil_iff, List.any_eq_true, intsToNats, List.mem_map]
  constructor
  · intro q
    have q2 : ∃ n, n ∈ some ∧ fit (ms.getD n.toNat z0) (ks.getD j z0) = true := by
      refine Classical.byContradiction fun z => q fun a ha hf => z ⟨a, ha, hf⟩
    obtain ⟨n, hn, hf⟩ := q2
    obtain ⟨m, hm⟩ := get_of (l := ms) (i := n.toNat) (by have := h n hn; omega)
    refine ⟨n.toNat, ⟨n, hn, rfl⟩, ?_⟩
    rw [fits_eq hm hk]
    rw [getD_of hm, getD_of hk] at hf
    exact hf
  · rintro ⟨i, ⟨n, hn, rfl⟩, hf⟩ q
    obtain ⟨m, hm⟩ := get_of (l := ms) (i := n.toNat) (by have := h n hn; omega)
    rw [fits_eq hm hk] at hf
    refine q n hn ?_
    rw [getD_of hm, getD_of hk]
    exact hf
/-! ## size_of -/
def sizeOf (ns : List Int) : Nat := (ns.filter fun n => n != -1).length
theorem sizeOf_more {ns : List Int} {i : Nat} {z : Int} (h : ns[i]? = some z) : sizeOf (ns.take (i + 1)) = sizeOf (ns.take i) + (if z = -1 then 0 else 1) := by
  unfold sizeOf
  rw [take_more h, List.filter_append, List.length_append]
  by_cases e : z = -1 <;> simp [e]
theorem sizeOf_enc (a : Assignment) : sizeOf (encodeAssignment a) = runningCount a := by
  unfold sizeOf runningCount encodeAssignment
  induction a with
  | nil => rfl
  | cons x r ih =>
    cases x with
    | none => simpa using ih
    | some j =>
      have : ((j : Int) != -1) = true := by simp only [bne_iff_ne, ne_eq]; omega
      simp only [List.map_cons, List.filter_cons, this, if_true, Option.isSome_some, List.length_cons, ih]
theorem sizeOf_nonneg (ns : List Int) : (0 : Int) ≤ sizeOf ns := by omega
/-! ## choices_for -/
def chP (m : Rating) (ks : List Rating) (es : List Int) (j : Nat) : Bool := fit m (ks.getD j z0) && !es.contains (j : Int)
def chs (m : Rating) (ks : List Rating) (es : List Int) (i : Nat) : List Nat := (List.range i).filter (chP m ks es)
def choices (m : Rating) (ks : List Rating) (es : List Int) : List Int := nI (chs m ks es ks.length) ++ [-1]
theorem choices_len (m : Rating) (ks : List Rating) (es : List Int) : (choices m ks es).length ≤ ks.length + 1 := by
  unfold choices chs
  rw [List.length_append, nI_len]
  have := range_len (p := chP m ks es) ks.length
  simp only [List.length_cons, List.length_nil]
  omega
/-! ## valid_assignments -/
def ext1 (ks : List Rating) (m : Rating) (es : List Int) : List (List Int) := (choices m ks es).map fun e => es ++ [e]
def lay (ks ms : List Rating) (i : Nat) : List (List Int) := (ms.take i).foldl (fun fs m => fs.flatMap (ext1 ks m)) [[]]
theorem lay_more {ks ms : List Rating} {i : Nat} {m : Rating} (h : ms[i]? = some m) : lay ks ms (i + 1) = (lay ks ms i).flatMap (ext1 ks m) := by
  unfold lay
  rw [take_more h, List.foldl_append]
  rfl
theorem ext1_len (ks : List Rating) (m : Rating) (es : List Int) : (ext1 ks m es).length ≤ ks.length + 1 := by
  unfold ext1
  rw [List.length_map]
  exact choices_len m ks es
theorem flat_len {f : List Int → List (List Int)} {n : Nat} (h : ∀ x, (f x).length ≤ n) : ∀ l : List (List Int), (l.flatMap f).length ≤ l.length * n
  | [] => by simp
  | x :: r => by
    rw [List.flatMap_cons, List.length_append, List.length_cons, Nat.add_mul, Nat.one_mul]
    have := flat_len h r
    have := h x
    omega
theorem lay_len {ks ms : List Rating} (hk : ks.length ≤ 5) : ∀ {i : Nat}, i ≤ ms.length → (lay ks ms i).length ≤ 6 ^ i
  | 0, _ => by simp [lay]
  | i + 1, h => by
    obtain ⟨m, hm⟩ := get_of (l := ms) (i := i) (by omega)
    rw [lay_more hm, Nat.pow_succ]
    have h1 := lay_len (ms := ms) hk (i := i) (by omega)
    have h2 := flat_len (f := ext1 ks m) (n := 6) (fun x => by have := ext1_len ks m x; omega) (lay ks ms i)
    have h3 : (lay ks ms i).length * 6 ≤ 6 ^ i * 6 := Nat.mul_le_mul_right 6 h1
    omega
theorem lay_each {ks ms : List Rating} : ∀ {i : Nat}, i ≤ ms.length → ∀ es ∈ lay ks ms i, es.length = i
  | 0, _ => by simp [lay]
  | i + 1, h => by
    obtain ⟨m, hm⟩ := get_of (l := ms) (i := i) (by omega)
    rw [lay_more hm]
    intro es he
    obtain ⟨e0, h0, h1⟩ := List.mem_flatMap.mp he
    have := lay_each (ks := ks) (ms := ms) (i := i) (by omega) e0 h0
    unfold ext1 at h1
    obtain ⟨e, _, rfl⟩ := List.mem_map.mp h1
    simp [this]
/-- from a prefix on -/
def go (ks : List Rating) : List Rating → List Int → List (List Int)
  | [], es => [es]
  | m :: r, es => (choices m ks es).flatMap fun e => go ks r (es ++ [e])
theorem layers_go (ks : List Rating) : ∀ (r : List Rating) (fs : List (List Int)), r.foldl (fun fs m => fs.flatMap (ext1 ks m)) fs = fs.flatMap (go ks r)
  | [], fs => by
    show fs = fs.flatMap fun es => [es]
    induction fs with
    | nil => rfl
    | cons x r ih => rw [List.flatMap_cons, ← ih]; rfl
  | m :: r, fs => by
    rw [List.foldl_cons, layers_go ks r, List.flatMap_assoc]
    congr 1
    funext es
    show (ext1 ks m es).flatMap (go ks r) = _
    unfold ext1
    rw [List.flatMap_map]
    rfl
def enc : Option Nat → Int
  | none => -1
  | some j => (j : Int)
theorem enc_eq (a : Assignment) : encodeAssignment a = a.map enc := by
  unfold encodeAssignment
  refine List.map_congr_left fun x _ => ?_
  cases x <;> rfl
theorem go_from {ks ms : List Rating} : ∀ (n i : Nat) (used : List Nat) (es : List Int), i + n = ms.length → (∀ j : Nat, (j : Int) ∈ es ↔ j ∈ used) →
    go ks (ms.drop i) es = (assignmentsFrom ⟨ks, ms⟩ n i used).map fun a => es ++ a.map enc
  | 0, i, used, es, h, _ => by
    have : ms.drop i = [] := List.drop_eq_nil_of_le (by omega)
    rw [this]
    simp [go, assignmentsFrom]
  | n + 1, i, used, es, h, hu => by
    obtain ⟨m, hm⟩ := get_of (l := ms) (i := i) (by omega)
    have hd : ms.drop i = m :: ms.drop (i + 1) := by
      have := List.drop_eq_getElem_cons (l := ms) (i := i) (by omega)
      rw [this]
      congr 1
      exact (List.getElem?_eq_some_iff.mp hm).2
    rw [hd]
    show (choices m ks es).flatMap (fun e => go ks (ms.drop (i + 1)) (es ++ [e])) = _
    unfold assignmentsFrom choices
    rw [List.flatMap_append, List.map_append]
    congr 1
    · unfold nI natsToInts chs
      rw [List.flatMap_map, List.map_flatMap]
      have ef : (List.range ks.length).filter (chP m ks es) = (List.range ks.length).filter fun j => Sr117.fits ⟨ks, ms⟩ i j && !used.contains j := by
        refine List.filter_congr fun j hj => ?_
        obtain ⟨k, hk⟩ := get_of (List.mem_range.mp hj)
        unfold chP
        rw [fits_eq hm hk, getD_of hk]
        congr 2
        rw [Bool.eq_iff_iff]
        simp only [List.contains_eq_mem, decide_eq_true_eq]
        exact hu j
      rw [ef]
      congr 1
      funext j
      rw [go_from n (i + 1) (j :: used) (es ++ [(j : Int)]) (by omega) (fun x => by
        rw [List.mem_append, List.mem_singleton, hu x, List.mem_cons]
        constructor
        · rintro (q | q)
          · exact .inr q
          · exact .inl (Int.ofNat_inj.mp q)
        · rintro (q | q)
          · exact .inr (by rw [q])
          · exact .inl q), List.map_map]
      congr 1
      funext a
      simp [enc]
    · rw [List.flatMap_cons, List.flatMap_nil, List.append_nil, go_from n (i + 1) used (es ++ [-1]) (by omega) (fun x => by
        rw [List.mem_append, List.mem_singleton, hu x]
        constructor
        · rintro (q | q)
          · exact q
          · exact absurd q (by omega)
        · exact .inl), List.map_map]
      congr 1
      funext a
      simp [enc]
theorem lay_all (ks ms : List Rating) : lay ks ms ms.length = (allAssignments ⟨ks, ms⟩).map fun a => a.map enc := by
  unfold lay allAssignments
  rw [List.take_length, layers_go]
  have := go_from (ks := ks) (ms := ms) ms.length 0 [] [] (by omega) (by simp)
  rw [List.drop_zero] at this
  simpa using this
/-! ## best_assignment -/
def bStep (b : List Int × Int) (es : List Int) : List Int × Int := if b.2 < (sizeOf es : Int) then (es, (sizeOf es : Int)) else b
def bAll (l : List (List Int)) (n : Nat) : List Int × Int := l.foldl bStep (List.replicate n (-1), -1)
theorem bAll_more {l : List (List Int)} {n i : Nat} {es : List Int} (h : l[i]? = some es) : bAll (l.take (i + 1)) n = bStep (bAll (l.take i) n) es := by
  unfold bAll
  rw [take_more h, List.foldl_append]
  rfl
def sStep (best a : Assignment) : Assignment := if runningCount best < runningCount a then a else best
theorem sizeOf_map (a : Assignment) : sizeOf (a.map enc) = runningCount a := by rw [← enc_eq]; exact sizeOf_enc a
theorem count_le (a : Assignment) : runningCount a = 0 → a.map enc = List.replicate a.length (-1) := by
  unfold runningCount
  induction a with
  | nil => intro _; rfl
  | cons x r ih =>
    cases x with
    | none =>
      intro h
      show -1 :: r.map enc = List.replicate (r.length + 1) (-1)
      rw [List.replicate_succ, ih (by simpa using h)]
    | some j => intro h; simp at h
theorem bs_fold : ∀ (l : List Assignment) (f : List Int) (b : Assignment), f = b.map enc → (l.map fun a => a.map enc).foldl bStep (f, (runningCount b : Int)) = ((l.foldl sStep b).map enc, (runningCount (l.foldl sStep b) : Int))
  | [], f, b, h => by subst h; rfl
  | a :: l, f, b, h => by
    subst h
    rw [List.map_cons, List.foldl_cons, List.foldl_cons]
    unfold bStep
    rw [sizeOf_map]
    by_cases c : runningCount b < runningCount a
    · rw [if_pos (by show (runningCount b : Int) < runningCount a; omega)]
      rw [show sStep b a = a from if_pos c]
      exact bs_fold l _ a rfl
    · rw [if_neg (by show ¬ (runningCount b : Int) < runningCount a; omega)]
      rw [show sStep b a = b from if_neg c]
      exact bs_fold l _ b rfl
theorem none_len (ms : List Rating) : (ms.map fun _ => (none : Option Nat)).map enc = List.replicate ms.length (-1) := by
  induction ms with
  | nil => rfl
  | cons x r ih =>
    show -1 :: (r.map fun _ => (none : Option Nat)).map enc = List.replicate (r.length + 1) (-1)
    rw [ih, List.replicate_succ]
theorem none_count (ms : List Rating) : runningCount (ms.map fun _ => (none : Option Nat)) = 0 := by
  unfold runningCount
  induction ms with
  | nil => rfl
  | cons x r ih => simpa using ih
theorem from_ne (ks ms : List Rating) : ∀ (n i : Nat) (used : List Nat), assignmentsFrom ⟨ks, ms⟩ n i used ≠ []
  | 0, i, used => by simp [assignmentsFrom]
  | n + 1, i, used => by
    unfold assignmentsFrom
    have := from_ne ks ms n (i + 1) used
    simp [this]
theorem best_eq (ks ms : List Rating) : (bAll (lay ks ms ms.length) ms.length).1 = encodeAssignment (bestAssignment ⟨ks, ms⟩) := by
  rw [enc_eq]
  show _ = ((allAssignments ⟨ks, ms⟩).foldl sStep (ms.map fun _ => none)).map enc
  have hlen := lay_each (ks := ks) (ms := ms) (Nat.le_refl _)
  rw [lay_all] at hlen ⊢
  unfold bAll
  have hne : allAssignments ⟨ks, ms⟩ ≠ [] := from_ne ks ms _ _ _
  cases hl : allAssignments ⟨ks, ms⟩ with
  | nil => exact absurd hl hne
  | cons a l =>
    rw [hl] at hlen
    rw [List.map_cons, List.foldl_cons, List.foldl_cons]
    have e1 : bStep (List.replicate ms.length (-1), -1) (a.map enc) = (a.map enc, (runningCount a : Int)) := by
      unfold bStep
      rw [sizeOf_map, if_pos (by show (-1 : Int) < runningCount a; omega)]
    rw [e1]
    have hla : a.length = ms.length := by
      have := hlen (a.map enc) (by simp)
      simpa using this
    by_cases c : runningCount a = 0
    · have e2 : sStep (ms.map fun _ => none) a = ms.map fun _ => none := if_neg (by rw [none_count, c]; omega)
      rw [e2, c]
      have e3 : a.map enc = (ms.map fun _ => (none : Option Nat)).map enc := by rw [count_le a c, none_len, hla]
      have := bs_fold l (a.map enc) (ms.map fun _ => none) e3
      rw [none_count] at this
      rw [this]
    · have e2 : sStep (ms.map fun _ => none) a = a := if_pos (by rw [none_count]; omega)
      rw [e2, bs_fold l (a.map enc) a rfl]
theorem maxR_eq (ks ms : List Rating) : (sizeOf (bAll (lay ks ms ms.length) ms.length).1 : Int) = (Sr117.maxRunning ⟨ks, ms⟩ : Int) := by
  rw [best_eq, sizeOf_enc]
  rfl
end My
namespace My
open Sr117 SrCommon
/-! ## members_of -/
def mems (mask i : Nat) : List Nat := (List.range i).filter fun b => mask / 2 ^ b % 2 == 1
theorem mems_eq (n mask : Nat) : mems mask n = maskMembers n mask := rfl
theorem mems_len (mask n : Nat) : (mems mask n).length ≤ n := range_len n
theorem mems_lt {mask n : Nat} : ∀ x ∈ mems mask n, x < n := fun _ hx => List.mem_range.mp (List.mem_filter.mp hx).1
theorem full_bit : ∀ (n b : Nat), b < n → (2 ^ n - 1) / 2 ^ b % 2 = 1
  | n + 1, 0, _ => by
    have : 0 < 2 ^ n := Nat.two_pow_pos n
    rw [Nat.pow_succ, Nat.pow_zero, Nat.div_one]
    omega
  | n + 1, b + 1, h => by
    have e : (2 ^ (n + 1) - 1) / 2 = 2 ^ n - 1 := by
      have : 0 < 2 ^ n := Nat.two_pow_pos n
      rw [Nat.pow_succ]; omega
    rw [Nat.pow_succ 2 b, Nat.mul_comm, ← Nat.div_div_eq_div_mul, e]
    exact full_bit n b (by omega)
theorem mems_full (n : Nat) : mems (2 ^ n - 1) n = List.range n := by
  unfold mems
  rw [List.filter_eq_self]
  intro b hb
  rw [full_bit n b (List.mem_range.mp hb)]
  rfl
theorem mems_range {mask n : Nat} (h : (mems mask n).length = n) : mems mask n = List.range n := by
  refine List.Sublist.eq_of_length List.filter_sublist ?_
  rw [List.length_range]
  exact h
/-! ## is_cover -/
def cvP (ks ms : List Rating) (some others : List Int) (i j : Nat) : Bool := !(fit (ms.getD i z0) (ks.getD j z0) && !some.contains (i : Int) && !others.contains (j : Int))
def cvR (ks ms : List Rating) (some others : List Int) (i : Nat) : Bool := (List.range ks.length).all (cvP ks ms some others i)
def isCov (ks ms : List Rating) (some others : List Int) : Bool := (List.range ms.length).all (cvR ks ms some others)
theorem has_toNat {l : List Int} (h : ∀ x ∈ l, 0 ≤ x) (i : Nat) : l.contains (i : Int) = (intsToNats l).contains i := by
  rw [Bool.eq_iff_iff]
  simp only [List.contains_eq_mem, decide_eq_true_eq, intsToNats, List.mem_map]
  constructor
  · intro q; exact ⟨_, q, by omega⟩
  · rintro ⟨x, hx, e⟩
    have := h x hx
    have e2 : x = (i : Int) := by omega
    rw [← e2]; exact hx
theorem all_congr {p q : Nat → Bool} {n : Nat} (h : ∀ i, i < n → p i = q i) : (List.range n).all p = (List.range n).all q := by
  rw [Bool.eq_iff_iff]
  simp only [List.all_eq_true, List.mem_range]
  constructor
  · intro a i hi; rw [← h i hi]; exact a i hi
  · intro a i hi; rw [h i hi]; exact a i hi
theorem isCov_eq {ks ms : List Rating} {some others : List Int} (h1 : ∀ x ∈ some, 0 ≤ x) (h2 : ∀ x ∈ others, 0 ≤ x) :
    isCov ks ms some others = Sr117.isCover ⟨ks, ms⟩ (intsToNats some) (intsToNats others) := by
  unfold isCov Sr117.isCover
  refine all_congr fun i hi => ?_
  unfold cvR
  refine all_congr fun j hj => ?_
  obtain ⟨m, hm⟩ := get_of hi
  obtain ⟨k, hk⟩ := get_of hj
  unfold cvP
  rw [fits_eq hm hk, getD_of hm, getD_of hk, has_toNat h1, has_toNat h2]
  cases fit m k <;> cases (intsToNats some).contains i <;> cases (intsToNats others).contains j <;> rfl
theorem nI_nonneg (l : List Nat) : ∀ x ∈ nI l, 0 ≤ x := by
  intro x hx
  unfold nI natsToInts at hx
  obtain ⟨a, _, rfl⟩ := List.mem_map.mp hx
  omega
theorem isCov_nI (ks ms : List Rating) (a b : List Nat) : isCov ks ms (nI a) (nI b) = Sr117.isCover ⟨ks, ms⟩ a b := by
  rw [isCov_eq (nI_nonneg a) (nI_nonneg b), toNat_nI, toNat_nI]
/-! ## minimum_cover -/
abbrev Cv := List Nat × List Nat
def cvLen (c : Cv) : Nat := c.1.length + c.2.length
def mcStep (ks ms : List Rating) (P : Cv × Int) (c : Cv) : Cv × Int := if (decide ((cvLen c : Int) < P.2) && isCov ks ms (nI c.1) (nI c.2)) = true then (c, (cvLen c : Int)) else P
def pr (ks ms : List Rating) (x y : Nat) : Cv := (mems x ms.length, mems y ks.length)
def mc0 (ks ms : List Rating) : Cv × Int := ((List.range ms.length, List.range ks.length), (ms.length : Int) + ks.length + 1)
def mcOut (ks ms : List Rating) (x : Nat) : Cv × Int := ((List.range x).flatMap fun a => (List.range (2 ^ ks.length)).map (pr ks ms a)).foldl (mcStep ks ms) (mc0 ks ms)
def mcIn (ks ms : List Rating) (x y : Nat) : Cv × Int := ((List.range y).map (pr ks ms x)).foldl (mcStep ks ms) (mcOut ks ms x)
theorem mcIn_zero (ks ms : List Rating) (x : Nat) : mcIn ks ms x 0 = mcOut ks ms x := rfl
theorem mcIn_more (ks ms : List Rating) (x y : Nat) : mcIn ks ms x (y + 1) = mcStep ks ms (mcIn ks ms x y) (pr ks ms x y) := by
  unfold mcIn
  rw [List.range_succ, List.map_append, List.foldl_append]
  rfl
theorem mcOut_more (ks ms : List Rating) (x : Nat) : mcOut ks ms (x + 1) = mcIn ks ms x (2 ^ ks.length) := by
  unfold mcIn mcOut
  rw [List.range_succ, List.flatMap_append, List.foldl_append]
  simp
def spStep (shop : Shop) (best c : Cv) : Cv := if (Sr117.isCover shop c.1 c.2 && decide (c.1.length + c.2.length < best.1.length + best.2.length)) = true then c else best
theorem mc_fold {ks ms : List Rating} : ∀ (l : List Cv) (P : Cv × Int) (best : Cv), (∀ c ∈ l, ∃ x y, c = pr ks ms x y) → P.1 = best →
    (P.2 = (cvLen best : Int) ∨ (best = (mc0 ks ms).1 ∧ P.2 = (mc0 ks ms).2)) → (l.foldl (mcStep ks ms) P).1 = l.foldl (spStep ⟨ks, ms⟩) best
  | [], P, best, _, h, _ => h
  | c :: l, P, best, hl, h, hs => by
    obtain ⟨x, y, hc⟩ := hl c (by simp)
    rw [List.foldl_cons, List.foldl_cons]
    have hl' : ∀ c ∈ l, ∃ x y, c = pr ks ms x y := fun d hd => hl d (List.mem_cons_of_mem _ hd)
    have ecov : isCov ks ms (nI c.1) (nI c.2) = Sr117.isCover ⟨ks, ms⟩ c.1 c.2 := isCov_nI ..
    cases hcov : Sr117.isCover ⟨ks, ms⟩ c.1 c.2 with
    | false =>
      have e1 : mcStep ks ms P c = P := by unfold mcStep; rw [ecov, hcov, Bool.and_false]; rfl
      have e2 : spStep ⟨ks, ms⟩ best c = best := by unfold spStep; rw [hcov, Bool.false_and]; rfl
      rw [e1, e2]
      exact mc_fold l P best hl' h hs
    | true =>
      rcases hs with hs | ⟨hb, hs⟩
      · by_cases q : cvLen c < cvLen best
        · have e1 : mcStep ks ms P c = (c, (cvLen c : Int)) := by unfold mcStep; rw [ecov, hcov, Bool.and_true, if_pos (decide_eq_true (by rw [hs]; omega))]
          have e2 : spStep ⟨ks, ms⟩ best c = c := by unfold spStep; rw [hcov, Bool.true_and]; exact if_pos (decide_eq_true q)
          rw [e1, e2]
          exact mc_fold l _ c hl' rfl (.inl rfl)
        · have e1 : mcStep ks ms P c = P := by unfold mcStep; rw [ecov, hcov, Bool.and_true, if_neg (by rw [decide_eq_true_eq, hs]; omega)]
          have e2 : spStep ⟨ks, ms⟩ best c = best := by unfold spStep; rw [hcov, Bool.true_and]; exact if_neg (by rw [decide_eq_true_eq]; exact q)
          rw [e1, e2]
          exact mc_fold l P best hl' h (.inl hs)
      · have l1 : c.1.length ≤ ms.length := by rw [hc]; exact mems_len ..
        have l2 : c.2.length ≤ ks.length := by rw [hc]; exact mems_len ..
        have hb1 : cvLen best = ms.length + ks.length := by rw [hb]; simp [cvLen, mc0]
        have hs2 : P.2 = (ms.length : Int) + ks.length + 1 := hs
        have e1 : mcStep ks ms P c = (c, (cvLen c : Int)) := by
          unfold mcStep; rw [ecov, hcov, Bool.and_true, if_pos (decide_eq_true (by rw [hs2]; unfold cvLen; omega))]
        by_cases q : cvLen c < cvLen best
        · have e2 : spStep ⟨ks, ms⟩ best c = c := by unfold spStep; rw [hcov, Bool.true_and]; exact if_pos (decide_eq_true q)
          rw [e1, e2]
          exact mc_fold l _ c hl' rfl (.inl rfl)
        · have e2 : spStep ⟨ks, ms⟩ best c = best := by unfold spStep; rw [hcov, Bool.true_and]; exact if_neg (by rw [decide_eq_true_eq]; exact q)
          rw [e1, e2]
          have q2 : c.1.length = ms.length ∧ c.2.length = ks.length := by unfold cvLen at q hb1; omega
          have ec : c = best := by
            rw [hb]
            have a1 := q2.1
            have a2 := q2.2
            rw [hc] at a1 a2 ⊢
            show (mems x ms.length, mems y ks.length) = (List.range ms.length, List.range ks.length)
            rw [mems_range a1, mems_range a2]
          exact mc_fold l _ best hl' ec (.inl (by rw [ec]))
theorem mc_eq (ks ms : List Rating) : (mcOut ks ms (2 ^ ms.length)).1 = Sr117.minimumCover ⟨ks, ms⟩ := by
  unfold mcOut Sr117.minimumCover
  refine mc_fold _ _ _ (fun c hc => ?_) rfl (.inr ⟨rfl, rfl⟩)
  obtain ⟨a, _, h⟩ := List.mem_flatMap.mp hc
  obtain ⟨b, _, rfl⟩ := List.mem_map.mp h
  exact ⟨a, b, rfl⟩
/-- what stands in the loops is always two sets of indices -/
theorem mc_small {ks ms : List Rating} : ∀ (l : List Cv) (P : Cv × Int), (∀ c ∈ l, ∃ x y, c = pr ks ms x y) → P.1.1.length ≤ ms.length ∧ P.1.2.length ≤ ks.length →
    (l.foldl (mcStep ks ms) P).1.1.length ≤ ms.length ∧ (l.foldl (mcStep ks ms) P).1.2.length ≤ ks.length
  | [], P, _, h => h
  | c :: l, P, hl, h => by
    rw [List.foldl_cons]
    refine mc_small l _ (fun d hd => hl d (List.mem_cons_of_mem _ hd)) ?_
    obtain ⟨x, y, hc⟩ := hl c (by simp)
    unfold mcStep
    split
    · rw [hc]; exact ⟨mems_len .., mems_len ..⟩
    · exact h
/-! ## max_deficiency -/
def dOwn (ks ms : List Rating) (x : Nat) : Int := ((mems x ms.length).length : Int) - ((nbs ks ms (nI (mems x ms.length)) ks.length).length : Int)
def dStep (ks ms : List Rating) (P : List Nat × Int) (x : Nat) : List Nat × Int := if P.2 < dOwn ks ms x then (mems x ms.length, dOwn ks ms x) else P
def dOut (ks ms : List Rating) (x : Nat) : List Nat × Int := (List.range x).foldl (dStep ks ms) ([], 0)
theorem dOut_more (ks ms : List Rating) (x : Nat) : dOut ks ms (x + 1) = dStep ks ms (dOut ks ms x) x := by
  unfold dOut
  rw [List.range_succ, List.foldl_append]
  rfl
def sdStep (shop : Shop) (best : Nat × List Nat) (x : Nat) : Nat × List Nat :=
  let s := maskMembers shop.moulds.length x
  if best.1 < s.length - (Sr117.neighbours shop s).length then (s.length - (Sr117.neighbours shop s).length, s) else best
theorem nbs_mems (ks ms : List Rating) (x : Nat) : nbs ks ms (nI (mems x ms.length)) ks.length = Sr117.neighbours ⟨ks, ms⟩ (mems x ms.length) := by
  rw [nbs_eq, toNat_nI]
  intro z hz
  unfold nI natsToInts at hz
  obtain ⟨a, ha, rfl⟩ := List.mem_map.mp hz
  have := mems_lt a ha
  omega
theorem d_fold (ks ms : List Rating) : ∀ (l : List Nat) (b : Nat × List Nat), l.foldl (dStep ks ms) (b.2, (b.1 : Int)) = ((l.foldl (sdStep ⟨ks, ms⟩) b).2, ((l.foldl (sdStep ⟨ks, ms⟩) b).1 : Int))
  | [], b => rfl
  | x :: l, b => by
    rw [List.foldl_cons, List.foldl_cons]
    have e : dStep ks ms (b.2, (b.1 : Int)) x = ((sdStep ⟨ks, ms⟩ b x).2, ((sdStep ⟨ks, ms⟩ b x).1 : Int)) := by
      unfold dStep sdStep dOwn
      rw [nbs_mems]
      show _ = ((if b.1 < (mems x ms.length).length - (Sr117.neighbours ⟨ks, ms⟩ (mems x ms.length)).length then ((mems x ms.length).length - (Sr117.neighbours ⟨ks, ms⟩ (mems x ms.length)).length, mems x ms.length) else b).2, (((if b.1 < (mems x ms.length).length - (Sr117.neighbours ⟨ks, ms⟩ (mems x ms.length)).length then ((mems x ms.length).length - (Sr117.neighbours ⟨ks, ms⟩ (mems x ms.length)).length, mems x ms.length) else b).1 : Nat) : Int))
      by_cases c : b.1 < (mems x ms.length).length - (Sr117.neighbours ⟨ks, ms⟩ (mems x ms.length)).length
      · rw [if_pos c, if_pos (by show (b.1 : Int) < _; omega)]
        show (_, _) = (mems x ms.length, (((mems x ms.length).length - (Sr117.neighbours ⟨ks, ms⟩ (mems x ms.length)).length : Nat) : Int))
        congr 1
        omega
      · rw [if_neg c, if_neg (by show ¬ (b.1 : Int) < _; omega)]
    rw [e]
    exact d_fold ks ms l _
theorem d_eq (ks ms : List Rating) : dOut ks ms (2 ^ ms.length) = ((Sr117.maxDeficiency ⟨ks, ms⟩).2, ((Sr117.maxDeficiency ⟨ks, ms⟩).1 : Int)) := d_fold ks ms _ (0, [])
theorem d_small (ks ms : List Rating) : ∀ (x : Nat), (dOut ks ms x).1.length ≤ ms.length
  | 0 => Nat.zero_le _
  | x + 1 => by
    rw [dOut_more]
    unfold dStep
    split
    · exact mems_len ..
    · exact d_small ks ms x
/-! ## check_assignment -/
def arP (k : Nat) (e : Int) : Bool := e == -1 || okI e k
def areE (n k : Nat) (es : List Int) : Bool := decide (es.length = n) && es.all (arP k)
theorem arP_eq (k : Nat) (x : Int) : (decide (x < -1) || decide ((k : Int) ≤ x)) = !arP k x := by
  rw [Bool.eq_iff_iff]
  simp only [arP, okI, Bool.or_eq_true, decide_eq_true_eq, Bool.not_eq_true', Bool.or_eq_false_iff, beq_eq_false_iff_ne, ne_eq, Bool.and_eq_false_iff, decide_eq_false_iff_not]
  omega
theorem areE_false {n k : Nat} {es : List Int} : (es.length ≠ n ∨ es.any (fun x => decide (x < -1) || decide ((k : Int) ≤ x)) = true) ↔ areE n k es = false := by
  have e : (fun x : Int => decide (x < -1) || decide ((k : Int) ≤ x)) = fun x => !arP k x := funext (arP_eq k)
  rw [e]
  unfold areE
  rw [Bool.and_eq_false_iff, decide_eq_false_iff_not]
  have e2 : (es.any (fun x => !arP k x) = true) ↔ (es.all (arP k) = false) := by
    rw [List.any_eq_true, List.all_eq_false]
    simp
  rw [e2]
def vlP (ks ms : List Rating) (es : List Int) (i : Nat) : Bool := (es.getD i 0 == -1) || (fit (ms.getD i z0) (ks.getD (es.getD i 0).toNat z0) && !(es.take i).contains (es.getD i 0))
def isVal (ks ms : List Rating) (es : List Int) : Bool := (List.range es.length).all (vlP ks ms es)
def dec (x : Int) : Option Nat := if x < 0 then none else some x.toNat
theorem dec_getD (es : List Int) (i : Nat) (x : Int) (h : es[i]? = some x) : (es.map dec).getD i none = dec x := by
  rw [List.getD_eq_getElem?_getD, List.getElem?_map, h]; rfl
theorem areE_get {n k : Nat} {es : List Int} (h : areE n k es = true) {i : Nat} {x : Int} (hx : es[i]? = some x) : x = -1 ∨ (0 ≤ x ∧ x < k) := by
  unfold areE at h
  rw [Bool.and_eq_true, List.all_eq_true] at h
  have := h.2 x (List.mem_iff_getElem?.mpr ⟨i, hx⟩)
  unfold arP at this
  rw [Bool.or_eq_true, beq_iff_eq] at this
  exact this.imp id okI_iff.mp
theorem areE_len {n k : Nat} {es : List Int} (h : areE n k es = true) : es.length = n := by
  unfold areE at h
  rw [Bool.and_eq_true, decide_eq_true_eq] at h
  exact h.1
theorem isVal_eq {ks ms : List Rating} {es : List Int} (h : areE ms.length ks.length es = true) : isVal ks ms es = isValidAssignment ⟨ks, ms⟩ (es.map dec) := by
  have hlen := areE_len h
  unfold isValidAssignment
  rw [show (es.map dec).length = es.length from List.length_map _, show decide (es.length = (⟨ks, ms⟩ : Shop).moulds.length) = true from decide_eq_true hlen, Bool.true_and]
  rw [Bool.eq_iff_iff, Bool.and_eq_true, decide_eq_true_eq]
  have hnd : ((es.map dec).filterMap fun entry => entry).Nodup ↔ ∀ i x, es[i]? = some x → x ≠ -1 → x ∉ es.take i := by
    rw [List.filterMap_map, List.Nodup, List.pairwise_filterMap, List.pairwise_iff_getElem]
    constructor
    · intro q i x hx hne hm
      obtain ⟨j, hj⟩ := List.mem_iff_getElem?.mp hm
      rw [List.getElem?_take] at hj
      split at hj
      · rename_i hlt
        have a1 := lt_of hj
        have a2 := lt_of hx
        have e1 := (List.getElem?_eq_some_iff.mp hj).2
        have e2 := (List.getElem?_eq_some_iff.mp hx).2
        have hx0 : 0 ≤ x := by rcases areE_get h hx with z | z <;> omega
        have ed : dec x = some x.toNat := if_neg (by omega)
        refine q j i a1 a2 hlt x.toNat ?_ x.toNat ?_ rfl
        · show dec es[j] = _
          rw [e1]; exact ed
        · show dec es[i] = _
          rw [e2]; exact ed
      · cases hj
    · intro q i j hi hj hij b hb b' hb' e
      have ei : es[i]? = some es[i] := by simp [hi]
      have ej : es[j]? = some es[j] := by simp [hj]
      have hb2 : dec es[i] = some b := hb
      have hb3 : dec es[j] = some b' := hb'
      unfold dec at hb2 hb3
      split at hb2
      · cases hb2
      split at hb3
      · cases hb3
      have h1 := Option.some.inj hb2
      have h2 := Option.some.inj hb3
      have eij : es[i] = es[j] := by omega
      refine q j es[j] ej (by omega) ?_
      refine List.mem_iff_getElem?.mpr ⟨i, ?_⟩
      rw [List.getElem?_take, if_pos hij, ei, eij]
  rw [hnd]
  simp only [isVal, List.all_eq_true, List.mem_range]
  constructor
  · intro q
    refine ⟨fun i hi => ?_, fun i x hx hne => ?_⟩
    · obtain ⟨x, hx⟩ := get_of hi
      have q1 := q i hi
      unfold vlP at q1
      rw [getD_of hx] at q1
      rw [dec_getD es i x hx]
      rcases areE_get h hx with z | z
      · subst z; rfl
      · rw [show dec x = some x.toNat from if_neg (by omega)]
        have hne : (x == -1) = false := by rw [beq_eq_false_iff_ne]; omega
        rw [hne, Bool.false_or, Bool.and_eq_true] at q1
        obtain ⟨m, hm⟩ := get_of (l := ms) (i := i) (by omega)
        obtain ⟨k, hk⟩ := get_of (l := ks) (i := x.toNat) (by omega)
        show Sr117.fits ⟨ks, ms⟩ i x.toNat = true
        rw [fits_eq hm hk]
        have := q1.1
        rw [getD_of hm, getD_of hk] at this
        exact this
    · have q1 := q i (lt_of hx)
      unfold vlP at q1
      rw [getD_of hx, show (x == -1) = false from beq_eq_false_iff_ne.mpr hne, Bool.false_or, Bool.and_eq_true] at q1
      have := q1.2
      simpa using this
  · rintro ⟨q1, q2⟩ i hi
    obtain ⟨x, hx⟩ := get_of hi
    unfold vlP
    rw [getD_of hx]
    rcases areE_get h hx with z | z
    · subst z; rfl
    · have hne : (x == -1) = false := by rw [beq_eq_false_iff_ne]; omega
      rw [hne, Bool.false_or, Bool.and_eq_true]
      have q3 := q1 i hi
      rw [dec_getD es i x hx, show dec x = some x.toNat from if_neg (by omega)] at q3
      obtain ⟨m, hm⟩ := get_of (l := ms) (i := i) (by omega)
      obtain ⟨k, hk⟩ := get_of (l := ks) (i := x.toNat) (by omega)
      have q4 : Sr117.fits ⟨ks, ms⟩ i x.toNat = true := q3
      rw [fits_eq hm hk] at q4
      refine ⟨by rw [getD_of hm, getD_of hk]; exact q4, ?_⟩
      have := q2 i x hx (by omega)
      simpa using this
theorem dec_count {n k : Nat} {es : List Int} (h : areE n k es = true) : runningCount (es.map dec) = sizeOf es := by
  unfold runningCount sizeOf
  rw [List.filter_map, List.length_map]
  congr 1
  refine List.filter_congr fun x hx => ?_
  obtain ⟨i, hi⟩ := List.mem_iff_getElem?.mp hx
  rw [Bool.eq_iff_iff]
  show (dec x).isSome = true ↔ _
  rcases areE_get h hi with z | z
  · subst z; simp [dec]
  · rw [show dec x = some x.toNat from if_neg (by omega)]
    simp only [Option.isSome_some, bne_iff_ne, ne_eq, true_iff]
    omega
/-! ## told -/
def toldR (rs : List Rating) : List Int := (rs.length : Int) :: rs.flatMap ratingValues
theorem toldR_more {rs : List Rating} {i : Nat} {r : Rating} (h : rs[i]? = some r) : (rs.take (i + 1)).flatMap ratingValues = (rs.take i).flatMap ratingValues ++ [(r.clampForce : Int), (r.platenSize : Int)] := by
  rw [take_more h, List.flatMap_append]
  rfl
theorem flat2_len : ∀ rs : List Rating, (rs.flatMap ratingValues).length = 2 * rs.length
  | [] => rfl
  | r :: rs => by
    rw [List.flatMap_cons, List.length_append, flat2_len rs, List.length_cons]
    show 2 + _ = _
    omega
end My
namespace My
open Sr117 SrCommon
/-! ## what an operation answers, and the shop behind it -/
structure Small (sh : Shop) : Prop where
  k : sh.machines.length ≤ 5
  m : sh.moulds.length ≤ 5
def ansS (sh : Shop) (c : Call) : List Int := (perform sh c).2.code :: (perform sh c).2.values
def nextS (sh : Shop) (c : Call) : Shop := (perform sh c).1.getD sh
def addErr (n : Nat) (c p : Int) : Int := if (okR c && okR p) = false then -22 else if n = 5 then -28 else 0
def setErr (n : Nat) (i c p : Int) : Int := if okI i n = false then -2 else if (okR c && okR p) = false then -22 else 0
theorem okR_toNat {c : Int} (h : okR c = true) : c = (c.toNat : Int) := by
  unfold okR at h
  rw [Bool.and_eq_true, decide_eq_true_eq, decide_eq_true_eq] at h
  omega
theorem addErr_cases (n : Nat) (c p : Int) : (addErr n c p = -22 ∧ (okR c = false ∨ okR p = false)) ∨ (addErr n c p = -28 ∧ okR c = true ∧ okR p = true ∧ n = 5) ∨ (addErr n c p = 0 ∧ okR c = true ∧ okR p = true ∧ n ≠ 5) := by
  unfold addErr
  cases h1 : okR c <;> cases h2 : okR p <;> simp <;> omega
theorem setErr_cases (n : Nat) (i c p : Int) : (setErr n i c p = -2 ∧ okI i n = false) ∨ (setErr n i c p = -22 ∧ okI i n = true ∧ (okR c = false ∨ okR p = false)) ∨ (setErr n i c p = 0 ∧ okI i n = true ∧ okR c = true ∧ okR p = true) := by
  unfold setErr
  cases h0 : okI i n <;> cases h1 : okR c <;> cases h2 : okR p <;> simp
theorem yR {c p : Int} (h : okR c = false ∨ okR p = false) : isRating c = false ∨ isRating p = false := h
theorem nR {c p : Int} (h1 : okR c = true) (h2 : okR p = true) : ¬ (isRating c = false ∨ isRating p = false) := by
  rw [okR_eq, okR_eq, h1, h2]
  simp
theorem yK {sh : Shop} {j : Int} (h : okI j sh.machines.length = false) : isMachine sh j = false := h
theorem yM {sh : Shop} {j : Int} (h : okI j sh.moulds.length = false) : isMould sh j = false := h
theorem nK {sh : Shop} {j : Int} (h : okI j sh.machines.length = true) : ¬ isMachine sh j = false := by
  rw [show isMachine sh j = true from h]
  decide
theorem nM {sh : Shop} {j : Int} (h : okI j sh.moulds.length = true) : ¬ isMould sh j = false := by
  rw [show isMould sh j = true from h]
  decide
theorem add_k_err {sh : Shop} (hs : Small sh) {c p : Int} (h : addErr sh.machines.length c p < 0) : ansS sh (.addMachine c p) = [addErr sh.machines.length c p] ∧ nextS sh (.addMachine c p) = sh := by
  have hk := hs.k
  unfold ansS nextS perform
  dsimp only
  rcases addErr_cases sh.machines.length c p with ⟨e, h1⟩ | ⟨e, h1, h2, h3⟩ | ⟨e, _⟩
  · rw [if_pos (yR h1), e]; exact ⟨rfl, rfl⟩
  · rw [if_neg (nR h1 h2), if_pos (show maxMachines ≤ sh.machines.length from (by have : maxMachines = 5 := rfl; have : maxMoulds = 5 := rfl; omega)), e]; exact ⟨rfl, rfl⟩
  · omega
theorem add_k_ok {sh : Shop} (hs : Small sh) {c p : Int} (h : ¬ addErr sh.machines.length c p < 0) : ansS sh (.addMachine c p) = [(sh.machines.length : Int)] ∧ nextS sh (.addMachine c p) = ⟨sh.machines ++ [⟨c.toNat, p.toNat⟩], sh.moulds⟩ ∧ c = (c.toNat : Int) ∧ p = (p.toNat : Int) ∧ sh.machines.length < 5 := by
  have hk := hs.k
  unfold ansS nextS perform
  dsimp only
  rcases addErr_cases sh.machines.length c p with ⟨e, h1⟩ | ⟨e, h1, h2, h3⟩ | ⟨e, h1, h2, h3⟩
  · omega
  · omega
  · rw [if_neg (nR h1 h2), if_neg (show ¬ maxMachines ≤ sh.machines.length from (by have : maxMachines = 5 := rfl; have : maxMoulds = 5 := rfl; omega))]
    exact ⟨rfl, rfl, okR_toNat h1, okR_toNat h2, by omega⟩
theorem add_m_err {sh : Shop} (hs : Small sh) {c p : Int} (h : addErr sh.moulds.length c p < 0) : ansS sh (.addMould c p) = [addErr sh.moulds.length c p] ∧ nextS sh (.addMould c p) = sh := by
  have hk := hs.m
  unfold ansS nextS perform
  dsimp only
  rcases addErr_cases sh.moulds.length c p with ⟨e, h1⟩ | ⟨e, h1, h2, h3⟩ | ⟨e, _⟩
  · rw [if_pos (yR h1), e]; exact ⟨rfl, rfl⟩
  · rw [if_neg (nR h1 h2), if_pos (show maxMoulds ≤ sh.moulds.length from (by have : maxMachines = 5 := rfl; have : maxMoulds = 5 := rfl; omega)), e]; exact ⟨rfl, rfl⟩
  · omega
theorem add_m_ok {sh : Shop} (hs : Small sh) {c p : Int} (h : ¬ addErr sh.moulds.length c p < 0) : ansS sh (.addMould c p) = [(sh.moulds.length : Int)] ∧ nextS sh (.addMould c p) = ⟨sh.machines, sh.moulds ++ [⟨c.toNat, p.toNat⟩]⟩ ∧ c = (c.toNat : Int) ∧ p = (p.toNat : Int) ∧ sh.moulds.length < 5 := by
  have hk := hs.m
  unfold ansS nextS perform
  dsimp only
  rcases addErr_cases sh.moulds.length c p with ⟨e, h1⟩ | ⟨e, h1, h2, h3⟩ | ⟨e, h1, h2, h3⟩
  · omega
  · omega
  · rw [if_neg (nR h1 h2), if_neg (show ¬ maxMoulds ≤ sh.moulds.length from (by have : maxMachines = 5 := rfl; have : maxMoulds = 5 := rfl; omega))]
    exact ⟨rfl, rfl, okR_toNat h1, okR_toNat h2, by omega⟩
theorem isMachine_eq (sh : Shop) (j : Int) : isMachine sh j = okI j sh.machines.length := rfl
theorem isMould_eq (sh : Shop) (j : Int) : isMould sh j = okI j sh.moulds.length := rfl
theorem rem_k_err {sh : Shop} {j : Int} (h : okI j sh.machines.length = false) : ansS sh (.removeMachine j) = [-2] ∧ nextS sh (.removeMachine j) = sh := by
  unfold ansS nextS perform
  dsimp only
  rw [if_pos (yK h)]
  exact ⟨rfl, rfl⟩
theorem rem_k_ok {sh : Shop} {j : Int} (h : okI j sh.machines.length = true) : ansS sh (.removeMachine j) = [((sh.machines.eraseIdx j.toNat).length : Int)] ∧ nextS sh (.removeMachine j) = ⟨sh.machines.eraseIdx j.toNat, sh.moulds⟩ := by
  have h2 := okI_iff.mp h
  unfold ansS nextS perform
  dsimp only
  rw [if_neg (nK h), List.length_eraseIdx, if_pos (by omega)]
  exact ⟨rfl, rfl⟩
theorem rem_m_err {sh : Shop} {j : Int} (h : okI j sh.moulds.length = false) : ansS sh (.removeMould j) = [-2] ∧ nextS sh (.removeMould j) = sh := by
  unfold ansS nextS perform
  dsimp only
  rw [if_pos (yM h)]
  exact ⟨rfl, rfl⟩
theorem rem_m_ok {sh : Shop} {j : Int} (h : okI j sh.moulds.length = true) : ansS sh (.removeMould j) = [((sh.moulds.eraseIdx j.toNat).length : Int)] ∧ nextS sh (.removeMould j) = ⟨sh.machines, sh.moulds.eraseIdx j.toNat⟩ := by
  have h2 := okI_iff.mp h
  unfold ansS nextS perform
  dsimp only
  rw [if_neg (nM h), List.length_eraseIdx, if_pos (by omega)]
  exact ⟨rfl, rfl⟩
theorem set_k_err {sh : Shop} {j c p : Int} (h : setErr sh.machines.length j c p < 0) : ansS sh (.setMachine j c p) = [setErr sh.machines.length j c p] ∧ nextS sh (.setMachine j c p) = sh := by
  unfold ansS nextS perform
  dsimp only
  rcases setErr_cases sh.machines.length j c p with ⟨e, h1⟩ | ⟨e, h1, h2⟩ | ⟨e, _⟩
  · rw [if_pos (yK h1), e]; exact ⟨rfl, rfl⟩
  · rw [if_neg (nK h1), if_pos (yR h2), e]; exact ⟨rfl, rfl⟩
  · omega
theorem set_k_ok {sh : Shop} {j c p : Int} (h : ¬ setErr sh.machines.length j c p < 0) : ∃ r, sh.machines[j.toNat]? = some r ∧ j = (j.toNat : Int) ∧ ansS sh (.setMachine j c p) = [0, (r.clampForce : Int), (r.platenSize : Int)] ∧
    nextS sh (.setMachine j c p) = ⟨sh.machines.set j.toNat ⟨c.toNat, p.toNat⟩, sh.moulds⟩ ∧ c = (c.toNat : Int) ∧ p = (p.toNat : Int) := by
  unfold ansS nextS perform
  dsimp only
  rcases setErr_cases sh.machines.length j c p with ⟨e, h1⟩ | ⟨e, h1, h2⟩ | ⟨e, h1, h2, h3⟩
  · omega
  · omega
  · obtain ⟨r, hr⟩ := get_of (l := sh.machines) (i := j.toNat) (by have := okI_iff.mp h1; omega)
    rw [if_neg (nK h1), if_neg (nR h2 h3)]
    refine ⟨r, hr, by have := okI_iff.mp h1; omega, ?_, rfl, okR_toNat h2, okR_toNat h3⟩
    have e2 : machineAt sh j.toNat = r := getD_of hr
    rw [e2]
    rfl
theorem set_m_err {sh : Shop} {j c p : Int} (h : setErr sh.moulds.length j c p < 0) : ansS sh (.setMould j c p) = [setErr sh.moulds.length j c p] ∧ nextS sh (.setMould j c p) = sh := by
  unfold ansS nextS perform
  dsimp only
  rcases setErr_cases sh.moulds.length j c p with ⟨e, h1⟩ | ⟨e, h1, h2⟩ | ⟨e, _⟩
  · rw [if_pos (yM h1), e]; exact ⟨rfl, rfl⟩
  · rw [if_neg (nM h1), if_pos (yR h2), e]; exact ⟨rfl, rfl⟩
  · omega
theorem set_m_ok {sh : Shop} {j c p : Int} (h : ¬ setErr sh.moulds.length j c p < 0) : ∃ r, sh.moulds[j.toNat]? = some r ∧ j = (j.toNat : Int) ∧ ansS sh (.setMould j c p) = [0, (r.clampForce : Int), (r.platenSize : Int)] ∧
    nextS sh (.setMould j c p) = ⟨sh.machines, sh.moulds.set j.toNat ⟨c.toNat, p.toNat⟩⟩ ∧ c = (c.toNat : Int) ∧ p = (p.toNat : Int) := by
  unfold ansS nextS perform
  dsimp only
  rcases setErr_cases sh.moulds.length j c p with ⟨e, h1⟩ | ⟨e, h1, h2⟩ | ⟨e, h1, h2, h3⟩
  · omega
  · omega
  · obtain ⟨r, hr⟩ := get_of (l := sh.moulds) (i := j.toNat) (by have := okI_iff.mp h1; omega)
    rw [if_neg (nM h1), if_neg (nR h2 h3)]
    refine ⟨r, hr, by have := okI_iff.mp h1; omega, ?_, rfl, okR_toNat h2, okR_toNat h3⟩
    have e2 : mouldAt sh j.toNat = r := getD_of hr
    rw [e2]
    rfl
theorem fits_err {sh : Shop} {i j : Int} (h : okI i sh.moulds.length = false ∨ okI j sh.machines.length = false) : ansS sh (.fits i j) = [-2] ∧ nextS sh (.fits i j) = sh := by
  unfold ansS nextS perform
  dsimp only
  rw [if_pos (show isMould sh i = false ∨ isMachine sh j = false from h)]
  exact ⟨rfl, rfl⟩
theorem fits_ok {sh : Shop} {i j : Int} (h1 : okI i sh.moulds.length = true) (h2 : okI j sh.machines.length = true) : ∃ m k, sh.moulds[i.toNat]? = some m ∧ i = (i.toNat : Int) ∧ sh.machines[j.toNat]? = some k ∧ j = (j.toNat : Int) ∧
    ansS sh (.fits i j) = [if fit m k then 1 else 0] ∧ nextS sh (.fits i j) = sh := by
  obtain ⟨m, hm⟩ := get_of (l := sh.moulds) (i := i.toNat) (by have := okI_iff.mp h1; omega)
  obtain ⟨k, hk⟩ := get_of (l := sh.machines) (i := j.toNat) (by have := okI_iff.mp h2; omega)
  refine ⟨m, k, hm, by have := okI_iff.mp h1; omega, hk, by have := okI_iff.mp h2; omega, ?_⟩
  unfold ansS nextS perform
  dsimp only
  rw [if_neg (show ¬ (isMould sh i = false ∨ isMachine sh j = false) from fun z => z.elim (nM h1) (nK h2))]
  have e : Sr117.fits sh i.toNat j.toNat = fit m k := fits_eq hm hk
  rw [e]
  exact ⟨rfl, rfl⟩
theorem maxRun_ok (sh : Shop) : ansS sh .maxRunning = [(Sr117.maxRunning sh : Int)] ∧ nextS sh .maxRunning = sh := ⟨rfl, rfl⟩
theorem best_ok (sh : Shop) : ansS sh .bestAssignment = [(sizeOf (encodeAssignment (Sr117.bestAssignment sh)) : Int)] ++ encodeAssignment (Sr117.bestAssignment sh) ∧ nextS sh .bestAssignment = sh := by
  rw [sizeOf_enc]
  exact ⟨rfl, rfl⟩
theorem cover_ok (sh : Shop) : ansS sh .minimumCover = [((nI (Sr117.minimumCover sh).1).length : Int) + ((nI (Sr117.minimumCover sh).2).length : Int), ((nI (Sr117.minimumCover sh).1).length : Int)] ++ nI (Sr117.minimumCover sh).1 ++ nI (Sr117.minimumCover sh).2 ∧ nextS sh .minimumCover = sh := by
  rw [nI_len, nI_len]
  exact ⟨rfl, rfl⟩
theorem def_ok (sh : Shop) : ansS sh .maxDeficiency = [((Sr117.maxDeficiency sh).1 : Int)] ++ nI (Sr117.maxDeficiency sh).2 ∧ nextS sh .maxDeficiency = sh := ⟨rfl, rfl⟩
theorem chkA_err {sh : Shop} {es : List Int} (h : areE sh.moulds.length sh.machines.length es = false) : ansS sh (.checkAssignment es) = [-22] ∧ nextS sh (.checkAssignment es) = sh := by
  unfold ansS nextS perform
  simp only
  rw [if_pos (areE_false.mpr h)]
  exact ⟨rfl, rfl⟩
theorem chkA_ok {sh : Shop} {es : List Int} (h : areE sh.moulds.length sh.machines.length es = true) : ansS sh (.checkAssignment es) = [if isVal sh.machines sh.moulds es then 1 else 0, (sizeOf es : Int)] ∧ nextS sh (.checkAssignment es) = sh := by
  unfold ansS nextS perform
  simp only
  rw [if_neg (fun z => by rw [areE_false.mp z] at h; cases h)]
  refine ⟨?_, rfl⟩
  show [boolToInt (isValidAssignment sh (es.map dec)), (runningCount (es.map dec) : Int)] = _
  rw [dec_count h, isVal_eq (ks := sh.machines) (ms := sh.moulds) h]
  rfl
theorem isMouldSet_eq (sh : Shop) (s : List Int) : isMouldSet sh s = ixAll s sh.moulds.length := (ixAll_eq s _).symm
theorem isMachineSet_eq (sh : Shop) (s : List Int) : isMachineSet sh s = ixAll s sh.machines.length := (ixAll_eq s _).symm
theorem chkC_err {sh : Shop} {so ot : List Int} (h : ixAll so sh.moulds.length = false ∨ ixAll ot sh.machines.length = false) : ansS sh (.checkCover so ot) = [-22] ∧ nextS sh (.checkCover so ot) = sh := by
  unfold ansS nextS perform
  simp only [isMouldSet_eq, isMachineSet_eq]
  rw [if_pos h]
  exact ⟨rfl, rfl⟩
theorem chkC_ok {sh : Shop} {so ot : List Int} (h1 : ixAll so sh.moulds.length = true) (h2 : ixAll ot sh.machines.length = true) : ansS sh (.checkCover so ot) = [if isCov sh.machines sh.moulds so ot then 1 else 0, (so.length : Int) + (ot.length : Int)] ∧ nextS sh (.checkCover so ot) = sh := by
  unfold ansS nextS perform
  simp only [isMouldSet_eq, isMachineSet_eq]
  rw [if_neg (by rw [h1, h2]; simp), isCov_eq (fun x hx => (ixAll_mem h1 x hx).1) (fun x hx => (ixAll_mem h2 x hx).1)]
  exact ⟨rfl, rfl⟩
theorem nei_err {sh : Shop} {so : List Int} (h : ixAll so sh.moulds.length = false) : ansS sh (.neighbours so) = [-22] ∧ nextS sh (.neighbours so) = sh := by
  unfold ansS nextS perform
  simp only [isMouldSet_eq]
  rw [if_pos h]
  exact ⟨rfl, rfl⟩
theorem nei_ok {sh : Shop} {so : List Int} (h : ixAll so sh.moulds.length = true) : ansS sh (.neighbours so) = [((nI (nbs sh.machines sh.moulds so sh.machines.length)).length : Int)] ++ nI (nbs sh.machines sh.moulds so sh.machines.length) ∧ nextS sh (.neighbours so) = sh := by
  unfold ansS nextS perform
  simp only [isMouldSet_eq]
  rw [if_neg (by rw [h]; simp), nbs_eq (ixAll_mem h), nI_len]
  exact ⟨rfl, rfl⟩
theorem wo_err {sh : Shop} {j : Int} (h : okI j sh.machines.length = false) : ansS sh (.maxRunningWithout j) = [-2] ∧ nextS sh (.maxRunningWithout j) = sh := by
  unfold ansS nextS perform
  dsimp only
  rw [if_pos (yK h)]
  exact ⟨rfl, rfl⟩
theorem wo_ok {sh : Shop} {j : Int} (h : okI j sh.machines.length = true) : ansS sh (.maxRunningWithout j) = [(Sr117.maxRunning ⟨sh.machines.eraseIdx j.toNat, sh.moulds⟩ : Int)] ∧ nextS sh (.maxRunningWithout j) = sh := by
  unfold ansS nextS perform
  dsimp only
  rw [if_neg (nK h)]
  exact ⟨rfl, rfl⟩
theorem list_ok (sh : Shop) : ansS sh .listRatings = toldR sh.machines ++ toldR sh.moulds ∧ nextS sh .listRatings = sh := ⟨rfl, rfl⟩
/-- at most five of each stay -/
theorem small_next {sh : Shop} (hs : Small sh) (c : Call) : Small (nextS sh c) := by
  cases c with
  | addMachine c p =>
    by_cases h : addErr sh.machines.length c p < 0
    · rw [(add_k_err hs h).2]; exact hs
    · obtain ⟨_, e, _, _, h5⟩ := add_k_ok hs h
      rw [e]
      exact ⟨by rw [List.length_append]; show _ + 1 ≤ 5; omega, hs.m⟩
  | addMould c p =>
    by_cases h : addErr sh.moulds.length c p < 0
    · rw [(add_m_err hs h).2]; exact hs
    · obtain ⟨_, e, _, _, h5⟩ := add_m_ok hs h
      rw [e]
      exact ⟨hs.k, by rw [List.length_append]; show _ + 1 ≤ 5; omega⟩
  | removeMachine j =>
    cases h : okI j sh.machines.length with
    | false => rw [(rem_k_err h).2]; exact hs
    | true =>
      rw [(rem_k_ok h).2]
      exact ⟨Nat.le_trans (List.length_eraseIdx_le _ _) hs.k, hs.m⟩
  | removeMould j =>
    cases h : okI j sh.moulds.length with
    | false => rw [(rem_m_err h).2]; exact hs
    | true =>
      rw [(rem_m_ok h).2]
      exact ⟨hs.k, Nat.le_trans (List.length_eraseIdx_le _ _) hs.m⟩
  | setMachine j c p =>
    by_cases h : setErr sh.machines.length j c p < 0
    · rw [(set_k_err h).2]; exact hs
    · obtain ⟨r, _, _, _, e, _⟩ := set_k_ok h
      rw [e]
      exact ⟨by rw [List.length_set]; exact hs.k, hs.m⟩
  | setMould j c p =>
    by_cases h : setErr sh.moulds.length j c p < 0
    · rw [(set_m_err h).2]; exact hs
    · obtain ⟨r, _, _, _, e, _⟩ := set_m_ok h
      rw [e]
      exact ⟨hs.k, by rw [List.length_set]; exact hs.m⟩
  | _ => exact hs
end My
namespace My
open Sr117 SrCommon
theorem bs_len {n : Nat} : ∀ (l : List (List Int)) (b : List Int × Int), b.1.length = n → (∀ es ∈ l, es.length = n) → (l.foldl bStep b).1.length = n
  | [], _, h, _ => h
  | es :: l, b, h, hl => by
    rw [List.foldl_cons]
    refine bs_len l _ ?_ fun x hx => hl x (List.mem_cons_of_mem _ hx)
    unfold bStep
    split
    · exact hl es (by simp)
    · exact h
theorem best_len (ks ms : List Rating) : (encodeAssignment (bestAssignment ⟨ks, ms⟩)).length = ms.length := by
  rw [← best_eq]
  unfold bAll
  exact bs_len _ _ (by simp) (lay_each (Nat.le_refl _))
theorem cover_len (ks ms : List Rating) : (Sr117.minimumCover ⟨ks, ms⟩).1.length ≤ ms.length ∧ (Sr117.minimumCover ⟨ks, ms⟩).2.length ≤ ks.length := by
  rw [← mc_eq]
  unfold mcOut
  refine mc_small _ _ (fun c hc => ?_) (by simp [mc0])
  obtain ⟨a, _, h⟩ := List.mem_flatMap.mp hc
  obtain ⟨b, _, rfl⟩ := List.mem_map.mp h
  exact ⟨a, b, rfl⟩
theorem def_len (ks ms : List Rating) : (Sr117.maxDeficiency ⟨ks, ms⟩).2.length ≤ ms.length := by
  have := d_small ks ms (2 ^ ms.length)
  rw [d_eq] at this
  exact this
end My
namespace My
open Sr117 SrCommon
/-! ## the calls by their numbers -/
inductive Kd : Int → List Int → List (List Int) → Call → Prop
  | c0 : Kd 0 [] [] .create
  | c1 (x y : Int) : Kd 1 [x, y] [] (.addMachine x y)
  | c2 (x y : Int) : Kd 2 [x, y] [] (.addMould x y)
  | c3 (x : Int) : Kd 3 [x] [] (.removeMachine x)
  | c4 (x : Int) : Kd 4 [x] [] (.removeMould x)
  | c5 (x y z : Int) : Kd 5 [x, y, z] [] (.setMachine x y z)
  | c6 (x y z : Int) : Kd 6 [x, y, z] [] (.setMould x y z)
  | c7 (x y : Int) : Kd 7 [x, y] [] (.fits x y)
  | c8 : Kd 8 [] [] .maxRunning
  | c9 : Kd 9 [] [] .bestAssignment
  | c10 : Kd 10 [] [] .minimumCover
  | c11 : Kd 11 [] [] .maxDeficiency
  | c12 (r : List Int) : Kd 12 [] [r] (.checkAssignment r)
  | c13 (r s : List Int) : Kd 13 [] [r, s] (.checkCover r s)
  | c14 (r : List Int) : Kd 14 [] [r] (.neighbours r)
  | c15 (x : Int) : Kd 15 [x] [] (.maxRunningWithout x)
  | c16 : Kd 16 [] [] .listRatings
inductive Chg : Int → List Int → Call → Prop
  | c1 (x y : Int) : Chg 1 [x, y] (.addMachine x y)
  | c2 (x y : Int) : Chg 2 [x, y] (.addMould x y)
  | c3 (x : Int) : Chg 3 [x] (.removeMachine x)
  | c4 (x : Int) : Chg 4 [x] (.removeMould x)
  | c5 (x y z : Int) : Chg 5 [x, y, z] (.setMachine x y z)
  | c6 (x y z : Int) : Chg 6 [x, y, z] (.setMould x y z)
inductive Ask : Int → List Int → Call → Prop
  | c7 (x y : Int) : Ask 7 [x, y] (.fits x y)
  | c8 : Ask 8 [] .maxRunning
  | c9 : Ask 9 [] .bestAssignment
  | c10 : Ask 10 [] .minimumCover
  | c11 : Ask 11 [] .maxDeficiency
  | c15 (x : Int) : Ask 15 [x] (.maxRunningWithout x)
  | c16 : Ask 16 [] .listRatings
inductive Chk : Int → List (List Int) → Call → Prop
  | c12 (r : List Int) : Chk 12 [r] (.checkAssignment r)
  | c13 (r s : List Int) : Chk 13 [r, s] (.checkCover r s)
  | c14 (r : List Int) : Chk 14 [r] (.neighbours r)
theorem len0 {A : Type} {l : List A} (h : l.length = 0) : l = [] := List.eq_nil_of_length_eq_zero h
theorem len1 {A : Type} {l : List A} (h : l.length = 1) : ∃ x, l = [x] := by
  match l, h with
  | [x], _ => exact ⟨x, rfl⟩
theorem len2 {A : Type} {l : List A} (h : l.length = 2) : ∃ x y, l = [x, y] := by
  match l, h with
  | [x, y], _ => exact ⟨x, y, rfl⟩
theorem len3 {A : Type} {l : List A} (h : l.length = 3) : ∃ x y z, l = [x, y, z] := by
  match l, h with
  | [x, y, z], _ => exact ⟨x, y, z, rfl⟩
/-- each place's numbers and rows -/
theorem shape_cases {p : Int} {n k : Nat} (h : PySr117.shape p = some (n, k)) :
    (p = 0 ∧ n = 0 ∧ k = 0) ∨ (p = 1 ∧ n = 2 ∧ k = 0) ∨ (p = 2 ∧ n = 2 ∧ k = 0) ∨ (p = 3 ∧ n = 1 ∧ k = 0) ∨ (p = 4 ∧ n = 1 ∧ k = 0) ∨ (p = 5 ∧ n = 3 ∧ k = 0) ∨ (p = 6 ∧ n = 3 ∧ k = 0) ∨ (p = 7 ∧ n = 2 ∧ k = 0) ∨ (p = 8 ∧ n = 0 ∧ k = 0) ∨
    (p = 9 ∧ n = 0 ∧ k = 0) ∨ (p = 10 ∧ n = 0 ∧ k = 0) ∨ (p = 11 ∧ n = 0 ∧ k = 0) ∨ (p = 12 ∧ n = 0 ∧ k = 1) ∨ (p = 13 ∧ n = 0 ∧ k = 2) ∨ (p = 14 ∧ n = 0 ∧ k = 1) ∨ (p = 15 ∧ n = 1 ∧ k = 0) ∨ (p = 16 ∧ n = 0 ∧ k = 0) := by
  unfold PySr117.shape at h
  by_cases h0 : p = 0
  · rw [if_pos h0] at h
    obtain ⟨e1, e2⟩ := Prod.mk.inj (Option.some.inj h)
    exact Or.inl ⟨h0, e1.symm, e2.symm⟩
  rw [if_neg h0] at h
  by_cases h1 : p = 1
  · rw [if_pos h1] at h
    obtain ⟨e1, e2⟩ := Prod.mk.inj (Option.some.inj h)
    exact Or.inr <| Or.inl ⟨h1, e1.symm, e2.symm⟩
  rw [if_neg h1] at h
  by_cases h2 : p = 2
  · rw [if_pos h2] at h
    obtain ⟨e1, e2⟩ := Prod.mk.inj (Option.some.inj h)
    exact Or.inr <| Or.inr <| Or.inl ⟨h2, e1.symm, e2.symm⟩
  rw [if_neg h2] at h
  by_cases h3 : p = 3
  · rw [if_pos h3] at h
    obtain ⟨e1, e2⟩ := Prod.mk.inj (Option.some.inj h)
    exact Or.inr <| Or.inr <| Or.inr <| Or.inl ⟨h3, e1.symm, e2.symm⟩
  rw [if_neg h3] at h
  by_cases h4 : p = 4
  · rw [if_pos h4] at h
    obtain ⟨e1, e2⟩ := Prod.mk.inj (Option.some.inj h)
    exact Or.inr <| Or.inr <| Or.inr <| Or.inr <| Or.inl ⟨h4, e1.symm, e2.symm⟩
  rw [if_neg h4] at h
  by_cases h5 : p = 5
  · rw [if_pos h5] at h
    obtain ⟨e1, e2⟩ := Prod.mk.inj (Option.some.inj h)
    exact Or.inr <| Or.inr <| Or.inr <| Or.inr <| Or.inr <| Or.inl ⟨h5, e1.symm, e2.symm⟩
  rw [if_neg h5] at h
  by_cases h6 : p = 6
  · rw [if_pos h6] at h
    obtain ⟨e1, e2⟩ := Prod.mk.inj (Option.some.inj h)
    exact Or.inr <| Or.inr <| Or.inr <| Or.inr <| Or.inr <| Or.inr <| Or.inl ⟨h6, e1.symm, e2.symm⟩
  rw [if_neg h6] at h
  by_cases h7 : p = 7
  · rw [if_pos h7] at h
    obtain ⟨e1, e2⟩ := Prod.mk.inj (Option.some.inj h)
    exact Or.inr <| Or.inr <| Or.inr <| Or.inr <| Or.inr <| Or.inr <| Or.inr <| Or.inl ⟨h7, e1.symm, e2.symm⟩
  rw [if_neg h7] at h
  by_cases h8 : p = 8
  · rw [if_pos h8] at h
    obtain ⟨e1, e2⟩ := Prod.mk.inj (Option.some.inj h)
    exact Or.inr <| Or.inr <| Or.inr <| Or.inr <| Or.inr <| Or.inr <| Or.inr <| Or.inr <| Or.inl ⟨h8, e1.symm, e2.symm⟩
  rw [if_neg h8] at h
  by_cases h9 : p = 9
  · rw [if_pos h9] at h
    obtain ⟨e1, e2⟩ := Prod.mk.inj (Option.some.inj h)
    exact Or.inr <| Or.inr <| Or.inr <| Or.inr <| Or.inr <| Or.inr <| Or.inr <| Or.inr <| Or.inr <| Or.inl ⟨h9, e1.symm, e2.symm⟩
  rw [if_neg h9] at h
  by_cases h10 : p = 10
  · rw [if_pos h10] at h
    obtain ⟨e1, e2⟩ := Prod.mk.inj (Option.some.inj h)
    exact Or.inr <| Or.inr <| Or.inr <| Or.inr <| Or.inr <| Or.inr <| Or.inr <| Or.inr <| Or.inr <| Or.inr <| Or.inl ⟨h10, e1.symm, e2.symm⟩
  rw [if_neg h10] at h
  by_cases h11 : p = 11
  · rw [if_pos h11] at h
    obtain ⟨e1, e2⟩ := Prod.mk.inj (Option.some.inj h)
    exact Or.inr <| Or.inr <| Or.inr <| Or.inr <| Or.inr <| Or.inr <| Or.inr <| Or.inr <| Or.inr <| Or.inr <| Or.inr <| Or.inl ⟨h11, e1.symm, e2.symm⟩
  rw [if_neg h11] at h
  by_cases h12 : p = 12
  · rw [if_pos h12] at h
    obtain ⟨e1, e2⟩ := Prod.mk.inj (Option.some.inj h)
    exact Or.inr <| Or.inr <| Or.inr <| Or.inr <| Or.inr <| Or.inr <| Or.inr <| Or.inr <| Or.inr <| Or.inr <| Or.inr <| Or.inr <| Or.inl ⟨h12, e1.symm, e2.symm⟩
  rw [if_neg h12] at h
  by_cases h13 : p = 13
  · rw [if_pos h13] at h
    obtain ⟨e1, e2⟩ := Prod.mk.inj (Option.some.inj h)
    exact Or.inr <| Or.inr <| Or.inr <| Or.inr <| Or.inr <| Or.inr <| Or.inr <| Or.inr <| Or.inr <| Or.inr <| Or.inr <| Or.inr <| Or.inr <| Or.inl ⟨h13, e1.symm, e2.symm⟩
  rw [if_neg h13] at h
  by_cases h14 : p = 14
  · rw [if_pos h14] at h
    obtain ⟨e1, e2⟩ := Prod.mk.inj (Option.some.inj h)
    exact Or.inr <| Or.inr <| Or.inr <| Or.inr <| Or.inr <| Or.inr <| Or.inr <| Or.inr <| Or.inr <| Or.inr <| Or.inr <| Or.inr <| Or.inr <| Or.inr <| Or.inl ⟨h14, e1.symm, e2.symm⟩
  rw [if_neg h14] at h
  by_cases h15 : p = 15
  · rw [if_pos h15] at h
    obtain ⟨e1, e2⟩ := Prod.mk.inj (Option.some.inj h)
    exact Or.inr <| Or.inr <| Or.inr <| Or.inr <| Or.inr <| Or.inr <| Or.inr <| Or.inr <| Or.inr <| Or.inr <| Or.inr <| Or.inr <| Or.inr <| Or.inr <| Or.inr <| Or.inl ⟨h15, e1.symm, e2.symm⟩
  rw [if_neg h15] at h
  by_cases h16 : p = 16
  · rw [if_pos h16] at h
    obtain ⟨e1, e2⟩ := Prod.mk.inj (Option.some.inj h)
    exact Or.inr <| Or.inr <| Or.inr <| Or.inr <| Or.inr <| Or.inr <| Or.inr <| Or.inr <| Or.inr <| Or.inr <| Or.inr <| Or.inr <| Or.inr <| Or.inr <| Or.inr <| Or.inr <| ⟨h16, e1.symm, e2.symm⟩
  rw [if_neg h16] at h
  cases h
theorem kd_of {p : Int} {a : List Int} {xs : List (List Int)} (h : PySr117.shape p = some (a.length, xs.length)) : ∃ call, Kd p a xs call ∧ Sr117Neutral.parseCall ((p :: a) :: xs) = some call := by
  rcases shape_cases h with ⟨rfl, h1, h2⟩ | ⟨rfl, h1, h2⟩ | ⟨rfl, h1, h2⟩ | ⟨rfl, h1, h2⟩ | ⟨rfl, h1, h2⟩ | ⟨rfl, h1, h2⟩ | ⟨rfl, h1, h2⟩ | ⟨rfl, h1, h2⟩ | ⟨rfl, h1, h2⟩ | ⟨rfl, h1, h2⟩ | ⟨rfl, h1, h2⟩ | ⟨rfl, h1, h2⟩ | ⟨rfl, h1, h2⟩ | ⟨rfl, h1, h2⟩ | ⟨rfl, h1, h2⟩ | ⟨rfl, h1, h2⟩ | ⟨rfl, h1, h2⟩
  · obtain rfl := len0 h1; obtain rfl := len0 h2; exact ⟨_, .c0, rfl⟩
  · obtain ⟨x, y, rfl⟩ := len2 h1; obtain rfl := len0 h2; exact ⟨_, .c1 x y, rfl⟩
  · obtain ⟨x, y, rfl⟩ := len2 h1; obtain rfl := len0 h2; exact ⟨_, .c2 x y, rfl⟩
  · obtain ⟨x, rfl⟩ := len1 h1; obtain rfl := len0 h2; exact ⟨_, .c3 x, rfl⟩
  · obtain ⟨x, rfl⟩ := len1 h1; obtain rfl := len0 h2; exact ⟨_, .c4 x, rfl⟩
  · obtain ⟨x, y, z, rfl⟩ := len3 h1; obtain rfl := len0 h2; exact ⟨_, .c5 x y z, rfl⟩
  · obtain ⟨x, y, z, rfl⟩ := len3 h1; obtain rfl := len0 h2; exact ⟨_, .c6 x y z, rfl⟩
  · obtain ⟨x, y, rfl⟩ := len2 h1; obtain rfl := len0 h2; exact ⟨_, .c7 x y, rfl⟩
  · obtain rfl := len0 h1; obtain rfl := len0 h2; exact ⟨_, .c8, rfl⟩
  · obtain rfl := len0 h1; obtain rfl := len0 h2; exact ⟨_, .c9, rfl⟩
  · obtain rfl := len0 h1; obtain rfl := len0 h2; exact ⟨_, .c10, rfl⟩
  · obtain rfl := len0 h1; obtain rfl := len0 h2; exact ⟨_, .c11, rfl⟩
  · obtain rfl := len0 h1; obtain ⟨r, rfl⟩ := len1 h2; exact ⟨_, .c12 r, rfl⟩
  · obtain rfl := len0 h1; obtain ⟨r, s, rfl⟩ := len2 h2; exact ⟨_, .c13 r s, rfl⟩
  · obtain rfl := len0 h1; obtain ⟨r, rfl⟩ := len1 h2; exact ⟨_, .c14 r, rfl⟩
  · obtain ⟨x, rfl⟩ := len1 h1; obtain rfl := len0 h2; exact ⟨_, .c15 x, rfl⟩
  · obtain rfl := len0 h1; obtain rfl := len0 h2; exact ⟨_, .c16, rfl⟩
def NUMS : List Int := [0, 2, 2, 1, 1, 3, 3, 2, 0, 0, 0, 0, 0, 0, 0, 1, 0]
def RWS : List Int := [0, 0, 0, 0, 0, 0, 0, 0, 0, 0, 0, 0, 1, 2, 1, 0, 0]
theorem kd_nums {p : Int} {a : List Int} {xs : List (List Int)} {c : Call} (h : Kd p a xs c) : 0 ≤ p ∧ NUMS[p.toNat]? = some (a.length : Int) ∧ RWS[p.toNat]? = some (xs.length : Int) ∧ xs.length ≤ 2 := by
  cases h <;> exact ⟨by decide, rfl, rfl, by simp⟩
/-! ## the state: whether there is a shop, the shop -/
def stOf (b : Bool) (sh : Shop) : State := if b then some sh else none
def isCr : Call → Bool
  | .create => true
  | _ => false
def nB (b : Bool) (c : Call) : Bool := isCr c || b
def nSh (b : Bool) (sh : Shop) (c : Call) : Shop := if isCr c then ⟨[], []⟩ else if b then nextS sh c else sh
def nAns (b : Bool) (sh : Shop) (c : Call) : List Int := if isCr c then [0] else if b then ansS sh c else [-11]
theorem small_nSh {b : Bool} {sh : Shop} (h : Small sh) (c : Call) : Small (nSh b sh c) := by
  unfold nSh
  split
  · exact ⟨by decide, by decide⟩
  · split
    · exact small_next h c
    · exact h
theorem step_eq (b : Bool) (sh : Shop) (c : Call) : (Sr117.step (stOf b sh) c).1 = stOf (nB b c) (nSh b sh c) ∧ (Sr117.step (stOf b sh) c).2.code :: (Sr117.step (stOf b sh) c).2.values = nAns b sh c := by
  cases hc : isCr c with
  | true =>
    cases c <;> first | (cases hc; done) | exact ⟨rfl, rfl⟩
  | false =>
    have e : ∀ s : State, Sr117.step s c = match s with
        | none => (none, .ofCode SrCommon.notCreated)
        | some shop => match perform shop c with
          | (some changed, result) => (some changed, result)
          | (none, result) => (s, result) := by
      intro s
      cases c <;> first | (cases hc; done) | rfl
    rw [e]
    unfold nB nSh nAns
    rw [hc]
    cases b with
    | false => exact ⟨rfl, rfl⟩
    | true =>
      show ((match perform sh c with
          | (some changed, result) => (some changed, result)
          | (none, result) => (some sh, result)) : State × Result).1 = some (nextS sh c) ∧ _
      unfold nextS ansS
      cases hp : perform sh c with
      | mk o r =>
        cases o with
        | none =>
          refine ⟨rfl, ?_⟩
          show ((match perform sh c with
            | (some changed, result) => (some changed, result)
            | (none, result) => (some sh, result)) : State × Result).2.code :: ((match perform sh c with
            | (some changed, result) => (some changed, result)
            | (none, result) => (some sh, result)) : State × Result).2.values = _
          rw [hp]
          rfl
        | some s2 =>
          refine ⟨rfl, ?_⟩
          show ((match perform sh c with
            | (some changed, result) => (some changed, result)
            | (none, result) => (some sh, result)) : State × Result).2.code :: ((match perform sh c with
            | (some changed, result) => (some changed, result)
            | (none, result) => (some sh, result)) : State × Result).2.values = _
          rw [hp]
          rfl
theorem nstep_eq (b : Bool) (sh : Shop) {c : List (List Int)} {call : Call} (h : Sr117Neutral.parseCall c = some call) : Sr117Neutral.step (stOf b sh) c = (stOf (nB b call) (nSh b sh call), nAns b sh call) := by
  unfold Sr117Neutral.step
  rw [h]
  show ((Sr117.step (stOf b sh) call).1, (Sr117.step (stOf b sh) call).2.code :: (Sr117.step (stOf b sh) call).2.values) = _
  rw [(step_eq b sh call).1, (step_eq b sh call).2]
/-! ## the calls, one behind another -/
abbrev Raw := List (List Int)
def stAt (cs : List Raw) : State := cs.foldl (fun s c => (Sr117Neutral.step s c).1) Sr117Neutral.start
def outs (cs : List Raw) : List (List Int) := PyFlat.played Sr117Neutral.step Sr117Neutral.start cs
theorem played_app : ∀ (cs : List Raw) (s : State) (c : Raw), PyFlat.played Sr117Neutral.step s (cs ++ [c]) = PyFlat.played Sr117Neutral.step s cs ++ [(Sr117Neutral.step (cs.foldl (fun s c => (Sr117Neutral.step s c).1) s) c).2]
  | [], _, _ => rfl
  | d :: cs, s, c => by
    show (Sr117Neutral.step s d).2 :: PyFlat.played Sr117Neutral.step (Sr117Neutral.step s d).1 (cs ++ [c]) = _
    rw [played_app cs]
    rfl
theorem outs_app (cs : List Raw) (c : Raw) : outs (cs ++ [c]) = outs cs ++ [(Sr117Neutral.step (stAt cs) c).2] := played_app cs _ c
theorem stAt_app (cs : List Raw) (c : Raw) : stAt (cs ++ [c]) = (Sr117Neutral.step (stAt cs) c).1 := by
  unfold stAt
  rw [List.foldl_append]
  rfl
theorem told_app (l : List (List Int)) (a : List Int) : PyFlat.told (l ++ [a]) = PyFlat.told l ++ ((a.length : Int) :: a) := by
  unfold PyFlat.told
  rw [List.flatMap_append]
  simp
theorem told_cat (l m : List (List Int)) : PyFlat.told (l ++ m) = PyFlat.told l ++ PyFlat.told m := by
  unfold PyFlat.told
  rw [List.flatMap_append]
theorem played_cat : ∀ (cs ds : List Raw) (s : State), ∃ m, PyFlat.played Sr117Neutral.step s (cs ++ ds) = PyFlat.played Sr117Neutral.step s cs ++ m
  | [], ds, s => ⟨_, rfl⟩
  | d :: cs, ds, s => by
    obtain ⟨m, h⟩ := played_cat cs ds (Sr117Neutral.step s d).1
    refine ⟨m, ?_⟩
    show (Sr117Neutral.step s d).2 :: PyFlat.played Sr117Neutral.step (Sr117Neutral.step s d).1 (cs ++ ds) = _
    rw [h]
    rfl
theorem told_le (cs : List Raw) (i : Nat) : (PyFlat.told (outs (cs.take i))).length ≤ (PyFlat.told (outs cs)).length := by
  obtain ⟨m, h⟩ := played_cat (cs.take i) (cs.drop i) Sr117Neutral.start
  rw [List.take_append_drop] at h
  unfold outs
  rw [h, told_cat, List.length_append]
  omega
theorem put_app : ∀ (l m : List Raw), PyFlat.put (l ++ m) = PyFlat.put l ++ PyFlat.put m
  | [], m => rfl
  | c :: l, m => by
    show PyFlat.put1 c ++ PyFlat.put (l ++ m) = _
    rw [put_app l m, ← List.append_assoc]
    rfl
theorem putRows_app : ∀ (l m : List (List Int)), PyFlat.putRows (l ++ m) = PyFlat.putRows l ++ PyFlat.putRows m
  | [], m => rfl
  | c :: l, m => by
    show PyFlat.putRow c ++ PyFlat.putRows (l ++ m) = _
    rw [putRows_app l m, ← List.append_assoc]
    rfl
theorem whole_eq (c : Raw) : PySr117.whole c = c := by
  unfold PySr117.whole
  repeat' split
  all_goals rfl
theorem map_whole (cs : List Raw) : cs.map PySr117.whole = cs := by
  have : PySr117.whole = id := funext whole_eq
  rw [this, List.map_id]
/-- what is asked of the request -/
theorem asked_of {ns : List Int} (h : PySr117.answers_asked ns = true) : ∃ raw : List Raw, ns = PyFlat.put raw ∧ (∀ c ∈ raw, ∃ p a xs call, c = (p :: a) :: xs ∧ Kd p a xs call ∧ Sr117Neutral.parseCall c = some call ∧ ∀ r ∈ xs, r.length ≤ 100) ∧
    PySr117.answers ns = PyFlat.told (outs raw) ∧ (PyFlat.told (outs raw)).length ≤ 10000000 := by
  unfold PySr117.answers_asked at h
  cases hc : PyFlat.calls PySr117.shape ns.length ns with
  | none => rw [hc] at h; cases h
  | some raw =>
    rw [hc] at h
    have h2 : (!raw.isEmpty && PyFlat.atMost 60 raw && PyInside.calls PySr117.bound raw && Sr117Neutral.asked (raw.map PySr117.whole) && PyFlat.short 10000000 (PySr117.answers ns)) = true := h
    rw [Bool.and_eq_true, Bool.and_eq_true, Bool.and_eq_true, map_whole] at h2
    obtain ⟨⟨⟨_, _⟩, h3⟩, h4⟩ := h2
    have ea : PySr117.answers ns = PyFlat.told (outs raw) := by
      unfold PySr117.answers PySr117.calls
      rw [hc]
      show PyFlat.told (PyFlat.played Sr117Neutral.step Sr117Neutral.start (raw.map PySr117.whole)) = _
      rw [map_whole]
      rfl
    have hp := PyFlat.put_calls _ _ _ hc
    refine ⟨raw, hp.1, fun c hcm => ?_, ea, ?_⟩
    · obtain ⟨p, a, xs, rfl, hs⟩ := hp.2 c hcm
      obtain ⟨call, hk, hpc⟩ := kd_of hs
      refine ⟨p, a, xs, call, rfl, hk, hpc, fun r hr => ?_⟩
      have h5 : Sr117Neutral.asked1 ((p :: a) :: xs) = true := by
        unfold Sr117Neutral.asked at h3
        rw [Bool.and_eq_true, Bool.and_eq_true, List.all_eq_true] at h3
        exact h3.2.2 _ hcm
      have hla : ∀ l : List Int, Sr117Neutral.isListArgument l = true → l.length ≤ 100 := fun l q => by
        unfold Sr117Neutral.isListArgument at q
        rw [Bool.and_eq_true, decide_eq_true_eq] at q
        omega
      cases hk with
      | c12 r0 =>
        rcases List.mem_singleton.mp hr with rfl
        exact hla _ h5
      | c13 r0 s0 =>
        have h6 : (Sr117Neutral.isListArgument r0 && Sr117Neutral.isListArgument s0) = true := h5
        rw [Bool.and_eq_true] at h6
        rcases List.mem_cons.mp hr with rfl | hr
        · exact hla _ h6.1
        · rcases List.mem_singleton.mp hr with rfl
          exact hla _ h6.2
      | c14 r0 =>
        rcases List.mem_singleton.mp hr with rfl
        exact hla _ h5
      | _ => cases hr
    · unfold PyFlat.short at h4
      rw [decide_eq_true_eq, ea] at h4
      exact h4
end My
/-! ### the layer of this proof: places of the text, what the heap holds, loops -/
namespace My
open PySem PySem.Spec PyProof.Rows L2
def top (i : Nat) : Stmt := PySem.Challenge.pw_mouldpress_s01_answers.main.body.getD i (.Pass ⟨0, 0, 0, 0⟩)
/-! #### lists of things of one kind -/
def Al {B : Type} (R : V → B → Prop) : List V → List B → Prop
  | [], [] => True
  | v :: vs, b :: bs => R v b ∧ Al R vs bs
  | _, _ => False
section
variable {B : Type} {R S : V → B → Prop}
theorem Al.nil : Al R [] [] := trivial
theorem Al.cons {v : V} {b : B} {vs : List V} {bs : List B} (h : R v b) (t : Al R vs bs) : Al R (v :: vs) (b :: bs) := ⟨h, t⟩
theorem Al.len : ∀ {vs : List V} {bs : List B}, Al R vs bs → vs.length = bs.length
  | [], [], _ => rfl
  | _ :: _, _ :: _, h => congrArg (· + 1) (Al.len h.2)
  | [], _ :: _, h => h.elim
  | _ :: _, [], h => h.elim
theorem Al.mono (f : ∀ v b, R v b → S v b) : ∀ {vs : List V} {bs : List B}, Al R vs bs → Al S vs bs
  | [], [], _ => trivial
  | _ :: _, _ :: _, h => ⟨f _ _ h.1, Al.mono f h.2⟩
  | [], _ :: _, h => h.elim
  | _ :: _, [], h => h.elim
theorem Al.app : ∀ {vs ws : List V} {bs cs : List B}, Al R vs bs → Al R ws cs → Al R (vs ++ ws) (bs ++ cs)
  | [], _, [], _, _, h => h
  | _ :: _, _, _ :: _, _, h, g => ⟨h.1, Al.app h.2 g⟩
  | [], _, _ :: _, _, h, _ => h.elim
  | _ :: _, _, [], _, h, _ => h.elim
theorem Al.take : ∀ {vs : List V} {bs : List B} (n : Nat), Al R vs bs → Al R (vs.take n) (bs.take n)
  | _, _, 0, _ => trivial
  | [], [], _ + 1, _ => trivial
  | _ :: _, _ :: _, n + 1, h => ⟨h.1, Al.take n h.2⟩
  | [], _ :: _, _ + 1, h => h.elim
  | _ :: _, [], _ + 1, h => h.elim
theorem Al.drop : ∀ {vs : List V} {bs : List B} (n : Nat), Al R vs bs → Al R (vs.drop n) (bs.drop n)
  | _, _, 0, h => h
  | [], [], _ + 1, _ => trivial
  | _ :: _, _ :: _, n + 1, h => Al.drop n h.2
  | [], _ :: _, _ + 1, h => h.elim
  | _ :: _, [], _ + 1, h => h.elim
theorem Al.get : ∀ {vs : List V} {bs : List B} {i : Nat} {v : V}, Al R vs bs → vs[i]? = some v → ∃ b, bs[i]? = some b ∧ R v b
  | [], [], _, _, _, e => by simp at e
  | v :: _, b :: _, 0, _, h, e => by
    have e' : v = _ := Option.some.inj e
    subst e'
    exact ⟨b, rfl, h.1⟩
  | _ :: _, _ :: _, i + 1, _, h, e => Al.get (i := i) h.2 (by simpa using e)
  | [], _ :: _, _, _, h, _ => h.elim
  | _ :: _, [], _, _, h, _ => h.elim
theorem Al.got {vs : List V} {bs : List B} {i : Nat} {b : B} (h : Al R vs bs) (e : bs[i]? = some b) : ∃ v, vs[i]? = some v ∧ R v b := by
  obtain ⟨v, hv⟩ := get_of (l := vs) (i := i) (by have := lt_of e; rw [h.len]; exact this)
  obtain ⟨b', hb, r⟩ := h.get hv
  rw [e] at hb
  cases hb
  exact ⟨v, hv, r⟩
end
/-! #### heaps -/
theorem Same.new {H : Hp} {p : Addr} {o : HO} (h : H p = none) : Same H (upd H p o) := fun a u e => by
  rw [upd_ne (ne_of_none e h)]; exact e
theorem Same.mut {H H' : Hp} {p : Addr} {o : HO} (e : Same H H') (h : H p = none) : Same H (upd H' p o) := fun a u ha => by
  rw [upd_ne (ne_of_none ha h)]; exact e a u ha
theorem Same.sqt {K : PySem.W.Frag} {H H' : Hp} {a : Addr} {xs : List V} (e : Same H H') (h : SqT K H a xs) : SqT K H' a xs := by
  rcases h with (h | ⟨o, h⟩) | h
  · exact .inl (.inl (e _ _ h))
  · exact .inl (.inr ⟨o, e _ _ h⟩)
  · exact .inr h
/-- a list of whole numbers at p -/
def iV (ns : List Int) : List V := ns.map V.int
theorem iV_get {ns : List Int} {i : Nat} {y : V} (h : (iV ns)[i]? = some y) : ∃ z, ns[i]? = some z ∧ y = .int z := get_map h
theorem iV_at {ns : List Int} {i : Nat} {z : Int} (h : ns[i]? = some z) : (iV ns)[i]? = some (.int z) := by
  unfold iV; rw [List.getElem?_map, h]; rfl
theorem iV_len (ns : List Int) : (iV ns).length = ns.length := List.length_map _
theorem iV_app (a b : List Int) : iV (a ++ b) = iV a ++ iV b := List.map_append
theorem iV_flat (ns : List Int) : (iV ns).all flatV = true := by
  unfold iV
  induction ns with
  | nil => rfl
  | cons a r ih => exact ih
theorem inV_iV (z : Int) (ns : List Int) : inV (.int z) (iV ns) = ns.contains z := by
  unfold inV iV
  induction ns with
  | nil => rfl
  | cons a r ih =>
    show (eqV (V.int a) (V.int z) || _) = _
    rw [ih, List.contains_cons]
    congr 1
    show (a == z) = (z == a)
    rw [Bool.eq_iff_iff, beq_iff_eq, beq_iff_eq]
    exact eq_comm
/-- the rating at v -/
def rV (r : Sr117.Rating) : List V := [.int r.clampForce, .int r.platenSize]
def RtAt (H : Hp) (v : V) (r : Sr117.Rating) : Prop := ∃ t, v = .ref t ∧ H t = some (.tup (rV r))
/-- a list of ratings stands at p -/
def RtL (H : Hp) (p : Addr) (rs : List Sr117.Rating) : Prop := ∃ vs, H p = some (.lst vs) ∧ Al (RtAt H) vs rs
theorem RtAt.same {H H' : Hp} (e : Same H H') {v : V} {r : Sr117.Rating} (h : RtAt H v r) : RtAt H' v r := let ⟨t, a, b⟩ := h; ⟨t, a, e _ _ b⟩
theorem Rts.same {H H' : Hp} (e : Same H H') {vs : List V} {rs : List Sr117.Rating} (h : Al (RtAt H) vs rs) : Al (RtAt H') vs rs := h.mono fun _ _ q => q.same e
theorem RtL.same {H H' : Hp} (e : Same H H') {p : Addr} {rs : List Sr117.Rating} (h : RtL H p rs) : RtL H' p rs := let ⟨vs, a, b⟩ := h; ⟨vs, e _ _ a, Rts.same e b⟩
/-! #### slices, tests, answers -/
theorem cut_take (xs : List V) (i : Nat) : cutV xs none (some (i : Int)) = xs.take i := by
  unfold cutV
  rw [HT.sIx_none, HT.sIx_nat, List.drop_zero, Nat.sub_zero]
  by_cases h : i ≤ xs.length
  · rw [Nat.min_eq_left h]
  · rw [Nat.min_eq_right (by omega), List.take_length, List.take_of_length_le (by omega)]
theorem cut_drop (xs : List V) (i : Nat) : cutV xs (some (i : Int)) none = xs.drop i := by
  unfold cutV
  rw [HT.sIx_none, HT.sIx_nat]
  by_cases h : i ≤ xs.length
  · rw [Nat.min_eq_left h, List.take_of_length_le (by rw [List.length_drop]; omega)]
  · rw [Nat.min_eq_right (by omega), List.drop_of_length_le (Nat.le_refl _), List.drop_of_length_le (by omega), List.take_nil]
theorem cut_mid (xs : List V) {i j : Nat} (h : i ≤ j) (hj : j ≤ xs.length) : cutV xs (some (i : Int)) (some (j : Int)) = (xs.drop i).take (j - i) := by
  unfold cutV
  rw [HT.sIx_nat, HT.sIx_nat, Nat.min_eq_left hj, Nat.min_eq_left (Nat.le_trans h hj)]
theorem ifb {b : Bool} {A B : Prop} (h1 : b = true → A) (h2 : b = false → B) : if b = true then A else B := by
  cases b with
  | true => exact iteT (h1 rfl)
  | false => exact iteF (h2 rfl)
theorem cb {Q : VK} {H : Hp} {a b : Bool} (k : Q (.bl a) H) (e : a = b) : Q (.bl b) H := by rw [← e]; exact k
theorem ci {Q : VK} {H : Hp} {a b : Int} (k : Q (.int a) H) (e : a = b) : Q (.int b) H := by rw [← e]; exact k
theorem sz {n m : Nat} (h : n ≤ m) (hm : m ≤ 100000 := by decide) : n ≤ sizeLine := Nat.le_trans (Nat.le_trans h hm) (by decide)
theorem szl {n m : Nat} (h : n ≤ m) (hm : m ≤ 100000 := by decide) : n < sizeLine := Nat.lt_of_le_of_lt (Nat.le_trans h hm) (by decide)
/-! #### defs: what a caller needs -/
structure Cl (P : Program) (w : World) (K : PySem.W.Frag) (mg : Str → Option Value) (base : Heap) (x : Str) (k : Nat) (f : Addr) (fd : FuncData) (ps : List Str) (sp : Sp) : Prop where
  ok : FnOk P w K mg base CX0 k f fd ps sp
  gl : mg x = some (.ref f)
  kp : PySem.W.keepIn K (.ref f) = true
  bi : Binds K fd ps []
/-- a def of the top, as it stands behind the top: x the name it is called by -/
structure Dn (K : PySem.W.Frag) (mg : Str → Option Value) (x y : Str) (st : Stmt) (ps : List Str) (f : Addr) (fd : FuncData) : Prop where
  fn : Fun K y y st f fd
  gl : mg x = some (.ref f)
  bi : Binds K fd ps []
theorem Dn.cl {P : Program} {w : World} {K : PySem.W.Frag} {mg : Str → Option Value} {base : Heap} {x y : Str} {st : Stmt} {k : Nat} {ps : List Str} {f : Addr} {fd : FuncData} {sp : Sp} (F : Dn K mg x y st ps f fd) (h : FnOk P w K mg base CX0 k f fd ps sp) :
    Cl P w K mg base x k f fd ps sp := ⟨h, F.gl, F.fn.kp, F.bi⟩
/-- what the top holds but for defs -/
structure Txt (K : PySem.W.Frag) (mg : Str → Option Value) (C : Addr) : Prop where
  cl : Cls K C
  nT : NoAttr K C "is_there"
  nK : NoAttr K C "machines"
  nM : NoAttr K C "moulds"
  gC : mg "Hall" = some (.ref C)
  len : mg "len" = none
  range : mg "range" = none
  enumerate : mg "enumerate" = none
  int : mg "int" = none
  least : ∃ t, mg "LEAST_RATING" = some (.int 1 t)
  most : ∃ t, mg "MOST_RATING" = some (.int 999 t)
  nowhere : ∃ t, mg "NOWHERE" = some (.int (-1) t)
  noInst : ∃ t, mg "NO_INSTANCE" = some (.int (-11) t)
  noSuch : ∃ t, mg "NO_SUCH" = some (.int (-2) t)
  bad : ∃ t, mg "BAD_RANGE" = some (.int (-22) t)
  full : ∃ t, mg "FULL" = some (.int (-28) t)
  most5 : ∃ t, mg "MOST" = some (.int 5 t)
  bits : ∃ b, mg "BITS" = some (.ref b) ∧ ∀ H, SqT K H b (iV [1, 2, 4, 8, 16, 32])
  numbers : ∃ b, mg "NUMBERS" = some (.ref b) ∧ ∀ H, SqT K H b (iV [0, 2, 2, 1, 1, 3, 3, 2, 0, 0, 0, 0, 0, 0, 0, 1, 0])
  rows : ∃ b, mg "ROWS" = some (.ref b) ∧ ∀ H, SqT K H b (iV [0, 0, 0, 0, 0, 0, 0, 0, 0, 0, 0, 0, 1, 2, 1, 0, 0])
/-! #### expressions and loops -/
section
variable {X : Cx}
/-- a module's int -/
theorem pgi {x : Str} {pos : Pos} {i : Int} (hm : ∃ t, X.mg x = some (.int i t)) (hg : Gl X x := by rfl) (hd : (x == ("__debug__" : Str)) = false := by decide) : PE X (.Name x pos) (tC (.int i)) :=
  let ⟨_, e⟩ := hm
  pe_glob hg e ⟨_, rfl⟩ hd
/-- a module's object -/
theorem pgr {x : Str} {pos : Pos} {a : Addr} (hm : X.mg x = some (.ref a)) (hg : Gl X x := by rfl) (hd : (x == ("__debug__" : Str)) = false := by decide) : PE X (.Name x pos) (tC (.ref a)) := pe_glob hg hm rfl hd
end
/-- o[i] of a list within a comprehension's block -/
theorem ix_listK {X : Cx} {K : PySem.W.Frag} (h : X.K = K) : IxR X (rIxL K) := by
  subst h
  exact ix_list
/-- over enumerate of a list that the body leaves as it is -/
theorem for_enum {K : PySem.W.Frag} {a : Addr} {xs : List V} {i1 i2 : Nat} {tb : TS} {D : Ends} {σ : L2.St} {H : Hp} (Pv : Nat → L2.St → Hp → Prop) (h0 : Pv 0 σ H) (hl : ∀ i σ H, i ≤ xs.length → Pv i σ H → SqL K H a xs)
    (hs : ∀ i x σ H H2, xs[i]? = some x → Pv i σ H → Same H H2 → tb { D with nx := Pv (i + 1), ct := Pv (i + 1), bk := D.nx } ((σ.set i1 (some (.int (i : Nat)))).set i2 (some x)) H2) (hd : ∀ σ H, Pv xs.length σ H → D.nx σ H) :
    ∃ W : Nat → Nat → L2.St → Hp → Prop, (∃ m, W 0 m σ H) ∧ ∀ i m σ H, W i m σ H →
      ((Ite K a).stop i H ∧ D.nx σ H) ∨ ((Ite K a).go i H ∧ ∃ N : L2.St → Hp → Prop, (∀ σ' H', N σ' H' → ∃ m', m' < m ∧ W (i + 1) m' σ' H') ∧ ∀ x H', (Ite K a).yld i H x H' →
        gTup K 2 (gCons (gName i1) (gCons (gName i2) gNil)) x σ H' fun σ2 H2 => tb { D with nx := N, ct := N, bk := D.nx } σ2 H2) := by
  refine ⟨fun i m σ H => m = xs.length - i ∧ i ≤ xs.length ∧ Pv i σ H, ⟨xs.length, by simp, Nat.zero_le _, h0⟩, ?_⟩
  rintro i m σ H ⟨rfl, hi, p⟩
  have q := hl i σ H hi p
  by_cases hlt : i < xs.length
  · refine .inr ⟨⟨xs, xs[i], q, by simp [hlt]⟩, Pv (i + 1), fun σ' H' p' => ⟨xs.length - (i + 1), by omega, rfl, hlt, p'⟩, fun x H' y => ?_⟩
    obtain ⟨T, v, e, hT, eH, y⟩ := y
    subst e eH
    refine ⟨T, _, rfl, SqT.of upd_same, rfl, _, _, rfl, _, _, rfl, rfl, ?_⟩
    exact hs i v σ H _ (y xs q) p (Same.new hT)
  · have e : i = xs.length := by omega
    subst e
    exact .inl ⟨⟨xs, q, Nat.le_refl _⟩, hd σ H p⟩
end My
namespace My
open PySem PySem.Spec PyProof.Rows L2
abbrev s_is_rating : Stmt := (top 3)
abbrev nsc_is_rating : List Str := ["clamp_force", "platen_size"]
theorem sc_is_rating : FnScope nsc_is_rating ["clamp_force", "platen_size"] (defScope s_is_rating) := ⟨rfl, rfl, rfl, by decide +kernel, rfl, by decide +kernel, by decide +kernel⟩
abbrev s_fits : Stmt := (top 4)
abbrev nsc_fits : List Str := ["mould", "machine"]
theorem sc_fits : FnScope nsc_fits ["mould", "machine"] (defScope s_fits) := ⟨rfl, rfl, rfl, by decide +kernel, rfl, by decide +kernel, by decide +kernel⟩
abbrev s_is_index : Stmt := (top 6)
abbrev nsc_is_index : List Str := ["number", "many"]
theorem sc_is_index : FnScope nsc_is_index ["number", "many"] (defScope s_is_index) := ⟨rfl, rfl, rfl, by decide +kernel, rfl, by decide +kernel, by decide +kernel⟩
abbrev s_are_indices : Stmt := (top 7)
abbrev nsc_are_indices : List Str := ["numbers", "many", "place", "number"]
theorem sc_are_indices : FnScope nsc_are_indices ["numbers", "many"] (defScope s_are_indices) := ⟨rfl, rfl, rfl, by decide +kernel, rfl, by decide +kernel, by decide +kernel⟩
abbrev s_neighbours_of : Stmt := (top 8)
abbrev nsc_neighbours_of : List Str := ["moulds", "machines", "some", "found", "index", "machine", "mould"]
theorem sc_neighbours_of : FnScope nsc_neighbours_of ["moulds", "machines", "some"] (defScope s_neighbours_of) := ⟨rfl, rfl, rfl, by decide +kernel, rfl, by decide +kernel, by decide +kernel⟩
abbrev s_without_item : Stmt := (top 9)
abbrev nsc_without_item : List Str := ["items", "index"]
theorem sc_without_item : FnScope nsc_without_item ["items", "index"] (defScope s_without_item) := ⟨rfl, rfl, rfl, by decide +kernel, rfl, by decide +kernel, by decide +kernel⟩
abbrev s_with_item : Stmt := (top 10)
abbrev nsc_with_item : List Str := ["items", "index", "item"]
theorem sc_with_item : FnScope nsc_with_item ["items", "index", "item"] (defScope s_with_item) := ⟨rfl, rfl, rfl, by decide +kernel, rfl, by decide +kernel, by decide +kernel⟩
abbrev s_size_of : Stmt := (top 13)
abbrev nsc_size_of : List Str := ["entries", "found", "entry"]
theorem sc_size_of : FnScope nsc_size_of ["entries"] (defScope s_size_of) := ⟨rfl, rfl, rfl, by decide +kernel, rfl, by decide +kernel, by decide +kernel⟩
abbrev s_choices_for : Stmt := (top 14)
abbrev nsc_choices_for : List Str := ["mould", "machines", "entries", "found", "index", "machine"]
theorem sc_choices_for : FnScope nsc_choices_for ["mould", "machines", "entries"] (defScope s_choices_for) := ⟨rfl, rfl, rfl, by decide +kernel, rfl, by decide +kernel, by decide +kernel⟩
abbrev s_valid_assignments : Stmt := (top 15)
abbrev nsc_valid_assignments : List Str := ["moulds", "machines", "found", "mould", "longer", "entries", "entry"]
theorem sc_valid_assignments : FnScope nsc_valid_assignments ["moulds", "machines"] (defScope s_valid_assignments) := ⟨rfl, rfl, rfl, by decide +kernel, rfl, by decide +kernel, by decide +kernel⟩
abbrev s_best_assignment : Stmt := (top 16)
abbrev nsc_best_assignment : List Str := ["moulds", "machines", "found", "size", "entries"]
theorem sc_best_assignment : FnScope nsc_best_assignment ["moulds", "machines"] (defScope s_best_assignment) := ⟨rfl, rfl, rfl, by decide +kernel, rfl, by decide +kernel, by decide +kernel⟩
abbrev s_max_running : Stmt := (top 18)
abbrev nsc_max_running : List Str := ["moulds", "machines"]
theorem sc_max_running : FnScope nsc_max_running ["moulds", "machines"] (defScope s_max_running) := ⟨rfl, rfl, rfl, by decide +kernel, rfl, by decide +kernel, by decide +kernel⟩
abbrev s_are_entries : Stmt := (top 20)
abbrev nsc_are_entries : List Str := ["moulds", "machines", "entries", "entry"]
theorem sc_are_entries : FnScope nsc_are_entries ["moulds", "machines", "entries"] (defScope s_are_entries) := ⟨rfl, rfl, rfl, by decide +kernel, rfl, by decide +kernel, by decide +kernel⟩
abbrev s_is_valid : Stmt := (top 21)
abbrev nsc_is_valid : List Str := ["moulds", "machines", "entries", "mould", "entry"]
theorem sc_is_valid : FnScope nsc_is_valid ["moulds", "machines", "entries"] (defScope s_is_valid) := ⟨rfl, rfl, rfl, by decide +kernel, rfl, by decide +kernel, by decide +kernel⟩
abbrev s_members_of : Stmt := (top 24)
abbrev nsc_members_of : List Str := ["mask", "many", "found", "index"]
theorem sc_members_of : FnScope nsc_members_of ["mask", "many"] (defScope s_members_of) := ⟨rfl, rfl, rfl, by decide +kernel, rfl, by decide +kernel, by decide +kernel⟩
abbrev s_is_cover : Stmt := (top 25)
abbrev nsc_is_cover : List Str := ["moulds", "machines", "some", "others", "index", "mould", "place", "machine"]
theorem sc_is_cover : FnScope nsc_is_cover ["moulds", "machines", "some", "others"] (defScope s_is_cover) := ⟨rfl, rfl, rfl, by decide +kernel, rfl, by decide +kernel, by decide +kernel⟩
abbrev s_minimum_cover : Stmt := (top 26)
abbrev nsc_minimum_cover : List Str := ["moulds", "machines", "found", "size", "mask", "some", "further", "others", "own"]
theorem sc_minimum_cover : FnScope nsc_minimum_cover ["moulds", "machines"] (defScope s_minimum_cover) := ⟨rfl, rfl, rfl, by decide +kernel, rfl, by decide +kernel, by decide +kernel⟩
abbrev s_max_deficiency : Stmt := (top 28)
abbrev nsc_max_deficiency : List Str := ["moulds", "machines", "found", "most", "mask", "some", "own"]
theorem sc_max_deficiency : FnScope nsc_max_deficiency ["moulds", "machines"] (defScope s_max_deficiency) := ⟨rfl, rfl, rfl, by decide +kernel, rfl, by decide +kernel, by decide +kernel⟩
abbrev s_told : Stmt := (top 36)
abbrev nsc_told : List Str := ["ratings", "found", "clamp_force", "platen_size"]
theorem sc_told : FnScope nsc_told ["ratings"] (defScope s_told) := ⟨rfl, rfl, rfl, by decide +kernel, rfl, by decide +kernel, by decide +kernel⟩
abbrev s_add_error : Stmt := (top 37)
abbrev nsc_add_error : List Str := ["ratings", "clamp_force", "platen_size"]
theorem sc_add_error : FnScope nsc_add_error ["ratings", "clamp_force", "platen_size"] (defScope s_add_error) := ⟨rfl, rfl, rfl, by decide +kernel, rfl, by decide +kernel, by decide +kernel⟩
abbrev s_set_error : Stmt := (top 38)
abbrev nsc_set_error : List Str := ["ratings", "index", "clamp_force", "platen_size"]
theorem sc_set_error : FnScope nsc_set_error ["ratings", "index", "clamp_force", "platen_size"] (defScope s_set_error) := ⟨rfl, rfl, rfl, by decide +kernel, rfl, by decide +kernel, by decide +kernel⟩
abbrev s_m_init : Stmt := (inClass (top 39) 0)
abbrev nsc_m_init : List Str := ["self"]
theorem sc_m_init : FnScope nsc_m_init ["self"] (defScope s_m_init) := ⟨rfl, rfl, rfl, by decide +kernel, rfl, by decide +kernel, by decide +kernel⟩
abbrev s_m_create : Stmt := (inClass (top 39) 1)
abbrev nsc_m_create : List Str := ["self"]
theorem sc_m_create : FnScope nsc_m_create ["self"] (defScope s_m_create) := ⟨rfl, rfl, rfl, by decide +kernel, rfl, by decide +kernel, by decide +kernel⟩
abbrev s_m_add_machine : Stmt := (inClass (top 39) 2)
abbrev nsc_m_add_machine : List Str := ["self", "clamp_force", "platen_size", "error"]
theorem sc_m_add_machine : FnScope nsc_m_add_machine ["self", "clamp_force", "platen_size"] (defScope s_m_add_machine) := ⟨rfl, rfl, rfl, by decide +kernel, rfl, by decide +kernel, by decide +kernel⟩
abbrev s_m_add_mould : Stmt := (inClass (top 39) 3)
abbrev nsc_m_add_mould : List Str := ["self", "clamp_force", "platen_size", "error"]
theorem sc_m_add_mould : FnScope nsc_m_add_mould ["self", "clamp_force", "platen_size"] (defScope s_m_add_mould) := ⟨rfl, rfl, rfl, by decide +kernel, rfl, by decide +kernel, by decide +kernel⟩
abbrev s_m_remove_machine : Stmt := (inClass (top 39) 4)
abbrev nsc_m_remove_machine : List Str := ["self", "j"]
theorem sc_m_remove_machine : FnScope nsc_m_remove_machine ["self", "j"] (defScope s_m_remove_machine) := ⟨rfl, rfl, rfl, by decide +kernel, rfl, by decide +kernel, by decide +kernel⟩
abbrev s_m_remove_mould : Stmt := (inClass (top 39) 5)
abbrev nsc_m_remove_mould : List Str := ["self", "i"]
theorem sc_m_remove_mould : FnScope nsc_m_remove_mould ["self", "i"] (defScope s_m_remove_mould) := ⟨rfl, rfl, rfl, by decide +kernel, rfl, by decide +kernel, by decide +kernel⟩
abbrev s_m_set_machine : Stmt := (inClass (top 39) 6)
abbrev nsc_m_set_machine : List Str := ["self", "j", "clamp_force", "platen_size", "error", "old"]
theorem sc_m_set_machine : FnScope nsc_m_set_machine ["self", "j", "clamp_force", "platen_size"] (defScope s_m_set_machine) := ⟨rfl, rfl, rfl, by decide +kernel, rfl, by decide +kernel, by decide +kernel⟩
abbrev s_m_set_mould : Stmt := (inClass (top 39) 7)
abbrev nsc_m_set_mould : List Str := ["self", "i", "clamp_force", "platen_size", "error", "old"]
theorem sc_m_set_mould : FnScope nsc_m_set_mould ["self", "i", "clamp_force", "platen_size"] (defScope s_m_set_mould) := ⟨rfl, rfl, rfl, by decide +kernel, rfl, by decide +kernel, by decide +kernel⟩
abbrev s_m_fits : Stmt := (inClass (top 39) 8)
abbrev nsc_m_fits : List Str := ["self", "i", "j"]
theorem sc_m_fits : FnScope nsc_m_fits ["self", "i", "j"] (defScope s_m_fits) := ⟨rfl, rfl, rfl, by decide +kernel, rfl, by decide +kernel, by decide +kernel⟩
abbrev s_m_max_running : Stmt := (inClass (top 39) 9)
abbrev nsc_m_max_running : List Str := ["self"]
theorem sc_m_max_running : FnScope nsc_m_max_running ["self"] (defScope s_m_max_running) := ⟨rfl, rfl, rfl, by decide +kernel, rfl, by decide +kernel, by decide +kernel⟩
abbrev s_m_best_assignment : Stmt := (inClass (top 39) 10)
abbrev nsc_m_best_assignment : List Str := ["self", "found"]
theorem sc_m_best_assignment : FnScope nsc_m_best_assignment ["self"] (defScope s_m_best_assignment) := ⟨rfl, rfl, rfl, by decide +kernel, rfl, by decide +kernel, by decide +kernel⟩
abbrev s_m_minimum_cover : Stmt := (inClass (top 39) 11)
abbrev nsc_m_minimum_cover : List Str := ["self", "some", "others"]
theorem sc_m_minimum_cover : FnScope nsc_m_minimum_cover ["self"] (defScope s_m_minimum_cover) := ⟨rfl, rfl, rfl, by decide +kernel, rfl, by decide +kernel, by decide +kernel⟩
abbrev s_m_max_deficiency : Stmt := (inClass (top 39) 12)
abbrev nsc_m_max_deficiency : List Str := ["self", "most", "some"]
theorem sc_m_max_deficiency : FnScope nsc_m_max_deficiency ["self"] (defScope s_m_max_deficiency) := ⟨rfl, rfl, rfl, by decide +kernel, rfl, by decide +kernel, by decide +kernel⟩
abbrev s_m_check_assignment : Stmt := (inClass (top 39) 13)
abbrev nsc_m_check_assignment : List Str := ["self", "entries"]
theorem sc_m_check_assignment : FnScope nsc_m_check_assignment ["self", "entries"] (defScope s_m_check_assignment) := ⟨rfl, rfl, rfl, by decide +kernel, rfl, by decide +kernel, by decide +kernel⟩
abbrev s_m_check_cover : Stmt := (inClass (top 39) 14)
abbrev nsc_m_check_cover : List Str := ["self", "some", "others"]
theorem sc_m_check_cover : FnScope nsc_m_check_cover ["self", "some", "others"] (defScope s_m_check_cover) := ⟨rfl, rfl, rfl, by decide +kernel, rfl, by decide +kernel, by decide +kernel⟩
abbrev s_m_neighbours : Stmt := (inClass (top 39) 15)
abbrev nsc_m_neighbours : List Str := ["self", "some", "found"]
theorem sc_m_neighbours : FnScope nsc_m_neighbours ["self", "some"] (defScope s_m_neighbours) := ⟨rfl, rfl, rfl, by decide +kernel, rfl, by decide +kernel, by decide +kernel⟩
abbrev s_m_max_running_without : Stmt := (inClass (top 39) 16)
abbrev nsc_m_max_running_without : List Str := ["self", "j"]
theorem sc_m_max_running_without : FnScope nsc_m_max_running_without ["self", "j"] (defScope s_m_max_running_without) := ⟨rfl, rfl, rfl, by decide +kernel, rfl, by decide +kernel, by decide +kernel⟩
abbrev s_m_list_ratings : Stmt := (inClass (top 39) 17)
abbrev nsc_m_list_ratings : List Str := ["self"]
theorem sc_m_list_ratings : FnScope nsc_m_list_ratings ["self"] (defScope s_m_list_ratings) := ⟨rfl, rfl, rfl, by decide +kernel, rfl, by decide +kernel, by decide +kernel⟩
abbrev s_changed : Stmt := (top 43)
abbrev nsc_changed : List Str := ["hall", "kind", "numbers"]
theorem sc_changed : FnScope nsc_changed ["hall", "kind", "numbers"] (defScope s_changed) := ⟨rfl, rfl, rfl, by decide +kernel, rfl, by decide +kernel, by decide +kernel⟩
abbrev s_asked : Stmt := (top 44)
abbrev nsc_asked : List Str := ["hall", "kind", "numbers"]
theorem sc_asked : FnScope nsc_asked ["hall", "kind", "numbers"] (defScope s_asked) := ⟨rfl, rfl, rfl, by decide +kernel, rfl, by decide +kernel, by decide +kernel⟩
abbrev s_checked : Stmt := (top 45)
abbrev nsc_checked : List Str := ["hall", "kind", "rows"]
theorem sc_checked : FnScope nsc_checked ["hall", "kind", "rows"] (defScope s_checked) := ⟨rfl, rfl, rfl, by decide +kernel, rfl, by decide +kernel, by decide +kernel⟩
abbrev s_answered : Stmt := (top 46)
abbrev nsc_answered : List Str := ["hall", "kind", "numbers", "rows"]
theorem sc_answered : FnScope nsc_answered ["hall", "kind", "numbers", "rows"] (defScope s_answered) := ⟨rfl, rfl, rfl, by decide +kernel, rfl, by decide +kernel, by decide +kernel⟩
abbrev s_rows_at : Stmt := (top 48)
abbrev nsc_rows_at : List Str := ["calls", "begin", "many", "rows", "at", "turn", "behind"]
theorem sc_rows_at : FnScope nsc_rows_at ["calls", "begin", "many"] (defScope s_rows_at) := ⟨rfl, rfl, rfl, by decide +kernel, rfl, by decide +kernel, by decide +kernel⟩
abbrev s_answers : Stmt := (top 49)
abbrev nsc_answers : List Str := ["calls", "hall", "found", "at", "kind", "behind", "numbers", "rows", "answer"]
theorem sc_answers : FnScope nsc_answers ["calls"] (defScope s_answers) := ⟨rfl, rfl, rfl, by decide +kernel, rfl, by decide +kernel, by decide +kernel⟩
end My
namespace My
open PySem PySem.Spec PyProof.Rows L2
section
variable {P : Program} {w : World} {K : PySem.W.Frag} {mg : Str → Option Value} {base : Heap} {C : Addr} {f : Addr} {fd : FuncData}
/-! ### is_rating, fits, is_index -/
def spIsRating : Sp := fun vs H Q _ => ∃ c p : Int, vs = [.int c, .int p] ∧ Q (.bl (okR c && okR p)) H
theorem ok_is_rating (T : Txt K mg C) (F : Fun K "is_rating" "is_rating" s_is_rating f fd) : FnOk P w K mg base CX0 1 f fd ["clamp_force", "platen_size"] spIsRating := by
  refine F.ok sc_is_rating (fun vs H Q E h => ?_) (fun cdv A outer s H vs Q E hr h => ?_)
  · obtain ⟨c, p, rfl, _⟩ := h
    rfl
  · obtain ⟨c, p, rfl, k⟩ := h
    refine ⟨_, (pss_one (ps_ret (pe_and (pe_chain op_le op_le (pgi T.least) (pv 0) (pgi T.most)) (pe_one (pe_chain op_le op_le (pgi T.least) (pv 1) (pgi T.most)))))), ?_⟩
    refine ⟨_, rfl, _, _, rfl, rfl, _, rfl, ?_⟩
    refine ifb (fun e1 => ⟨_, _, rfl, rfl, _, rfl, ifb (fun e2 => ⟨_, rfl, _, _, rfl, rfl, _, rfl, ifb (fun e3 => ⟨_, _, rfl, rfl, ?_⟩) fun e3 => ?_⟩) fun e2 => ?_⟩) fun e1 => ⟨_, rfl, iteF ?_⟩
    all_goals exact cb k (by unfold okR; simp only [*, Bool.true_and, Bool.false_and, Bool.and_true, Bool.and_false])
def spFits : Sp := fun vs H Q _ => ∃ (v u : V) (m k : Sr117.Rating), vs = [v, u] ∧ RtAt H v m ∧ RtAt H u k ∧ Q (.bl (fit m k)) H
theorem fit_int (m k : Sr117.Rating) : fit m k = (decide ((m.clampForce : Int) ≤ k.clampForce) && decide ((m.platenSize : Int) ≤ k.platenSize)) := by
  unfold fit
  congr 1 <;> exact decide_eq_decide.mpr Int.ofNat_le.symm
theorem ok_fits (F : Fun K "fits" "fits" s_fits f fd) : FnOk P w K mg base CX0 1 f fd ["mould", "machine"] spFits := by
  refine F.ok sc_fits (fun vs H Q E h => ?_) (fun cdv A outer s H vs Q E hr h => ?_)
  · obtain ⟨v, u, m, k, rfl, _⟩ := h
    rfl
  · obtain ⟨v, u, m, k, rfl, ⟨t, rfl, ht⟩, ⟨t', rfl, ht'⟩, q⟩ := h
    refine ⟨_, (pss_one (ps_ret (pe_and (pe_cmpR op_le (pe_ix ix_tup (pv 0) pe_int (fun _ _ => rfl)) (pe_ix ix_tup (pv 1) pe_int (fun _ _ => rfl)) (nomark _)) (pe_one (pe_cmpR op_le (pe_ix ix_tup (pv 0) pe_int (fun _ _ => rfl)) (pe_ix ix_tup (pv 1) pe_int (fun _ _ => rfl)) (nomark _)))))), ?_⟩
    refine ⟨_, rfl, t, rV m, 0, _, rfl, rfl, SqT.of ht, rfl, _, rfl, t', rV k, 0, _, rfl, rfl, SqT.of ht', rfl, _, _, rfl, rfl, _, rfl, ?_⟩
    refine ifb (fun e1 => ⟨_, rfl, t, rV m, 1, _, rfl, rfl, SqT.of ht, rfl, _, rfl, t', rV k, 1, _, rfl, rfl, SqT.of ht', rfl, _, _, rfl, rfl, ?_⟩) fun e1 => ?_
    all_goals exact cb q (by rw [fit_int]; simp only [*, Bool.true_and, Bool.false_and])
def spIsIndex : Sp := fun vs H Q _ => ∃ (n : Int) (m : Nat), vs = [.int n, .int m] ∧ Q (.bl (okI n m)) H
theorem ok_is_index (F : Fun K "is_index" "is_index" s_is_index f fd) : FnOk P w K mg base CX0 1 f fd ["number", "many"] spIsIndex := by
  refine F.ok sc_is_index (fun vs H Q E h => ?_) (fun cdv A outer s H vs Q E hr h => ?_)
  · obtain ⟨c, p, rfl, _⟩ := h
    rfl
  · obtain ⟨c, p, rfl, k⟩ := h
    refine ⟨_, (pss_one (ps_ret (pe_chain op_le op_lt pe_int (pv 0) (pv 1)))), ?_⟩
    refine ⟨_, rfl, _, _, rfl, rfl, _, rfl, ifb (fun e1 => ⟨_, rfl, _, _, rfl, rfl, ?_⟩) fun e1 => ?_⟩
    all_goals exact cb k (by unfold okI; simp only [*, Bool.true_and, Bool.false_and])
/-! ### are_indices -/
def spAreIndices (K : PySem.W.Frag) : Sp := fun vs H Q _ => ∃ (a : Addr) (ns : List Int) (m : Nat), vs = [.ref a, .int m] ∧ SqL K H a (iV ns) ∧ ∀ H', Same H H' → Q (.bl (ixAll ns m)) H'
theorem ok_are_indices (T : Txt K mg C) {f1 : Addr} {fd1 : FuncData} (C_is_index : Cl P w K mg base "is_index" 1 f1 fd1 ["number", "many"] spIsIndex) (F : Fun K "are_indices" "are_indices" s_are_indices f fd) :
    FnOk P w K mg base CX0 2 f fd ["numbers", "many"] (spAreIndices K) := by
  refine F.ok sc_are_indices (fun vs H Q E h => ?_) (fun cdv A outer s H vs Q E hr h => ?_)
  · obtain ⟨a, ns, m, rfl, _⟩ := h
    rfl
  · obtain ⟨a, ns, m, rfl, hS, k⟩ := h
    refine ⟨_, (pss_cons (ps_for PassesOwn.never rfl (pi_enum (by rfl) T.enumerate (pa_cons (pv 0) pa_nil)) (pg_tup rfl (pgs_cons (pg_name (i := 2) sc_are_indices.nd rfl (Or.inl rfl)) (pgs_cons (pg_name (i := 3) sc_are_indices.nd rfl (Or.inl rfl)) pgs_nil))) (pss_one (ps_if (PW.pt (pw_or (pt_not (pt_val (pe_call C_is_index.ok (hr.mono (by decide)) rfl C_is_index.gl C_is_index.kp C_is_index.bi .nil pass0 (pa_cons (pv 3) (pa_cons (pv 1) pa_nil))))) (pw_or1 (pt_cmpR op_in_seq (pv 3) (pe_slice sl_list (pv 0) po_none (po_some (pv 2))) rfl)))) (pss_one (ps_ret pe_bl)) pss_nil)))
        (pss_one (ps_ret pe_bl))), ?_⟩
    refine ⟨_, rfl, a, _, rfl, hS, for_enum (xs := iV ns) (fun i σ H' => ∃ v2 v3, σ = [some (.ref a), some (.int m), v2, v3] ∧ Same H H' ∧ (List.range i).all (ixOne ns m) = true)
      ⟨none, none, rfl, Same.refl H, rfl⟩ (fun i σ H' _ ⟨_, _, _, e, _⟩ => e.seq hS) ?_ ?_⟩
    · rintro i x σ H1 H2 hx ⟨v2, v3, rfl, e1, ha⟩ e2
      obtain ⟨z, hz, rfl⟩ := iV_get hx
      have e3 := e1.trans e2
      have hi : i < ns.length := lt_of hz
      have hone : ixOne ns m i = (okI z m && !(ns.take i).contains z) := by unfold ixOne; rw [getD_of hz]
      refine ⟨_, rfl, _, rfl, z, m, rfl, _, rfl, ifb (fun q1 => iteT ?_) fun q1 => ?_⟩
      · refine k _ e3 |> fun q => cb q (all_fails hi ?_)
        rw [hone]
        simp_all
      · refine ⟨_, rfl, _, rfl, _, rfl, _, rfl, a, iV ns, rfl, e3.seq hS, fun p hp => ?_⟩
        rw [cut_take]
        refine ⟨p, iV (ns.take i), rfl, .inl (SqL.of (by rw [upd_same]; unfold iV; rw [List.map_take])), rfl, iV_flat _, _, rfl, ifb (fun q2 => ?_) fun q2 => ?_⟩
        · rw [if_neg (by decide), inV_iV] at q2
          refine cb (k _ (e3.trans (Same.new hp))) (all_fails hi ?_)
          rw [hone, q2]
          simp
        · rw [if_neg (by decide), inV_iV] at q2
          refine ⟨_, _, rfl, e3.trans (Same.new hp), all_more ha ?_⟩
          rw [hone, q2]
          simp_all
    · rintro σ H1 ⟨v2, v3, rfl, e1, ha⟩
      rw [iV_len] at ha
      exact cb (k _ e1) ha
/-! ### without_item, with_item -/
def spWithout : Sp := fun vs H Q _ => ∃ (a : Addr) (us : List V) (i : Nat), vs = [.ref a, .int i] ∧ H a = some (.lst us) ∧ us.length ≤ 100 ∧
  ∀ H' p, Same H H' → H p = none → H' p = some (.lst (us.eraseIdx i)) → Q (.ref p) H'
theorem erase_cut (us : List V) (i : Nat) : us.take i ++ us.drop (i + 1) = us.eraseIdx i := (List.eraseIdx_eq_take_drop_succ us i).symm
theorem cut_drop1 (us : List V) (i : Nat) : cutV us (some ((i : Int) + 1)) none = us.drop (i + 1) := cut_drop us (i + 1)
theorem ok_without_item (F : Fun K "without_item" "without_item" s_without_item f fd) : FnOk P w K mg base CX0 1 f fd ["items", "index"] spWithout := by
  refine F.ok sc_without_item (fun vs H Q E h => ?_) (fun cdv A outer s H vs Q E hr h => ?_)
  · obtain ⟨a, ns, m, rfl, _⟩ := h
    rfl
  · obtain ⟨a, us, i, rfl, hS, hl, k⟩ := h
    refine ⟨_, (pss_one (ps_ret (pe_op op_cat (pe_slice sl_list (pv 0) po_none (po_some (pv 1))) (pe_slice sl_list (pv 0) (po_some (pe_op op_add (pv 1) pe_int)) po_none)))), ?_⟩
    refine ⟨_, rfl, _, rfl, _, rfl, a, us, rfl, SqL.of hS, fun p hp => ?_⟩
    rw [cut_take]
    refine ⟨_, rfl, _, rfl, _, _, rfl, rfl, _, rfl, a, us, rfl, SqL.of (Same.new hp a _ hS), fun p2 hp2 => ?_⟩
    have hne : p ≠ p2 := fun e => by rw [e, upd_same] at hp2; cases hp2
    rw [cut_drop1]
    refine ⟨p, p2, _, _, rfl, rfl, (upd_ne hne).trans upd_same, upd_same, ?_, fun p3 hp3 => ?_⟩
    · rw [List.length_take, List.length_drop]; exact sz (m := 200) (by omega)
    · have e1 : Same H _ := Same.new (o := .lst (us.take i)) hp
      have e2 := e1.trans (Same.new (o := .lst (us.drop (i + 1))) hp2)
      exact k _ p3 (e2.trans (Same.new hp3)) (e2.free hp3) (by rw [upd_same, erase_cut])
def spWith : Sp := fun vs H Q _ => ∃ (a : Addr) (us : List V) (i : Nat) (v : V), vs = [.ref a, .int i, v] ∧ H a = some (.lst us) ∧ us.length ≤ 100 ∧ i < us.length ∧
  ∀ H' p, Same H H' → H p = none → H' p = some (.lst (us.set i v)) → Q (.ref p) H'
theorem set_cut {us : List V} {i : Nat} (h : i < us.length) (v : V) : us.take i ++ [v] ++ us.drop (i + 1) = us.set i v := by
  rw [List.set_eq_take_append_cons_drop, if_pos h, List.append_assoc]; rfl
theorem ok_with_item (F : Fun K "with_item" "with_item" s_with_item f fd) : FnOk P w K mg base CX0 1 f fd ["items", "index", "item"] spWith := by
  refine F.ok sc_with_item (fun vs H Q E h => ?_) (fun cdv A outer s H vs Q E hr h => ?_)
  · obtain ⟨a, ns, m, v, rfl, _⟩ := h
    rfl
  · obtain ⟨a, us, i, v, rfl, hS, hl, hi, k⟩ := h
    refine ⟨_, (pss_one (ps_ret (pe_op op_cat (pe_op op_cat (pe_slice sl_list (pv 0) po_none (po_some (pv 1))) (pe_lst (pa_cons (pv 2) pa_nil))) (pe_slice sl_list (pv 0) (po_some (pe_op op_add (pv 1) pe_int)) po_none)))), ?_⟩
    refine ⟨_, rfl, _, rfl, _, rfl, a, us, rfl, SqL.of hS, fun p hp => ?_⟩
    rw [cut_take]
    have e1 : Same H _ := Same.new (o := .lst (us.take i)) hp
    refine ⟨_, rfl, sz (m := 1) (Nat.le_refl _), fun p2 hp2 => ?_⟩
    have hne : p ≠ p2 := fun e => by rw [e, upd_same] at hp2; cases hp2
    have e2 := e1.trans (Same.new (o := .lst [v]) hp2)
    refine ⟨p, p2, _, _, rfl, rfl, (upd_ne hne).trans upd_same, upd_same, ?_, fun p3 hp3 => ?_⟩
    · rw [List.length_take]; exact sz (m := 200) (by show _ + 1 ≤ 200; omega)
    have e3 := e2.trans (Same.new (o := .lst (us.take i ++ [v])) hp3)
    refine ⟨_, rfl, _, rfl, _, _, rfl, rfl, _, rfl, a, us, rfl, SqL.of (e3 a _ hS), fun p4 hp4 => ?_⟩
    rw [cut_drop1]
    have hne2 : p3 ≠ p4 := fun e => by rw [e, upd_same] at hp4; cases hp4
    refine ⟨p3, p4, _, _, rfl, rfl, (upd_ne hne2).trans upd_same, upd_same, ?_, fun p5 hp5 => ?_⟩
    · rw [List.length_append, List.length_take, List.length_drop]; exact sz (m := 200) (by show _ + 1 + _ ≤ 200; omega)
    have e4 := e3.trans (Same.new (o := .lst (us.drop (i + 1))) hp4)
    exact k _ p5 (e4.trans (Same.new hp5)) (e4.free hp5) (by rw [upd_same, set_cut hi])
/-! ### size_of -/
def spSizeOf (K : PySem.W.Frag) : Sp := fun vs H Q _ => ∃ (a : Addr) (ns : List Int), vs = [.ref a] ∧ SqL K H a (iV ns) ∧ Q (.int (sizeOf ns)) H
theorem ok_size_of (T : Txt K mg C) (F : Fun K "size_of" "size_of" s_size_of f fd) : FnOk P w K mg base CX0 1 f fd ["entries"] (spSizeOf K) := by
  refine F.ok sc_size_of (fun vs H Q E h => ?_) (fun cdv A outer s H vs Q E hr h => ?_)
  · obtain ⟨a, ns, rfl, _⟩ := h
    rfl
  · obtain ⟨a, ns, rfl, hS, k⟩ := h
    refine ⟨_, (pss_cons (ps_set (i := 1) sc_size_of.nd rfl (Or.inl rfl) pe_int)
        (pss_cons (ps_for PassesOwn.never rfl (pi_list (pv 0)) (pg_name (i := 2) sc_size_of.nd rfl (Or.inl rfl)) (pss_one (ps_if (pt_cmpR op_ne (pv 2) (pgi T.nowhere) (nomark _)) (pss_one (ps_aug (i := 1) sc_size_of.nd rfl (Or.inl rfl) pe_int ip_add)) pss_nil)))
        (pss_one (ps_ret (pv 1))))), ?_⟩
    refine ⟨_, rfl, a, rfl, ⟨_, hS⟩, for_list (K := K) (a := a) (xs := iV ns) (fun i σ H' => ∃ v2, σ = [some (.ref a), some (.int (sizeOf (ns.take i))), v2] ∧ H' = H)
      ⟨none, rfl, rfl⟩ (fun i σ H' _ ⟨_, _, e⟩ => by rw [e]; exact hS) ?_ ?_⟩
    · rintro i x σ H1 hx ⟨v2, rfl, rfl⟩
      obtain ⟨z, hz, rfl⟩ := iV_get hx
      have hm := sizeOf_more hz
      refine ⟨_, rfl, rfl, _, rfl, ifb (fun q => ⟨_, rfl, _, _, rfl, rfl, some (.int z), ?_, rfl⟩) fun q => ⟨some (.int z), ?_, rfl⟩⟩
      · have hne : z ≠ -1 := fun e => by rw [e] at q; cases q
        rw [hm, if_neg hne]; rfl
      · have he : z = -1 := by
          have : decide (V.int z = V.int (-1)) = true := by simpa using q
          exact V.int.inj (of_decide_eq_true this)
        rw [hm, if_pos he]; rfl
    · rintro σ H1 ⟨v2, rfl, rfl⟩
      rw [iV_len, List.take_length]
      exact ⟨_, rfl, k⟩
end
end My
namespace My
open PySem PySem.Spec PyProof.Rows L2
section
variable {P : Program} {w : World} {K : PySem.W.Frag} {mg : Str → Option Value} {base : Heap} {C : Addr} {f : Addr} {fd : FuncData}
/-! ### neighbours_of -/
theorem dp_all (K : PySem.W.Frag) (H : Hp) : ∀ ns : List Int, DpAll K H (iV ns) (ns.map PyData.int)
  | [] => .nil
  | n :: r => .cons (.int n) (dp_all K H r)
theorem dp_iV {K : PySem.W.Frag} {H : Hp} {a : Addr} {ns : List Int} (h : SqL K H a (iV ns)) : Dp K H (.ref a) (.list (ns.map PyData.int)) := .lst h (dp_all K H ns)
theorem lay_iV : ∀ ns : List Int, PyData.canLayAll0 (ns.map PyData.int) = true
  | [] => rfl
  | n :: r => by
    show (PyData.canLay0 (.int n) && PyData.canLayAll0 (r.map PyData.int)) = true
    rw [lay_iV r]
    rfl
theorem deep_iV : ∀ ns : List Int, PyData.depthAll (ns.map PyData.int) = 0
  | [] => rfl
  | n :: r => by
    show max (PyData.depth (.int n)) (PyData.depthAll (r.map PyData.int)) = 0
    rw [deep_iV r]
    rfl
theorem shaped_iV (ns : List Int) : SeqAt.shaped (.list (ns.map PyData.int)) = true := by
  show (PyData.canLayAll0 (ns.map PyData.int) && decide (PyData.depthAll (ns.map PyData.int) + 1 ≤ 64)) = true
  rw [lay_iV, deep_iV]
  rfl
theorem eqv_nil (ns : List Int) : (!PyData.eqv (.list (ns.map PyData.int)) (.list ([].map PyData.int))) = (ns != []) := by
  cases ns <;> rfl
theorem filter_take {A : Type} {p : A → Bool} {l : List A} {i : Nat} {x : A} (h : l[i]? = some x) : (l.take (i + 1)).filter p = (l.take i).filter p ++ (if p x = true then [x] else []) := by
  rw [take_more h, List.filter_append]
  congr 1
  cases e : p x <;> simp [e]
def spNeigh (K : PySem.W.Frag) : Sp := fun vs H Q _ => ∃ (a b c : Addr) (ms ks : List Sr117.Rating) (some : List Int), vs = [.ref a, .ref b, .ref c] ∧ RtL H a ms ∧ RtL H b ks ∧ SqL K H c (iV some) ∧ (∀ x ∈ some, 0 ≤ x ∧ x < ms.length) ∧ some.length ≤ 100 ∧ ks.length ≤ 5 ∧
  ∀ H' p, Same H H' → H p = none → H' p = Option.some (.lst (iV (nI (nbs ks ms some ks.length)))) → Q (.ref p) H'
theorem ok_neighbours_of (T : Txt K mg C) {f1 : Addr} {fd1 : FuncData} (C_fits_ratings : Cl P w K mg base "fits_ratings" 1 f1 fd1 ["mould", "machine"] spFits) (F : Fun K "neighbours_of" "neighbours_of" s_neighbours_of f fd) :
    FnOk P w K mg base CX0 2 f fd ["moulds", "machines", "some"] (spNeigh K) := by
  refine F.ok sc_neighbours_of (fun vs H Q E h => ?_) (fun cdv A outer s H vs Q E hr h => ?_)
  · obtain ⟨a, b, c, ms, ks, so, rfl, _⟩ := h
    rfl
  · obtain ⟨a, b, c, ms, ks, so, rfl, hA, hB, hC, hin, hlen, hk, k⟩ := h
    obtain ⟨vms, hA1, hA2⟩ := id hA
    obtain ⟨vks, hB1, hB2⟩ := id hB
    refine ⟨_, (pss_cons (ps_set (i := 3) sc_neighbours_of.nd rfl (Or.inl rfl) (pe_lst pa_nil))
        (pss_cons (ps_for PassesOwn.never rfl (pi_enum (by rfl) T.enumerate (pa_cons (pv 1) pa_nil)) (pg_tup rfl (pgs_cons (pg_name (i := 4) sc_neighbours_of.nd rfl (Or.inl rfl)) (pgs_cons (pg_name (i := 5) sc_neighbours_of.nd rfl (Or.inr rfl)) pgs_nil))) (pss_one (ps_if (pt_cmpR (op_neD hr.units) (pe_lc (own := [("mould", 6)]) (g := gName 6) (by rfl) sc_neighbours_of.nd (pi_list (pv 2)) (blkOk_by (own := [("mould", 6)]) (N := nsc_neighbours_of) (sc := defScope s_neighbours_of) (by decide +kernel)) (fun _ _ _ _ _ => pg_name (i := 6) sc_neighbours_of.nd rfl (Or.inl rfl)) (fun _ _ _ _ _ => pts_one (pt_val (pe_call C_fits_ratings.ok (hr.mono (by decide)) rfl C_fits_ratings.gl C_fits_ratings.kp C_fits_ratings.bi .nil pass0 (pa_cons (pe_ix (ix_listK (K := K) rfl) (pv 0) (pv 6) (fun _ _ => rfl)) (pa_cons (pv 5) pa_nil))))) (fun _ _ _ _ _ => (pv 6))) (pe_lst pa_nil) (nomark _)) (pss_one (ps_expr (pe_bm PySem.F.plainAttrs_list PySem.F.slot_list_append PySem.F.type_list_append mt_append (pv 3) (pa_cons (pv 4) pa_nil)))) pss_nil)))
        (pss_one (ps_ret (pv 3))))), ?_⟩
    refine ⟨by decide, fun L hL => ?_⟩
    have e0 : Same H _ := Same.new (o := .lst []) hL
    refine ⟨_, rfl, b, vks, rfl, SqL.of (e0 b _ hB1), for_enum (xs := vks) (fun i σ H' => ∃ v4 v5, σ = [some (.ref a), some (.ref b), some (.ref c), some (.ref L), v4, v5, none] ∧ Same H H' ∧ H' L = some (.lst (iV (nI (nbs ks ms so i)))))
      ⟨none, none, rfl, e0, upd_same⟩ (fun i σ H' _ ⟨_, _, _, e, _⟩ => SqL.of (e b _ hB1)) ?_ ?_⟩
    · rintro i x σ H1 H2 hx ⟨v4, v5, rfl, e1, hL1⟩ e2
      have e3 := e1.trans e2
      obtain ⟨kk, hkk, hrk⟩ := hB2.get hx
      have hcur : nbP ks ms so i = ((so.filter fun n => fit (ms.getD n.toNat z0) kk) != []) := by unfold nbP; rw [getD_of hkk]
      refine ⟨_, rfl, c, rfl, ⟨_, e3.seq hC⟩, fun D hD => lc_list (K := K) (a := c) (xs := iV so) (fun j H3 => Same H2 H3 ∧ H3 D = some (.lst (iV ((so.take j).filter fun n => fit (ms.getD n.toNat z0) kk))))
        ⟨Same.new hD, upd_same⟩ (fun j H3 _ p => (e3.trans p.1).seq hC) ?_ ?_⟩
      · rintro j y H3 hy ⟨e4, hD3⟩
        obtain ⟨n, hn, rfl⟩ := iV_get hy
        have hb := hin n (List.mem_iff_getElem?.mpr ⟨j, hn⟩)
        obtain ⟨m, hm⟩ := get_of (l := ms) (i := n.toNat) (by omega)
        obtain ⟨vm, hvm, hrm⟩ := hA2.got hm
        have e5 := e3.trans e4
        have hft := filter_take (p := fun n => fit (ms.getD n.toNat z0) kk) hn
        have hpn : fit (ms.getD n.toNat z0) kk = fit m kk := by rw [getD_of hm]
        refine ⟨rfl, _, rfl, _, rfl, a, vms, n, vm, rfl, rfl, SqL.of (e5 a _ hA1), at_of (j := n.toNat) (by omega) hvm, _, rfl, vm, x, m, kk, rfl, hrm.same e5, hrk.same e5, _, rfl, ifb (fun q => ⟨_, rfl, _, hD3, ?_, (Same.mut e4 hD), ?_⟩) fun q => ⟨e4, ?_⟩⟩
        · refine szl (m := 100) ?_
          rw [iV_len]
          exact Nat.le_trans (List.length_filter_le _ _) (by rw [List.length_take]; omega)
        · rw [upd_same, hft, hpn, q, if_pos rfl, iV_app]; rfl
        · rw [hft, hpn, q, if_neg (by decide), List.append_nil]; exact hD3
      · rintro H3 ⟨e4, hD3⟩
        rw [iV_len, List.take_length] at hD3
        refine ⟨by decide, fun p0 hp0 => ?_⟩
        have e5 := e3.trans e4
        have e6 := e5.trans (Same.new (o := .lst []) hp0)
        refine ⟨_, _, dp_iV (SqL.of (Same.new hp0 D _ hD3)), dp_iV (ns := []) (SqL.of upd_same), shaped_iV _, shaped_iV [], _, rfl, ?_⟩
        rw [eqv_nil, ← hcur]
        have hL5 := Same.new (o := .lst []) hp0 L _ (e4 L _ (e2 L _ hL1))
        have hfm := filter_more (p := nbP ks ms so) i
        refine ifb (fun q => ⟨_, rfl, .inl ⟨rfl, _, SqL.of hL5⟩, _, rfl, L, _, _, rfl, rfl, hL5, ?_, _, _, rfl, Same.mut e6 hL, ?_⟩) fun q => ⟨_, _, rfl, e6, ?_⟩
        · refine szl (m := 100) ?_
          rw [iV_len, nI_len]
          have h1 := range_len (p := nbP ks ms so) i
          have h2 := lt_of hkk
          unfold nbs
          omega
        · rw [upd_same]
          unfold nbs
          rw [hfm, q, if_pos rfl, nI_app, iV_app]
          rfl
        · unfold nbs
          rw [hfm, q, if_neg (by decide), List.append_nil]
          exact hL5
    · rintro σ H1 ⟨v4, v5, rfl, e1, hL1⟩
      rw [hB2.len] at hL1
      exact ⟨_, rfl, k _ L e1 hL hL1⟩
/-! ### choices_for -/
def spChoices (K : PySem.W.Frag) : Sp := fun vs H Q _ => ∃ (v : V) (b c : Addr) (m : Sr117.Rating) (ks : List Sr117.Rating) (es : List Int), vs = [v, .ref b, .ref c] ∧ RtAt H v m ∧ RtL H b ks ∧ SqL K H c (iV es) ∧ ks.length ≤ 5 ∧
  ∀ H' p, Same H H' → H p = none → H' p = some (.lst (iV (choices m ks es))) → Q (.ref p) H'
theorem ok_choices_for (T : Txt K mg C) {f1 : Addr} {fd1 : FuncData} (C_fits_ratings : Cl P w K mg base "fits_ratings" 1 f1 fd1 ["mould", "machine"] spFits) (F : Fun K "choices_for" "choices_for" s_choices_for f fd) :
    FnOk P w K mg base CX0 2 f fd ["mould", "machines", "entries"] (spChoices K) := by
  refine F.ok sc_choices_for (fun vs H Q E h => ?_) (fun cdv A outer s H vs Q E hr h => ?_)
  · obtain ⟨v, b, c, m, ks, es, rfl, _⟩ := h
    rfl
  · obtain ⟨v, b, c, m, ks, es, rfl, hA, hB, hC, hk, k⟩ := h
    obtain ⟨vks, hB1, hB2⟩ := id hB
    refine ⟨_, (pss_cons (ps_set (i := 3) sc_choices_for.nd rfl (Or.inl rfl) (pe_lst pa_nil))
        (pss_cons (ps_for PassesOwn.never rfl (pi_enum (by rfl) T.enumerate (pa_cons (pv 1) pa_nil)) (pg_tup rfl (pgs_cons (pg_name (i := 4) sc_choices_for.nd rfl (Or.inl rfl)) (pgs_cons (pg_name (i := 5) sc_choices_for.nd rfl (Or.inl rfl)) pgs_nil))) (pss_one (ps_if (PW.pt (pw_and (pt_val (pe_call C_fits_ratings.ok (hr.mono (by decide)) rfl C_fits_ratings.gl C_fits_ratings.kp C_fits_ratings.bi .nil pass0 (pa_cons (pv 0) (pa_cons (pv 5) pa_nil)))) (pw_and1 (pt_cmpR op_notIn_seq (pv 4) (pv 2) rfl)))) (pss_one (ps_expr (pe_bm PySem.F.plainAttrs_list PySem.F.slot_list_append PySem.F.type_list_append mt_append (pv 3) (pa_cons (pv 4) pa_nil)))) pss_nil)))
        (pss_one (ps_ret (pe_op op_cat (pv 3) (pe_lst (pa_cons (pgi T.nowhere) pa_nil))))))), ?_⟩
    refine ⟨by decide, fun L hL => ?_⟩
    have e0 : Same H _ := Same.new (o := .lst []) hL
    refine ⟨_, rfl, b, vks, rfl, SqL.of (e0 b _ hB1), for_enum (xs := vks) (fun i σ H' => ∃ v4 v5, σ = [some v, some (.ref b), some (.ref c), some (.ref L), v4, v5] ∧ Same H H' ∧ H' L = some (.lst (iV (nI (chs m ks es i)))))
      ⟨none, none, rfl, e0, upd_same⟩ (fun i σ H' _ ⟨_, _, _, e, _⟩ => SqL.of (e b _ hB1)) ?_ ?_⟩
    · rintro i x σ H1 H2 hx ⟨v4, v5, rfl, e1, hL1⟩ e2
      have e3 := e1.trans e2
      obtain ⟨kk, hkk, hrk⟩ := hB2.get hx
      have hcur : chP m ks es i = (fit m kk && !es.contains (i : Int)) := by unfold chP; rw [getD_of hkk]
      have hfm := filter_more (p := chP m ks es) i
      have hL2 := e2 L _ hL1
      refine ⟨_, rfl, _, rfl, v, x, m, kk, rfl, hA.same e3, hrk.same e3, _, rfl, ifb (fun q1 => ⟨_, rfl, _, rfl, c, iV es, rfl, .inl (e3.seq hC), rfl, iV_flat es, _, rfl, ?_⟩) fun q1 => iteF ⟨_, _, rfl, e3, ?_⟩⟩
      · rw [if_pos rfl, inV_iV]
        refine ifb (fun q2 => ⟨_, rfl, .inl ⟨rfl, _, SqL.of hL2⟩, _, rfl, L, _, _, rfl, rfl, hL2, ?_, _, _, rfl, Same.mut e3 hL, ?_⟩) fun q2 => ⟨_, _, rfl, e3, ?_⟩
        · refine szl (m := 100) ?_
          rw [iV_len, nI_len]
          have h1 := range_len (p := chP m ks es) i
          have h2 := lt_of hkk
          unfold chs
          omega
        · rw [upd_same]
          unfold chs
          rw [hfm, hcur, q1, q2, Bool.and_true, if_pos rfl, nI_app, iV_app]
          rfl
        · unfold chs
          rw [hfm, hcur, q2, Bool.and_false, if_neg (by decide), List.append_nil]
          exact hL2
      · unfold chs
        rw [hfm, hcur, q1, Bool.false_and, if_neg (by decide), List.append_nil]
        exact hL2
    · rintro σ H1 ⟨v4, v5, rfl, e1, hL1⟩
      rw [hB2.len] at hL1
      refine ⟨_, rfl, by decide, fun p1 hp1 => ⟨L, p1, _, _, rfl, rfl, Same.new hp1 L _ hL1, upd_same, ?_, fun p2 hp2 => ?_⟩⟩
      · refine sz (m := 100) ?_
        rw [iV_len, nI_len]
        have h1 := range_len (p := chP m ks es) ks.length
        unfold chs
        show _ + 1 ≤ 100
        omega
      · have e2 := e1.trans (Same.new (o := .lst [.int (-1)]) hp1)
        refine k _ p2 (e2.trans (Same.new hp2)) (e2.free hp2) ?_
        rw [upd_same]
        unfold choices
        rw [iV_app]
        rfl
end
end My
namespace My
open PySem PySem.Spec PyProof.Rows L2
section
variable {P : Program} {w : World} {K : PySem.W.Frag} {mg : Str → Option Value} {base : Heap} {C : Addr} {f : Addr} {fd : FuncData}
/-! ### valid_assignments -/
/-- a list of ints at v, at no address of N -/
def EsAt (H : Hp) (N : Addr → Prop) (v : V) (es : List Int) : Prop := ∃ p, v = .ref p ∧ ¬ N p ∧ H p = some (.lst (iV es))
theorem EsAt.same {H H' : Hp} {N : Addr → Prop} (e : Same H H') {v : V} {es : List Int} (h : EsAt H N v es) : EsAt H' N v es := let ⟨p, a, b, c⟩ := h; ⟨p, a, b, e _ _ c⟩
theorem yes_if {σ : L2.St} {H : Hp} {A B : Hp → Prop} (h : A H) : tYes σ H fun b H3 => if b = true then A H3 else B H3 := by
  show if true = true then A H else B H
  rw [if_pos rfl]
  exact h
theorem Al.one {B : Type} {R : V → B → Prop} {v : V} {b : B} (h : R v b) : Al R [v] [b] := ⟨h, trivial⟩
abbrev anyA : Addr → Prop := fun _ => False
def spValid : Sp := fun vs H Q _ => ∃ (a b : Addr) (ms ks : List Sr117.Rating), vs = [.ref a, .ref b] ∧ RtL H a ms ∧ RtL H b ks ∧ ms.length ≤ 5 ∧ ks.length ≤ 5 ∧
  ∀ H' p vs, Same H H' → H' p = some (.lst vs) → Al (EsAt H' anyA) vs (lay ks ms ms.length) → Q (.ref p) H'
theorem pow6 {i : Nat} (h : i ≤ 5) : 6 ^ i ≤ 7776 := Nat.pow_le_pow_right (n := 6) (by decide) h
theorem ok_valid_assignments (T : Txt K mg C) {f1 : Addr} {fd1 : FuncData} (C_choices_for : Cl P w K mg base "choices_for" 2 f1 fd1 ["mould", "machines", "entries"] (spChoices K)) (F : Fun K "valid_assignments" "valid_assignments" s_valid_assignments f fd) :
    FnOk P w K mg base CX0 3 f fd ["moulds", "machines"] spValid := by
  refine F.ok sc_valid_assignments (fun vs H Q E h => ?_) (fun cdv A outer s H vs Q E hr h => ?_)
  · obtain ⟨a, b, ms, ks, rfl, _⟩ := h
    rfl
  · obtain ⟨a, b, ms, ks, rfl, hA, hB, hm5, hk, k⟩ := h
    obtain ⟨vms, hA1, hA2⟩ := id hA
    refine ⟨_, (pss_cons (ps_set (i := 2) sc_valid_assignments.nd rfl (Or.inl rfl) (pe_lst (pa_cons (pe_lst pa_nil) pa_nil)))
        (pss_cons (ps_for PassesOwn.never rfl (pi_list (pv 0)) (pg_name (i := 3) sc_valid_assignments.nd rfl (Or.inl rfl)) (pss_cons (ps_set (i := 4) sc_valid_assignments.nd rfl (Or.inl rfl) (pe_lst pa_nil))
        (pss_cons (ps_for PassesOwn.never rfl (pi_list (pv 2)) (pg_name (i := 5) sc_valid_assignments.nd rfl (Or.inr rfl)) (pss_one (ps_expr (pe_bm PySem.F.plainAttrs_list PySem.F.slot_list_extend PySem.F.type_list_extend mt_extend (pv 4) (pa_cons (pe_lc (own := [("entry", 6)]) (g := gName 6) (by rfl) sc_valid_assignments.nd (pi_list (pe_call C_choices_for.ok (hr.mono (by decide)) rfl C_choices_for.gl C_choices_for.kp C_choices_for.bi .nil pass0 (pa_cons (pv 3) (pa_cons (pv 1) (pa_cons (pv 5) pa_nil))))) (blkOk_by (own := [("entry", 6)]) (N := nsc_valid_assignments) (sc := defScope s_valid_assignments) (by decide +kernel)) (fun _ _ _ _ _ => pg_name (i := 6) sc_valid_assignments.nd rfl (Or.inl rfl)) (fun _ _ _ _ _ => pts_nil) (fun _ _ _ _ _ => (pe_op op_cat (pv 5) (pe_lst (pa_cons (pv 6) pa_nil))))) pa_nil)))))
        (pss_one (ps_set (i := 2) sc_valid_assignments.nd rfl (Or.inl rfl) (pv 4))))))
        (pss_one (ps_ret (pv 2))))), ?_⟩
    refine ⟨by decide, fun q0 hq0 => ⟨sz (m := 1) (Nat.le_refl _), fun p0 hp0 => ?_⟩⟩
    have e0 : Same H _ := (Same.new (o := .lst []) hq0).trans (Same.new (o := .lst [.ref q0]) hp0)
    have hne0 : q0 ≠ p0 := fun e => by rw [← e, upd_same] at hp0; cases hp0
    refine ⟨_, rfl, a, rfl, ⟨_, SqL.of (e0 a _ hA1)⟩, for_list (K := K) (a := a) (xs := vms) (fun i σ H' => ∃ (fp : Addr) (vfs : List V) (v3 v4 v5 : Option V), σ = [some (.ref a), some (.ref b), some (.ref fp), v3, v4, v5, none] ∧ Same H H' ∧ H' fp = some (.lst vfs) ∧ Al (EsAt H' anyA) vfs (lay ks ms i))
      ⟨p0, _, none, none, none, rfl, e0, upd_same, Al.one ⟨q0, rfl, fun z => z, (upd_ne hne0).trans upd_same⟩⟩ (fun i σ H' _ ⟨_, _, _, _, _, _, e, _⟩ => SqL.of (e a _ hA1)) ?_ ?_⟩
    · -- one mould more
      rintro i y σ H1 hy ⟨fp, vfs, v3, v4, v5, rfl, e1, hfp, hall⟩
      obtain ⟨m, hm, hrm⟩ := hA2.get hy
      have hi : i < ms.length := lt_of hm
      have hlen1 := lay_len (ks := ks) (ms := ms) hk (i := i) (by omega)
      have h6 := pow6 (i := i) (by omega)
      have hes := lay_each (ks := ks) (ms := ms) (i := i) (by omega)
      refine ⟨by decide, fun L hL => ?_⟩
      have e2 : Same H1 _ := Same.new (o := .lst []) hL
      refine ⟨_, rfl, fp, rfl, ⟨_, SqL.of (e2 fp _ hfp)⟩, for_list (K := K) (a := fp) (xs := vfs) (fun j σ H3 => ∃ (vl : List V) (v5 : Option V), σ = [some (.ref a), some (.ref b), some (.ref fp), some y, some (.ref L), v5, none] ∧ Same H1 H3 ∧ H3 L = some (.lst vl) ∧
          Al (EsAt H3 (· = L)) vl (((lay ks ms i).take j).flatMap (ext1 ks m)))
        ⟨[], v5, rfl, e2, upd_same, trivial⟩ (fun j σ H3 _ ⟨_, _, _, e, _⟩ => SqL.of (e fp _ hfp)) ?_ ?_⟩
      · -- the assignments that go on from one
        rintro j x σ H3 hx ⟨vl, v5, rfl, e3, hL3, hvl⟩
        obtain ⟨es, hes1, pe, rfl, _, hpe⟩ := hall.get hx
        have hesl : es.length ≤ 5 := by have := hes es (List.mem_iff_getElem?.mpr ⟨j, hes1⟩); omega
        have hj := lt_of hes1
        have hvll : vl.length ≤ 60000 := by
          have h1 := hvl.len
          have h2 := flat_len (f := ext1 ks m) (n := 6) (fun x => by have := ext1_len ks m x; omega) ((lay ks ms i).take j)
          rw [List.length_take] at h2
          have h3 : min j (lay ks ms i).length * 6 ≤ 7776 * 6 := Nat.mul_le_mul_right 6 (by omega)
          omega
        refine ⟨_, rfl, .inl ⟨rfl, _, SqL.of hL3⟩, _, rfl, _, rfl, _, rfl, y, b, pe, m, ks, es, rfl, hrm.same (e1.trans e3), hB.same (e1.trans e3), SqL.of (e3 pe _ hpe), hk, fun H4 c e4 hc hc4 => ⟨c, rfl, ⟨_, SqL.of hc4⟩, fun D hD => ?_⟩⟩
        have e14 := e3.trans e4
        have hL4 := e4 L _ hL3
        refine lc_list (K := K) (a := c) (xs := iV (choices m ks es)) (fun n H5 => ∃ vd, Same H4 H5 ∧ H5 D = some (.lst vd) ∧ Al (EsAt H5 fun p => p = D ∨ H4 p ≠ none) vd (((choices m ks es).take n).map fun e => es ++ [e]))
          ⟨[], Same.new hD, upd_same, trivial⟩ (fun n H5 _ ⟨_, e, _⟩ => SqL.of (e c _ hc4)) ?_ ?_
        · rintro n z H5 hz ⟨vd, e5, hD5, hvd⟩
          obtain ⟨e, he, rfl⟩ := iV_get hz
          refine ⟨rfl, yes_if ⟨_, rfl, _, rfl, sz (m := 1) (Nat.le_refl _), fun q hq => ⟨pe, q, iV es, _, rfl, rfl, ?_, upd_same, ?_, fun p hp => ⟨vd, ?_, ?_, vd ++ [.ref p], ?_, upd_same, ?_⟩⟩⟩⟩
          · exact Same.new hq pe _ (e5 pe _ (e14 pe _ hpe))
          · refine sz (m := 100) ?_
            rw [iV_len]
            show _ + 1 ≤ 100
            omega
          · exact Same.new hp D _ (Same.new hq D _ hD5)
          · refine szl (m := 100) ?_
            have h1 := hvd.len
            have h2 := choices_len m ks es
            rw [List.length_map, List.length_take] at h1
            omega
          · exact Same.mut ((e5.trans (Same.new hq)).trans (Same.new hp)) hD
          · have hpD : p ≠ D := fun z => by rw [z, Same.new hq D _ hD5] at hp; cases hp
            have hp4 : H4 p = none := e5.free (Same.free (Same.new hq) hp)
            have hq4 : H5 p = none := Same.free (Same.new (o := .lst [.int e]) hq) hp
            have keep : ∀ v es, EsAt H5 (fun p => p = D ∨ H4 p ≠ none) v es → EsAt (upd (upd (upd H5 q (.lst [.int e])) p (.lst (iV es ++ [.int e]))) D (.lst (vd ++ [.ref p]))) (fun p => p = D ∨ H4 p ≠ none) v es := by
              rintro v es' ⟨p', rfl, hn, h'⟩
              refine ⟨p', rfl, hn, ?_⟩
              rw [upd_ne (fun z => hn (.inl z))]
              have hpp : p' ≠ p := fun z => by rw [z, hq4] at h'; cases h'
              have hqq : p' ≠ q := fun z => by rw [z, hq] at h'; cases h'
              rw [upd_ne hpp, upd_ne hqq]
              exact h'
            rw [take_more he, List.map_append]
            refine Al.app ?_ (Al.one ⟨p, rfl, ?_, ?_⟩)
            · refine hvd.mono fun v es' h' => ?_
              obtain ⟨p', rfl, hn, h2⟩ := h'
              refine ⟨p', rfl, hn, ?_⟩
              have hpp : p' ≠ p := fun z => by rw [z, hq4] at h2; cases h2
              have hqq : p' ≠ q := fun z => by rw [z, hq] at h2; cases h2
              rw [upd_ne (fun z => hn (.inl z)), upd_ne hpp, upd_ne hqq]
              exact h2
            · rintro (z | z)
              · exact hpD z
              · exact z hp4
            · rw [upd_ne hpD, upd_same, iV_app]
              rfl
        · rintro H5 ⟨vd, e5, hD5, hvd⟩
          rw [iV_len, List.take_length] at hvd
          have e15 := e14.trans e5
          refine ⟨L, D, vl, vd, rfl, rfl, e5 L _ hL4, hD5, ?_, vl ++ vd, _, rfl, Same.mut e15 hL, upd_same, ?_⟩
          · refine sz (m := 100000) ?_
            have h1 := hvd.len
            have h2 := choices_len m ks es
            rw [List.length_map] at h1
            omega
          · rw [take_more hes1, List.flatMap_append, List.flatMap_cons, List.flatMap_nil, List.append_nil]
            refine Al.app (hvl.mono fun v es' h' => ?_) (hvd.mono fun v es' h' => ?_)
            · obtain ⟨p', rfl, hn, h2⟩ := h'
              exact ⟨p', rfl, hn, (upd_ne hn).trans (e5 _ _ (e4 _ _ h2))⟩
            · obtain ⟨p', rfl, hn, h2⟩ := h'
              have hpl : p' ≠ L := fun z => hn (.inr (by rw [z, hL4]; exact fun q => by cases q))
              exact ⟨p', rfl, hpl, (upd_ne hpl).trans h2⟩
      · rintro σ H3 ⟨vl, v5, rfl, e3, hL3, hvl⟩
        rw [hall.len, List.take_length, ← lay_more hm] at hvl
        exact ⟨_, rfl, L, vl, _, _, _, rfl, e1.trans e3, hL3, hvl.mono fun v es ⟨p, a, _, c⟩ => ⟨p, a, fun z => z, c⟩⟩
    · rintro σ H1 ⟨fp, vfs, v3, v4, v5, rfl, e1, hfp, hall⟩
      rw [hA2.len] at hall
      exact ⟨_, rfl, k _ fp vfs e1 hfp hall⟩
/-! ### best_assignment, max_running -/
def spBest : Sp := fun vs H Q _ => ∃ (a b : Addr) (ms ks : List Sr117.Rating), vs = [.ref a, .ref b] ∧ RtL H a ms ∧ RtL H b ks ∧ ms.length ≤ 5 ∧ ks.length ≤ 5 ∧
  ∀ H' p, Same H H' → H' p = some (.lst (iV (Sr117.encodeAssignment (Sr117.bestAssignment ⟨ks, ms⟩)))) → Q (.ref p) H'
theorem rep_flat (n : Nat) : (List.replicate n [V.int (-1)]).flatten = iV (List.replicate n (-1)) := by
  induction n with
  | zero => rfl
  | succ n ih =>
    rw [List.replicate_succ, List.flatten_cons, ih, List.replicate_succ]
    rfl
theorem ok_best_assignment (T : Txt K mg C) {f1 f2 : Addr} {fd1 fd2 : FuncData} (C_valid_assignments : Cl P w K mg base "valid_assignments" 3 f1 fd1 ["moulds", "machines"] spValid) (C_size_of : Cl P w K mg base "size_of" 1 f2 fd2 ["entries"] (spSizeOf K))
    (F : Fun K "best_assignment" "best_assignment" s_best_assignment f fd) : FnOk P w K mg base CX0 4 f fd ["moulds", "machines"] spBest := by
  refine F.ok sc_best_assignment (fun vs H Q E h => ?_) (fun cdv A outer s H vs Q E hr h => ?_)
  · obtain ⟨a, b, ms, ks, rfl, _⟩ := h
    rfl
  · obtain ⟨a, b, ms, ks, rfl, hA, hB, hm5, hk, k⟩ := h
    obtain ⟨vms, hA1, hA2⟩ := id hA
    refine ⟨_, (pss_cons (ps_set (i := 2) sc_best_assignment.nd rfl (Or.inl rfl) (pe_op op_rep (pe_lst (pa_cons (pgi T.nowhere) pa_nil)) (pe_callB call_len_seq (by rfl) T.len PySem.boot_len (pa_cons (pv 0) pa_nil))))
        (pss_cons (ps_set (i := 3) sc_best_assignment.nd rfl (Or.inl rfl) (pe_un un_neg pe_int))
        (pss_cons (ps_for PassesOwn.never rfl (pi_list (pe_call C_valid_assignments.ok (hr.mono (by decide)) rfl C_valid_assignments.gl C_valid_assignments.kp C_valid_assignments.bi .nil pass0 (pa_cons (pv 0) (pa_cons (pv 1) pa_nil)))) (pg_name (i := 4) sc_best_assignment.nd rfl (Or.inl rfl)) (pss_one (ps_if (pt_cmpR op_gt (pe_call C_size_of.ok (hr.mono (by decide)) rfl C_size_of.gl C_size_of.kp C_size_of.bi .nil pass0 (pa_cons (pv 4) pa_nil)) (pv 3) (nomark _)) (pss_one (ps_par (i := 2) (j := 3) (by rfl) sc_best_assignment.nd rfl rfl (by decide) rfl rfl (pa_cons (pv 4) (pa_cons (pe_call C_size_of.ok (hr.mono (by decide)) rfl C_size_of.gl C_size_of.kp C_size_of.bi .nil pass0 (pa_cons (pv 4) pa_nil)) pa_nil)) (by rfl))) pss_nil)))
        (pss_one (ps_ret (pv 2)))))), ?_⟩
    refine ⟨by decide, fun q0 hq0 => ?_⟩
    have e0 : Same H _ := Same.new (o := .lst [.int (-1)]) hq0
    refine ⟨_, rfl, a, vms, rfl, .inl (SqL.of (e0 a _ hA1)), q0, _, _, rfl, rfl, upd_same, ?_, ?_, ?_, fun p0 hp0 => ?_⟩
    · rw [hA2.len]; omega
    · rw [hA2.len]; omega
    · rw [hA2.len]
      refine sz (m := 5) ?_
      show 1 * (ms.length : Int).toNat ≤ 5
      omega
    rw [hA2.len, show (ms.length : Int).toNat = ms.length from Int.toNat_natCast _, rep_flat]
    have e1 := e0.trans (Same.new (o := .lst (iV (List.replicate ms.length (-1)))) hp0)
    refine ⟨1, rfl, _, rfl, _, rfl, a, b, ms, ks, rfl, hA.same e1, hB.same e1, hm5, hk, fun H2 l vl e2 hl hall => ⟨l, rfl, ⟨_, SqL.of hl⟩, ?_⟩⟩
    refine for_list (K := K) (a := l) (xs := vl) (fun i σ H' => H' = H2 ∧ ∃ (pf : Addr) (v4 : Option V), σ = [some (.ref a), some (.ref b), some (.ref pf), some (.int (bAll ((lay ks ms ms.length).take i) ms.length).2), v4] ∧ H2 pf = some (.lst (iV (bAll ((lay ks ms ms.length).take i) ms.length).1)))
      ⟨rfl, p0, none, rfl, e2 p0 _ upd_same⟩ (fun i σ H' _ ⟨e, _⟩ => by rw [e]; exact SqL.of hl) ?_ ?_
    · rintro i x σ H' hx ⟨rfl, pf, v4, rfl, hpf⟩
      obtain ⟨es, hes, pe, rfl, _, hpe⟩ := hall.get hx
      have hb := bAll_more (n := ms.length) hes
      refine ⟨_, rfl, pe, es, rfl, SqL.of hpe, _, rfl, _, _, rfl, rfl, _, rfl, ifb (fun q => ?_) fun q => ?_⟩
      · refine ⟨_, rfl, _, rfl, pe, es, rfl, SqL.of hpe, _, _, rfl, rfl, pe, some (.ref pe), ?_, ?_⟩
        · rw [hb]
          unfold bStep
          rw [if_pos (of_decide_eq_true q)]
          rfl
        · rw [hb]
          unfold bStep
          rw [if_pos (of_decide_eq_true q)]
          exact hpe
      · refine ⟨rfl, pf, some (.ref pe), ?_, ?_⟩
        · rw [hb]
          unfold bStep
          rw [if_neg (of_decide_eq_false q)]
          rfl
        · rw [hb]
          unfold bStep
          rw [if_neg (of_decide_eq_false q)]
          exact hpf
    · rintro σ H' ⟨rfl, pf, v4, rfl, hpf⟩
      rw [hall.len, List.take_length, best_eq] at hpf
      exact ⟨_, rfl, k _ pf (e1.trans e2) hpf⟩
def spMaxRun : Sp := fun vs H Q _ => ∃ (a b : Addr) (ms ks : List Sr117.Rating), vs = [.ref a, .ref b] ∧ RtL H a ms ∧ RtL H b ks ∧ ms.length ≤ 5 ∧ ks.length ≤ 5 ∧
  ∀ H', Same H H' → Q (.int (Sr117.maxRunning ⟨ks, ms⟩)) H'
theorem ok_max_running {f1 f2 : Addr} {fd1 fd2 : FuncData} (C_best_assignment_assignments : Cl P w K mg base "best_assignment_assignments" 4 f1 fd1 ["moulds", "machines"] spBest) (C_size_of : Cl P w K mg base "size_of" 1 f2 fd2 ["entries"] (spSizeOf K))
    (F : Fun K "max_running" "max_running" s_max_running f fd) : FnOk P w K mg base CX0 5 f fd ["moulds", "machines"] spMaxRun := by
  refine F.ok sc_max_running (fun vs H Q E h => ?_) (fun cdv A outer s H vs Q E hr h => ?_)
  · obtain ⟨a, b, ms, ks, rfl, _⟩ := h
    rfl
  · obtain ⟨a, b, ms, ks, rfl, hA, hB, hm5, hk, k⟩ := h
    refine ⟨_, (pss_one (ps_ret (pe_call C_size_of.ok (hr.mono (by decide)) rfl C_size_of.gl C_size_of.kp C_size_of.bi .nil pass0 (pa_cons (pe_call C_best_assignment_assignments.ok (hr.mono (by decide)) rfl C_best_assignment_assignments.gl C_best_assignment_assignments.kp C_best_assignment_assignments.bi .nil pass0 (pa_cons (pv 0) (pa_cons (pv 1) pa_nil))) pa_nil)))), ?_⟩
    refine ⟨_, rfl, _, rfl, a, b, ms, ks, rfl, hA, hB, hm5, hk, fun H2 p e2 hp => ⟨p, _, rfl, SqL.of hp, ?_⟩⟩
    rw [sizeOf_enc]
    exact k _ e2
end
end My
namespace My
open PySem PySem.Spec PyProof.Rows L2
section
variable {P : Program} {w : World} {K : PySem.W.Frag} {mg : Str → Option Value} {base : Heap} {C : Addr} {f : Addr} {fd : FuncData}
/-! ### are_entries, is_valid -/
theorem all_take_more {A : Type} {p : A → Bool} {l : List A} {i : Nat} {x : A} (h : l[i]? = some x) (a : (l.take i).all p = true) (q : p x = true) : (l.take (i + 1)).all p = true := by
  rw [take_more h, List.all_append, a]
  simp [q]
theorem all_at_fails {A : Type} {p : A → Bool} {l : List A} {i : Nat} {x : A} (h : l[i]? = some x) (q : p x = false) : l.all p = false := by
  cases e : l.all p with
  | false => rfl
  | true =>
    have := (List.all_eq_true.mp e) x (List.mem_iff_getElem?.mpr ⟨i, h⟩)
    rw [q] at this; cases this
theorem ne_of_dec {a b : Int} (h : (!decide (V.int a = V.int b)) = true) : a ≠ b := fun e => by
  rw [e] at h
  simp at h
theorem eq_of_dec {a b : Int} (h : (!decide (V.int a = V.int b)) = false) : a = b := by
  have : decide (V.int a = V.int b) = true := by simpa using h
  exact V.int.inj (of_decide_eq_true this)
def spAreEntries (K : PySem.W.Frag) : Sp := fun vs H Q _ => ∃ (a b c : Addr) (ms ks : List Sr117.Rating) (es : List Int), vs = [.ref a, .ref b, .ref c] ∧ RtL H a ms ∧ RtL H b ks ∧ SqL K H c (iV es) ∧ Q (.bl (areE ms.length ks.length es)) H
theorem ok_are_entries (T : Txt K mg C) {f1 : Addr} {fd1 : FuncData} (C_is_index : Cl P w K mg base "is_index" 1 f1 fd1 ["number", "many"] spIsIndex) (F : Fun K "are_entries" "are_entries" s_are_entries f fd) :
    FnOk P w K mg base CX0 2 f fd ["moulds", "machines", "entries"] (spAreEntries K) := by
  refine F.ok sc_are_entries (fun vs H Q E h => ?_) (fun cdv A outer s H vs Q E hr h => ?_)
  · obtain ⟨a, b, c, ms, ks, es, rfl, _⟩ := h
    rfl
  · obtain ⟨a, b, c, ms, ks, es, rfl, ⟨vms, hA1, hA2⟩, ⟨vks, hB1, hB2⟩, hC, k⟩ := h
    have k : Q (.bl (areE ms.length ks.length es)) H := k
    refine ⟨_, (pss_cons (ps_if (pt_cmpR op_ne (pe_callB call_len_seq (by rfl) T.len PySem.boot_len (pa_cons (pv 2) pa_nil)) (pe_callB call_len_seq (by rfl) T.len PySem.boot_len (pa_cons (pv 0) pa_nil)) (nomark _)) (pss_one (ps_ret pe_bl)) pss_nil)
        (pss_cons (ps_for PassesOwn.never rfl (pi_list (pv 2)) (pg_name (i := 3) sc_are_entries.nd rfl (Or.inl rfl)) (pss_one (ps_if (PW.pt (pw_and (pt_cmpR op_ne (pv 3) (pgi T.nowhere) (nomark _)) (pw_and1 (pt_not (pt_val (pe_call C_is_index.ok (hr.mono (by decide)) rfl C_is_index.gl C_is_index.kp C_is_index.bi .nil pass0 (pa_cons (pv 3) (pa_cons (pe_callB call_len_seq (by rfl) T.len PySem.boot_len (pa_cons (pv 1) pa_nil)) pa_nil)))))))) (pss_one (ps_ret pe_bl)) pss_nil)))
        (pss_one (ps_ret pe_bl)))), ?_⟩
    refine ⟨_, rfl, c, _, rfl, .inl hC, _, rfl, a, _, rfl, .inl (SqL.of hA1), rfl, _, rfl, ifb (fun q => ?_) fun q => ?_⟩
    · have hne := ne_of_dec q
      rw [iV_len, hA2.len] at hne
      refine cb k ?_
      unfold areE
      rw [decide_eq_false (fun e => hne (by rw [e])), Bool.false_and]
    have hlen := eq_of_dec q
    rw [iV_len, hA2.len] at hlen
    have hl : es.length = ms.length := Int.ofNat_inj.mp hlen
    have hk : areE ms.length ks.length es = es.all (arP ks.length) := by
      unfold areE
      rw [decide_eq_true hl, Bool.true_and]
    rw [hk] at k
    refine ⟨_, rfl, c, rfl, ⟨_, hC⟩, for_list (K := K) (a := c) (xs := iV es) (fun i σ H' => ∃ v3, σ = [some (.ref a), some (.ref b), some (.ref c), v3] ∧ H' = H ∧ (es.take i).all (arP ks.length) = true)
      ⟨none, rfl, rfl, rfl⟩ (fun i σ H' _ ⟨_, _, e, _⟩ => by rw [e]; exact hC) ?_ ?_⟩
    · rintro i x σ H1 hx ⟨v3, rfl, rfl, ha⟩
      obtain ⟨z, hz, rfl⟩ := iV_get hx
      refine ⟨_, rfl, rfl, _, rfl, ifb (fun q1 => ⟨_, rfl, _, rfl, b, vks, rfl, .inl (SqL.of hB1), z, vks.length, rfl, _, rfl, ifb (fun q2 => ?_) fun q2 => ?_⟩) fun q1 => iteF ?_⟩
      · refine cb k (all_at_fails hz ?_)
        have h1 : (z == -1) = false := beq_eq_false_iff_ne.mpr (ne_of_dec q1)
        rw [hB2.len] at q2
        unfold arP
        rw [h1, Bool.false_or]
        simpa using q2
      · refine ⟨_, rfl, rfl, all_take_more hz ha ?_⟩
        rw [hB2.len] at q2
        unfold arP
        have : okI z ks.length = true := by simpa using q2
        rw [this, Bool.or_true]
      · refine ⟨_, rfl, rfl, all_take_more hz ha ?_⟩
        have h1 : (z == -1) = true := beq_iff_eq.mpr (eq_of_dec q1)
        unfold arP
        rw [h1, Bool.true_or]
    · rintro σ H1 ⟨v3, rfl, rfl, ha⟩
      rw [iV_len, List.take_length] at ha
      rw [ha] at k
      exact k
def spIsValid (K : PySem.W.Frag) : Sp := fun vs H Q _ => ∃ (a b c : Addr) (ms ks : List Sr117.Rating) (es : List Int), vs = [.ref a, .ref b, .ref c] ∧ RtL H a ms ∧ RtL H b ks ∧ SqL K H c (iV es) ∧ areE ms.length ks.length es = true ∧
  ∀ H', Same H H' → Q (.bl (isVal ks ms es)) H'
theorem ok_is_valid (T : Txt K mg C) {f1 : Addr} {fd1 : FuncData} (C_fits_ratings : Cl P w K mg base "fits_ratings" 1 f1 fd1 ["mould", "machine"] spFits) (F : Fun K "is_valid" "is_valid" s_is_valid f fd) :
    FnOk P w K mg base CX0 2 f fd ["moulds", "machines", "entries"] (spIsValid K) := by
  refine F.ok sc_is_valid (fun vs H Q E h => ?_) (fun cdv A outer s H vs Q E hr h => ?_)
  · obtain ⟨a, b, c, ms, ks, es, rfl, _⟩ := h
    rfl
  · obtain ⟨a, b, c, ms, ks, es, rfl, ⟨vms, hA1, hA2⟩, ⟨vks, hB1, hB2⟩, hC, hae, k⟩ := h
    have k : ∀ H', Same H H' → Q (.bl (isVal ks ms es)) H' := k
    refine ⟨_, (pss_cons (ps_for PassesOwn.never rfl (pi_enum (by rfl) T.enumerate (pa_cons (pv 2) pa_nil)) (pg_tup rfl (pgs_cons (pg_name (i := 3) sc_is_valid.nd rfl (Or.inl rfl)) (pgs_cons (pg_name (i := 4) sc_is_valid.nd rfl (Or.inl rfl)) pgs_nil))) (pss_one (ps_if (pt_cmpR op_ne (pv 4) (pgi T.nowhere) (nomark _)) (pss_one (ps_if (PW.pt (pw_or (pt_not (pt_val (pe_call C_fits_ratings.ok (hr.mono (by decide)) rfl C_fits_ratings.gl C_fits_ratings.kp C_fits_ratings.bi .nil pass0 (pa_cons (pe_ix ix_list (pv 0) (pv 3) (fun _ _ => rfl)) (pa_cons (pe_ix ix_list (pv 1) (pv 4) (fun _ _ => rfl)) pa_nil))))) (pw_or1 (pt_cmpR op_in_seq (pv 4) (pe_slice sl_list (pv 2) po_none (po_some (pv 3))) rfl)))) (pss_one (ps_ret pe_bl)) pss_nil)) pss_nil)))
        (pss_one (ps_ret pe_bl))), ?_⟩
    refine ⟨_, rfl, c, _, rfl, hC, for_enum (xs := iV es) (fun i σ H' => ∃ v3 v4, σ = [some (.ref a), some (.ref b), some (.ref c), v3, v4] ∧ Same H H' ∧ (List.range i).all (vlP ks ms es) = true)
      ⟨none, none, rfl, Same.refl H, rfl⟩ (fun i σ H' _ ⟨_, _, _, e, _⟩ => e.seq hC) ?_ ?_⟩
    · rintro i x σ H1 H2 hx ⟨v3, v4, rfl, e1, ha⟩ e2
      obtain ⟨z, hz, rfl⟩ := iV_get hx
      have e3 := e1.trans e2
      have hi : i < es.length := lt_of hz
      refine ⟨_, rfl, rfl, _, rfl, ifb (fun q1 => ?_) fun q1 => ⟨_, _, rfl, e3, all_more ha ?_⟩⟩
      · have hz1 := ne_of_dec q1
        have hz2 : 0 ≤ z ∧ z < ks.length := by rcases areE_get hae hz with h | h; exact absurd h hz1; exact h
        have hlm := areE_len hae
        obtain ⟨m, hm⟩ := get_of (l := ms) (i := i) (by omega)
        obtain ⟨kk, hkk⟩ := get_of (l := ks) (i := z.toNat) (by omega)
        obtain ⟨vm, hvm, hrm⟩ := hA2.got hm
        obtain ⟨vk, hvk, hrk⟩ := hB2.got hkk
        have hone : vlP ks ms es i = (fit m kk && !(es.take i).contains z) := by
          unfold vlP
          rw [getD_of hz, getD_of hm, getD_of hkk, show (z == -1) = false from beq_eq_false_iff_ne.mpr hz1, Bool.false_or]
        refine ⟨_, rfl, _, rfl, a, vms, i, vm, rfl, rfl, SqL.of (e3 a _ hA1), atI_nat hvm, _, rfl, _, rfl, b, vks, z, vk, rfl, rfl, SqL.of (e3 b _ hB1), at_of (j := z.toNat) (by omega) hvk, vm, vk, m, kk, rfl, hrm.same e3, hrk.same e3, _, rfl, ifb (fun q2 => iteT ?_) fun q2 => ?_⟩
        · refine cb (k _ e3) (all_fails hi ?_)
          rw [hone]
          have : fit m kk = false := by simpa using q2
          rw [this, Bool.false_and]
        · have hf : fit m kk = true := by simpa using q2
          refine ⟨_, rfl, _, rfl, _, rfl, _, rfl, c, iV es, rfl, e3.seq hC, fun p hp => ?_⟩
          rw [cut_take]
          refine ⟨p, iV (es.take i), rfl, .inl (SqL.of (by rw [upd_same]; unfold iV; rw [List.map_take])), rfl, iV_flat _, _, rfl, ?_⟩
          rw [if_neg (by decide), inV_iV]
          have e4 := e3.trans (Same.new (o := .lst ((iV es).take i)) hp)
          refine ifb (fun q3 => ?_) fun q3 => ?_
          · refine cb (k _ e4) (all_fails hi ?_)
            rw [hone, q3]
            simp
          · refine ⟨_, _, rfl, e4, all_more ha ?_⟩
            rw [hone, q3, hf]
            rfl
      · unfold vlP
        rw [getD_of hz, show (z == -1) = true from beq_iff_eq.mpr (eq_of_dec q1), Bool.true_or]
    · rintro σ H1 ⟨v3, v4, rfl, e1, ha⟩
      rw [iV_len] at ha
      exact cb (k _ e1) ha
/-! ### members_of -/
theorem bits_at {i : Nat} (h : i < 6) : (iV [1, 2, 4, 8, 16, 32])[i]? = some (.int ((2 ^ i : Nat) : Int)) := by
  match i, h with
  | 0, _ => rfl
  | 1, _ => rfl
  | 2, _ => rfl
  | 3, _ => rfl
  | 4, _ => rfl
  | 5, _ => rfl
  | n + 6, h => omega
theorem bit_of (mask i : Nat) : decide (V.int (((mask : Int).fdiv ((2 ^ i : Nat) : Int)).fmod 2) = V.int 1) = (mask / 2 ^ i % 2 == 1) := by
  have e : ((mask : Int).fdiv ((2 ^ i : Nat) : Int)).fmod 2 = ((mask / 2 ^ i % 2 : Nat) : Int) := by
    rw [Int.fdiv_eq_ediv_of_nonneg _ (Int.natCast_nonneg _), Int.fmod_eq_emod_of_nonneg _ (by decide)]
    rfl
  rw [e, Bool.eq_iff_iff, decide_eq_true_eq, beq_iff_eq, V.int.injEq]
  omega
def spMembers : Sp := fun vs H Q _ => ∃ (z : Int) (mask n : Nat), vs = [.int z, .int n] ∧ z = mask ∧ n ≤ 5 ∧ ∀ H' p, Same H H' → H p = none → H' p = some (.lst (iV (nI (mems mask n)))) → Q (.ref p) H'
theorem ok_members_of (T : Txt K mg C) (F : Fun K "members_of" "members_of" s_members_of f fd) : FnOk P w K mg base CX0 1 f fd ["mask", "many"] spMembers := by
  refine F.ok sc_members_of (fun vs H Q E h => ?_) (fun cdv A outer s H vs Q E hr h => ?_)
  · obtain ⟨z, mask, n, rfl, _⟩ := h
    rfl
  · obtain ⟨z, mask, n, rfl, rfl, hn, k⟩ := h
    obtain ⟨bb, gBITS, hBITS⟩ := T.bits
    refine ⟨_, (pss_cons (ps_set (i := 2) sc_members_of.nd rfl (Or.inl rfl) (pe_lst pa_nil))
        (pss_cons (ps_for PassesOwn.never rfl (pi_range1 rfl T.range (pa_cons (pv 1) pa_nil)) (pg_name (i := 3) sc_members_of.nd rfl (Or.inl rfl)) (pss_one (ps_if (pt_cmpR op_eq (pe_op op_modN (pe_op op_fdivN (pv 0) (pe_ix ix_tup (pgr gBITS) (pv 3) (fun _ _ => rfl))) pe_int) pe_int (nomark _)) (pss_one (ps_expr (pe_bm PySem.F.plainAttrs_list PySem.F.slot_list_append PySem.F.type_list_append mt_append (pv 2) (pa_cons (pv 3) pa_nil)))) pss_nil)))
        (pss_one (ps_ret (pv 2))))), ?_⟩
    refine ⟨by decide, fun L hL => ?_⟩
    have e0 : Same H _ := Same.new (o := .lst []) hL
    refine ⟨_, rfl, n, rfl, by omega, by omega, for_range (lo := 0) (n := n) (fun i σ H' => ∃ v3, σ = [some (.int mask), some (.int n), some (.ref L), v3] ∧ Same H H' ∧ H' L = some (.lst (iV (nI (mems mask i)))))
      ⟨none, rfl, e0, upd_same⟩ ?_ ?_⟩
    · rintro i σ H1 hi ⟨v3, rfl, e1, hL1⟩
      rw [Int.zero_add]
      have hfm := filter_more (p := fun b => mask / 2 ^ b % 2 == 1) i
      refine ⟨_, rfl, _, rfl, bb, _, i, _, rfl, rfl, hBITS _, atI_nat (bits_at (by omega)), _, _, rfl, rfl, ⟨?_, ?_⟩, _, _, rfl, rfl, (show (2 : Int) ≠ 0 by decide), rfl, _, rfl, ?_⟩
      · have := Nat.two_pow_pos i; omega
      · have h2 : 2 ^ i ≤ 2 ^ 5 := Nat.pow_le_pow_right (by decide) (by omega)
        rw [Int.natAbs_natCast]
        omega
      rw [bit_of]
      refine ifb (fun q => ⟨_, rfl, .inl ⟨rfl, _, SqL.of hL1⟩, _, rfl, L, _, _, rfl, rfl, hL1, ?_, _, rfl, Same.mut e1 hL, ?_⟩) fun q => ⟨_, rfl, e1, ?_⟩
      · refine szl (m := 100) ?_
        rw [iV_len, nI_len]
        have := mems_len mask i
        omega
      · rw [upd_same]
        unfold mems
        rw [hfm, q, if_pos rfl, nI_app, iV_app]
        rfl
      · unfold mems
        rw [hfm, q, if_neg (by decide), List.append_nil]
        exact hL1
    · rintro σ H1 ⟨v3, rfl, e1, hL1⟩
      exact ⟨_, rfl, k _ L e1 hL hL1⟩
/-! ### is_cover -/
def spIsCover (K : PySem.W.Frag) : Sp := fun vs H Q _ => ∃ (a b c d : Addr) (ms ks : List Sr117.Rating) (so ot : List Int), vs = [.ref a, .ref b, .ref c, .ref d] ∧ RtL H a ms ∧ RtL H b ks ∧ SqL K H c (iV so) ∧ SqL K H d (iV ot) ∧
  ∀ H', Same H H' → Q (.bl (isCov ks ms so ot)) H'
theorem ok_is_cover (T : Txt K mg C) {f1 : Addr} {fd1 : FuncData} (C_fits_ratings : Cl P w K mg base "fits_ratings" 1 f1 fd1 ["mould", "machine"] spFits) (F : Fun K "is_cover" "is_cover" s_is_cover f fd) :
    FnOk P w K mg base CX0 2 f fd ["moulds", "machines", "some", "others"] (spIsCover K) := by
  refine F.ok sc_is_cover (fun vs H Q E h => ?_) (fun cdv A outer s H vs Q E hr h => ?_)
  · obtain ⟨a, b, c, d, ms, ks, so, ot, rfl, _⟩ := h
    rfl
  · obtain ⟨a, b, c, d, ms, ks, so, ot, rfl, ⟨vms, hA1, hA2⟩, ⟨vks, hB1, hB2⟩, hC, hD, k⟩ := h
    have k : ∀ H', Same H H' → Q (.bl (isCov ks ms so ot)) H' := k
    refine ⟨_, (pss_cons (ps_for PassesOwn.never rfl (pi_enum (by rfl) T.enumerate (pa_cons (pv 0) pa_nil)) (pg_tup rfl (pgs_cons (pg_name (i := 4) sc_is_cover.nd rfl (Or.inl rfl)) (pgs_cons (pg_name (i := 5) sc_is_cover.nd rfl (Or.inl rfl)) pgs_nil))) (pss_one (ps_for PassesOwn.never rfl (pi_enum (by rfl) T.enumerate (pa_cons (pv 1) pa_nil)) (pg_tup rfl (pgs_cons (pg_name (i := 6) sc_is_cover.nd rfl (Or.inl rfl)) (pgs_cons (pg_name (i := 7) sc_is_cover.nd rfl (Or.inl rfl)) pgs_nil))) (pss_one (ps_if (PW.pt (pw_and (pt_val (pe_call C_fits_ratings.ok (hr.mono (by decide)) rfl C_fits_ratings.gl C_fits_ratings.kp C_fits_ratings.bi .nil pass0 (pa_cons (pv 5) (pa_cons (pv 7) pa_nil)))) (pw_and (pt_cmpR op_notIn_seq (pv 4) (pv 2) rfl) (pw_and1 (pt_cmpR op_notIn_seq (pv 6) (pv 3) rfl))))) (pss_one (ps_ret pe_bl)) pss_nil)))))
        (pss_one (ps_ret pe_bl))), ?_⟩
    refine ⟨_, rfl, a, _, rfl, SqL.of hA1, for_enum (xs := vms) (fun i σ H' => ∃ v4 v5 v6 v7, σ = [some (.ref a), some (.ref b), some (.ref c), some (.ref d), v4, v5, v6, v7] ∧ Same H H' ∧ (List.range i).all (cvR ks ms so ot) = true)
      ⟨none, none, none, none, rfl, Same.refl H, rfl⟩ (fun i σ H' _ ⟨_, _, _, _, _, e, _⟩ => SqL.of (e a _ hA1)) ?_ ?_⟩
    · rintro i x σ H1 H2 hx ⟨v4, v5, v6, v7, rfl, e1, ha⟩ e2
      obtain ⟨m, hm, hrm⟩ := hA2.get hx
      have e3 := e1.trans e2
      have hi := lt_of hm
      refine ⟨_, rfl, b, _, rfl, SqL.of (e3 b _ hB1), for_enum (xs := vks) (fun j σ H' => ∃ v6 v7, σ = [some (.ref a), some (.ref b), some (.ref c), some (.ref d), some (.int (i : Nat)), some x, v6, v7] ∧ Same H H' ∧ (List.range j).all (cvP ks ms so ot i) = true)
        ⟨v6, v7, rfl, e3, rfl⟩ (fun j σ H' _ ⟨_, _, _, e, _⟩ => SqL.of (e b _ hB1)) ?_ ?_⟩
      · rintro j y σ H3 H4 hy ⟨v6, v7, rfl, e4, hb⟩ e5
        obtain ⟨kk, hkk, hrk⟩ := hB2.get hy
        have e6 := e4.trans e5
        have hj := lt_of hkk
        have hone : cvP ks ms so ot i j = !(fit m kk && !so.contains (i : Int) && !ot.contains (j : Int)) := by
          unfold cvP
          rw [getD_of hm, getD_of hkk]
        refine ⟨_, rfl, _, rfl, x, y, m, kk, rfl, hrm.same e6, hrk.same e6, _, rfl, ifb (fun q1 => ⟨_, rfl, _, rfl, c, iV so, rfl, .inl (e6.seq hC), rfl, iV_flat so, _, rfl, ?_⟩) fun q1 => iteF ⟨_, _, rfl, e6, all_more hb ?_⟩⟩
        · rw [if_pos rfl, inV_iV]
          refine ifb (fun q2 => ⟨_, rfl, _, rfl, d, iV ot, rfl, .inl (e6.seq hD), rfl, iV_flat ot, _, rfl, ?_⟩) fun q2 => iteF ⟨_, _, rfl, e6, all_more hb ?_⟩
          · rw [if_pos rfl, inV_iV]
            refine ifb (fun q3 => ?_) fun q3 => ⟨_, _, rfl, e6, all_more hb ?_⟩
            · refine cb (k _ e6) (all_fails hi ?_)
              refine all_fails hj ?_
              rw [hone, q1, q2, q3]
              rfl
            · rw [hone, q3, Bool.and_false]
              rfl
          · rw [hone, q2, Bool.and_false, Bool.false_and]
            rfl
        · rw [hone, q1, Bool.false_and, Bool.false_and]
          rfl
      · rintro σ H3 ⟨v6, v7, rfl, e4, hb⟩
        rw [hB2.len] at hb
        exact ⟨_, _, _, _, rfl, e4, all_more ha hb⟩
    · rintro σ H1 ⟨v4, v5, v6, v7, rfl, e1, ha⟩
      rw [hA2.len] at ha
      exact cb (k _ e1) ha
end
end My
namespace My
open PySem PySem.Spec PyProof.Rows L2
section
variable {P : Program} {w : World} {K : PySem.W.Frag} {mg : Str → Option Value} {base : Heap} {C : Addr} {f : Addr} {fd : FuncData}
/-! ### minimum_cover -/
/-- a pair of two lists of indices at p -/
def CvAt (H : Hp) (p : Addr) (c : Cv) : Prop := ∃ c1 c2, H p = some (.tup [.ref c1, .ref c2]) ∧ H c1 = some (.lst (iV (nI c.1))) ∧ H c2 = some (.lst (iV (nI c.2)))
theorem CvAt.same {H H' : Hp} (e : Same H H') {p : Addr} {c : Cv} (h : CvAt H p c) : CvAt H' p c := let ⟨c1, c2, a, b, d⟩ := h; ⟨c1, c2, e _ _ a, e _ _ b, e _ _ d⟩
theorem one_le_pow (n : Nat) : 1 ≤ 2 ^ n := Nat.two_pow_pos n
theorem pow_le32 {n : Nat} (h : n ≤ 5) : 2 ^ n ≤ 32 := Nat.pow_le_pow_right (n := 2) (by decide) h
theorem pow_sub (n : Nat) : ((2 ^ n : Nat) : Int) - 1 = ((2 ^ n - 1 : Nat) : Int) := by
  have := one_le_pow n
  omega
theorem bnd {n : Nat} (h : n ≤ 32) : -(2 ^ 62) ≤ (n : Int) ∧ (n : Int) < 2 ^ 62 := by omega
def spMinCover : Sp := fun vs H Q _ => ∃ (a b : Addr) (ms ks : List Sr117.Rating), vs = [.ref a, .ref b] ∧ RtL H a ms ∧ RtL H b ks ∧ ms.length ≤ 5 ∧ ks.length ≤ 5 ∧
  ∀ H' p, Same H H' → CvAt H' p (Sr117.minimumCover ⟨ks, ms⟩) → Q (.ref p) H'
theorem ok_minimum_cover (T : Txt K mg C) {f1 f2 : Addr} {fd1 fd2 : FuncData} (C_members_of : Cl P w K mg base "members_of" 1 f1 fd1 ["mask", "many"] spMembers)
    (C_is_cover : Cl P w K mg base "is_cover" 2 f2 fd2 ["moulds", "machines", "some", "others"] (spIsCover K)) (F : Fun K "minimum_cover" "minimum_cover" s_minimum_cover f fd) :
    FnOk P w K mg base CX0 3 f fd ["moulds", "machines"] spMinCover := by
  refine F.ok sc_minimum_cover (fun vs H Q E h => ?_) (fun cdv A outer s H vs Q E hr h => ?_)
  · obtain ⟨a, b, ms, ks, rfl, _⟩ := h
    rfl
  · obtain ⟨a, b, ms, ks, rfl, hA, hB, hm5, hk5, k⟩ := h
    obtain ⟨vms, hA1, hA2⟩ := id hA
    obtain ⟨vks, hB1, hB2⟩ := id hB
    obtain ⟨bb, gBITS, hBITS⟩ := T.bits
    have hml := hA2.len
    have hkl := hB2.len
    have bm : (iV [1, 2, 4, 8, 16, 32])[vms.length]? = some (.int ((2 ^ ms.length : Nat) : Int)) := by rw [hml]; exact bits_at (by omega)
    have bk : (iV [1, 2, 4, 8, 16, 32])[vks.length]? = some (.int ((2 ^ ks.length : Nat) : Int)) := by rw [hkl]; exact bits_at (by omega)
    refine ⟨_, (pss_cons (ps_set (i := 2) sc_minimum_cover.nd rfl (Or.inl rfl) (pe_tup (pa_cons (pe_call C_members_of.ok (hr.mono (by decide)) rfl C_members_of.gl C_members_of.kp C_members_of.bi .nil pass0 (pa_cons (pe_op op_sub (pe_ix ix_tup (pgr gBITS) (pe_callB call_len_seq (by rfl) T.len PySem.boot_len (pa_cons (pv 0) pa_nil)) (fun _ _ => rfl)) pe_int) (pa_cons (pe_callB call_len_seq (by rfl) T.len PySem.boot_len (pa_cons (pv 0) pa_nil)) pa_nil))) (pa_cons (pe_call C_members_of.ok (hr.mono (by decide)) rfl C_members_of.gl C_members_of.kp C_members_of.bi .nil pass0 (pa_cons (pe_op op_sub (pe_ix ix_tup (pgr gBITS) (pe_callB call_len_seq (by rfl) T.len PySem.boot_len (pa_cons (pv 1) pa_nil)) (fun _ _ => rfl)) pe_int) (pa_cons (pe_callB call_len_seq (by rfl) T.len PySem.boot_len (pa_cons (pv 1) pa_nil)) pa_nil))) pa_nil))))
        (pss_cons (ps_set (i := 3) sc_minimum_cover.nd rfl (Or.inl rfl) (pe_op op_add (pe_op op_add (pe_callB call_len_seq (by rfl) T.len PySem.boot_len (pa_cons (pv 0) pa_nil)) (pe_callB call_len_seq (by rfl) T.len PySem.boot_len (pa_cons (pv 1) pa_nil))) pe_int))
        (pss_cons (ps_for PassesOwn.never rfl (pi_range1 rfl T.range (pa_cons (pe_ix ix_tup (pgr gBITS) (pe_callB call_len_seq (by rfl) T.len PySem.boot_len (pa_cons (pv 0) pa_nil)) (fun _ _ => rfl)) pa_nil)) (pg_name (i := 4) sc_minimum_cover.nd rfl (Or.inl rfl)) (pss_cons (ps_set (i := 5) sc_minimum_cover.nd rfl (Or.inl rfl) (pe_call C_members_of.ok (hr.mono (by decide)) rfl C_members_of.gl C_members_of.kp C_members_of.bi .nil pass0 (pa_cons (pv 4) (pa_cons (pe_callB call_len_seq (by rfl) T.len PySem.boot_len (pa_cons (pv 0) pa_nil)) pa_nil))))
        (pss_one (ps_for PassesOwn.never rfl (pi_range1 rfl T.range (pa_cons (pe_ix ix_tup (pgr gBITS) (pe_callB call_len_seq (by rfl) T.len PySem.boot_len (pa_cons (pv 1) pa_nil)) (fun _ _ => rfl)) pa_nil)) (pg_name (i := 6) sc_minimum_cover.nd rfl (Or.inl rfl)) (pss_cons (ps_set (i := 7) sc_minimum_cover.nd rfl (Or.inl rfl) (pe_call C_members_of.ok (hr.mono (by decide)) rfl C_members_of.gl C_members_of.kp C_members_of.bi .nil pass0 (pa_cons (pv 6) (pa_cons (pe_callB call_len_seq (by rfl) T.len PySem.boot_len (pa_cons (pv 1) pa_nil)) pa_nil))))
        (pss_cons (ps_set (i := 8) sc_minimum_cover.nd rfl (Or.inl rfl) (pe_op op_add (pe_callB call_len_seq (by rfl) T.len PySem.boot_len (pa_cons (pv 5) pa_nil)) (pe_callB call_len_seq (by rfl) T.len PySem.boot_len (pa_cons (pv 7) pa_nil))))
        (pss_one (ps_if (PW.pt (pw_and (pt_cmpR op_lt (pv 8) (pv 3) (nomark _)) (pw_and1 (pt_val (pe_call C_is_cover.ok (hr.mono (by decide)) rfl C_is_cover.gl C_is_cover.kp C_is_cover.bi .nil pass0 (pa_cons (pv 0) (pa_cons (pv 1) (pa_cons (pv 5) (pa_cons (pv 7) pa_nil))))))))) (pss_one (ps_par (i := 2) (j := 3) (by rfl) sc_minimum_cover.nd rfl rfl (by decide) rfl rfl (pa_cons (pe_tup (pa_cons (pv 5) (pa_cons (pv 7) pa_nil))) (pa_cons (pv 8) pa_nil)) (by rfl))) pss_nil))))))))
        (pss_one (ps_ret (pv 2)))))), ?_⟩
    refine ⟨bb, _, vms.length, _, rfl, rfl, hBITS _, atI_nat bm, _, _, rfl, rfl, ?_⟩ |> fun q => ⟨_, rfl, a, vms, rfl, .inl (SqL.of hA1), q⟩
    refine ⟨_, rfl, a, vms, rfl, .inl (SqL.of hA1), _, 2 ^ ms.length - 1, vms.length, rfl, pow_sub _, by omega, fun H1 p1 e1 hp1 hl1 => ?_⟩
    refine ⟨_, rfl, b, vks, rfl, .inl (SqL.of (e1 b _ hB1)), bb, _, vks.length, _, rfl, rfl, hBITS _, atI_nat bk, _, _, rfl, rfl, ?_⟩
    refine ⟨_, rfl, b, vks, rfl, .inl (SqL.of (e1 b _ hB1)), _, 2 ^ ks.length - 1, vks.length, rfl, pow_sub _, by omega, fun H2 p2 e2 hp2 hl2 => ⟨sz (m := 2) (Nat.le_refl _), fun p3 hp3 => ?_⟩⟩
    rw [hml, mems_full] at hl1
    rw [hkl, mems_full] at hl2
    have e3 : Same H _ := (e1.trans e2).trans (Same.new (o := .tup [.ref p1, .ref p2]) hp3)
    refine ⟨_, rfl, a, vms, rfl, .inl (SqL.of (e3 a _ hA1)), _, rfl, b, vks, rfl, .inl (SqL.of (e3 b _ hB1)), _, _, rfl, rfl, _, _, rfl, rfl, ?_⟩
    have hmx := bnd (pow_le32 (n := ms.length) (by omega))
    have hkx := bnd (pow_le32 (n := ks.length) (by omega))
    rw [hml, hkl]
    refine ⟨_, rfl, a, vms, rfl, .inl (SqL.of (e3 a _ hA1)), bb, _, vms.length, _, rfl, rfl, hBITS _, atI_nat bm, _, rfl, hmx.1, hmx.2, for_range (lo := 0) (n := 2 ^ ms.length) (fun x σ H' => ∃ (pt : Addr) (v4 v5 v6 v7 v8 : Option V),
      σ = [some (.ref a), some (.ref b), some (.ref pt), some (.int (mcOut ks ms x).2), v4, v5, v6, v7, v8] ∧ Same H H' ∧ CvAt H' pt (mcOut ks ms x).1)
      ⟨p3, none, none, none, none, none, rfl, e3, p1, p2, upd_same, Same.new hp3 p1 _ (e2 _ _ hl1), Same.new hp3 p2 _ hl2⟩ ?_ ?_⟩
    · rintro x σ H4 hx ⟨pt, v4, v5, v6, v7, v8, rfl, e4, hcv⟩
      rw [Int.zero_add]
      refine ⟨_, rfl, _, rfl, a, vms, rfl, .inl (SqL.of (e4 a _ hA1)), _, x, vms.length, rfl, rfl, by omega, fun H5 ps e5 hps hsl => ?_⟩
      rw [hml] at hsl
      have e45 := e4.trans e5
      refine ⟨_, rfl, b, vks, rfl, .inl (SqL.of (e45 b _ hB1)), bb, _, vks.length, _, rfl, rfl, hBITS _, atI_nat bk, _, rfl, hkx.1, hkx.2, for_range (lo := 0) (n := 2 ^ ks.length) (fun y σ H' => ∃ (pt : Addr) (v6 v7 v8 : Option V),
        σ = [some (.ref a), some (.ref b), some (.ref pt), some (.int (mcIn ks ms x y).2), some (.int (x : Nat)), some (.ref ps), v6, v7, v8] ∧ Same H5 H' ∧ CvAt H' pt (mcIn ks ms x y).1)
        ⟨pt, v6, v7, v8, rfl, Same.refl _, hcv.same e5⟩ ?_ ?_⟩
      · rintro y σ H6 hy ⟨pt, v6, v7, v8, rfl, e6, hcv⟩
        rw [Int.zero_add]
        have e46 := e45.trans e6
        refine ⟨_, rfl, _, rfl, b, vks, rfl, .inl (SqL.of (e46 b _ hB1)), _, y, vks.length, rfl, rfl, by omega, fun H7 po e7 hpo hol => ?_⟩
        rw [hkl] at hol
        have e47 := e46.trans e7
        have e57 := e6.trans e7
        have hs7 := e57 ps _ hsl
        have hown : (((iV (nI (mems x ms.length))).length : Int) + ((iV (nI (mems y ks.length))).length : Int)) = (cvLen (pr ks ms x y) : Int) := by
          rw [iV_len, iV_len, nI_len, nI_len]
          rfl
        refine ⟨_, rfl, ps, _, rfl, .inl (SqL.of hs7), _, rfl, po, _, rfl, .inl (SqL.of hol), _, _, rfl, rfl, ?_⟩
        dsimp only
        rw [hown]
        have hst := mcIn_more ks ms x y
        refine ⟨_, rfl, _, rfl, _, _, rfl, rfl, _, rfl, ifb (fun q1 => ?_) fun q1 => iteF ⟨pt, some (.int (y : Nat)), some (.ref po), some (.int (cvLen (pr ks ms x y))), ?_, e57, ?_⟩⟩
        · refine ⟨_, rfl, _, rfl, _, rfl, _, rfl, a, b, ps, po, ms, ks, nI (mems x ms.length), nI (mems y ks.length), rfl, hA.same e47, hB.same e47, SqL.of hs7, SqL.of hol, fun H8 e8 => ⟨_, rfl, ifb (fun q2 => ?_) fun q2 => ?_⟩⟩
          · have hmc : mcIn ks ms x (y + 1) = (pr ks ms x y, (cvLen (pr ks ms x y) : Int)) := by
              rw [hst]
              unfold mcStep
              rw [q1, show isCov ks ms (nI (pr ks ms x y).1) (nI (pr ks ms x y).2) = true from q2]
              rfl
            refine ⟨_, rfl, _, rfl, sz (m := 2) (Nat.le_refl _), fun pn hpn => ⟨_, rfl, _, _, rfl, pn, some (.int (y : Nat)), some (.ref po), some (.int (cvLen (pr ks ms x y))), ?_, (e57.trans e8).trans (Same.new hpn), ?_⟩⟩
            · rw [hmc]; rfl
            · rw [hmc]
              exact ⟨ps, po, upd_same, Same.new hpn ps _ (e8 _ _ hs7), Same.new hpn po _ (e8 _ _ hol)⟩
          · have hmc : mcIn ks ms x (y + 1) = mcIn ks ms x y := by
              rw [hst]
              unfold mcStep
              rw [q1, show isCov ks ms (nI (pr ks ms x y).1) (nI (pr ks ms x y).2) = false from q2]
              rfl
            refine ⟨pt, some (.int (y : Nat)), some (.ref po), some (.int (cvLen (pr ks ms x y))), ?_, e57.trans e8, ?_⟩
            · rw [hmc]; rfl
            · rw [hmc]
              exact hcv.same (e7.trans e8)
        · rw [hst]
          unfold mcStep
          rw [q1]
          rfl
        · rw [hst]
          unfold mcStep
          rw [q1]
          exact hcv.same e7
      · rintro σ H6 ⟨pt, v6, v7, v8, rfl, e6, hcv⟩
        rw [← mcOut_more] at hcv ⊢
        exact ⟨pt, _, _, _, _, _, rfl, e45.trans e6, hcv⟩
    · rintro σ H4 ⟨pt, v4, v5, v6, v7, v8, rfl, e4, hcv⟩
      rw [mc_eq] at hcv
      exact ⟨_, rfl, k _ pt e4 hcv⟩
/-! ### max_deficiency -/
def spMaxDef : Sp := fun vs H Q _ => ∃ (a b : Addr) (ms ks : List Sr117.Rating), vs = [.ref a, .ref b] ∧ RtL H a ms ∧ RtL H b ks ∧ ms.length ≤ 5 ∧ ks.length ≤ 5 ∧
  ∀ H' p q, Same H H' → H' p = some (.tup [.int (Sr117.maxDeficiency ⟨ks, ms⟩).1, .ref q]) → H' q = some (.lst (iV (nI (Sr117.maxDeficiency ⟨ks, ms⟩).2))) → Q (.ref p) H'
theorem nI_in_range {ms : List Sr117.Rating} {x : Nat} : ∀ z ∈ nI (mems x ms.length), 0 ≤ z ∧ z < ms.length := by
  intro z hz
  unfold nI SrCommon.natsToInts at hz
  obtain ⟨n, hn, rfl⟩ := List.mem_map.mp hz
  have := mems_lt n hn
  omega
theorem ok_max_deficiency (T : Txt K mg C) {f1 f2 : Addr} {fd1 fd2 : FuncData} (C_members_of : Cl P w K mg base "members_of" 1 f1 fd1 ["mask", "many"] spMembers)
    (C_neighbours_of : Cl P w K mg base "neighbours_of" 2 f2 fd2 ["moulds", "machines", "some"] (spNeigh K)) (F : Fun K "max_deficiency" "max_deficiency" s_max_deficiency f fd) :
    FnOk P w K mg base CX0 3 f fd ["moulds", "machines"] spMaxDef := by
  refine F.ok sc_max_deficiency (fun vs H Q E h => ?_) (fun cdv A outer s H vs Q E hr h => ?_)
  · obtain ⟨a, b, ms, ks, rfl, _⟩ := h
    rfl
  · obtain ⟨a, b, ms, ks, rfl, hA, hB, hm5, hk5, k⟩ := h
    obtain ⟨vms, hA1, hA2⟩ := id hA
    obtain ⟨bb, gBITS, hBITS⟩ := T.bits
    have hml := hA2.len
    have bm : (iV [1, 2, 4, 8, 16, 32])[vms.length]? = some (.int ((2 ^ ms.length : Nat) : Int)) := by rw [hml]; exact bits_at (by omega)
    have hmx := bnd (pow_le32 (n := ms.length) (by omega))
    refine ⟨_, (pss_cons (ps_par (i := 2) (j := 3) (by rfl) sc_max_deficiency.nd rfl rfl (by decide) rfl rfl (pa_cons (pe_lst pa_nil) (pa_cons pe_int pa_nil)) (by rfl))
        (pss_cons (ps_for PassesOwn.never rfl (pi_range1 rfl T.range (pa_cons (pe_ix ix_tup (pgr gBITS) (pe_callB call_len_seq (by rfl) T.len PySem.boot_len (pa_cons (pv 0) pa_nil)) (fun _ _ => rfl)) pa_nil)) (pg_name (i := 4) sc_max_deficiency.nd rfl (Or.inl rfl)) (pss_cons (ps_set (i := 5) sc_max_deficiency.nd rfl (Or.inl rfl) (pe_call C_members_of.ok (hr.mono (by decide)) rfl C_members_of.gl C_members_of.kp C_members_of.bi .nil pass0 (pa_cons (pv 4) (pa_cons (pe_callB call_len_seq (by rfl) T.len PySem.boot_len (pa_cons (pv 0) pa_nil)) pa_nil))))
        (pss_cons (ps_set (i := 6) sc_max_deficiency.nd rfl (Or.inl rfl) (pe_op op_sub (pe_callB call_len_seq (by rfl) T.len PySem.boot_len (pa_cons (pv 5) pa_nil)) (pe_callB call_len_seq (by rfl) T.len PySem.boot_len (pa_cons (pe_call C_neighbours_of.ok (hr.mono (by decide)) rfl C_neighbours_of.gl C_neighbours_of.kp C_neighbours_of.bi .nil pass0 (pa_cons (pv 0) (pa_cons (pv 1) (pa_cons (pv 5) pa_nil)))) pa_nil))))
        (pss_one (ps_if (pt_cmpR op_gt (pv 6) (pv 3) (nomark _)) (pss_one (ps_par (i := 2) (j := 3) (by rfl) sc_max_deficiency.nd rfl rfl (by decide) rfl rfl (pa_cons (pv 5) (pa_cons (pv 6) pa_nil)) (by rfl))) pss_nil)))))
        (pss_one (ps_ret (pe_tup (pa_cons (pv 3) (pa_cons (pv 2) pa_nil))))))), ?_⟩
    refine ⟨by decide, fun q0 hq0 => ⟨_, _, rfl, ?_⟩⟩
    have e0 : Same H _ := Same.new (o := .lst []) hq0
    refine ⟨_, rfl, a, vms, rfl, .inl (SqL.of (e0 a _ hA1)), bb, _, vms.length, _, rfl, rfl, hBITS _, atI_nat bm, _, rfl, hmx.1, hmx.2, for_range (lo := 0) (n := 2 ^ ms.length) (fun x σ H' => ∃ (pf : Addr) (v4 v5 v6 : Option V),
      σ = [some (.ref a), some (.ref b), some (.ref pf), some (.int (dOut ks ms x).2), v4, v5, v6] ∧ Same H H' ∧ H' pf = some (.lst (iV (nI (dOut ks ms x).1))))
      ⟨q0, none, none, none, rfl, e0, upd_same⟩ ?_ ?_⟩
    · rintro x σ H1 hx ⟨pf, v4, v5, v6, rfl, e1, hpf⟩
      rw [Int.zero_add]
      refine ⟨_, rfl, _, rfl, a, vms, rfl, .inl (SqL.of (e1 a _ hA1)), _, x, vms.length, rfl, rfl, by omega, fun H2 ps e2 hps hsl => ?_⟩
      rw [hml] at hsl
      have e12 := e1.trans e2
      refine ⟨_, rfl, ps, _, rfl, .inl (SqL.of hsl), _, rfl, _, rfl, _, rfl, a, b, ps, ms, ks, nI (mems x ms.length), rfl, hA.same e12, hB.same e12, SqL.of hsl, nI_in_range, ?_, hk5, fun H3 pn e3 hpn hnl => ?_⟩
      · rw [nI_len]
        have := mems_len x ms.length
        omega
      have e13 := e12.trans e3
      have hown : (((iV (nI (mems x ms.length))).length : Int) - ((iV (nI (nbs ks ms (nI (mems x ms.length)) ks.length))).length : Int)) = dOwn ks ms x := by
        rw [iV_len, iV_len, nI_len, nI_len]
        rfl
      refine ⟨pn, _, rfl, .inl (SqL.of hnl), _, _, rfl, rfl, ?_⟩
      dsimp only
      rw [hown]
      have hst := dOut_more ks ms x
      refine ⟨_, rfl, _, rfl, _, _, rfl, rfl, _, rfl, ifb (fun q => ⟨_, rfl, _, rfl, _, _, rfl, ps, some (.int (x : Nat)), some (.ref ps), some (.int (dOwn ks ms x)), ?_, e13, ?_⟩) fun q => ⟨pf, some (.int (x : Nat)), some (.ref ps), some (.int (dOwn ks ms x)), ?_, e13, ?_⟩⟩
      · rw [hst]
        unfold dStep
        rw [if_pos (of_decide_eq_true q)]
        rfl
      · rw [hst]
        unfold dStep
        rw [if_pos (of_decide_eq_true q)]
        exact e3 _ _ hsl
      · rw [hst]
        unfold dStep
        rw [if_neg (of_decide_eq_false q)]
        rfl
      · rw [hst]
        unfold dStep
        rw [if_neg (of_decide_eq_false q)]
        exact e3 _ _ (e2 _ _ hpf)
    · rintro σ H1 ⟨pf, v4, v5, v6, rfl, e1, hpf⟩
      rw [d_eq] at hpf
      rw [d_eq]
      refine ⟨_, rfl, _, rfl, sz (m := 2) (Nat.le_refl _), fun p hp => ?_⟩
      exact k _ p pf (e1.trans (Same.new hp)) upd_same (Same.new hp pf _ hpf)
/-! ### told, add_error, set_error -/
def spTold : Sp := fun vs H Q _ => ∃ (a : Addr) (rs : List Sr117.Rating), vs = [.ref a] ∧ RtL H a rs ∧ rs.length ≤ 5 ∧ ∀ H' p, Same H H' → H p = none → H' p = some (.lst (iV (toldR rs))) → Q (.ref p) H'
theorem ok_told (T : Txt K mg C) (F : Fun K "told" "told" s_told f fd) : FnOk P w K mg base CX0 1 f fd ["ratings"] spTold := by
  refine F.ok sc_told (fun vs H Q E h => ?_) (fun cdv A outer s H vs Q E hr h => ?_)
  · obtain ⟨a, rs, rfl, _⟩ := h
    rfl
  · obtain ⟨a, rs, rfl, ⟨vrs, hA1, hA2⟩, h5, k⟩ := h
    refine ⟨_, (pss_cons (ps_set (i := 1) sc_told.nd rfl (Or.inl rfl) (pe_lst (pa_cons (pe_callB call_len_seq (by rfl) T.len PySem.boot_len (pa_cons (pv 0) pa_nil)) pa_nil)))
        (pss_cons (ps_for PassesOwn.never rfl (pi_list (pv 0)) (pg_tup rfl (pgs_cons (pg_name (i := 2) sc_told.nd rfl (Or.inl rfl)) (pgs_cons (pg_name (i := 3) sc_told.nd rfl (Or.inl rfl)) pgs_nil))) (pss_one (ps_expr (pe_bm PySem.F.plainAttrs_list PySem.F.slot_list_extend PySem.F.type_list_extend mt_extend (pv 1) (pa_cons (pe_lst (pa_cons (pv 2) (pa_cons (pv 3) pa_nil))) pa_nil)))))
        (pss_one (ps_ret (pv 1))))), ?_⟩
    refine ⟨_, rfl, a, vrs, rfl, .inl (SqL.of hA1), sz (m := 1) (Nat.le_refl _), fun L hL => ?_⟩
    have e0 : Same H _ := Same.new (o := .lst [.int (vrs.length : Int)]) hL
    refine ⟨_, rfl, a, rfl, ⟨_, SqL.of (e0 a _ hA1)⟩, for_list (K := K) (a := a) (xs := vrs) (fun i σ H' => ∃ v2 v3, σ = [some (.ref a), some (.ref L), v2, v3] ∧ Same H H' ∧ H' L = some (.lst (iV ((rs.length : Int) :: (rs.take i).flatMap Sr117.ratingValues))))
      ⟨none, none, rfl, e0, by rw [upd_same, hA2.len]; rfl⟩ (fun i σ H' _ ⟨_, _, _, e, _⟩ => SqL.of (e a _ hA1)) ?_ ?_⟩
    · rintro i x σ H1 hx ⟨v2, v3, rfl, e1, hL1⟩
      obtain ⟨r, hr1, t, rfl, ht⟩ := hA2.get hx
      refine ⟨t, rV r, rfl, SqT.of (e1 _ _ ht), rfl, _, _, rfl, _, _, rfl, rfl, ?_⟩
      refine ⟨_, rfl, .inl ⟨rfl, _, SqL.of hL1⟩, _, rfl, _, rfl, sz (m := 2) (Nat.le_refl _), fun p hp => ⟨L, p, _, _, rfl, rfl, Same.new hp L _ hL1, upd_same, ?_, _, _, rfl, Same.mut (e1.trans (Same.new hp)) hL, ?_⟩⟩
      · refine sz (m := 100) ?_
        rw [iV_len, List.length_cons, flat2_len, List.length_take]
        show _ + 1 + 2 ≤ 100
        omega
      · rw [upd_same, toldR_more hr1, ← List.cons_append, iV_app]
        rfl
    · rintro σ H1 ⟨v2, v3, rfl, e1, hL1⟩
      rw [hA2.len, List.take_length] at hL1
      exact ⟨_, rfl, k _ L e1 hL hL1⟩
def spAddError : Sp := fun vs H Q _ => ∃ (a : Addr) (us : List V) (c p : Int), vs = [.ref a, .int c, .int p] ∧ H a = some (.lst us) ∧ Q (.int (addErr us.length c p)) H
theorem ok_add_error (T : Txt K mg C) {f1 : Addr} {fd1 : FuncData} (C_is_rating : Cl P w K mg base "is_rating" 1 f1 fd1 ["clamp_force", "platen_size"] spIsRating) (F : Fun K "add_error" "add_error" s_add_error f fd) :
    FnOk P w K mg base CX0 2 f fd ["ratings", "clamp_force", "platen_size"] spAddError := by
  refine F.ok sc_add_error (fun vs H Q E h => ?_) (fun cdv A outer s H vs Q E hr h => ?_)
  · obtain ⟨a, us, c, p, rfl, _⟩ := h
    rfl
  · obtain ⟨a, us, c, p, rfl, hA1, k⟩ := h
    refine ⟨_, (pss_cons (ps_if (pt_not (pt_val (pe_call C_is_rating.ok (hr.mono (by decide)) rfl C_is_rating.gl C_is_rating.kp C_is_rating.bi .nil pass0 (pa_cons (pv 1) (pa_cons (pv 2) pa_nil))))) (pss_one (ps_ret (pgi T.bad))) pss_nil)
        (pss_one (ps_ret (pe_ifExp (pt_cmpR op_eq (pe_callB call_len_seq (by rfl) T.len PySem.boot_len (pa_cons (pv 0) pa_nil)) (pgi T.most5) (nomark _)) (pgi T.full) pe_int)))), ?_⟩
    refine ⟨_, rfl, _, rfl, c, p, rfl, _, rfl, ifb (fun q => ci k ?_) fun q => ⟨_, rfl, a, us, rfl, .inl (SqL.of hA1), rfl, _, rfl, ifb (fun q2 => ci k ?_) fun q2 => ci k ?_⟩⟩
    · have q' : (okR c && okR p) = false := by rw [Bool.not_eq_true'] at q; exact q
      unfold addErr
      rw [if_pos q']
    · have q' : ¬ (okR c && okR p) = false := by rw [Bool.not_eq_false'] at q; rw [q]; decide
      have h5 : us.length = 5 := Int.ofNat_inj.mp (V.int.inj (of_decide_eq_true q2))
      unfold addErr
      rw [if_neg q', if_pos h5]
    · have q' : ¬ (okR c && okR p) = false := by rw [Bool.not_eq_false'] at q; rw [q]; decide
      have h5 : ¬ us.length = 5 := fun e => of_decide_eq_false q2 (by rw [e]; rfl)
      unfold addErr
      rw [if_neg q', if_neg h5]
def spSetError : Sp := fun vs H Q _ => ∃ (a : Addr) (us : List V) (i c p : Int), vs = [.ref a, .int i, .int c, .int p] ∧ H a = some (.lst us) ∧ Q (.int (setErr us.length i c p)) H
theorem ok_set_error (T : Txt K mg C) {f1 f2 : Addr} {fd1 fd2 : FuncData} (C_is_rating : Cl P w K mg base "is_rating" 1 f1 fd1 ["clamp_force", "platen_size"] spIsRating) (C_is_index : Cl P w K mg base "is_index" 1 f2 fd2 ["number", "many"] spIsIndex)
    (F : Fun K "set_error" "set_error" s_set_error f fd) : FnOk P w K mg base CX0 2 f fd ["ratings", "index", "clamp_force", "platen_size"] spSetError := by
  refine F.ok sc_set_error (fun vs H Q E h => ?_) (fun cdv A outer s H vs Q E hr h => ?_)
  · obtain ⟨a, us, i, c, p, rfl, _⟩ := h
    rfl
  · obtain ⟨a, us, i, c, p, rfl, hA1, k⟩ := h
    refine ⟨_, (pss_cons (ps_if (pt_not (pt_val (pe_call C_is_index.ok (hr.mono (by decide)) rfl C_is_index.gl C_is_index.kp C_is_index.bi .nil pass0 (pa_cons (pv 1) (pa_cons (pe_callB call_len_seq (by rfl) T.len PySem.boot_len (pa_cons (pv 0) pa_nil)) pa_nil))))) (pss_one (ps_ret (pgi T.noSuch))) pss_nil)
        (pss_one (ps_ret (pe_ifExp (pt_val (pe_call C_is_rating.ok (hr.mono (by decide)) rfl C_is_rating.gl C_is_rating.kp C_is_rating.bi .nil pass0 (pa_cons (pv 2) (pa_cons (pv 3) pa_nil)))) pe_int (pgi T.bad))))), ?_⟩
    refine ⟨_, rfl, _, rfl, a, us, rfl, .inl (SqL.of hA1), i, us.length, rfl, _, rfl, ifb (fun q => ci k ?_) fun q => ⟨_, rfl, _, rfl, c, p, rfl, _, rfl, ifb (fun q2 => ci k ?_) fun q2 => ci k ?_⟩⟩
    · have q' : okI i us.length = false := by simpa using q
      unfold setErr
      rw [if_pos q']
    · have q' : ¬ okI i us.length = false := by rw [Bool.not_eq_false'] at q; rw [q]; decide
      unfold setErr
      rw [if_neg q', if_neg (by rw [q2]; decide)]
    · have q' : ¬ okI i us.length = false := by rw [Bool.not_eq_false'] at q; rw [q]; decide
      unfold setErr
      rw [if_neg q', if_pos q2]
end
end My
namespace My
open PySem PySem.Spec PyProof.Rows L2
/-! ### the instance in the heap -/
def hF (b : Bool) (km mm : Addr) : List (Str × V) := [("is_there", .bl b), ("machines", .ref km), ("moulds", .ref mm)]
theorem lkh {k : Str} {v : V} {r : List (Str × V)} : List.lookup k ((k, v) :: r) = some v := by simp [List.lookup]
theorem lkp {k g : Str} {v : V} {r : List (Str × V)} (h : (k == g) = false) : List.lookup k ((g, v) :: r) = List.lookup k r := by simp [List.lookup, h]
theorem hF_T (b : Bool) (km mm : Addr) : (hF b km mm).lookup ("is_there" : Str) = some (.bl b) := lkh
theorem hF_K (b : Bool) (km mm : Addr) : (hF b km mm).lookup ("machines" : Str) = some (.ref km) := (lkp (by decide +kernel)).trans lkh
theorem hF_M (b : Bool) (km mm : Addr) : (hF b km mm).lookup ("moulds" : Str) = some (.ref mm) := (lkp (by decide +kernel)).trans ((lkp (by decide +kernel)).trans lkh)
theorem hF_no {m : Str} (h1 : (m == ("is_there" : Str)) = false) (h2 : (m == ("machines" : Str)) = false) (h3 : (m == ("moulds" : Str)) = false) (b : Bool) (km mm : Addr) : (hF b km mm).lookup m = none := (lkp h1).trans ((lkp h2).trans ((lkp h3).trans rfl))
theorem put_h {f : Str} {v x : V} {r : List (Str × V)} : putF f v ((f, x) :: r) = (f, v) :: r := if_pos rfl
theorem put_p {f g : Str} {v x : V} {r : List (Str × V)} (h : ¬ g = f) : putF f v ((g, x) :: r) = (g, x) :: putF f v r := if_neg h
theorem hF_pT (b c : Bool) (km mm : Addr) : putF "is_there" (.bl c) (hF b km mm) = hF c km mm := put_h
theorem hF_pK (b : Bool) (km mm k2 : Addr) : putF "machines" (.ref k2) (hF b km mm) = hF b k2 mm := (put_p (by decide +kernel)).trans (congrArg _ put_h)
theorem hF_pM (b : Bool) (km mm m2 : Addr) : putF "moulds" (.ref m2) (hF b km mm) = hF b km m2 := (put_p (by decide +kernel)).trans (congrArg _ ((put_p (by decide +kernel)).trans (congrArg _ put_h)))
theorem hF_new (b : Bool) (km mm : Addr) : putF "moulds" (.ref mm) (putF "machines" (.ref km) (putF "is_there" (.bl b) [])) = hF b km mm := by
  have e1 : putF "is_there" (.bl b) [] = ([(("is_there" : Str), V.bl b)] : List (Str × V)) := rfl
  have e2 : putF "machines" (.ref km) ([(("is_there" : Str), V.bl b)] : List (Str × V)) = ([(("is_there" : Str), V.bl b), (("machines" : Str), V.ref km)] : List (Str × V)) := put_p (by decide +kernel)
  rw [e1, e2]
  exact (put_p (by decide +kernel)).trans (congrArg _ (put_p (by decide +kernel)))
/-- the instance at a: whether it is there, its shop; its lists are none of N's addresses, all of which are tracked -/
def HallAt (C : Addr) (N : Addr → Prop) (H : Hp) (a : Addr) (b : Bool) (sh : Sr117.Shop) : Prop := ∃ dx km mm, H a = some (.ins C dx (hF b km mm)) ∧ RtL H km sh.machines ∧ RtL H mm sh.moulds ∧ (∀ L, N L → H L ≠ none) ∧ ¬ N km ∧ ¬ N mm
/-- all but a stands -/
def Sx (a : Addr) (H H' : Hp) : Prop := ∀ x o, H x = some o → x ≠ a → H' x = some o
theorem Same.sx {a : Addr} {H H' : Hp} (e : Same H H') : Sx a H H' := fun x o h _ => e x o h
theorem Sx.upd {a : Addr} {H H' : Hp} {o : HO} (e : Sx a H H') : Sx a H (L2.upd H' a o) := fun x u h n => by rw [upd_ne n]; exact e x u h n
theorem Sx.trans {a : Addr} {H H1 H2 : Hp} (e : Sx a H H1) (e2 : Sx a H1 H2) : Sx a H H2 := fun x u h n => e2 x u (e x u h n) n
theorem lst_ne {H : Hp} {a b C dx : Addr} {fs : List (Str × V)} {xs : List V} (ha : H a = some (.ins C dx fs)) (hb : H b = some (.lst xs)) : b ≠ a := ne_of hb ha (by intro z; cases z)
theorem tup_ne {H : Hp} {a b C dx : Addr} {fs : List (Str × V)} {xs : List V} (ha : H a = some (.ins C dx fs)) (hb : H b = some (.tup xs)) : b ≠ a := ne_of hb ha (by intro z; cases z)
theorem Rts.sx {H H' : Hp} {a C dx : Addr} {fs : List (Str × V)} (ha : H a = some (.ins C dx fs)) (e : Sx a H H') {vs : List V} {rs : List Sr117.Rating} (h : Al (RtAt H) vs rs) : Al (RtAt H') vs rs :=
  h.mono fun _ _ ⟨t, x, y⟩ => ⟨t, x, e t _ y (tup_ne ha y)⟩
theorem RtL.sx {H H' : Hp} {a C dx p : Addr} {fs : List (Str × V)} {rs : List Sr117.Rating} (ha : H a = some (.ins C dx fs)) (e : Sx a H H') (h : RtL H p rs) : RtL H' p rs :=
  let ⟨vs, x, y⟩ := h
  ⟨vs, e p _ x (lst_ne ha x), Rts.sx ha e y⟩
theorem nn_same {N : Addr → Prop} {H H' : Hp} (h : ∀ L, N L → H L ≠ none) (e : Same H H') : ∀ L, N L → H' L ≠ none := fun L hL z => h L hL (e.free z)
theorem nn_sx {N : Addr → Prop} {H H' : Hp} {a : Addr} (h : ∀ L, N L → H L ≠ none) (e : Sx a H H') (ha : H' a ≠ none) : ∀ L, N L → H' L ≠ none := fun L hL z => by
  by_cases q : L = a
  · rw [q] at z; exact ha z
  · cases hl : H L with
    | none => exact h L hL hl
    | some o => rw [e L o hl q] at z; cases z
theorem HallAt.same {C : Addr} {N : Addr → Prop} {H H' : Hp} {a : Addr} {b : Bool} {sh : Sr117.Shop} (e : Same H H') (h : HallAt C N H a b sh) : HallAt C N H' a b sh :=
  let ⟨dx, km, mm, x, y, z, u, v, v'⟩ := h
  ⟨dx, km, mm, e _ _ x, y.same e, z.same e, nn_same u e, v, v'⟩
/-- what is wanted behind a method: the instance's shop, all else as it was, the answer a list -/
def Aft (C : Addr) (N : Addr → Prop) (H : Hp) (a : Addr) (b : Bool) (sh : Sr117.Shop) (ans : List Int) (Q : VK) : Prop := ∀ H' p, HallAt C N H' a b sh → Sx a H H' → H' p = some (.lst (iV ans)) → H p = none → Q (.ref p) H'
/-- nothing changed -/
theorem Aft.q {C : Addr} {N : Addr → Prop} {H H' : Hp} {a : Addr} {b : Bool} {sh sh' : Sr117.Shop} {ans' : List Int} {Q : VK} (k : Aft C N H a b sh' ans' Q) (h : HallAt C N H a b sh) (e : Same H H') {p : Addr} {xs : List V} (hp : H' p = none) (ea : iV ans' = xs) (es : sh' = sh) : Q (.ref p) (upd H' p (.lst xs)) := by
  subst es
  have e2 := e.trans (Same.new (o := .lst xs) hp)
  exact k _ p (h.same e2) (Same.sx e2) (by rw [upd_same, ea]) (e.free hp)
/-! ### methods: what a caller needs -/
structure Ml (P : Program) (w : World) (K : PySem.W.Frag) (mg : Str → Option Value) (base : Heap) (C : Addr) (x : Str) (k : Nat) (f : Addr) (fd : FuncData) (ps : List Str) (sp : Sp) : Prop where
  ok : FnOk P w K mg base CX0 k f fd ps sp
  me : Meth K C x f
  bi : Binds K fd ps []
section
variable {P : Program} {w : World} {K : PySem.W.Frag} {mg : Str → Option Value} {base : Heap} {C : Addr} {f : Addr} {fd : FuncData}
/-- __init__ -/
def spInit (C : Addr) : Sp := fun vs H Q _ => ∃ (p dx : Addr), vs = [.ref p] ∧ H p = some (.ins C dx []) ∧ ∀ H', HallAt C anyA H' p false ⟨[], []⟩ → Sx p H H' → Q .non H'
theorem ok_init (T : Txt K mg C) (F : Fun K "__init__" "Hall.__init__" s_m_init f fd) : FnOk P w K mg base CX0 1 f fd ["self"] (spInit C) := by
  refine F.ok sc_m_init (fun vs H Q E h => ?_) (fun cdv A outer s H vs Q E hr h => ?_)
  · obtain ⟨p, dx, rfl, _⟩ := h
    rfl
  · obtain ⟨p, dx, rfl, hp, k⟩ := h
    refine ⟨_, (pss_cons (ps_fld (pv 0) pe_bl rfl)
        (pss_cons (ps_fld (pv 0) (pe_lst pa_nil) rfl)
        (pss_one (ps_fld (pv 0) (pe_lst pa_nil) rfl)))), ?_⟩
    refine ⟨_, rfl, p, C, dx, [], rfl, hp, T.cl, T.nT, by decide, ?_⟩
    refine ⟨by decide, fun km hkm => ⟨_, rfl, p, C, dx, _, rfl, Same.new hkm p _ upd_same, T.cl, T.nK, by show 1 < 1000; decide, ?_⟩⟩
    refine ⟨by decide, fun mm hmm => ⟨_, rfl, p, C, dx, _, rfl, Same.new hmm p _ upd_same, T.cl, T.nM, by show 2 < 1000; decide, ?_⟩⟩
    have n1 : km ≠ p := fun e => by rw [e, upd_same] at hkm; cases hkm
    have n2 : mm ≠ p := fun e => by rw [e, upd_same] at hmm; cases hmm
    have n3 : km ≠ mm := fun e => by rw [← e, upd_ne n1, upd_same] at hmm; cases hmm
    rw [hF_new]
    refine k _ ⟨dx, km, mm, upd_same, ⟨[], ?_, trivial⟩, ⟨[], ?_, trivial⟩, fun _ z => z.elim, fun z => z, fun z => z⟩ fun x o h n => ?_
    · rw [upd_ne n1, upd_ne n3, upd_ne n1, upd_same]
    · rw [upd_ne n2, upd_same]
    · have a1 : x ≠ km := fun e => by rw [e] at h n; rw [upd_ne n, h] at hkm; cases hkm
      have a2 : x ≠ mm := fun e => by rw [e] at h n a1; rw [upd_ne n, upd_ne a1, upd_ne n, h] at hmm; cases hmm
      rw [upd_ne n, upd_ne a2, upd_ne n, upd_ne a1, upd_ne n]
      exact h
/-- create -/
def spCreate (C : Addr) : Sp := fun vs H Q _ => ∃ (N : Addr → Prop) (a : Addr) (b : Bool) (sh : Sr117.Shop), vs = [.ref a] ∧ HallAt C N H a b sh ∧ Aft C N H a true ⟨[], []⟩ [0] Q
theorem ok_create (T : Txt K mg C) (F : Fun K "create" "Hall.create" s_m_create f fd) : FnOk P w K mg base CX0 1 f fd ["self"] (spCreate C) := by
  refine F.ok sc_m_create (fun vs H Q E h => ?_) (fun cdv A outer s H vs Q E hr h => ?_)
  · obtain ⟨N, a, b, sh, rfl, _⟩ := h
    rfl
  · obtain ⟨N, a, b, sh, rfl, ⟨dx, k0, m0, h0, _, _, hN, _, _⟩, k⟩ := h
    refine ⟨_, (pss_cons (ps_fld (pv 0) pe_bl rfl)
        (pss_cons (ps_fld (pv 0) (pe_lst pa_nil) rfl)
        (pss_cons (ps_fld (pv 0) (pe_lst pa_nil) rfl)
        (pss_one (ps_ret (pe_lst (pa_cons pe_int pa_nil))))))), ?_⟩
    refine ⟨_, rfl, a, C, dx, _, rfl, h0, T.cl, T.nT, by show 3 < 1000; decide, ?_⟩
    rw [hF_pT]
    refine ⟨by decide, fun km hkm => ⟨_, rfl, a, C, dx, _, rfl, Same.new hkm a _ upd_same, T.cl, T.nK, by show 3 < 1000; decide, ?_⟩⟩
    rw [hF_pK]
    refine ⟨by decide, fun mm hmm => ⟨_, rfl, a, C, dx, _, rfl, Same.new hmm a _ upd_same, T.cl, T.nM, by show 3 < 1000; decide, ?_⟩⟩
    rw [hF_pM]
    have n1 : km ≠ a := fun e => by rw [e, upd_same] at hkm; cases hkm
    have n2 : mm ≠ a := fun e => by rw [e, upd_same] at hmm; cases hmm
    have n3 : km ≠ mm := fun e => by rw [← e, upd_ne n1, upd_same] at hmm; cases hmm
    refine ⟨sz (m := 1) (Nat.le_refl _), fun p hp => ?_⟩
    have f1 : H km = none := by rw [upd_ne n1] at hkm; exact hkm
    have f2 : H mm = none := by
      rw [upd_ne n2, upd_ne (Ne.symm n3), upd_ne n2] at hmm
      exact hmm
    have sx : Sx a H (L2.upd (L2.upd (L2.upd (L2.upd (L2.upd H a (.ins C dx (hF true k0 m0))) km (.lst [])) a (.ins C dx (hF true km m0))) mm (.lst [])) a (.ins C dx (hF true km mm))) := fun x o h n => by
      have a1 : x ≠ km := fun e => by rw [e, f1] at h; cases h
      have a2 : x ≠ mm := fun e => by rw [e, f2] at h; cases h
      rw [upd_ne n, upd_ne a2, upd_ne n, upd_ne a1, upd_ne n]
      exact h
    refine k _ p (HallAt.same (Same.new hp) ⟨dx, km, mm, upd_same, ⟨[], ?_, trivial⟩, ⟨[], ?_, trivial⟩, nn_sx hN sx (by rw [upd_same]; exact fun z => by cases z), fun z => hN _ z f1, fun z => hN _ z f2⟩) (Sx.trans sx (Same.sx (Same.new hp))) upd_same ?_
    · rw [upd_ne n1, upd_ne n3, upd_ne n1, upd_same]
    · rw [upd_ne n2, upd_same]
    · have na : p ≠ a := fun e => by rw [e, upd_same] at hp; cases hp
      rw [upd_ne na] at hp
      have n4 : p ≠ mm := fun e => by rw [e, upd_same] at hp; cases hp
      rw [upd_ne n4, upd_ne na] at hp
      have n5 : p ≠ km := fun e => by rw [e, upd_same] at hp; cases hp
      rw [upd_ne n5, upd_ne na] at hp
      exact hp
end
end My
namespace My
open PySem PySem.Spec PyProof.Rows L2
theorem Al.erase {B : Type} {R : V → B → Prop} {vs : List V} {bs : List B} (i : Nat) (h : Al R vs bs) : Al R (vs.eraseIdx i) (bs.eraseIdx i) := by
  rw [List.eraseIdx_eq_take_drop_succ, List.eraseIdx_eq_take_drop_succ]
  exact (h.take i).app (h.drop (i + 1))
theorem Al.set {B : Type} {R : V → B → Prop} {vs : List V} {bs : List B} {i : Nat} {v : V} {b : B} (h : Al R vs bs) (r : R v b) (hi : i < bs.length) : Al R (vs.set i v) (bs.set i b) := by
  rw [List.set_eq_take_append_cons_drop, List.set_eq_take_append_cons_drop, if_pos hi, if_pos (by rw [h.len]; exact hi)]
  exact (h.take i).app ⟨r, h.drop (i + 1)⟩
theorem neg_of {a : Int} (h : decide (a < 0) = false) : ¬ a < 0 := of_decide_eq_false h
theorem notT {b : Bool} (h : (!b) = true) : b = false := by cases b; rfl; cases h
theorem notF {b : Bool} (h : (!b) = false) : b = true := by cases b; cases h; rfl
theorem fresh_of {H H3 : Hp} {a r : Addr} {o : HO} (e3 : Same H H3) (hr : upd H3 a o r = none) : H r = none := by
  have na : r ≠ a := fun e => by rw [e, upd_same] at hr; cases hr
  rw [upd_ne na] at hr
  exact e3.free hr
section
variable {C : Addr} {N : Addr → Prop} {H H3 : Hp} {a dx km mm L r : Addr} {b : Bool} {ks ms : List Sr117.Rating} {o : HO}
theorem fin_K (h0 : H a = some (.ins C dx (hF b km mm))) (hN : (∀ L, N L → H L ≠ none) ∧ ¬ N km ∧ ¬ N mm) (hm : RtL H mm ms) (e3 : Same H H3) (hL0 : H L = none) (hL : RtL H3 L ks) (hr : upd H3 a (.ins C dx (hF b L mm)) r = none) :
    HallAt C N (upd (upd H3 a (.ins C dx (hF b L mm))) r o) a b ⟨ks, ms⟩ ∧ Sx a H (upd (upd H3 a (.ins C dx (hF b L mm))) r o) ∧ H r = none := by
  have h3 := e3 a _ h0
  have s3 : Sx a H3 (upd H3 a (.ins C dx (hF b L mm))) := Sx.upd (Same.sx (Same.refl H3))
  exact ⟨HallAt.same (Same.new hr) ⟨dx, L, mm, upd_same, hL.sx h3 s3, (hm.same e3).sx h3 s3, nn_sx (nn_same hN.1 e3) s3 (by rw [upd_same]; exact fun z => by cases z), fun z => hN.1 _ z hL0, hN.2.2⟩, ((Same.sx e3).trans s3).trans (Same.sx (Same.new hr)), fresh_of e3 hr⟩
theorem fin_M (h0 : H a = some (.ins C dx (hF b km mm))) (hN : (∀ L, N L → H L ≠ none) ∧ ¬ N km ∧ ¬ N mm) (hk : RtL H km ks) (e3 : Same H H3) (hL0 : H L = none) (hL : RtL H3 L ms) (hr : upd H3 a (.ins C dx (hF b km L)) r = none) :
    HallAt C N (upd (upd H3 a (.ins C dx (hF b km L))) r o) a b ⟨ks, ms⟩ ∧ Sx a H (upd (upd H3 a (.ins C dx (hF b km L))) r o) ∧ H r = none := by
  have h3 := e3 a _ h0
  have s3 : Sx a H3 (upd H3 a (.ins C dx (hF b km L))) := Sx.upd (Same.sx (Same.refl H3))
  exact ⟨HallAt.same (Same.new hr) ⟨dx, km, L, upd_same, (hk.same e3).sx h3 s3, hL.sx h3 s3, nn_sx (nn_same hN.1 e3) s3 (by rw [upd_same]; exact fun z => by cases z), hN.2.1, fun z => hN.1 _ z hL0⟩, ((Same.sx e3).trans s3).trans (Same.sx (Same.new hr)), fresh_of e3 hr⟩
end
section
variable {P : Program} {w : World} {K : PySem.W.Frag} {mg : Str → Option Value} {base : Heap} {C : Addr} {f : Addr} {fd : FuncData}
/-! ### add_machine, remove_machine, set_machine -/
def spAddK (C : Addr) : Sp := fun vs H Q _ => ∃ (N : Addr → Prop) (a : Addr) (sh : Sr117.Shop) (c p : Int), vs = [.ref a, .int c, .int p] ∧ Small sh ∧ HallAt C N H a true sh ∧ Aft C N H a true (nextS sh (.addMachine c p)) (ansS sh (.addMachine c p)) Q
theorem ok_add_machine (T : Txt K mg C) {f1 : Addr} {fd1 : FuncData} (C_add_error : Cl P w K mg base "add_error" 2 f1 fd1 ["ratings", "clamp_force", "platen_size"] spAddError) (F : Fun K "add_machine" "Hall.add_machine" s_m_add_machine f fd) :
    FnOk P w K mg base CX0 3 f fd ["self", "clamp_force", "platen_size"] (spAddK C) := by
  refine F.ok sc_m_add_machine (fun vs H Q E h => ?_) (fun cdv A outer s H vs Q E hr h => ?_)
  · obtain ⟨N, a, sh, c, p, rfl, _⟩ := h
    rfl
  · obtain ⟨N, a, sh, c, p, rfl, hs, hH, k⟩ := h
    obtain ⟨dx, km, mm, h0, hK, hM, hN⟩ := id hH
    obtain ⟨vs, h1, h2⟩ := id hK
    refine ⟨_, (pss_cons (ps_set (i := 3) sc_m_add_machine.nd rfl (Or.inl rfl) (pe_call C_add_error.ok (hr.mono (by decide)) rfl C_add_error.gl C_add_error.kp C_add_error.bi .nil pass0 (pa_cons (pe_fld (pv 0) rfl) (pa_cons (pv 1) (pa_cons (pv 2) pa_nil)))))
        (pss_cons (ps_if (pt_cmpR op_lt (pv 3) pe_int (nomark _)) (pss_one (ps_ret (pe_lst (pa_cons (pv 3) pa_nil)))) pss_nil)
        (pss_cons (ps_fld (pv 0) (pe_op op_cat (pe_fld (pv 0) rfl) (pe_lst (pa_cons (pe_tup (pa_cons (pv 1) (pa_cons (pv 2) pa_nil))) pa_nil))) rfl)
        (pss_one (ps_ret (pe_lst (pa_cons (pe_op op_sub (pe_callB call_len_seq (by rfl) T.len PySem.boot_len (pa_cons (pe_fld (pv 0) rfl) pa_nil)) pe_int) pa_nil))))))), ?_⟩
    refine ⟨_, rfl, a, C, dx, _, _, rfl, h0, T.cl, T.nK, hF_K _ _ _, _, rfl, _, rfl, km, vs, c, p, rfl, h1, ?_⟩
    rw [h2.len]
    refine ⟨_, rfl, _, _, rfl, rfl, _, rfl, ifb (fun q => ⟨_, rfl, sz (m := 1) (Nat.le_refl _), fun r hr => ?_⟩) fun q => ?_⟩
    · have e := add_k_err hs (of_decide_eq_true q)
      exact k.q hH (Same.refl H) hr (by rw [e.1]; rfl) e.2
    · obtain ⟨e1, e2, ec, ep, h5⟩ := add_k_ok hs (neg_of q)
      refine ⟨_, rfl, a, C, dx, _, _, rfl, h0, T.cl, T.nK, hF_K _ _ _, _, rfl, _, rfl, sz (m := 2) (Nat.le_refl _), fun t ht => ⟨sz (m := 1) (Nat.le_refl _), fun l hl => ?_⟩⟩
      have s1 : Same H _ := Same.new (o := .tup [.int c, .int p]) ht
      have s2 := s1.trans (Same.new (o := .lst [.ref t]) hl)
      refine ⟨km, l, vs, _, rfl, rfl, s2 _ _ h1, upd_same, ?_, fun L hL => ?_⟩
      · rw [h2.len]
        refine sz (m := 10) ?_
        show _ + 1 ≤ 10
        omega
      have s3 := s2.trans (Same.new (o := .lst (vs ++ [.ref t])) hL)
      refine ⟨_, rfl, a, C, dx, _, rfl, s3 _ _ h0, T.cl, T.nK, by show 3 < 1000; decide, ?_⟩
      rw [hF_pK]
      have hLa : L ≠ a := fun e => by rw [e, s2 _ _ h0] at hL; cases hL
      refine ⟨_, rfl, a, C, dx, _, _, rfl, upd_same, T.cl, T.nK, hF_K _ _ _, L, _, rfl, .inl (SqL.of ((upd_ne hLa).trans upd_same)), _, _, rfl, rfl, sz (m := 1) (Nat.le_refl _), fun r hr => ?_⟩
      have hLR : RtL (upd (upd (upd H t (.tup [.int c, .int p])) l (.lst [.ref t])) L (.lst (vs ++ [.ref t]))) L (sh.machines ++ [⟨c.toNat, p.toNat⟩]) := by
        refine ⟨_, upd_same, Al.app (Rts.same s3 h2) (Al.one ⟨t, rfl, ?_⟩)⟩
        have e : rV ⟨c.toNat, p.toNat⟩ = [.int c, .int p] := by
          show [V.int (c.toNat : Int), V.int (p.toNat : Int)] = _
          rw [← ec, ← ep]
        rw [e]
        exact Same.new hL _ _ (Same.new hl _ _ upd_same)
      have fin := fin_K (o := .lst [.int (((vs ++ [V.ref t]).length : Int) - 1)]) h0 hN hM s3 (s2.free hL) hLR hr
      refine k _ r (by rw [e2]; exact fin.1) fin.2.1 ?_ fin.2.2
      rw [upd_same, e1]
      have e : ((vs ++ [V.ref t]).length : Int) - 1 = (sh.machines.length : Int) := by
        rw [List.length_append, h2.len]
        show ((_ + 1 : Nat) : Int) - 1 = _
        omega
      show some (HO.lst [V.int (((vs ++ [V.ref t]).length : Int) - 1)]) = _
      rw [e]
      rfl
def spRemK (C : Addr) : Sp := fun vs H Q _ => ∃ (N : Addr → Prop) (a : Addr) (sh : Sr117.Shop) (j : Int), vs = [.ref a, .int j] ∧ Small sh ∧ HallAt C N H a true sh ∧ Aft C N H a true (nextS sh (.removeMachine j)) (ansS sh (.removeMachine j)) Q
theorem ok_remove_machine (T : Txt K mg C) {f1 f2 : Addr} {fd1 fd2 : FuncData} (C_is_index : Cl P w K mg base "is_index" 1 f1 fd1 ["number", "many"] spIsIndex) (C_without_item : Cl P w K mg base "without_item" 1 f2 fd2 ["items", "index"] spWithout)
    (F : Fun K "remove_machine" "Hall.remove_machine" s_m_remove_machine f fd) : FnOk P w K mg base CX0 2 f fd ["self", "j"] (spRemK C) := by
  refine F.ok sc_m_remove_machine (fun vs H Q E h => ?_) (fun cdv A outer s H vs Q E hr h => ?_)
  · obtain ⟨N, a, sh, j, rfl, _⟩ := h
    rfl
  · obtain ⟨N, a, sh, j, rfl, hs, hH, k⟩ := h
    obtain ⟨dx, km, mm, h0, hK, hM, hN⟩ := id hH
    obtain ⟨vs, h1, h2⟩ := id hK
    refine ⟨_, (pss_cons (ps_if (pt_not (pt_val (pe_call C_is_index.ok (hr.mono (by decide)) rfl C_is_index.gl C_is_index.kp C_is_index.bi .nil pass0 (pa_cons (pv 1) (pa_cons (pe_callB call_len_seq (by rfl) T.len PySem.boot_len (pa_cons (pe_fld (pv 0) rfl) pa_nil)) pa_nil))))) (pss_one (ps_ret (pe_lst (pa_cons (pgi T.noSuch) pa_nil)))) pss_nil)
        (pss_cons (ps_fld (pv 0) (pe_call C_without_item.ok (hr.mono (by decide)) rfl C_without_item.gl C_without_item.kp C_without_item.bi .nil pass0 (pa_cons (pe_fld (pv 0) rfl) (pa_cons (pv 1) pa_nil))) rfl)
        (pss_one (ps_ret (pe_lst (pa_cons (pe_callB call_len_seq (by rfl) T.len PySem.boot_len (pa_cons (pe_fld (pv 0) rfl) pa_nil)) pa_nil)))))), ?_⟩
    refine ⟨_, rfl, _, rfl, a, C, dx, _, _, rfl, h0, T.cl, T.nK, hF_K _ _ _, km, vs, rfl, .inl (SqL.of h1), j, vs.length, rfl, _, rfl, ?_⟩
    rw [h2.len]
    refine ifb (fun q => ⟨sz (m := 1) (Nat.le_refl _), fun r hr => ?_⟩) fun q => ?_
    · have e := rem_k_err (sh := sh) (notT q)
      exact k.q hH (Same.refl H) hr (by rw [e.1]; rfl) e.2
    · have q := notF q
      have e := rem_k_ok (sh := sh) q
      have hj : j = (j.toNat : Int) := by have := okI_iff.mp q; omega
      have hsl := hs.k
      refine ⟨_, rfl, a, C, dx, _, _, rfl, h0, T.cl, T.nK, hF_K _ _ _, _, rfl, km, vs, j.toNat, congrArg (fun z => [V.ref km, V.int z]) hj, h1, by rw [h2.len]; omega, fun H3 L s3 hL0 hL => ?_⟩
      refine ⟨_, rfl, a, C, dx, _, rfl, s3 _ _ h0, T.cl, T.nK, by show 3 < 1000; decide, ?_⟩
      rw [hF_pK]
      have hLa : L ≠ a := lst_ne (s3 _ _ h0) hL
      refine ⟨_, rfl, a, C, dx, _, _, rfl, upd_same, T.cl, T.nK, hF_K _ _ _, L, _, rfl, .inl (SqL.of ((upd_ne hLa).trans hL)), sz (m := 1) (Nat.le_refl _), fun r hr => ?_⟩
      have hal := Al.erase j.toNat (Rts.same s3 h2)
      have fin := fin_K (o := .lst [.int ((vs.eraseIdx j.toNat).length : Int)]) h0 hN hM s3 hL0 ⟨_, hL, hal⟩ hr
      refine k _ r (by rw [e.2]; exact fin.1) fin.2.1 ?_ fin.2.2
      rw [upd_same, e.1, hal.len]
      rfl
def spSetK (C : Addr) : Sp := fun vs H Q _ => ∃ (N : Addr → Prop) (a : Addr) (sh : Sr117.Shop) (j c p : Int), vs = [.ref a, .int j, .int c, .int p] ∧ Small sh ∧ HallAt C N H a true sh ∧ Aft C N H a true (nextS sh (.setMachine j c p)) (ansS sh (.setMachine j c p)) Q
theorem ok_set_machine (T : Txt K mg C) {f1 f2 : Addr} {fd1 fd2 : FuncData} (C_set_error : Cl P w K mg base "set_error" 2 f1 fd1 ["ratings", "index", "clamp_force", "platen_size"] spSetError) (C_with_item : Cl P w K mg base "with_item" 1 f2 fd2 ["items", "index", "item"] spWith)
    (F : Fun K "set_machine" "Hall.set_machine" s_m_set_machine f fd) : FnOk P w K mg base CX0 3 f fd ["self", "j", "clamp_force", "platen_size"] (spSetK C) := by
  refine F.ok sc_m_set_machine (fun vs H Q E h => ?_) (fun cdv A outer s H vs Q E hr h => ?_)
  · obtain ⟨N, a, sh, j, c, p, rfl, _⟩ := h
    rfl
  · obtain ⟨N, a, sh, j, c, p, rfl, hs, hH, k⟩ := h
    obtain ⟨dx, km, mm, h0, hK, hM, hN⟩ := id hH
    obtain ⟨vs, h1, h2⟩ := id hK
    refine ⟨_, (pss_cons (ps_set (i := 4) sc_m_set_machine.nd rfl (Or.inl rfl) (pe_call C_set_error.ok (hr.mono (by decide)) rfl C_set_error.gl C_set_error.kp C_set_error.bi .nil pass0 (pa_cons (pe_fld (pv 0) rfl) (pa_cons (pv 1) (pa_cons (pv 2) (pa_cons (pv 3) pa_nil))))))
        (pss_cons (ps_if (pt_cmpR op_lt (pv 4) pe_int (nomark _)) (pss_one (ps_ret (pe_lst (pa_cons (pv 4) pa_nil)))) pss_nil)
        (pss_cons (ps_set (i := 5) sc_m_set_machine.nd rfl (Or.inl rfl) (pe_ix ix_list (pe_fld (pv 0) rfl) (pv 1) (fun _ _ => rfl)))
        (pss_cons (ps_fld (pv 0) (pe_call C_with_item.ok (hr.mono (by decide)) rfl C_with_item.gl C_with_item.kp C_with_item.bi .nil pass0 (pa_cons (pe_fld (pv 0) rfl) (pa_cons (pv 1) (pa_cons (pe_tup (pa_cons (pv 2) (pa_cons (pv 3) pa_nil))) pa_nil)))) rfl)
        (pss_one (ps_ret (pe_lst (pa_cons pe_int (pa_cons (pe_ix ix_tup (pv 5) pe_int (fun _ _ => rfl)) (pa_cons (pe_ix ix_tup (pv 5) pe_int (fun _ _ => rfl)) pa_nil)))))))))), ?_⟩
    refine ⟨_, rfl, a, C, dx, _, _, rfl, h0, T.cl, T.nK, hF_K _ _ _, _, rfl, _, rfl, _, rfl, km, vs, j, c, p, rfl, h1, ?_⟩
    rw [h2.len]
    refine ⟨_, rfl, _, _, rfl, rfl, _, rfl, ifb (fun q => ⟨_, rfl, sz (m := 1) (Nat.le_refl _), fun r hr => ?_⟩) fun q => ?_⟩
    · have e := set_k_err (of_decide_eq_true q)
      exact k.q hH (Same.refl H) hr (by rw [e.1]; rfl) e.2
    · obtain ⟨rr, hrr, hj, e1, e2, ec, ep⟩ := set_k_ok (neg_of q)
      obtain ⟨v, hv, t0, rfl, ht0⟩ := h2.got hrr
      have hsl := hs.k
      have hjl := lt_of hv
      refine ⟨_, rfl, a, C, dx, _, _, rfl, h0, T.cl, T.nK, hF_K _ _ _, _, rfl, km, vs, j, _, rfl, rfl, SqL.of h1, at_of hj hv, ?_⟩
      refine ⟨_, rfl, a, C, dx, _, _, rfl, h0, T.cl, T.nK, hF_K _ _ _, _, rfl, _, rfl, _, rfl, sz (m := 2) (Nat.le_refl _), fun t ht => ?_⟩
      have s1 : Same H _ := Same.new (o := .tup [.int c, .int p]) ht
      refine ⟨km, vs, j.toNat, .ref t, congrArg (fun z => [V.ref km, V.int z, V.ref t]) hj, s1 _ _ h1, by rw [h2.len]; omega, hjl, fun H3 L s2 hL0 hL => ?_⟩
      have s3 := s1.trans s2
      refine ⟨_, rfl, a, C, dx, _, rfl, s3 _ _ h0, T.cl, T.nK, by show 3 < 1000; decide, ?_⟩
      rw [hF_pK]
      have ht4 : upd H3 a (.ins C dx (hF true L mm)) t0 = some (.tup (rV rr)) := (upd_ne (tup_ne h0 ht0)).trans (s3 _ _ ht0)
      refine ⟨_, rfl, t0, rV rr, 0, _, rfl, rfl, SqT.of ht4, rfl, _, rfl, t0, rV rr, 1, _, rfl, rfl, SqT.of ht4, rfl, sz (m := 3) (Nat.le_refl _), fun r hr => ?_⟩
      have hal : Al (RtAt H3) (vs.set j.toNat (.ref t)) (sh.machines.set j.toNat ⟨c.toNat, p.toNat⟩) := by
        refine Al.set (Rts.same s3 h2) ⟨t, rfl, ?_⟩ (lt_of hrr)
        have e : rV ⟨c.toNat, p.toNat⟩ = [.int c, .int p] := by
          show [V.int (c.toNat : Int), V.int (p.toNat : Int)] = _
          rw [← ec, ← ep]
        rw [e]
        exact s2 _ _ upd_same
      have fin := fin_K (o := .lst [.int 0, .int rr.clampForce, .int rr.platenSize]) h0 hN hM s3 (s1.free hL0) ⟨_, hL, hal⟩ hr
      refine k _ r (by rw [e2]; exact fin.1) fin.2.1 ?_ fin.2.2
      rw [e1]
      exact upd_same
/-! ### add_mould, remove_mould, set_mould -/
def spAddM (C : Addr) : Sp := fun vs H Q _ => ∃ (N : Addr → Prop) (a : Addr) (sh : Sr117.Shop) (c p : Int), vs = [.ref a, .int c, .int p] ∧ Small sh ∧ HallAt C N H a true sh ∧ Aft C N H a true (nextS sh (.addMould c p)) (ansS sh (.addMould c p)) Q
theorem ok_add_mould (T : Txt K mg C) {f1 : Addr} {fd1 : FuncData} (C_add_error : Cl P w K mg base "add_error" 2 f1 fd1 ["ratings", "clamp_force", "platen_size"] spAddError) (F : Fun K "add_mould" "Hall.add_mould" s_m_add_mould f fd) :
    FnOk P w K mg base CX0 3 f fd ["self", "clamp_force", "platen_size"] (spAddM C) := by
  refine F.ok sc_m_add_mould (fun vs H Q E h => ?_) (fun cdv A outer s H vs Q E hr h => ?_)
  · obtain ⟨N, a, sh, c, p, rfl, _⟩ := h
    rfl
  · obtain ⟨N, a, sh, c, p, rfl, hs, hH, k⟩ := h
    obtain ⟨dx, km, mm, h0, hK, hM, hN⟩ := id hH
    obtain ⟨vs, h1, h2⟩ := id hM
    refine ⟨_, (pss_cons (ps_set (i := 3) sc_m_add_mould.nd rfl (Or.inl rfl) (pe_call C_add_error.ok (hr.mono (by decide)) rfl C_add_error.gl C_add_error.kp C_add_error.bi .nil pass0 (pa_cons (pe_fld (pv 0) rfl) (pa_cons (pv 1) (pa_cons (pv 2) pa_nil)))))
        (pss_cons (ps_if (pt_cmpR op_lt (pv 3) pe_int (nomark _)) (pss_one (ps_ret (pe_lst (pa_cons (pv 3) pa_nil)))) pss_nil)
        (pss_cons (ps_fld (pv 0) (pe_op op_cat (pe_fld (pv 0) rfl) (pe_lst (pa_cons (pe_tup (pa_cons (pv 1) (pa_cons (pv 2) pa_nil))) pa_nil))) rfl)
        (pss_one (ps_ret (pe_lst (pa_cons (pe_op op_sub (pe_callB call_len_seq (by rfl) T.len PySem.boot_len (pa_cons (pe_fld (pv 0) rfl) pa_nil)) pe_int) pa_nil))))))), ?_⟩
    refine ⟨_, rfl, a, C, dx, _, _, rfl, h0, T.cl, T.nM, hF_M _ _ _, _, rfl, _, rfl, mm, vs, c, p, rfl, h1, ?_⟩
    rw [h2.len]
    refine ⟨_, rfl, _, _, rfl, rfl, _, rfl, ifb (fun q => ⟨_, rfl, sz (m := 1) (Nat.le_refl _), fun r hr => ?_⟩) fun q => ?_⟩
    · have e := add_m_err hs (of_decide_eq_true q)
      exact k.q hH (Same.refl H) hr (by rw [e.1]; rfl) e.2
    · obtain ⟨e1, e2, ec, ep, h5⟩ := add_m_ok hs (neg_of q)
      refine ⟨_, rfl, a, C, dx, _, _, rfl, h0, T.cl, T.nM, hF_M _ _ _, _, rfl, _, rfl, sz (m := 2) (Nat.le_refl _), fun t ht => ⟨sz (m := 1) (Nat.le_refl _), fun l hl => ?_⟩⟩
      have s1 : Same H _ := Same.new (o := .tup [.int c, .int p]) ht
      have s2 := s1.trans (Same.new (o := .lst [.ref t]) hl)
      refine ⟨mm, l, vs, _, rfl, rfl, s2 _ _ h1, upd_same, ?_, fun L hL => ?_⟩
      · rw [h2.len]
        refine sz (m := 10) ?_
        show _ + 1 ≤ 10
        omega
      have s3 := s2.trans (Same.new (o := .lst (vs ++ [.ref t])) hL)
      refine ⟨_, rfl, a, C, dx, _, rfl, s3 _ _ h0, T.cl, T.nM, by show 3 < 1000; decide, ?_⟩
      rw [hF_pM]
      have hLa : L ≠ a := fun e => by rw [e, s2 _ _ h0] at hL; cases hL
      refine ⟨_, rfl, a, C, dx, _, _, rfl, upd_same, T.cl, T.nM, hF_M _ _ _, L, _, rfl, .inl (SqL.of ((upd_ne hLa).trans upd_same)), _, _, rfl, rfl, sz (m := 1) (Nat.le_refl _), fun r hr => ?_⟩
      have hLR : RtL (upd (upd (upd H t (.tup [.int c, .int p])) l (.lst [.ref t])) L (.lst (vs ++ [.ref t]))) L (sh.moulds ++ [⟨c.toNat, p.toNat⟩]) := by
        refine ⟨_, upd_same, Al.app (Rts.same s3 h2) (Al.one ⟨t, rfl, ?_⟩)⟩
        have e : rV ⟨c.toNat, p.toNat⟩ = [.int c, .int p] := by
          show [V.int (c.toNat : Int), V.int (p.toNat : Int)] = _
          rw [← ec, ← ep]
        rw [e]
        exact Same.new hL _ _ (Same.new hl _ _ upd_same)
      have fin := fin_M (o := .lst [.int (((vs ++ [V.ref t]).length : Int) - 1)]) h0 hN hK s3 (s2.free hL) hLR hr
      refine k _ r (by rw [e2]; exact fin.1) fin.2.1 ?_ fin.2.2
      rw [upd_same, e1]
      have e : ((vs ++ [V.ref t]).length : Int) - 1 = (sh.moulds.length : Int) := by
        rw [List.length_append, h2.len]
        show ((_ + 1 : Nat) : Int) - 1 = _
        omega
      show some (HO.lst [V.int (((vs ++ [V.ref t]).length : Int) - 1)]) = _
      rw [e]
      rfl
def spRemM (C : Addr) : Sp := fun vs H Q _ => ∃ (N : Addr → Prop) (a : Addr) (sh : Sr117.Shop) (j : Int), vs = [.ref a, .int j] ∧ Small sh ∧ HallAt C N H a true sh ∧ Aft C N H a true (nextS sh (.removeMould j)) (ansS sh (.removeMould j)) Q
theorem ok_remove_mould (T : Txt K mg C) {f1 f2 : Addr} {fd1 fd2 : FuncData} (C_is_index : Cl P w K mg base "is_index" 1 f1 fd1 ["number", "many"] spIsIndex) (C_without_item : Cl P w K mg base "without_item" 1 f2 fd2 ["items", "index"] spWithout)
    (F : Fun K "remove_mould" "Hall.remove_mould" s_m_remove_mould f fd) : FnOk P w K mg base CX0 2 f fd ["self", "i"] (spRemM C) := by
  refine F.ok sc_m_remove_mould (fun vs H Q E h => ?_) (fun cdv A outer s H vs Q E hr h => ?_)
  · obtain ⟨N, a, sh, j, rfl, _⟩ := h
    rfl
  · obtain ⟨N, a, sh, j, rfl, hs, hH, k⟩ := h
    obtain ⟨dx, km, mm, h0, hK, hM, hN⟩ := id hH
    obtain ⟨vs, h1, h2⟩ := id hM
    refine ⟨_, (pss_cons (ps_if (pt_not (pt_val (pe_call C_is_index.ok (hr.mono (by decide)) rfl C_is_index.gl C_is_index.kp C_is_index.bi .nil pass0 (pa_cons (pv 1) (pa_cons (pe_callB call_len_seq (by rfl) T.len PySem.boot_len (pa_cons (pe_fld (pv 0) rfl) pa_nil)) pa_nil))))) (pss_one (ps_ret (pe_lst (pa_cons (pgi T.noSuch) pa_nil)))) pss_nil)
        (pss_cons (ps_fld (pv 0) (pe_call C_without_item.ok (hr.mono (by decide)) rfl C_without_item.gl C_without_item.kp C_without_item.bi .nil pass0 (pa_cons (pe_fld (pv 0) rfl) (pa_cons (pv 1) pa_nil))) rfl)
        (pss_one (ps_ret (pe_lst (pa_cons (pe_callB call_len_seq (by rfl) T.len PySem.boot_len (pa_cons (pe_fld (pv 0) rfl) pa_nil)) pa_nil)))))), ?_⟩
    refine ⟨_, rfl, _, rfl, a, C, dx, _, _, rfl, h0, T.cl, T.nM, hF_M _ _ _, mm, vs, rfl, .inl (SqL.of h1), j, vs.length, rfl, _, rfl, ?_⟩
    rw [h2.len]
    refine ifb (fun q => ⟨sz (m := 1) (Nat.le_refl _), fun r hr => ?_⟩) fun q => ?_
    · have e := rem_m_err (sh := sh) (notT q)
      exact k.q hH (Same.refl H) hr (by rw [e.1]; rfl) e.2
    · have q := notF q
      have e := rem_m_ok (sh := sh) q
      have hj : j = (j.toNat : Int) := by have := okI_iff.mp q; omega
      have hsl := hs.m
      refine ⟨_, rfl, a, C, dx, _, _, rfl, h0, T.cl, T.nM, hF_M _ _ _, _, rfl, mm, vs, j.toNat, congrArg (fun z => [V.ref mm, V.int z]) hj, h1, by rw [h2.len]; omega, fun H3 L s3 hL0 hL => ?_⟩
      refine ⟨_, rfl, a, C, dx, _, rfl, s3 _ _ h0, T.cl, T.nM, by show 3 < 1000; decide, ?_⟩
      rw [hF_pM]
      have hLa : L ≠ a := lst_ne (s3 _ _ h0) hL
      refine ⟨_, rfl, a, C, dx, _, _, rfl, upd_same, T.cl, T.nM, hF_M _ _ _, L, _, rfl, .inl (SqL.of ((upd_ne hLa).trans hL)), sz (m := 1) (Nat.le_refl _), fun r hr => ?_⟩
      have hal := Al.erase j.toNat (Rts.same s3 h2)
      have fin := fin_M (o := .lst [.int ((vs.eraseIdx j.toNat).length : Int)]) h0 hN hK s3 hL0 ⟨_, hL, hal⟩ hr
      refine k _ r (by rw [e.2]; exact fin.1) fin.2.1 ?_ fin.2.2
      rw [upd_same, e.1, hal.len]
      rfl
def spSetM (C : Addr) : Sp := fun vs H Q _ => ∃ (N : Addr → Prop) (a : Addr) (sh : Sr117.Shop) (j c p : Int), vs = [.ref a, .int j, .int c, .int p] ∧ Small sh ∧ HallAt C N H a true sh ∧ Aft C N H a true (nextS sh (.setMould j c p)) (ansS sh (.setMould j c p)) Q
theorem ok_set_mould (T : Txt K mg C) {f1 f2 : Addr} {fd1 fd2 : FuncData} (C_set_error : Cl P w K mg base "set_error" 2 f1 fd1 ["ratings", "index", "clamp_force", "platen_size"] spSetError) (C_with_item : Cl P w K mg base "with_item" 1 f2 fd2 ["items", "index", "item"] spWith)
    (F : Fun K "set_mould" "Hall.set_mould" s_m_set_mould f fd) : FnOk P w K mg base CX0 3 f fd ["self", "i", "clamp_force", "platen_size"] (spSetM C) := by
  refine F.ok sc_m_set_mould (fun vs H Q E h => ?_) (fun cdv A outer s H vs Q E hr h => ?_)
  · obtain ⟨N, a, sh, j, c, p, rfl, _⟩ := h
    rfl
  · obtain ⟨N, a, sh, j, c, p, rfl, hs, hH, k⟩ := h
    obtain ⟨dx, km, mm, h0, hK, hM, hN⟩ := id hH
    obtain ⟨vs, h1, h2⟩ := id hM
    refine ⟨_, (pss_cons (ps_set (i := 4) sc_m_set_mould.nd rfl (Or.inl rfl) (pe_call C_set_error.ok (hr.mono (by decide)) rfl C_set_error.gl C_set_error.kp C_set_error.bi .nil pass0 (pa_cons (pe_fld (pv 0) rfl) (pa_cons (pv 1) (pa_cons (pv 2) (pa_cons (pv 3) pa_nil))))))
        (pss_cons (ps_if (pt_cmpR op_lt (pv 4) pe_int (nomark _)) (pss_one (ps_ret (pe_lst (pa_cons (pv 4) pa_nil)))) pss_nil)
        (pss_cons (ps_set (i := 5) sc_m_set_mould.nd rfl (Or.inl rfl) (pe_ix ix_list (pe_fld (pv 0) rfl) (pv 1) (fun _ _ => rfl)))
        (pss_cons (ps_fld (pv 0) (pe_call C_with_item.ok (hr.mono (by decide)) rfl C_with_item.gl C_with_item.kp C_with_item.bi .nil pass0 (pa_cons (pe_fld (pv 0) rfl) (pa_cons (pv 1) (pa_cons (pe_tup (pa_cons (pv 2) (pa_cons (pv 3) pa_nil))) pa_nil)))) rfl)
        (pss_one (ps_ret (pe_lst (pa_cons pe_int (pa_cons (pe_ix ix_tup (pv 5) pe_int (fun _ _ => rfl)) (pa_cons (pe_ix ix_tup (pv 5) pe_int (fun _ _ => rfl)) pa_nil)))))))))), ?_⟩
    refine ⟨_, rfl, a, C, dx, _, _, rfl, h0, T.cl, T.nM, hF_M _ _ _, _, rfl, _, rfl, _, rfl, mm, vs, j, c, p, rfl, h1, ?_⟩
    rw [h2.len]
    refine ⟨_, rfl, _, _, rfl, rfl, _, rfl, ifb (fun q => ⟨_, rfl, sz (m := 1) (Nat.le_refl _), fun r hr => ?_⟩) fun q => ?_⟩
    · have e := set_m_err (of_decide_eq_true q)
      exact k.q hH (Same.refl H) hr (by rw [e.1]; rfl) e.2
    · obtain ⟨rr, hrr, hj, e1, e2, ec, ep⟩ := set_m_ok (neg_of q)
      obtain ⟨v, hv, t0, rfl, ht0⟩ := h2.got hrr
      have hsl := hs.m
      have hjl := lt_of hv
      refine ⟨_, rfl, a, C, dx, _, _, rfl, h0, T.cl, T.nM, hF_M _ _ _, _, rfl, mm, vs, j, _, rfl, rfl, SqL.of h1, at_of hj hv, ?_⟩
      refine ⟨_, rfl, a, C, dx, _, _, rfl, h0, T.cl, T.nM, hF_M _ _ _, _, rfl, _, rfl, _, rfl, sz (m := 2) (Nat.le_refl _), fun t ht => ?_⟩
      have s1 : Same H _ := Same.new (o := .tup [.int c, .int p]) ht
      refine ⟨mm, vs, j.toNat, .ref t, congrArg (fun z => [V.ref mm, V.int z, V.ref t]) hj, s1 _ _ h1, by rw [h2.len]; omega, hjl, fun H3 L s2 hL0 hL => ?_⟩
      have s3 := s1.trans s2
      refine ⟨_, rfl, a, C, dx, _, rfl, s3 _ _ h0, T.cl, T.nM, by show 3 < 1000; decide, ?_⟩
      rw [hF_pM]
      have ht4 : upd H3 a (.ins C dx (hF true km L)) t0 = some (.tup (rV rr)) := (upd_ne (tup_ne h0 ht0)).trans (s3 _ _ ht0)
      refine ⟨_, rfl, t0, rV rr, 0, _, rfl, rfl, SqT.of ht4, rfl, _, rfl, t0, rV rr, 1, _, rfl, rfl, SqT.of ht4, rfl, sz (m := 3) (Nat.le_refl _), fun r hr => ?_⟩
      have hal : Al (RtAt H3) (vs.set j.toNat (.ref t)) (sh.moulds.set j.toNat ⟨c.toNat, p.toNat⟩) := by
        refine Al.set (Rts.same s3 h2) ⟨t, rfl, ?_⟩ (lt_of hrr)
        have e : rV ⟨c.toNat, p.toNat⟩ = [.int c, .int p] := by
          show [V.int (c.toNat : Int), V.int (p.toNat : Int)] = _
          rw [← ec, ← ep]
        rw [e]
        exact s2 _ _ upd_same
      have fin := fin_M (o := .lst [.int 0, .int rr.clampForce, .int rr.platenSize]) h0 hN hK s3 (s1.free hL0) ⟨_, hL, hal⟩ hr
      refine k _ r (by rw [e2]; exact fin.1) fin.2.1 ?_ fin.2.2
      rw [e1]
      exact upd_same
end
end My
namespace My
open PySem PySem.Spec PyProof.Rows L2
section
variable {P : Program} {w : World} {K : PySem.W.Frag} {mg : Str → Option Value} {base : Heap} {C : Addr} {f : Addr} {fd : FuncData}
/-- a query's promise: the instance, then its own arguments as the letters say -/
def spQ0 (C : Addr) (c : Sr117.Call) : Sp := fun vs H Q _ => ∃ (N : Addr → Prop) (a : Addr) (sh : Sr117.Shop), vs = [.ref a] ∧ Small sh ∧ HallAt C N H a true sh ∧ Aft C N H a true (nextS sh c) (ansS sh c) Q
/-! ### fits -/
def spHFits (C : Addr) : Sp := fun vs H Q _ => ∃ (N : Addr → Prop) (a : Addr) (sh : Sr117.Shop) (i j : Int), vs = [.ref a, .int i, .int j] ∧ Small sh ∧ HallAt C N H a true sh ∧ Aft C N H a true (nextS sh (.fits i j)) (ansS sh (.fits i j)) Q
theorem ok_m_fits (T : Txt K mg C) {f1 f2 : Addr} {fd1 fd2 : FuncData} (C_is_index : Cl P w K mg base "is_index" 1 f1 fd1 ["number", "many"] spIsIndex) (C_fits_ratings : Cl P w K mg base "fits_ratings" 1 f2 fd2 ["mould", "machine"] spFits)
    (F : Fun K "fits" "Hall.fits" s_m_fits f fd) : FnOk P w K mg base CX0 2 f fd ["self", "i", "j"] (spHFits C) := by
  refine F.ok sc_m_fits (fun vs H Q E h => ?_) (fun cdv A outer s H vs Q E hr h => ?_)
  · obtain ⟨N, a, sh, i, j, rfl, _⟩ := h
    rfl
  · obtain ⟨N, a, sh, i, j, rfl, hs, hH, k⟩ := h
    obtain ⟨dx, km, mm, h0, ⟨vks, hk1, hk2⟩, ⟨vms, hm1, hm2⟩, _⟩ := id hH
    refine ⟨_, (pss_cons (ps_if (PW.pt (pw_or (pt_not (pt_val (pe_call C_is_index.ok (hr.mono (by decide)) rfl C_is_index.gl C_is_index.kp C_is_index.bi .nil pass0 (pa_cons (pv 1) (pa_cons (pe_callB call_len_seq (by rfl) T.len PySem.boot_len (pa_cons (pe_fld (pv 0) rfl) pa_nil)) pa_nil))))) (pw_or1 (pt_not (pt_val (pe_call C_is_index.ok (hr.mono (by decide)) rfl C_is_index.gl C_is_index.kp C_is_index.bi .nil pass0 (pa_cons (pv 2) (pa_cons (pe_callB call_len_seq (by rfl) T.len PySem.boot_len (pa_cons (pe_fld (pv 0) rfl) pa_nil)) pa_nil)))))))) (pss_one (ps_ret (pe_lst (pa_cons (pgi T.noSuch) pa_nil)))) pss_nil)
        (pss_one (ps_ret (pe_lst (pa_cons (pe_callTy call_int1 (by rfl) T.int (by decide +kernel) (pa_cons (pe_call C_fits_ratings.ok (hr.mono (by decide)) rfl C_fits_ratings.gl C_fits_ratings.kp C_fits_ratings.bi .nil pass0 (pa_cons (pe_ix ix_list (pe_fld (pv 0) rfl) (pv 1) (fun _ _ => rfl)) (pa_cons (pe_ix ix_list (pe_fld (pv 0) rfl) (pv 2) (fun _ _ => rfl)) pa_nil))) pa_nil)) pa_nil))))), ?_⟩
    refine ⟨_, rfl, _, rfl, a, C, dx, _, _, rfl, h0, T.cl, T.nM, hF_M _ _ _, mm, vms, rfl, .inl (SqL.of hm1), i, vms.length, rfl, _, rfl, ?_⟩
    rw [hm2.len]
    refine ifb (fun q1 => iteT ⟨sz (m := 1) (Nat.le_refl _), fun r hr => ?_⟩) fun q1 => ⟨_, rfl, _, rfl, a, C, dx, _, _, rfl, h0, T.cl, T.nK, hF_K _ _ _, km, vks, rfl, .inl (SqL.of hk1), j, vks.length, rfl, _, rfl, ?_⟩
    · have e := fits_err (sh := sh) (i := i) (j := j) (.inl (notT q1))
      exact k.q hH (Same.refl H) hr (by rw [e.1]; rfl) e.2
    rw [hk2.len]
    refine ifb (fun q2 => ⟨sz (m := 1) (Nat.le_refl _), fun r hr => ?_⟩) fun q2 => ?_
    · have e := fits_err (sh := sh) (i := i) (j := j) (.inr (notT q2))
      exact k.q hH (Same.refl H) hr (by rw [e.1]; rfl) e.2
    · obtain ⟨m, kk, hm, hi, hkk, hj, e⟩ := fits_ok (notF q1) (notF q2)
      obtain ⟨vm, hvm, hrm⟩ := hm2.got hm
      obtain ⟨vk, hvk, hrk⟩ := hk2.got hkk
      refine ⟨_, rfl, a, C, dx, _, _, rfl, h0, T.cl, T.nM, hF_M _ _ _, _, rfl, mm, vms, i, vm, rfl, rfl, SqL.of hm1, at_of hi hvm, _, rfl, a, C, dx, _, _, rfl, h0, T.cl, T.nK, hF_K _ _ _, _, rfl, km, vks, j, vk, rfl, rfl, SqL.of hk1, at_of hj hvk, vm, vk, m, kk, rfl, hrm, hrk, .inr ⟨_, rfl, sz (m := 1) (Nat.le_refl _), fun r hr => ?_⟩⟩
      exact k.q hH (Same.refl H) hr (by rw [e.1]; rfl) e.2
/-! ### max_running, best_assignment, minimum_cover, max_deficiency -/
theorem ok_m_max_running (T : Txt K mg C) {f1 : Addr} {fd1 : FuncData} (C_max_running_assignments : Cl P w K mg base "max_running_assignments" 5 f1 fd1 ["moulds", "machines"] spMaxRun) (F : Fun K "max_running" "Hall.max_running" s_m_max_running f fd) :
    FnOk P w K mg base CX0 6 f fd ["self"] (spQ0 C .maxRunning) := by
  refine F.ok sc_m_max_running (fun vs H Q E h => ?_) (fun cdv A outer s H vs Q E hr h => ?_)
  · obtain ⟨N, a, sh, rfl, _⟩ := h
    rfl
  · obtain ⟨N, a, sh, rfl, hs, hH, k⟩ := h
    obtain ⟨dx, km, mm, h0, hK, hM, _⟩ := id hH
    refine ⟨_, (pss_one (ps_ret (pe_lst (pa_cons (pe_call C_max_running_assignments.ok (hr.mono (by decide)) rfl C_max_running_assignments.gl C_max_running_assignments.kp C_max_running_assignments.bi .nil pass0 (pa_cons (pe_fld (pv 0) rfl) (pa_cons (pe_fld (pv 0) rfl) pa_nil))) pa_nil)))), ?_⟩
    have e := maxRun_ok sh
    refine ⟨_, rfl, a, C, dx, _, _, rfl, h0, T.cl, T.nM, hF_M _ _ _, _, rfl, a, C, dx, _, _, rfl, h0, T.cl, T.nK, hF_K _ _ _, mm, km, sh.moulds, sh.machines, rfl, hM, hK, hs.m, hs.k, fun H1 e1 => ⟨sz (m := 1) (Nat.le_refl _), fun r hr => ?_⟩⟩
    exact k.q hH e1 hr (by rw [e.1]; rfl) e.2
theorem ok_m_best_assignment (T : Txt K mg C) {f1 f2 : Addr} {fd1 fd2 : FuncData} (C_best_assignment_assignments : Cl P w K mg base "best_assignment_assignments" 4 f1 fd1 ["moulds", "machines"] spBest) (C_size_of : Cl P w K mg base "size_of" 1 f2 fd2 ["entries"] (spSizeOf K))
    (F : Fun K "best_assignment" "Hall.best_assignment" s_m_best_assignment f fd) : FnOk P w K mg base CX0 5 f fd ["self"] (spQ0 C .bestAssignment) := by
  refine F.ok sc_m_best_assignment (fun vs H Q E h => ?_) (fun cdv A outer s H vs Q E hr h => ?_)
  · obtain ⟨N, a, sh, rfl, _⟩ := h
    rfl
  · obtain ⟨N, a, sh, rfl, hs, hH, k⟩ := h
    obtain ⟨dx, km, mm, h0, hK, hM, _⟩ := id hH
    refine ⟨_, (pss_cons (ps_set (i := 1) sc_m_best_assignment.nd rfl (Or.inl rfl) (pe_call C_best_assignment_assignments.ok (hr.mono (by decide)) rfl C_best_assignment_assignments.gl C_best_assignment_assignments.kp C_best_assignment_assignments.bi .nil pass0 (pa_cons (pe_fld (pv 0) rfl) (pa_cons (pe_fld (pv 0) rfl) pa_nil))))
        (pss_one (ps_ret (pe_op op_cat (pe_lst (pa_cons (pe_call C_size_of.ok (hr.mono (by decide)) rfl C_size_of.gl C_size_of.kp C_size_of.bi .nil pass0 (pa_cons (pv 1) pa_nil)) pa_nil)) (pv 1))))), ?_⟩
    have e := best_ok sh
    refine ⟨_, rfl, a, C, dx, _, _, rfl, h0, T.cl, T.nM, hF_M _ _ _, _, rfl, a, C, dx, _, _, rfl, h0, T.cl, T.nK, hF_K _ _ _, mm, km, sh.moulds, sh.machines, rfl, hM, hK, hs.m, hs.k, fun H1 p e1 hp => ?_⟩
    refine ⟨_, rfl, p, _, rfl, SqL.of hp, sz (m := 1) (Nat.le_refl _), fun l hl => ⟨_, rfl, l, p, _, _, rfl, rfl, upd_same, Same.new hl p _ hp, ?_, fun r hr => ?_⟩⟩
    · refine sz (m := 10) ?_
      rw [iV_len, best_len]
      have := hs.m
      show 1 + _ ≤ 10
      omega
    · exact k.q hH (e1.trans (Same.new hl)) hr (by rw [e.1, iV_app]; rfl) e.2
theorem ok_m_minimum_cover (T : Txt K mg C) {f1 : Addr} {fd1 : FuncData} (C_minimum_cover_covers : Cl P w K mg base "minimum_cover_covers" 3 f1 fd1 ["moulds", "machines"] spMinCover) (F : Fun K "minimum_cover" "Hall.minimum_cover" s_m_minimum_cover f fd) :
    FnOk P w K mg base CX0 4 f fd ["self"] (spQ0 C .minimumCover) := by
  refine F.ok sc_m_minimum_cover (fun vs H Q E h => ?_) (fun cdv A outer s H vs Q E hr h => ?_)
  · obtain ⟨N, a, sh, rfl, _⟩ := h
    rfl
  · obtain ⟨N, a, sh, rfl, hs, hH, k⟩ := h
    obtain ⟨dx, km, mm, h0, hK, hM, _⟩ := id hH
    refine ⟨_, (pss_cons (ps_asg (pe_call C_minimum_cover_covers.ok (hr.mono (by decide)) rfl C_minimum_cover_covers.gl C_minimum_cover_covers.kp C_minimum_cover_covers.bi .nil pass0 (pa_cons (pe_fld (pv 0) rfl) (pa_cons (pe_fld (pv 0) rfl) pa_nil))) (pg_tup rfl (pgs_cons (pg_name (i := 1) sc_m_minimum_cover.nd rfl (Or.inl rfl)) (pgs_cons (pg_name (i := 2) sc_m_minimum_cover.nd rfl (Or.inl rfl)) pgs_nil))))
        (pss_one (ps_ret (pe_op op_cat (pe_op op_cat (pe_lst (pa_cons (pe_op op_add (pe_callB call_len_seq (by rfl) T.len PySem.boot_len (pa_cons (pv 1) pa_nil)) (pe_callB call_len_seq (by rfl) T.len PySem.boot_len (pa_cons (pv 2) pa_nil))) (pa_cons (pe_callB call_len_seq (by rfl) T.len PySem.boot_len (pa_cons (pv 1) pa_nil)) pa_nil))) (pv 1)) (pv 2))))), ?_⟩
    have e := cover_ok sh
    have hl := cover_len sh.machines sh.moulds
    have hs1 := hs.m
    have hs2 := hs.k
    refine ⟨_, rfl, a, C, dx, _, _, rfl, h0, T.cl, T.nM, hF_M _ _ _, _, rfl, a, C, dx, _, _, rfl, h0, T.cl, T.nK, hF_K _ _ _, mm, km, sh.moulds, sh.machines, rfl, hM, hK, hs.m, hs.k, fun H1 p e1 ⟨c1, c2, hp, hc1, hc2⟩ => ?_⟩
    refine ⟨p, _, rfl, SqT.of hp, rfl, _, _, rfl, _, _, rfl, rfl, ?_⟩
    refine ⟨_, rfl, c1, _, rfl, .inl (SqL.of hc1), _, rfl, c2, _, rfl, .inl (SqL.of hc2), _, _, rfl, rfl, _, rfl, c1, _, rfl, .inl (SqL.of hc1), sz (m := 2) (Nat.le_refl _), fun l hl1 => ?_⟩
    refine ⟨_, rfl, l, c1, _, _, rfl, rfl, upd_same, Same.new hl1 _ _ hc1, ?_, fun l2 hl2 => ?_⟩
    · refine sz (m := 20) ?_
      rw [iV_len, nI_len]
      have := hl.1
      show 2 + _ ≤ 20
      omega
    refine ⟨_, rfl, l2, c2, _, _, rfl, rfl, upd_same, Same.new hl2 _ _ (Same.new hl1 _ _ hc2), ?_, fun r hr => ?_⟩
    · refine sz (m := 20) ?_
      rw [List.length_append, iV_len, nI_len, iV_len, nI_len]
      have := hl.1
      have := hl.2
      show 2 + _ + _ ≤ 20
      omega
    · exact k.q hH ((e1.trans (Same.new hl1)).trans (Same.new hl2)) hr (by rw [e.1, iV_app, iV_app, ← iV_len, ← iV_len]; rfl) e.2
theorem ok_m_max_deficiency (T : Txt K mg C) {f1 : Addr} {fd1 : FuncData} (C_max_deficiency_covers : Cl P w K mg base "max_deficiency_covers" 3 f1 fd1 ["moulds", "machines"] spMaxDef) (F : Fun K "max_deficiency" "Hall.max_deficiency" s_m_max_deficiency f fd) :
    FnOk P w K mg base CX0 4 f fd ["self"] (spQ0 C .maxDeficiency) := by
  refine F.ok sc_m_max_deficiency (fun vs H Q E h => ?_) (fun cdv A outer s H vs Q E hr h => ?_)
  · obtain ⟨N, a, sh, rfl, _⟩ := h
    rfl
  · obtain ⟨N, a, sh, rfl, hs, hH, k⟩ := h
    obtain ⟨dx, km, mm, h0, hK, hM, _⟩ := id hH
    refine ⟨_, (pss_cons (ps_asg (pe_call C_max_deficiency_covers.ok (hr.mono (by decide)) rfl C_max_deficiency_covers.gl C_max_deficiency_covers.kp C_max_deficiency_covers.bi .nil pass0 (pa_cons (pe_fld (pv 0) rfl) (pa_cons (pe_fld (pv 0) rfl) pa_nil))) (pg_tup rfl (pgs_cons (pg_name (i := 1) sc_m_max_deficiency.nd rfl (Or.inl rfl)) (pgs_cons (pg_name (i := 2) sc_m_max_deficiency.nd rfl (Or.inl rfl)) pgs_nil))))
        (pss_one (ps_ret (pe_op op_cat (pe_lst (pa_cons (pv 1) pa_nil)) (pv 2))))), ?_⟩
    have e := def_ok sh
    have hl := def_len sh.machines sh.moulds
    have hs1 := hs.m
    refine ⟨_, rfl, a, C, dx, _, _, rfl, h0, T.cl, T.nM, hF_M _ _ _, _, rfl, a, C, dx, _, _, rfl, h0, T.cl, T.nK, hF_K _ _ _, mm, km, sh.moulds, sh.machines, rfl, hM, hK, hs.m, hs.k, fun H1 p q e1 hp hq => ?_⟩
    refine ⟨p, _, rfl, SqT.of hp, rfl, _, _, rfl, _, _, rfl, rfl, ?_⟩
    refine ⟨_, rfl, sz (m := 1) (Nat.le_refl _), fun l hl1 => ⟨_, rfl, l, q, _, _, rfl, rfl, upd_same, Same.new hl1 _ _ hq, ?_, fun r hr => ?_⟩⟩
    · refine sz (m := 20) ?_
      rw [iV_len, nI_len]
      show 1 + _ ≤ 20
      omega
    · exact k.q hH (e1.trans (Same.new hl1)) hr (by rw [e.1, iV_app]; rfl) e.2
/-! ### check_assignment, check_cover, neighbours -/
def spChkA (K : PySem.W.Frag) (C : Addr) : Sp := fun vs H Q _ => ∃ (N : Addr → Prop) (a c : Addr) (sh : Sr117.Shop) (es : List Int), vs = [.ref a, .ref c] ∧ SqL K H c (iV es) ∧ Small sh ∧ HallAt C N H a true sh ∧ Aft C N H a true (nextS sh (.checkAssignment es)) (ansS sh (.checkAssignment es)) Q
theorem ok_m_check_assignment (T : Txt K mg C) {f1 f2 f3 : Addr} {fd1 fd2 fd3 : FuncData} (C_are_entries : Cl P w K mg base "are_entries" 2 f1 fd1 ["moulds", "machines", "entries"] (spAreEntries K)) (C_is_valid : Cl P w K mg base "is_valid" 2 f2 fd2 ["moulds", "machines", "entries"] (spIsValid K))
    (C_size_of : Cl P w K mg base "size_of" 1 f3 fd3 ["entries"] (spSizeOf K)) (F : Fun K "check_assignment" "Hall.check_assignment" s_m_check_assignment f fd) : FnOk P w K mg base CX0 3 f fd ["self", "entries"] (spChkA K C) := by
  refine F.ok sc_m_check_assignment (fun vs H Q E h => ?_) (fun cdv A outer s H vs Q E hr h => ?_)
  · obtain ⟨N, a, c, sh, es, rfl, _⟩ := h
    rfl
  · obtain ⟨N, a, c, sh, es, rfl, hC, hs, hH, k⟩ := h
    obtain ⟨dx, km, mm, h0, hK, hM, _⟩ := id hH
    refine ⟨_, (pss_cons (ps_if (pt_not (pt_val (pe_call C_are_entries.ok (hr.mono (by decide)) rfl C_are_entries.gl C_are_entries.kp C_are_entries.bi .nil pass0 (pa_cons (pe_fld (pv 0) rfl) (pa_cons (pe_fld (pv 0) rfl) (pa_cons (pv 1) pa_nil)))))) (pss_one (ps_ret (pe_lst (pa_cons (pgi T.bad) pa_nil)))) pss_nil)
        (pss_one (ps_ret (pe_lst (pa_cons (pe_callTy call_int1 (by rfl) T.int (by decide +kernel) (pa_cons (pe_call C_is_valid.ok (hr.mono (by decide)) rfl C_is_valid.gl C_is_valid.kp C_is_valid.bi .nil pass0 (pa_cons (pe_fld (pv 0) rfl) (pa_cons (pe_fld (pv 0) rfl) (pa_cons (pv 1) pa_nil)))) pa_nil)) (pa_cons (pe_call C_size_of.ok (hr.mono (by decide)) rfl C_size_of.gl C_size_of.kp C_size_of.bi .nil pass0 (pa_cons (pv 1) pa_nil)) pa_nil)))))), ?_⟩
    refine ⟨_, rfl, a, C, dx, _, _, rfl, h0, T.cl, T.nM, hF_M _ _ _, _, rfl, a, C, dx, _, _, rfl, h0, T.cl, T.nK, hF_K _ _ _, _, rfl, mm, km, c, sh.moulds, sh.machines, es, rfl, hM, hK, hC, _, rfl, ifb (fun q => ⟨sz (m := 1) (Nat.le_refl _), fun r hr => ?_⟩) fun q => ?_⟩
    · have e := chkA_err (sh := sh) (notT q)
      exact k.q hH (Same.refl H) hr (by rw [e.1]; rfl) e.2
    · have e := chkA_ok (sh := sh) (notF q)
      refine ⟨_, rfl, a, C, dx, _, _, rfl, h0, T.cl, T.nM, hF_M _ _ _, _, rfl, a, C, dx, _, _, rfl, h0, T.cl, T.nK, hF_K _ _ _, _, rfl, mm, km, c, sh.moulds, sh.machines, es, rfl, hM, hK, hC, notF q, fun H1 e1 => .inr ⟨_, rfl, _, rfl, c, es, rfl, e1.seq hC, sz (m := 2) (Nat.le_refl _), fun r hr => ?_⟩⟩
      exact k.q hH e1 hr (by rw [e.1]; rfl) e.2
def spChkC (K : PySem.W.Frag) (C : Addr) : Sp := fun vs H Q _ => ∃ (N : Addr → Prop) (a c d : Addr) (sh : Sr117.Shop) (so ot : List Int), vs = [.ref a, .ref c, .ref d] ∧ SqL K H c (iV so) ∧ SqL K H d (iV ot) ∧ Small sh ∧ HallAt C N H a true sh ∧ Aft C N H a true (nextS sh (.checkCover so ot)) (ansS sh (.checkCover so ot)) Q
theorem ok_m_check_cover (T : Txt K mg C) {f1 f2 : Addr} {fd1 fd2 : FuncData} (C_are_indices : Cl P w K mg base "are_indices" 2 f1 fd1 ["numbers", "many"] (spAreIndices K)) (C_is_cover : Cl P w K mg base "is_cover" 2 f2 fd2 ["moulds", "machines", "some", "others"] (spIsCover K))
    (F : Fun K "check_cover" "Hall.check_cover" s_m_check_cover f fd) : FnOk P w K mg base CX0 3 f fd ["self", "some", "others"] (spChkC K C) := by
  refine F.ok sc_m_check_cover (fun vs H Q E h => ?_) (fun cdv A outer s H vs Q E hr h => ?_)
  · obtain ⟨N, a, c, d, sh, so, ot, rfl, _⟩ := h
    rfl
  · obtain ⟨N, a, c, d, sh, so, ot, rfl, hC, hD, hs, hH, k⟩ := h
    obtain ⟨dx, km, mm, h0, ⟨vks, hk1, hk2⟩, ⟨vms, hm1, hm2⟩, _⟩ := id hH
    refine ⟨_, (pss_cons (ps_if (PW.pt (pw_or (pt_not (pt_val (pe_call C_are_indices.ok (hr.mono (by decide)) rfl C_are_indices.gl C_are_indices.kp C_are_indices.bi .nil pass0 (pa_cons (pv 1) (pa_cons (pe_callB call_len_seq (by rfl) T.len PySem.boot_len (pa_cons (pe_fld (pv 0) rfl) pa_nil)) pa_nil))))) (pw_or1 (pt_not (pt_val (pe_call C_are_indices.ok (hr.mono (by decide)) rfl C_are_indices.gl C_are_indices.kp C_are_indices.bi .nil pass0 (pa_cons (pv 2) (pa_cons (pe_callB call_len_seq (by rfl) T.len PySem.boot_len (pa_cons (pe_fld (pv 0) rfl) pa_nil)) pa_nil)))))))) (pss_one (ps_ret (pe_lst (pa_cons (pgi T.bad) pa_nil)))) pss_nil)
        (pss_one (ps_ret (pe_lst (pa_cons (pe_callTy call_int1 (by rfl) T.int (by decide +kernel) (pa_cons (pe_call C_is_cover.ok (hr.mono (by decide)) rfl C_is_cover.gl C_is_cover.kp C_is_cover.bi .nil pass0 (pa_cons (pe_fld (pv 0) rfl) (pa_cons (pe_fld (pv 0) rfl) (pa_cons (pv 1) (pa_cons (pv 2) pa_nil))))) pa_nil)) (pa_cons (pe_op op_add (pe_callB call_len_seq (by rfl) T.len PySem.boot_len (pa_cons (pv 1) pa_nil)) (pe_callB call_len_seq (by rfl) T.len PySem.boot_len (pa_cons (pv 2) pa_nil))) pa_nil)))))), ?_⟩
    refine ⟨_, rfl, _, rfl, a, C, dx, _, _, rfl, h0, T.cl, T.nM, hF_M _ _ _, mm, vms, rfl, .inl (SqL.of hm1), c, so, vms.length, rfl, hC, fun H1 e1 => ⟨_, rfl, ?_⟩⟩
    rw [hm2.len]
    have h1 := e1 _ _ h0
    have hk3 := e1 _ _ hk1
    refine ifb (fun q1 => iteT ⟨sz (m := 1) (Nat.le_refl _), fun r hr => ?_⟩) fun q1 => ⟨_, rfl, _, rfl, a, C, dx, _, _, rfl, h1, T.cl, T.nK, hF_K _ _ _, km, vks, rfl, .inl (SqL.of hk3), d, ot, vks.length, rfl, e1.seq hD, fun H2 e2 => ⟨_, rfl, ?_⟩⟩
    · have e := chkC_err (sh := sh) (so := so) (ot := ot) (.inl (notT q1))
      exact k.q hH e1 hr (by rw [e.1]; rfl) e.2
    rw [hk2.len]
    have e12 := e1.trans e2
    have h2 := e12 _ _ h0
    refine ifb (fun q2 => ⟨sz (m := 1) (Nat.le_refl _), fun r hr => ?_⟩) fun q2 => ?_
    · have e := chkC_err (sh := sh) (so := so) (ot := ot) (.inr (notT q2))
      exact k.q hH e12 hr (by rw [e.1]; rfl) e.2
    · have e := chkC_ok (sh := sh) (so := so) (ot := ot) (notF q1) (notF q2)
      refine ⟨_, rfl, a, C, dx, _, _, rfl, h2, T.cl, T.nM, hF_M _ _ _, _, rfl, a, C, dx, _, _, rfl, h2, T.cl, T.nK, hF_K _ _ _, _, rfl, _, rfl, mm, km, c, d, sh.moulds, sh.machines, so, ot, rfl, RtL.same e12 ⟨_, hm1, hm2⟩, RtL.same e12 ⟨_, hk1, hk2⟩, e12.seq hC, e12.seq hD, fun H3 e3 => .inr ⟨_, rfl, ?_⟩⟩
      have e13 := e12.trans e3
      refine ⟨_, rfl, c, _, rfl, .inl (e13.seq hC), _, rfl, d, _, rfl, .inl (e13.seq hD), _, _, rfl, rfl, sz (m := 2) (Nat.le_refl _), fun r hr => ?_⟩
      exact k.q hH e13 hr (by rw [e.1, ← iV_len so, ← iV_len ot]; rfl) e.2
def spNei (K : PySem.W.Frag) (C : Addr) : Sp := fun vs H Q _ => ∃ (N : Addr → Prop) (a c : Addr) (sh : Sr117.Shop) (so : List Int), vs = [.ref a, .ref c] ∧ SqL K H c (iV so) ∧ so.length ≤ 100 ∧ Small sh ∧ HallAt C N H a true sh ∧ Aft C N H a true (nextS sh (.neighbours so)) (ansS sh (.neighbours so)) Q
theorem ok_m_neighbours (T : Txt K mg C) {f1 f2 : Addr} {fd1 fd2 : FuncData} (C_are_indices : Cl P w K mg base "are_indices" 2 f1 fd1 ["numbers", "many"] (spAreIndices K)) (C_neighbours_of : Cl P w K mg base "neighbours_of" 2 f2 fd2 ["moulds", "machines", "some"] (spNeigh K))
    (F : Fun K "neighbours" "Hall.neighbours" s_m_neighbours f fd) : FnOk P w K mg base CX0 3 f fd ["self", "some"] (spNei K C) := by
  refine F.ok sc_m_neighbours (fun vs H Q E h => ?_) (fun cdv A outer s H vs Q E hr h => ?_)
  · obtain ⟨N, a, c, sh, so, rfl, _⟩ := h
    rfl
  · obtain ⟨N, a, c, sh, so, rfl, hC, hlen, hs, hH, k⟩ := h
    obtain ⟨dx, km, mm, h0, hK, ⟨vms, hm1, hm2⟩, _⟩ := id hH
    refine ⟨_, (pss_cons (ps_if (pt_not (pt_val (pe_call C_are_indices.ok (hr.mono (by decide)) rfl C_are_indices.gl C_are_indices.kp C_are_indices.bi .nil pass0 (pa_cons (pv 1) (pa_cons (pe_callB call_len_seq (by rfl) T.len PySem.boot_len (pa_cons (pe_fld (pv 0) rfl) pa_nil)) pa_nil))))) (pss_one (ps_ret (pe_lst (pa_cons (pgi T.bad) pa_nil)))) pss_nil)
        (pss_cons (ps_set (i := 2) sc_m_neighbours.nd rfl (Or.inl rfl) (pe_call C_neighbours_of.ok (hr.mono (by decide)) rfl C_neighbours_of.gl C_neighbours_of.kp C_neighbours_of.bi .nil pass0 (pa_cons (pe_fld (pv 0) rfl) (pa_cons (pe_fld (pv 0) rfl) (pa_cons (pv 1) pa_nil)))))
        (pss_one (ps_ret (pe_op op_cat (pe_lst (pa_cons (pe_callB call_len_seq (by rfl) T.len PySem.boot_len (pa_cons (pv 2) pa_nil)) pa_nil)) (pv 2)))))), ?_⟩
    refine ⟨_, rfl, _, rfl, a, C, dx, _, _, rfl, h0, T.cl, T.nM, hF_M _ _ _, mm, vms, rfl, .inl (SqL.of hm1), c, so, vms.length, rfl, hC, fun H1 e1 => ⟨_, rfl, ?_⟩⟩
    rw [hm2.len]
    have h1 := e1 _ _ h0
    refine ifb (fun q => ⟨sz (m := 1) (Nat.le_refl _), fun r hr => ?_⟩) fun q => ?_
    · have e := nei_err (sh := sh) (notT q)
      exact k.q hH e1 hr (by rw [e.1]; rfl) e.2
    · have e := nei_ok (sh := sh) (notF q)
      have hs2 := hs.k
      refine ⟨_, rfl, a, C, dx, _, _, rfl, h1, T.cl, T.nM, hF_M _ _ _, _, rfl, a, C, dx, _, _, rfl, h1, T.cl, T.nK, hF_K _ _ _, _, rfl, mm, km, c, sh.moulds, sh.machines, so, rfl, RtL.same e1 ⟨_, hm1, hm2⟩, hK.same e1, e1.seq hC, ixAll_mem (notF q), hlen, hs.k, fun H2 p e2 hp0 hp => ?_⟩
      refine ⟨_, rfl, p, _, rfl, .inl (SqL.of hp), sz (m := 1) (Nat.le_refl _), fun l hl => ⟨_, rfl, l, p, _, _, rfl, rfl, upd_same, Same.new hl _ _ hp, ?_, fun r hr => ?_⟩⟩
      · refine sz (m := 20) ?_
        rw [iV_len, nI_len]
        have := range_len (p := nbP sh.machines sh.moulds so) sh.machines.length
        unfold nbs
        show 1 + _ ≤ 20
        omega
      · exact k.q hH ((e1.trans e2).trans (Same.new hl)) hr (by rw [e.1, iV_app, ← iV_len]; rfl) e.2
/-! ### max_running_without, list_ratings -/
def spWo (C : Addr) : Sp := fun vs H Q _ => ∃ (N : Addr → Prop) (a : Addr) (sh : Sr117.Shop) (j : Int), vs = [.ref a, .int j] ∧ Small sh ∧ HallAt C N H a true sh ∧ Aft C N H a true (nextS sh (.maxRunningWithout j)) (ansS sh (.maxRunningWithout j)) Q
theorem ok_m_max_running_without (T : Txt K mg C) {f1 f2 f3 : Addr} {fd1 fd2 fd3 : FuncData} (C_is_index : Cl P w K mg base "is_index" 1 f1 fd1 ["number", "many"] spIsIndex) (C_max_running_assignments : Cl P w K mg base "max_running_assignments" 5 f2 fd2 ["moulds", "machines"] spMaxRun)
    (C_without_item : Cl P w K mg base "without_item" 1 f3 fd3 ["items", "index"] spWithout) (F : Fun K "max_running_without" "Hall.max_running_without" s_m_max_running_without f fd) : FnOk P w K mg base CX0 6 f fd ["self", "j"] (spWo C) := by
  refine F.ok sc_m_max_running_without (fun vs H Q E h => ?_) (fun cdv A outer s H vs Q E hr h => ?_)
  · obtain ⟨N, a, sh, j, rfl, _⟩ := h
    rfl
  · obtain ⟨N, a, sh, j, rfl, hs, hH, k⟩ := h
    obtain ⟨dx, km, mm, h0, ⟨vks, hk1, hk2⟩, hM, _⟩ := id hH
    refine ⟨_, (pss_cons (ps_if (pt_not (pt_val (pe_call C_is_index.ok (hr.mono (by decide)) rfl C_is_index.gl C_is_index.kp C_is_index.bi .nil pass0 (pa_cons (pv 1) (pa_cons (pe_callB call_len_seq (by rfl) T.len PySem.boot_len (pa_cons (pe_fld (pv 0) rfl) pa_nil)) pa_nil))))) (pss_one (ps_ret (pe_lst (pa_cons (pgi T.noSuch) pa_nil)))) pss_nil)
        (pss_one (ps_ret (pe_lst (pa_cons (pe_call C_max_running_assignments.ok (hr.mono (by decide)) rfl C_max_running_assignments.gl C_max_running_assignments.kp C_max_running_assignments.bi .nil pass0 (pa_cons (pe_fld (pv 0) rfl) (pa_cons (pe_call C_without_item.ok (hr.mono (by decide)) rfl C_without_item.gl C_without_item.kp C_without_item.bi .nil pass0 (pa_cons (pe_fld (pv 0) rfl) (pa_cons (pv 1) pa_nil))) pa_nil))) pa_nil))))), ?_⟩
    refine ⟨_, rfl, _, rfl, a, C, dx, _, _, rfl, h0, T.cl, T.nK, hF_K _ _ _, km, vks, rfl, .inl (SqL.of hk1), j, vks.length, rfl, _, rfl, ?_⟩
    rw [hk2.len]
    have hs2 := hs.k
    refine ifb (fun q => ⟨sz (m := 1) (Nat.le_refl _), fun r hr => ?_⟩) fun q => ?_
    · have e := wo_err (sh := sh) (notT q)
      exact k.q hH (Same.refl H) hr (by rw [e.1]; rfl) e.2
    · have q := notF q
      have e := wo_ok (sh := sh) q
      have hj : j = (j.toNat : Int) := by have := okI_iff.mp q; omega
      refine ⟨_, rfl, a, C, dx, _, _, rfl, h0, T.cl, T.nM, hF_M _ _ _, _, rfl, a, C, dx, _, _, rfl, h0, T.cl, T.nK, hF_K _ _ _, _, rfl, km, vks, j.toNat, congrArg (fun z => [V.ref km, V.int z]) hj, hk1, by rw [hk2.len]; omega, fun H1 L e1 hL0 hL => ?_⟩
      refine ⟨mm, L, sh.moulds, sh.machines.eraseIdx j.toNat, rfl, hM.same e1, ⟨_, hL, Al.erase _ (Rts.same e1 hk2)⟩, hs.m, Nat.le_trans (List.length_eraseIdx_le _ _) hs.k, fun H2 e2 => ⟨sz (m := 1) (Nat.le_refl _), fun r hr => ?_⟩⟩
      exact k.q hH (e1.trans e2) hr (by rw [e.1]; rfl) e.2
theorem ok_m_list_ratings (T : Txt K mg C) {f1 : Addr} {fd1 : FuncData} (C_told : Cl P w K mg base "told" 1 f1 fd1 ["ratings"] spTold) (F : Fun K "list_ratings" "Hall.list_ratings" s_m_list_ratings f fd) :
    FnOk P w K mg base CX0 2 f fd ["self"] (spQ0 C .listRatings) := by
  refine F.ok sc_m_list_ratings (fun vs H Q E h => ?_) (fun cdv A outer s H vs Q E hr h => ?_)
  · obtain ⟨N, a, sh, rfl, _⟩ := h
    rfl
  · obtain ⟨N, a, sh, rfl, hs, hH, k⟩ := h
    obtain ⟨dx, km, mm, h0, hK, hM, _⟩ := id hH
    refine ⟨_, (pss_one (ps_ret (pe_op op_cat (pe_call C_told.ok (hr.mono (by decide)) rfl C_told.gl C_told.kp C_told.bi .nil pass0 (pa_cons (pe_fld (pv 0) rfl) pa_nil)) (pe_call C_told.ok (hr.mono (by decide)) rfl C_told.gl C_told.kp C_told.bi .nil pass0 (pa_cons (pe_fld (pv 0) rfl) pa_nil))))), ?_⟩
    have e := list_ok sh
    have hs1 := hs.k
    have hs2 := hs.m
    refine ⟨_, rfl, a, C, dx, _, _, rfl, h0, T.cl, T.nK, hF_K _ _ _, km, sh.machines, rfl, hK, hs.k, fun H1 p e1 hp0 hp => ?_⟩
    have h1 := e1 _ _ h0
    refine ⟨_, rfl, a, C, dx, _, _, rfl, h1, T.cl, T.nM, hF_M _ _ _, mm, sh.moulds, rfl, hM.same e1, hs.m, fun H2 p2 e2 hp20 hp2 => ?_⟩
    refine ⟨p, p2, _, _, rfl, rfl, e2 _ _ hp, hp2, ?_, fun r hr => ?_⟩
    · refine sz (m := 100) ?_
      rw [iV_len, iV_len]
      unfold toldR
      rw [List.length_cons, List.length_cons, flat2_len, flat2_len]
      omega
    · exact k.q hH (e1.trans e2) hr (by rw [e.1, iV_app]) e.2
end
end My
namespace My
open PySem PySem.Spec PyProof.Rows L2
theorem ifT {b : Bool} {A B : Prop} (e : b = true) (h : A) : if b = true then A else B := by
  rw [if_pos e]
  exact h
theorem ifF {b : Bool} {A B : Prop} (e : b = false) (h : B) : if b = true then A else B := by
  rw [e, if_neg Bool.false_ne_true]
  exact h
/-- rows: a list of lists of ints -/
def RwL (H : Hp) (p : Addr) (rws : List (List Int)) : Prop := ∃ vs, H p = some (.lst vs) ∧ Al (EsAt H anyA) vs rws
section
variable {P : Program} {w : World} {K : PySem.W.Frag} {mg : Str → Option Value} {base : Heap} {C : Addr} {f : Addr} {fd : FuncData}
/-! ### changed, asked, checked -/
def spChanged (K : PySem.W.Frag) (C : Addr) : Sp := fun vs H Q _ => ∃ (N : Addr → Prop) (a c : Addr) (sh : Sr117.Shop) (kd : Int) (nums : List Int) (call : Sr117.Call), vs = [.ref a, .int kd, .ref c] ∧ SqL K H c (iV nums) ∧ Chg kd nums call ∧ Small sh ∧ HallAt C N H a true sh ∧
  Aft C N H a true (nextS sh call) (ansS sh call) Q
theorem ok_changed (T : Txt K mg C) {g0 : Addr} {gd0 : FuncData} (M_add_machine : Ml P w K mg base C "add_machine" 3 g0 gd0 ["self", "clamp_force", "platen_size"] (spAddK C)) {g1 : Addr} {gd1 : FuncData} (M_add_mould : Ml P w K mg base C "add_mould" 3 g1 gd1 ["self", "clamp_force", "platen_size"] (spAddM C)) {g2 : Addr} {gd2 : FuncData} (M_remove_machine : Ml P w K mg base C "remove_machine" 2 g2 gd2 ["self", "j"] (spRemK C)) {g3 : Addr} {gd3 : FuncData} (M_remove_mould : Ml P w K mg base C "remove_mould" 2 g3 gd3 ["self", "i"] (spRemM C)) {g4 : Addr} {gd4 : FuncData} (M_set_machine : Ml P w K mg base C "set_machine" 3 g4 gd4 ["self", "j", "clamp_force", "platen_size"] (spSetK C)) {g5 : Addr} {gd5 : FuncData} (M_set_mould : Ml P w K mg base C "set_mould" 3 g5 gd5 ["self", "i", "clamp_force", "platen_size"] (spSetM C)) (F : Fun K "changed" "changed" s_changed f fd) : FnOk P w K mg base CX0 4 f fd ["hall", "kind", "numbers"] (spChanged K C) := by
  refine F.ok sc_changed (fun vs H Q E h => ?_) (fun cdv A outer s H vs Q E hr h => ?_)
  · obtain ⟨N, a, c, sh, kd, nums, call, rfl, _⟩ := h
    rfl
  · obtain ⟨N, a, c, sh, kd, nums, call, rfl, hC, hk, hs, hH, k⟩ := h
    obtain ⟨dx, km, mm, h0, _, _⟩ := id hH
    refine ⟨_, (pss_cons (ps_if (pt_cmpR op_eq (pv 1) pe_int (nomark _)) (pss_one (ps_ret (pe_meth (pv 0) T.cl M_add_machine.me M_add_machine.ok (hr.mono (by decide)) M_add_machine.bi .nil pass0 (pa_cons (pe_ix ix_list (pv 2) pe_int (fun _ _ => rfl)) (pa_cons (pe_ix ix_list (pv 2) pe_int (fun _ _ => rfl)) pa_nil))))) pss_nil)
        (pss_cons (ps_if (pt_cmpR op_eq (pv 1) pe_int (nomark _)) (pss_one (ps_ret (pe_meth (pv 0) T.cl M_add_mould.me M_add_mould.ok (hr.mono (by decide)) M_add_mould.bi .nil pass0 (pa_cons (pe_ix ix_list (pv 2) pe_int (fun _ _ => rfl)) (pa_cons (pe_ix ix_list (pv 2) pe_int (fun _ _ => rfl)) pa_nil))))) pss_nil)
        (pss_cons (ps_if (pt_cmpR op_eq (pv 1) pe_int (nomark _)) (pss_one (ps_ret (pe_meth (pv 0) T.cl M_remove_machine.me M_remove_machine.ok (hr.mono (by decide)) M_remove_machine.bi .nil pass0 (pa_cons (pe_ix ix_list (pv 2) pe_int (fun _ _ => rfl)) pa_nil)))) pss_nil)
        (pss_cons (ps_if (pt_cmpR op_eq (pv 1) pe_int (nomark _)) (pss_one (ps_ret (pe_meth (pv 0) T.cl M_remove_mould.me M_remove_mould.ok (hr.mono (by decide)) M_remove_mould.bi .nil pass0 (pa_cons (pe_ix ix_list (pv 2) pe_int (fun _ _ => rfl)) pa_nil)))) pss_nil)
        (pss_cons (ps_if (pt_cmpR op_eq (pv 1) pe_int (nomark _)) (pss_one (ps_ret (pe_meth (pv 0) T.cl M_set_machine.me M_set_machine.ok (hr.mono (by decide)) M_set_machine.bi .nil pass0 (pa_cons (pe_ix ix_list (pv 2) pe_int (fun _ _ => rfl)) (pa_cons (pe_ix ix_list (pv 2) pe_int (fun _ _ => rfl)) (pa_cons (pe_ix ix_list (pv 2) pe_int (fun _ _ => rfl)) pa_nil)))))) pss_nil)
        (pss_one (ps_ret (pe_meth (pv 0) T.cl M_set_mould.me M_set_mould.ok (hr.mono (by decide)) M_set_mould.bi .nil pass0 (pa_cons (pe_ix ix_list (pv 2) pe_int (fun _ _ => rfl)) (pa_cons (pe_ix ix_list (pv 2) pe_int (fun _ _ => rfl)) (pa_cons (pe_ix ix_list (pv 2) pe_int (fun _ _ => rfl)) pa_nil))))))))))), ?_⟩
    cases hk with
    | c1 x y => exact ⟨_, rfl, rfl, _, rfl, ifT (by decide) ⟨_, rfl, a, dx, _, rfl, h0, hF_no (by decide +kernel) (by decide +kernel) (by decide +kernel) _ _ _, _, rfl, c, _, 0, _, rfl, rfl, hC, rfl, _, rfl, c, _, 1, _, rfl, rfl, hC, rfl, N, a, sh, x, y, rfl, hs, hH, k⟩⟩
    | c2 x y => exact ⟨_, rfl, rfl, _, rfl, ifF (by decide) ⟨_, rfl, rfl, _, rfl, ifT (by decide) ⟨_, rfl, a, dx, _, rfl, h0, hF_no (by decide +kernel) (by decide +kernel) (by decide +kernel) _ _ _, _, rfl, c, _, 0, _, rfl, rfl, hC, rfl, _, rfl, c, _, 1, _, rfl, rfl, hC, rfl, N, a, sh, x, y, rfl, hs, hH, k⟩⟩⟩
    | c3 x => exact ⟨_, rfl, rfl, _, rfl, ifF (by decide) ⟨_, rfl, rfl, _, rfl, ifF (by decide) ⟨_, rfl, rfl, _, rfl, ifT (by decide) ⟨_, rfl, a, dx, _, rfl, h0, hF_no (by decide +kernel) (by decide +kernel) (by decide +kernel) _ _ _, _, rfl, c, _, 0, _, rfl, rfl, hC, rfl, N, a, sh, x, rfl, hs, hH, k⟩⟩⟩⟩
    | c4 x => exact ⟨_, rfl, rfl, _, rfl, ifF (by decide) ⟨_, rfl, rfl, _, rfl, ifF (by decide) ⟨_, rfl, rfl, _, rfl, ifF (by decide) ⟨_, rfl, rfl, _, rfl, ifT (by decide) ⟨_, rfl, a, dx, _, rfl, h0, hF_no (by decide +kernel) (by decide +kernel) (by decide +kernel) _ _ _, _, rfl, c, _, 0, _, rfl, rfl, hC, rfl, N, a, sh, x, rfl, hs, hH, k⟩⟩⟩⟩⟩
    | c5 x y z => exact ⟨_, rfl, rfl, _, rfl, ifF (by decide) ⟨_, rfl, rfl, _, rfl, ifF (by decide) ⟨_, rfl, rfl, _, rfl, ifF (by decide) ⟨_, rfl, rfl, _, rfl, ifF (by decide) ⟨_, rfl, rfl, _, rfl, ifT (by decide) ⟨_, rfl, a, dx, _, rfl, h0, hF_no (by decide +kernel) (by decide +kernel) (by decide +kernel) _ _ _, _, rfl, c, _, 0, _, rfl, rfl, hC, rfl, _, rfl, c, _, 1, _, rfl, rfl, hC, rfl, _, rfl, c, _, 2, _, rfl, rfl, hC, rfl, N, a, sh, x, y, z, rfl, hs, hH, k⟩⟩⟩⟩⟩⟩
    | c6 x y z => exact ⟨_, rfl, rfl, _, rfl, ifF (by decide) ⟨_, rfl, rfl, _, rfl, ifF (by decide) ⟨_, rfl, rfl, _, rfl, ifF (by decide) ⟨_, rfl, rfl, _, rfl, ifF (by decide) ⟨_, rfl, rfl, _, rfl, ifF (by decide) ⟨_, rfl, a, dx, _, rfl, h0, hF_no (by decide +kernel) (by decide +kernel) (by decide +kernel) _ _ _, _, rfl, c, _, 0, _, rfl, rfl, hC, rfl, _, rfl, c, _, 1, _, rfl, rfl, hC, rfl, _, rfl, c, _, 2, _, rfl, rfl, hC, rfl, N, a, sh, x, y, z, rfl, hs, hH, k⟩⟩⟩⟩⟩⟩
def spAsked (K : PySem.W.Frag) (C : Addr) : Sp := fun vs H Q _ => ∃ (N : Addr → Prop) (a c : Addr) (sh : Sr117.Shop) (kd : Int) (nums : List Int) (call : Sr117.Call), vs = [.ref a, .int kd, .ref c] ∧ SqL K H c (iV nums) ∧ Ask kd nums call ∧ Small sh ∧ HallAt C N H a true sh ∧
  Aft C N H a true (nextS sh call) (ansS sh call) Q
theorem ok_asked (T : Txt K mg C) {g0 : Addr} {gd0 : FuncData} (M_fits : Ml P w K mg base C "fits" 2 g0 gd0 ["self", "i", "j"] (spHFits C)) {g1 : Addr} {gd1 : FuncData} (M_max_running : Ml P w K mg base C "max_running" 6 g1 gd1 ["self"] (spQ0 C .maxRunning)) {g2 : Addr} {gd2 : FuncData} (M_best_assignment : Ml P w K mg base C "best_assignment" 5 g2 gd2 ["self"] (spQ0 C .bestAssignment)) {g3 : Addr} {gd3 : FuncData} (M_minimum_cover : Ml P w K mg base C "minimum_cover" 4 g3 gd3 ["self"] (spQ0 C .minimumCover)) {g4 : Addr} {gd4 : FuncData} (M_max_deficiency : Ml P w K mg base C "max_deficiency" 4 g4 gd4 ["self"] (spQ0 C .maxDeficiency)) {g5 : Addr} {gd5 : FuncData} (M_max_running_without : Ml P w K mg base C "max_running_without" 6 g5 gd5 ["self", "j"] (spWo C)) {g6 : Addr} {gd6 : FuncData} (M_list_ratings : Ml P w K mg base C "list_ratings" 2 g6 gd6 ["self"] (spQ0 C .listRatings)) (F : Fun K "asked" "asked" s_asked f fd) : FnOk P w K mg base CX0 7 f fd ["hall", "kind", "numbers"] (spAsked K C) := by
  refine F.ok sc_asked (fun vs H Q E h => ?_) (fun cdv A outer s H vs Q E hr h => ?_)
  · obtain ⟨N, a, c, sh, kd, nums, call, rfl, _⟩ := h
    rfl
  · obtain ⟨N, a, c, sh, kd, nums, call, rfl, hC, hk, hs, hH, k⟩ := h
    obtain ⟨dx, km, mm, h0, _, _⟩ := id hH
    refine ⟨_, (pss_cons (ps_if (pt_cmpR op_eq (pv 1) pe_int (nomark _)) (pss_one (ps_ret (pe_meth (pv 0) T.cl M_fits.me M_fits.ok (hr.mono (by decide)) M_fits.bi .nil pass0 (pa_cons (pe_ix ix_list (pv 2) pe_int (fun _ _ => rfl)) (pa_cons (pe_ix ix_list (pv 2) pe_int (fun _ _ => rfl)) pa_nil))))) pss_nil)
        (pss_cons (ps_if (pt_cmpR op_eq (pv 1) pe_int (nomark _)) (pss_one (ps_ret (pe_meth0 (pv 0) T.cl M_max_running.me M_max_running.ok (hr.mono (by decide)) M_max_running.bi .nil pass0))) pss_nil)
        (pss_cons (ps_if (pt_cmpR op_eq (pv 1) pe_int (nomark _)) (pss_one (ps_ret (pe_meth0 (pv 0) T.cl M_best_assignment.me M_best_assignment.ok (hr.mono (by decide)) M_best_assignment.bi .nil pass0))) pss_nil)
        (pss_cons (ps_if (pt_cmpR op_eq (pv 1) pe_int (nomark _)) (pss_one (ps_ret (pe_meth0 (pv 0) T.cl M_minimum_cover.me M_minimum_cover.ok (hr.mono (by decide)) M_minimum_cover.bi .nil pass0))) pss_nil)
        (pss_cons (ps_if (pt_cmpR op_eq (pv 1) pe_int (nomark _)) (pss_one (ps_ret (pe_meth0 (pv 0) T.cl M_max_deficiency.me M_max_deficiency.ok (hr.mono (by decide)) M_max_deficiency.bi .nil pass0))) pss_nil)
        (pss_cons (ps_if (pt_cmpR op_eq (pv 1) pe_int (nomark _)) (pss_one (ps_ret (pe_meth (pv 0) T.cl M_max_running_without.me M_max_running_without.ok (hr.mono (by decide)) M_max_running_without.bi .nil pass0 (pa_cons (pe_ix ix_list (pv 2) pe_int (fun _ _ => rfl)) pa_nil)))) pss_nil)
        (pss_one (ps_ret (pe_meth0 (pv 0) T.cl M_list_ratings.me M_list_ratings.ok (hr.mono (by decide)) M_list_ratings.bi .nil pass0))))))))), ?_⟩
    cases hk with
    | c7 x y => exact ⟨_, rfl, rfl, _, rfl, ifT (by decide) ⟨_, rfl, a, dx, _, rfl, h0, hF_no (by decide +kernel) (by decide +kernel) (by decide +kernel) _ _ _, _, rfl, c, _, 0, _, rfl, rfl, hC, rfl, _, rfl, c, _, 1, _, rfl, rfl, hC, rfl, N, a, sh, x, y, rfl, hs, hH, k⟩⟩
    | c8 => exact ⟨_, rfl, rfl, _, rfl, ifF (by decide) ⟨_, rfl, rfl, _, rfl, ifT (by decide) ⟨_, rfl, a, dx, _, rfl, h0, hF_no (by decide +kernel) (by decide +kernel) (by decide +kernel) _ _ _, N, a, sh, rfl, hs, hH, k⟩⟩⟩
    | c9 => exact ⟨_, rfl, rfl, _, rfl, ifF (by decide) ⟨_, rfl, rfl, _, rfl, ifF (by decide) ⟨_, rfl, rfl, _, rfl, ifT (by decide) ⟨_, rfl, a, dx, _, rfl, h0, hF_no (by decide +kernel) (by decide +kernel) (by decide +kernel) _ _ _, N, a, sh, rfl, hs, hH, k⟩⟩⟩⟩
    | c10 => exact ⟨_, rfl, rfl, _, rfl, ifF (by decide) ⟨_, rfl, rfl, _, rfl, ifF (by decide) ⟨_, rfl, rfl, _, rfl, ifF (by decide) ⟨_, rfl, rfl, _, rfl, ifT (by decide) ⟨_, rfl, a, dx, _, rfl, h0, hF_no (by decide +kernel) (by decide +kernel) (by decide +kernel) _ _ _, N, a, sh, rfl, hs, hH, k⟩⟩⟩⟩⟩
    | c11 => exact ⟨_, rfl, rfl, _, rfl, ifF (by decide) ⟨_, rfl, rfl, _, rfl, ifF (by decide) ⟨_, rfl, rfl, _, rfl, ifF (by decide) ⟨_, rfl, rfl, _, rfl, ifF (by decide) ⟨_, rfl, rfl, _, rfl, ifT (by decide) ⟨_, rfl, a, dx, _, rfl, h0, hF_no (by decide +kernel) (by decide +kernel) (by decide +kernel) _ _ _, N, a, sh, rfl, hs, hH, k⟩⟩⟩⟩⟩⟩
    | c15 x => exact ⟨_, rfl, rfl, _, rfl, ifF (by decide) ⟨_, rfl, rfl, _, rfl, ifF (by decide) ⟨_, rfl, rfl, _, rfl, ifF (by decide) ⟨_, rfl, rfl, _, rfl, ifF (by decide) ⟨_, rfl, rfl, _, rfl, ifF (by decide) ⟨_, rfl, rfl, _, rfl, ifT (by decide) ⟨_, rfl, a, dx, _, rfl, h0, hF_no (by decide +kernel) (by decide +kernel) (by decide +kernel) _ _ _, _, rfl, c, _, 0, _, rfl, rfl, hC, rfl, N, a, sh, x, rfl, hs, hH, k⟩⟩⟩⟩⟩⟩⟩
    | c16 => exact ⟨_, rfl, rfl, _, rfl, ifF (by decide) ⟨_, rfl, rfl, _, rfl, ifF (by decide) ⟨_, rfl, rfl, _, rfl, ifF (by decide) ⟨_, rfl, rfl, _, rfl, ifF (by decide) ⟨_, rfl, rfl, _, rfl, ifF (by decide) ⟨_, rfl, rfl, _, rfl, ifF (by decide) ⟨_, rfl, a, dx, _, rfl, h0, hF_no (by decide +kernel) (by decide +kernel) (by decide +kernel) _ _ _, N, a, sh, rfl, hs, hH, k⟩⟩⟩⟩⟩⟩⟩
def spChecked (K : PySem.W.Frag) (C : Addr) : Sp := fun vs H Q _ => ∃ (N : Addr → Prop) (a c : Addr) (sh : Sr117.Shop) (kd : Int) (rws : List (List Int)) (call : Sr117.Call), vs = [.ref a, .int kd, .ref c] ∧ RwL H c rws ∧ (∀ r ∈ rws, r.length ≤ 100) ∧ Chk kd rws call ∧ Small sh ∧ HallAt C N H a true sh ∧
  Aft C N H a true (nextS sh call) (ansS sh call) Q
theorem ok_checked (T : Txt K mg C) {g0 : Addr} {gd0 : FuncData} (M_check_assignment : Ml P w K mg base C "check_assignment" 3 g0 gd0 ["self", "entries"] (spChkA K C)) {g1 : Addr} {gd1 : FuncData} (M_check_cover : Ml P w K mg base C "check_cover" 3 g1 gd1 ["self", "some", "others"] (spChkC K C)) {g2 : Addr} {gd2 : FuncData} (M_neighbours : Ml P w K mg base C "neighbours" 3 g2 gd2 ["self", "some"] (spNei K C)) (F : Fun K "checked" "checked" s_checked f fd) : FnOk P w K mg base CX0 4 f fd ["hall", "kind", "rows"] (spChecked K C) := by
  refine F.ok sc_checked (fun vs H Q E h => ?_) (fun cdv A outer s H vs Q E hr h => ?_)
  · obtain ⟨N, a, c, sh, kd, rws, call, rfl, _⟩ := h
    rfl
  · obtain ⟨N, a, c, sh, kd, rws, call, rfl, ⟨vr, hC, hR⟩, hl, hk, hs, hH, k⟩ := h
    obtain ⟨dx, km, mm, h0, _, _⟩ := id hH
    refine ⟨_, (pss_cons (ps_if (pt_cmpR op_eq (pv 1) pe_int (nomark _)) (pss_one (ps_ret (pe_meth (pv 0) T.cl M_check_assignment.me M_check_assignment.ok (hr.mono (by decide)) M_check_assignment.bi .nil pass0 (pa_cons (pe_ix ix_list (pv 2) pe_int (fun _ _ => rfl)) pa_nil)))) pss_nil)
        (pss_cons (ps_if (pt_cmpR op_eq (pv 1) pe_int (nomark _)) (pss_one (ps_ret (pe_meth (pv 0) T.cl M_check_cover.me M_check_cover.ok (hr.mono (by decide)) M_check_cover.bi .nil pass0 (pa_cons (pe_ix ix_list (pv 2) pe_int (fun _ _ => rfl)) (pa_cons (pe_ix ix_list (pv 2) pe_int (fun _ _ => rfl)) pa_nil))))) pss_nil)
        (pss_one (ps_ret (pe_meth (pv 0) T.cl M_neighbours.me M_neighbours.ok (hr.mono (by decide)) M_neighbours.bi .nil pass0 (pa_cons (pe_ix ix_list (pv 2) pe_int (fun _ _ => rfl)) pa_nil)))))), ?_⟩
    cases hk with
    | c12 r =>
      obtain ⟨v0, hv0, p0, rfl, _, hp0⟩ := hR.got (i := 0) rfl
      exact ⟨_, rfl, rfl, _, rfl, ifT (by decide) ⟨_, rfl, a, dx, _, rfl, h0, hF_no (by decide +kernel) (by decide +kernel) (by decide +kernel) _ _ _, _, rfl, c, vr, 0, _, rfl, rfl, SqL.of hC, atI_nat (j := 0) hv0, N, a, p0, sh, r, rfl, SqL.of hp0, hs, hH, k⟩⟩
    | c13 r s2 =>
      obtain ⟨v0, hv0, p0, rfl, _, hp0⟩ := hR.got (i := 0) rfl
      obtain ⟨v1, hv1, p1, rfl, _, hp1⟩ := hR.got (i := 1) rfl
      exact ⟨_, rfl, rfl, _, rfl, ifF (by decide) ⟨_, rfl, rfl, _, rfl, ifT (by decide) ⟨_, rfl, a, dx, _, rfl, h0, hF_no (by decide +kernel) (by decide +kernel) (by decide +kernel) _ _ _, _, rfl, c, vr, 0, _, rfl, rfl, SqL.of hC, atI_nat (j := 0) hv0, _, rfl, c, vr, 1, _, rfl, rfl, SqL.of hC, atI_nat (j := 1) hv1, N, a, p0, p1, sh, r, s2, rfl, SqL.of hp0, SqL.of hp1, hs, hH, k⟩⟩⟩
    | c14 r =>
      obtain ⟨v0, hv0, p0, rfl, _, hp0⟩ := hR.got (i := 0) rfl
      exact ⟨_, rfl, rfl, _, rfl, ifF (by decide) ⟨_, rfl, rfl, _, rfl, ifF (by decide) ⟨_, rfl, a, dx, _, rfl, h0, hF_no (by decide +kernel) (by decide +kernel) (by decide +kernel) _ _ _, _, rfl, c, vr, 0, _, rfl, rfl, SqL.of hC, atI_nat (j := 0) hv0, N, a, p0, sh, r, rfl, SqL.of hp0, hl r (by simp), hs, hH, k⟩⟩⟩
end
end My
namespace My
open PySem PySem.Spec PyProof.Rows L2
theorem RwL.same {H H' : Hp} (e : Same H H') {p : Addr} {rws : List (List Int)} (h : RwL H p rws) : RwL H' p rws := let ⟨vs, a, b⟩ := h; ⟨vs, e _ _ a, b.mono fun _ _ q => q.same e⟩
theorem Aft.mono {C : Addr} {N : Addr → Prop} {H H1 : Hp} {a : Addr} {b : Bool} {sh : Sr117.Shop} {ans : List Int} {Q : VK} (e : Same H H1) (k : Aft C N H a b sh ans Q) : Aft C N H1 a b sh ans Q := fun H' p h s hp hn => k H' p h ((Same.sx e).trans s) hp (e.free hn)
section
variable {P : Program} {w : World} {K : PySem.W.Frag} {mg : Str → Option Value} {base : Heap} {C : Addr} {f : Addr} {fd : FuncData}
/-! ### answered -/
def spAnswered (K : PySem.W.Frag) (C : Addr) : Sp := fun vs H Q _ => ∃ (N : Addr → Prop) (a c r : Addr) (b : Bool) (sh : Sr117.Shop) (kd : Int) (nums : List Int) (rws : List (List Int)) (call : Sr117.Call), vs = [.ref a, .int kd, .ref c, .ref r] ∧ SqL K H c (iV nums) ∧ RwL H r rws ∧ (∀ x ∈ rws, x.length ≤ 100) ∧
  Kd kd nums rws call ∧ Small sh ∧ HallAt C N H a b sh ∧ Aft C N H a (nB b call) (nSh b sh call) (nAns b sh call) Q
theorem ok_answered (T : Txt K mg C) {f1 f2 f3 g1 : Addr} {fd1 fd2 fd3 gd1 : FuncData} (C_changed : Cl P w K mg base "changed" 4 f1 fd1 ["hall", "kind", "numbers"] (spChanged K C)) (C_asked : Cl P w K mg base "asked" 7 f2 fd2 ["hall", "kind", "numbers"] (spAsked K C))
    (C_checked : Cl P w K mg base "checked" 4 f3 fd3 ["hall", "kind", "rows"] (spChecked K C)) (M_create : Ml P w K mg base C "create" 1 g1 gd1 ["self"] (spCreate C)) (F : Fun K "answered" "answered" s_answered f fd) :
    FnOk P w K mg base CX0 8 f fd ["hall", "kind", "numbers", "rows"] (spAnswered K C) := by
  refine F.ok sc_answered (fun vs H Q E h => ?_) (fun cdv A outer s H vs Q E hr h => ?_)
  · obtain ⟨N, a, c, r, b, sh, kd, nums, rws, call, rfl, _⟩ := h
    rfl
  · obtain ⟨N, a, c, r, b, sh, kd, nums, rws, call, rfl, hC, hR, hl, hk, hs, hH, k⟩ := h
    obtain ⟨dx, km, mm, h0, _, _⟩ := id hH
    refine ⟨_, (pss_cons (ps_if (pt_cmpR op_eq (pv 1) pe_int (nomark _)) (pss_one (ps_ret (pe_meth0 (pv 0) T.cl M_create.me M_create.ok (hr.mono (by decide)) M_create.bi .nil pass0))) pss_nil)
        (pss_cons (ps_if (pt_not (pt_val (pe_fld (pv 0) rfl))) (pss_one (ps_ret (pe_lst (pa_cons (pgi T.noInst) pa_nil)))) pss_nil)
        (pss_cons (ps_if (pt_cmpR op_lt (pv 1) pe_int (nomark _)) (pss_one (ps_ret (pe_call C_changed.ok (hr.mono (by decide)) rfl C_changed.gl C_changed.kp C_changed.bi .nil pass0 (pa_cons (pv 0) (pa_cons (pv 1) (pa_cons (pv 2) pa_nil)))))) pss_nil)
        (pss_cons (ps_if (pt_cmpR op_in_seq (pv 1) (pe_tup (pa_cons pe_int (pa_cons pe_int (pa_cons pe_int pa_nil)))) rfl) (pss_one (ps_ret (pe_call C_checked.ok (hr.mono (by decide)) rfl C_checked.gl C_checked.kp C_checked.bi .nil pass0 (pa_cons (pv 0) (pa_cons (pv 1) (pa_cons (pv 3) pa_nil)))))) pss_nil)
        (pss_one (ps_ret (pe_call C_asked.ok (hr.mono (by decide)) rfl C_asked.gl C_asked.kp C_asked.bi .nil pass0 (pa_cons (pv 0) (pa_cons (pv 1) (pa_cons (pv 2) pa_nil)))))))))), ?_⟩
    cases hk with
    | c0 => exact ⟨_, rfl, rfl, _, rfl, ifT (by decide) ⟨_, rfl, a, dx, _, rfl, h0, hF_no (by decide +kernel) (by decide +kernel) (by decide +kernel) _ _ _, N, a, b, sh, rfl, hH, k⟩⟩
    | c1 x y =>
      refine ⟨_, rfl, rfl, _, rfl, ifF (by decide) ⟨_, rfl, a, C, dx, _, _, rfl, h0, T.cl, T.nT, hF_T _ _ _, b, rfl, ?_⟩⟩
      cases b with
      | false => exact ifT rfl ⟨sz (m := 1) (Nat.le_refl _), fun r2 hr2 => k.q (b := false) (sh := sh) hH (Same.refl H) hr2 rfl rfl⟩
      | true =>
        exact ifF rfl ⟨_, rfl, _, _, rfl, rfl, _, rfl, ifT (by decide) ⟨_, rfl, _, rfl, _, rfl, N, a, c, sh, _, _, _, rfl, hC, .c1 x y, hs, hH, k⟩⟩
    | c2 x y =>
      refine ⟨_, rfl, rfl, _, rfl, ifF (by decide) ⟨_, rfl, a, C, dx, _, _, rfl, h0, T.cl, T.nT, hF_T _ _ _, b, rfl, ?_⟩⟩
      cases b with
      | false => exact ifT rfl ⟨sz (m := 1) (Nat.le_refl _), fun r2 hr2 => k.q (b := false) (sh := sh) hH (Same.refl H) hr2 rfl rfl⟩
      | true =>
        exact ifF rfl ⟨_, rfl, _, _, rfl, rfl, _, rfl, ifT (by decide) ⟨_, rfl, _, rfl, _, rfl, N, a, c, sh, _, _, _, rfl, hC, .c2 x y, hs, hH, k⟩⟩
    | c3 x =>
      refine ⟨_, rfl, rfl, _, rfl, ifF (by decide) ⟨_, rfl, a, C, dx, _, _, rfl, h0, T.cl, T.nT, hF_T _ _ _, b, rfl, ?_⟩⟩
      cases b with
      | false => exact ifT rfl ⟨sz (m := 1) (Nat.le_refl _), fun r2 hr2 => k.q (b := false) (sh := sh) hH (Same.refl H) hr2 rfl rfl⟩
      | true =>
        exact ifF rfl ⟨_, rfl, _, _, rfl, rfl, _, rfl, ifT (by decide) ⟨_, rfl, _, rfl, _, rfl, N, a, c, sh, _, _, _, rfl, hC, .c3 x, hs, hH, k⟩⟩
    | c4 x =>
      refine ⟨_, rfl, rfl, _, rfl, ifF (by decide) ⟨_, rfl, a, C, dx, _, _, rfl, h0, T.cl, T.nT, hF_T _ _ _, b, rfl, ?_⟩⟩
      cases b with
      | false => exact ifT rfl ⟨sz (m := 1) (Nat.le_refl _), fun r2 hr2 => k.q (b := false) (sh := sh) hH (Same.refl H) hr2 rfl rfl⟩
      | true =>
        exact ifF rfl ⟨_, rfl, _, _, rfl, rfl, _, rfl, ifT (by decide) ⟨_, rfl, _, rfl, _, rfl, N, a, c, sh, _, _, _, rfl, hC, .c4 x, hs, hH, k⟩⟩
    | c5 x y z =>
      refine ⟨_, rfl, rfl, _, rfl, ifF (by decide) ⟨_, rfl, a, C, dx, _, _, rfl, h0, T.cl, T.nT, hF_T _ _ _, b, rfl, ?_⟩⟩
      cases b with
      | false => exact ifT rfl ⟨sz (m := 1) (Nat.le_refl _), fun r2 hr2 => k.q (b := false) (sh := sh) hH (Same.refl H) hr2 rfl rfl⟩
      | true =>
        exact ifF rfl ⟨_, rfl, _, _, rfl, rfl, _, rfl, ifT (by decide) ⟨_, rfl, _, rfl, _, rfl, N, a, c, sh, _, _, _, rfl, hC, .c5 x y z, hs, hH, k⟩⟩
    | c6 x y z =>
      refine ⟨_, rfl, rfl, _, rfl, ifF (by decide) ⟨_, rfl, a, C, dx, _, _, rfl, h0, T.cl, T.nT, hF_T _ _ _, b, rfl, ?_⟩⟩
      cases b with
      | false => exact ifT rfl ⟨sz (m := 1) (Nat.le_refl _), fun r2 hr2 => k.q (b := false) (sh := sh) hH (Same.refl H) hr2 rfl rfl⟩
      | true =>
        exact ifF rfl ⟨_, rfl, _, _, rfl, rfl, _, rfl, ifT (by decide) ⟨_, rfl, _, rfl, _, rfl, N, a, c, sh, _, _, _, rfl, hC, .c6 x y z, hs, hH, k⟩⟩
    | c7 x y =>
      refine ⟨_, rfl, rfl, _, rfl, ifF (by decide) ⟨_, rfl, a, C, dx, _, _, rfl, h0, T.cl, T.nT, hF_T _ _ _, b, rfl, ?_⟩⟩
      cases b with
      | false => exact ifT rfl ⟨sz (m := 1) (Nat.le_refl _), fun r2 hr2 => k.q (b := false) (sh := sh) hH (Same.refl H) hr2 rfl rfl⟩
      | true =>
        refine ifF rfl ⟨_, rfl, _, _, rfl, rfl, _, rfl, ifF (by decide) ⟨_, rfl, sz (m := 3) (Nat.le_refl _), fun t ht => ⟨t, _, rfl, .inr (SqT.of upd_same), rfl, iV_flat [12, 13, 14], _, rfl, ?_⟩⟩⟩
        have e1 : Same H _ := Same.new (o := .tup (iV [12, 13, 14])) ht
        exact ifF (by decide) ⟨_, rfl, _, rfl, _, rfl, N, a, c, sh, _, _, _, rfl, e1.seq hC, .c7 x y, hs, hH.same e1, Aft.mono e1 k⟩
    | c8 =>
      refine ⟨_, rfl, rfl, _, rfl, ifF (by decide) ⟨_, rfl, a, C, dx, _, _, rfl, h0, T.cl, T.nT, hF_T _ _ _, b, rfl, ?_⟩⟩
      cases b with
      | false => exact ifT rfl ⟨sz (m := 1) (Nat.le_refl _), fun r2 hr2 => k.q (b := false) (sh := sh) hH (Same.refl H) hr2 rfl rfl⟩
      | true =>
        refine ifF rfl ⟨_, rfl, _, _, rfl, rfl, _, rfl, ifF (by decide) ⟨_, rfl, sz (m := 3) (Nat.le_refl _), fun t ht => ⟨t, _, rfl, .inr (SqT.of upd_same), rfl, iV_flat [12, 13, 14], _, rfl, ?_⟩⟩⟩
        have e1 : Same H _ := Same.new (o := .tup (iV [12, 13, 14])) ht
        exact ifF (by decide) ⟨_, rfl, _, rfl, _, rfl, N, a, c, sh, _, _, _, rfl, e1.seq hC, .c8, hs, hH.same e1, Aft.mono e1 k⟩
    | c9 =>
      refine ⟨_, rfl, rfl, _, rfl, ifF (by decide) ⟨_, rfl, a, C, dx, _, _, rfl, h0, T.cl, T.nT, hF_T _ _ _, b, rfl, ?_⟩⟩
      cases b with
      | false => exact ifT rfl ⟨sz (m := 1) (Nat.le_refl _), fun r2 hr2 => k.q (b := false) (sh := sh) hH (Same.refl H) hr2 rfl rfl⟩
      | true =>
        refine ifF rfl ⟨_, rfl, _, _, rfl, rfl, _, rfl, ifF (by decide) ⟨_, rfl, sz (m := 3) (Nat.le_refl _), fun t ht => ⟨t, _, rfl, .inr (SqT.of upd_same), rfl, iV_flat [12, 13, 14], _, rfl, ?_⟩⟩⟩
        have e1 : Same H _ := Same.new (o := .tup (iV [12, 13, 14])) ht
        exact ifF (by decide) ⟨_, rfl, _, rfl, _, rfl, N, a, c, sh, _, _, _, rfl, e1.seq hC, .c9, hs, hH.same e1, Aft.mono e1 k⟩
    | c10 =>
      refine ⟨_, rfl, rfl, _, rfl, ifF (by decide) ⟨_, rfl, a, C, dx, _, _, rfl, h0, T.cl, T.nT, hF_T _ _ _, b, rfl, ?_⟩⟩
      cases b with
      | false => exact ifT rfl ⟨sz (m := 1) (Nat.le_refl _), fun r2 hr2 => k.q (b := false) (sh := sh) hH (Same.refl H) hr2 rfl rfl⟩
      | true =>
        refine ifF rfl ⟨_, rfl, _, _, rfl, rfl, _, rfl, ifF (by decide) ⟨_, rfl, sz (m := 3) (Nat.le_refl _), fun t ht => ⟨t, _, rfl, .inr (SqT.of upd_same), rfl, iV_flat [12, 13, 14], _, rfl, ?_⟩⟩⟩
        have e1 : Same H _ := Same.new (o := .tup (iV [12, 13, 14])) ht
        exact ifF (by decide) ⟨_, rfl, _, rfl, _, rfl, N, a, c, sh, _, _, _, rfl, e1.seq hC, .c10, hs, hH.same e1, Aft.mono e1 k⟩
    | c11 =>
      refine ⟨_, rfl, rfl, _, rfl, ifF (by decide) ⟨_, rfl, a, C, dx, _, _, rfl, h0, T.cl, T.nT, hF_T _ _ _, b, rfl, ?_⟩⟩
      cases b with
      | false => exact ifT rfl ⟨sz (m := 1) (Nat.le_refl _), fun r2 hr2 => k.q (b := false) (sh := sh) hH (Same.refl H) hr2 rfl rfl⟩
      | true =>
        refine ifF rfl ⟨_, rfl, _, _, rfl, rfl, _, rfl, ifF (by decide) ⟨_, rfl, sz (m := 3) (Nat.le_refl _), fun t ht => ⟨t, _, rfl, .inr (SqT.of upd_same), rfl, iV_flat [12, 13, 14], _, rfl, ?_⟩⟩⟩
        have e1 : Same H _ := Same.new (o := .tup (iV [12, 13, 14])) ht
        exact ifF (by decide) ⟨_, rfl, _, rfl, _, rfl, N, a, c, sh, _, _, _, rfl, e1.seq hC, .c11, hs, hH.same e1, Aft.mono e1 k⟩
    | c12 r0 =>
      refine ⟨_, rfl, rfl, _, rfl, ifF (by decide) ⟨_, rfl, a, C, dx, _, _, rfl, h0, T.cl, T.nT, hF_T _ _ _, b, rfl, ?_⟩⟩
      cases b with
      | false => exact ifT rfl ⟨sz (m := 1) (Nat.le_refl _), fun r2 hr2 => k.q (b := false) (sh := sh) hH (Same.refl H) hr2 rfl rfl⟩
      | true =>
        refine ifF rfl ⟨_, rfl, _, _, rfl, rfl, _, rfl, ifF (by decide) ⟨_, rfl, sz (m := 3) (Nat.le_refl _), fun t ht => ⟨t, _, rfl, .inr (SqT.of upd_same), rfl, iV_flat [12, 13, 14], _, rfl, ?_⟩⟩⟩
        have e1 : Same H _ := Same.new (o := .tup (iV [12, 13, 14])) ht
        exact ifT (by decide) ⟨_, rfl, _, rfl, _, rfl, N, a, r, sh, _, _, _, rfl, hR.same e1, hl, .c12 r0, hs, hH.same e1, Aft.mono e1 k⟩
    | c13 r0 r1 =>
      refine ⟨_, rfl, rfl, _, rfl, ifF (by decide) ⟨_, rfl, a, C, dx, _, _, rfl, h0, T.cl, T.nT, hF_T _ _ _, b, rfl, ?_⟩⟩
      cases b with
      | false => exact ifT rfl ⟨sz (m := 1) (Nat.le_refl _), fun r2 hr2 => k.q (b := false) (sh := sh) hH (Same.refl H) hr2 rfl rfl⟩
      | true =>
        refine ifF rfl ⟨_, rfl, _, _, rfl, rfl, _, rfl, ifF (by decide) ⟨_, rfl, sz (m := 3) (Nat.le_refl _), fun t ht => ⟨t, _, rfl, .inr (SqT.of upd_same), rfl, iV_flat [12, 13, 14], _, rfl, ?_⟩⟩⟩
        have e1 : Same H _ := Same.new (o := .tup (iV [12, 13, 14])) ht
        exact ifT (by decide) ⟨_, rfl, _, rfl, _, rfl, N, a, r, sh, _, _, _, rfl, hR.same e1, hl, .c13 r0 r1, hs, hH.same e1, Aft.mono e1 k⟩
    | c14 r0 =>
      refine ⟨_, rfl, rfl, _, rfl, ifF (by decide) ⟨_, rfl, a, C, dx, _, _, rfl, h0, T.cl, T.nT, hF_T _ _ _, b, rfl, ?_⟩⟩
      cases b with
      | false => exact ifT rfl ⟨sz (m := 1) (Nat.le_refl _), fun r2 hr2 => k.q (b := false) (sh := sh) hH (Same.refl H) hr2 rfl rfl⟩
      | true =>
        refine ifF rfl ⟨_, rfl, _, _, rfl, rfl, _, rfl, ifF (by decide) ⟨_, rfl, sz (m := 3) (Nat.le_refl _), fun t ht => ⟨t, _, rfl, .inr (SqT.of upd_same), rfl, iV_flat [12, 13, 14], _, rfl, ?_⟩⟩⟩
        have e1 : Same H _ := Same.new (o := .tup (iV [12, 13, 14])) ht
        exact ifT (by decide) ⟨_, rfl, _, rfl, _, rfl, N, a, r, sh, _, _, _, rfl, hR.same e1, hl, .c14 r0, hs, hH.same e1, Aft.mono e1 k⟩
    | c15 x =>
      refine ⟨_, rfl, rfl, _, rfl, ifF (by decide) ⟨_, rfl, a, C, dx, _, _, rfl, h0, T.cl, T.nT, hF_T _ _ _, b, rfl, ?_⟩⟩
      cases b with
      | false => exact ifT rfl ⟨sz (m := 1) (Nat.le_refl _), fun r2 hr2 => k.q (b := false) (sh := sh) hH (Same.refl H) hr2 rfl rfl⟩
      | true =>
        refine ifF rfl ⟨_, rfl, _, _, rfl, rfl, _, rfl, ifF (by decide) ⟨_, rfl, sz (m := 3) (Nat.le_refl _), fun t ht => ⟨t, _, rfl, .inr (SqT.of upd_same), rfl, iV_flat [12, 13, 14], _, rfl, ?_⟩⟩⟩
        have e1 : Same H _ := Same.new (o := .tup (iV [12, 13, 14])) ht
        exact ifF (by decide) ⟨_, rfl, _, rfl, _, rfl, N, a, c, sh, _, _, _, rfl, e1.seq hC, .c15 x, hs, hH.same e1, Aft.mono e1 k⟩
    | c16 =>
      refine ⟨_, rfl, rfl, _, rfl, ifF (by decide) ⟨_, rfl, a, C, dx, _, _, rfl, h0, T.cl, T.nT, hF_T _ _ _, b, rfl, ?_⟩⟩
      cases b with
      | false => exact ifT rfl ⟨sz (m := 1) (Nat.le_refl _), fun r2 hr2 => k.q (b := false) (sh := sh) hH (Same.refl H) hr2 rfl rfl⟩
      | true =>
        refine ifF rfl ⟨_, rfl, _, _, rfl, rfl, _, rfl, ifF (by decide) ⟨_, rfl, sz (m := 3) (Nat.le_refl _), fun t ht => ⟨t, _, rfl, .inr (SqT.of upd_same), rfl, iV_flat [12, 13, 14], _, rfl, ?_⟩⟩⟩
        have e1 : Same H _ := Same.new (o := .tup (iV [12, 13, 14])) ht
        exact ifF (by decide) ⟨_, rfl, _, rfl, _, rfl, N, a, c, sh, _, _, _, rfl, e1.seq hC, .c16, hs, hH.same e1, Aft.mono e1 k⟩
/-! ### rows_at -/
def spRowsAt (K : PySem.W.Frag) : Sp := fun vs H Q _ => ∃ (a : Addr) (ns pre post : List Int) (xs : List (List Int)), vs = [.ref a, .int pre.length, .int xs.length] ∧ SqL K H a (iV ns) ∧ ns = pre ++ (PyFlat.putRows xs ++ post) ∧ xs.length ≤ 2 ∧
  ∀ H' p q, Same H H' → H' p = some (.tup [.ref q, .int ((pre.length + (PyFlat.putRows xs).length : Nat) : Int)]) → RwL H' q xs → Q (.ref p) H'
theorem putRows_one (x : List Int) : PyFlat.putRows [x] = PyFlat.putRow x := List.append_nil _
/-- where a row begins -/
theorem row_split {ns pre post : List Int} {xs : List (List Int)} {i : Nat} {x : List Int} (h : ns = pre ++ (PyFlat.putRows xs ++ post)) (hx : xs[i]? = some x) : ∃ rest, ns = (pre ++ PyFlat.putRows (xs.take i)) ++ ((x.length : Int) :: (x ++ rest)) := by
  have e : xs = xs.take i ++ ([x] ++ xs.drop (i + 1)) := by
    have h1 := List.take_append_drop (i + 1) xs
    rw [take_more hx, List.append_assoc] at h1
    exact h1.symm
  refine ⟨PyFlat.putRows (xs.drop (i + 1)) ++ post, ?_⟩
  rw [h, e, putRows_app, putRows_app, putRows_one, ← e]
  show pre ++ (PyFlat.putRows (xs.take i) ++ (((x.length : Int) :: x) ++ PyFlat.putRows (xs.drop (i + 1))) ++ post) = _
  simp [List.append_assoc]
theorem at_mid {u v : List Int} {z : Int} : (u ++ (z :: v))[u.length]? = some z := by simp
theorem cut_row {u x rest : List Int} {z : Int} : ((u ++ (z :: (x ++ rest))).drop (u.length + 1)).take x.length = x := by
  rw [show u ++ (z :: (x ++ rest)) = (u ++ [z]) ++ (x ++ rest) by simp]
  rw [List.drop_left' (by simp)]
  exact List.take_left' rfl
theorem ok_rows_at (T : Txt K mg C) (F : Fun K "rows_at" "rows_at" s_rows_at f fd) : FnOk P w K mg base CX0 1 f fd ["calls", "begin", "many"] (spRowsAt K) := by
  refine F.ok sc_rows_at (fun vs H Q E h => ?_) (fun cdv A outer s H vs Q E hr h => ?_)
  · obtain ⟨a, ns, pre, post, xs, rfl, _⟩ := h
    rfl
  · obtain ⟨a, ns, pre, post, xs, rfl, hA, hns, hl, k⟩ := h
    refine ⟨_, (pss_cons (ps_set (i := 3) sc_rows_at.nd rfl (Or.inl rfl) (pe_lst pa_nil))
        (pss_cons (ps_set (i := 4) sc_rows_at.nd rfl (Or.inl rfl) (pv 1))
        (pss_cons (ps_for PassesOwn.never rfl (pi_range1 rfl T.range (pa_cons (pv 2) pa_nil)) (pg_name (i := 5) sc_rows_at.nd rfl (Or.inl rfl)) (pss_cons (ps_set (i := 6) sc_rows_at.nd rfl (Or.inl rfl) (pe_op op_add (pe_op op_add (pv 4) pe_int) (pe_ix ix_list (pv 0) (pv 4) (fun _ _ => rfl))))
        (pss_cons (ps_expr (pe_bm PySem.F.plainAttrs_list PySem.F.slot_list_append PySem.F.type_list_append mt_append (pv 3) (pa_cons (pe_slice sl_list (pv 0) (po_some (pe_op op_add (pv 4) pe_int)) (po_some (pv 6))) pa_nil)))
        (pss_one (ps_set (i := 4) sc_rows_at.nd rfl (Or.inl rfl) (pv 6))))))
        (pss_one (ps_ret (pe_tup (pa_cons (pv 3) (pa_cons (pv 4) pa_nil)))))))), ?_⟩
    refine ⟨by decide, fun L hL => ?_⟩
    have e0 : Same H _ := Same.new (o := .lst []) hL
    refine ⟨_, rfl, _, rfl, xs.length, rfl, by omega, by omega, for_range (lo := 0) (n := xs.length) (fun i σ H' => ∃ (vl : List V) (v5 v6 : Option V), σ = [some (.ref a), some (.int pre.length), some (.int xs.length), some (.ref L), some (.int ((pre.length + (PyFlat.putRows (xs.take i)).length : Nat) : Int)), v5, v6] ∧
        Same H H' ∧ H' L = some (.lst vl) ∧ Al (EsAt H' (· = L)) vl (xs.take i))
      ⟨[], none, none, rfl, e0, upd_same, trivial⟩ ?_ ?_⟩
    · rintro i σ H1 hi ⟨vl, v5, v6, rfl, e1, hL1, hvl⟩
      obtain ⟨x, hx⟩ := get_of hi
      obtain ⟨rest, hsp⟩ := row_split hns hx
      have hu : (pre ++ PyFlat.putRows (xs.take i)).length = pre.length + (PyFlat.putRows (xs.take i)).length := List.length_append
      have hat : (iV ns)[pre.length + (PyFlat.putRows (xs.take i)).length]? = some (.int (x.length : Int)) := by
        refine iV_at ?_
        rw [hsp, ← hu]
        exact at_mid
      have hnl : pre.length + (PyFlat.putRows (xs.take i)).length + 1 + x.length ≤ (iV ns).length := by
        rw [iV_len, hsp, List.length_append, hu, List.length_cons, List.length_append]
        omega
      refine ⟨_, rfl, _, _, rfl, rfl, _, rfl, _, rfl, a, _, _, _, rfl, rfl, e1.seq hA, atI_nat hat, _, _, rfl, rfl, ?_⟩
      refine ⟨_, rfl, .inl ⟨rfl, _, SqL.of hL1⟩, _, rfl, _, rfl, _, _, rfl, rfl, _, rfl, _, rfl, _, rfl, a, _, rfl, e1.seq hA, fun p hp => ⟨L, vl, _, rfl, rfl, Same.new hp L _ hL1, ?_, ?_⟩⟩
      · refine szl (m := 100) ?_
        rw [hvl.len, List.length_take]
        omega
      have ecut : cutV (iV ns) (some (((pre.length + (PyFlat.putRows (xs.take i)).length : Nat) : Int) + 1)) (some (((pre.length + (PyFlat.putRows (xs.take i)).length : Nat) : Int) + 1 + (x.length : Int))) = iV x := by
        have e1 : (((pre.length + (PyFlat.putRows (xs.take i)).length : Nat) : Int) + 1) = ((pre.length + (PyFlat.putRows (xs.take i)).length + 1 : Nat) : Int) := by omega
        have e2 : (((pre.length + (PyFlat.putRows (xs.take i)).length : Nat) : Int) + 1 + (x.length : Int)) = ((pre.length + (PyFlat.putRows (xs.take i)).length + 1 + x.length : Nat) : Int) := by omega
        rw [e2, e1, cut_mid _ (by omega) hnl]
        unfold iV
        rw [← List.map_drop, ← List.map_take]
        congr 1
        rw [show pre.length + (PyFlat.putRows (xs.take i)).length + 1 + x.length - (pre.length + (PyFlat.putRows (xs.take i)).length + 1) = x.length by omega, hsp, ← hu]
        exact cut_row
      have hpL : p ≠ L := fun e => by rw [e, hL1] at hp; cases hp
      refine ⟨_, rfl, vl ++ [.ref p], some (.int (0 + (i : Int))), some (.int (((pre.length + (PyFlat.putRows (xs.take i)).length : Nat) : Int) + 1 + (x.length : Int))), ?_, Same.mut (e1.trans (Same.new hp)) hL, upd_same, ?_⟩
      · have e3 : (((pre.length + (PyFlat.putRows (xs.take i)).length : Nat) : Int) + 1 + (x.length : Int)) = ((pre.length + (PyFlat.putRows (xs.take (i + 1))).length : Nat) : Int) := by
          rw [take_more hx, putRows_app, putRows_one, List.length_append]
          show _ = ((_ + (_ + (x.length + 1)) : Nat) : Int)
          omega
        rw [← e3]
        rfl
      · rw [take_more hx]
        refine Al.app (hvl.mono fun v es h' => ?_) (Al.one ⟨p, rfl, hpL, ?_⟩)
        · obtain ⟨p', rfl, hn, h2⟩ := h'
          exact ⟨p', rfl, hn, (upd_ne hn).trans (Same.new hp _ _ h2)⟩
        · rw [upd_ne hpL, upd_same]
          exact congrArg (fun z => some (HO.lst z)) ecut
    · rintro σ H1 ⟨vl, v5, v6, rfl, e1, hL1, hvl⟩
      rw [List.take_length] at hvl ⊢
      refine ⟨_, rfl, _, rfl, sz (m := 2) (Nat.le_refl _), fun p hp => ?_⟩
      exact k _ p L (e1.trans (Same.new hp)) upd_same ⟨vl, Same.new hp L _ hL1, hvl.mono fun v es ⟨p', x, _, y⟩ => ⟨p', x, fun z => z, Same.new hp _ _ y⟩⟩
end
end My
namespace My
open PySem PySem.Spec PyProof.Rows L2
section
variable {P : Program} {w : World} {K : PySem.W.Frag} {mg : Str → Option Value} {base : Heap} {C : Addr} {f : Addr} {fd : FuncData}
/-! ### answers -/
theorem HallAt.avoid {H : Hp} {a L : Addr} {b : Bool} {sh : Sr117.Shop} {o : HO} (h : HallAt C anyA H a b sh) (hL : H L = none) : HallAt C (· = L) (upd H L o) a b sh := by
  obtain ⟨dx, km, mm, h0, hK, hM, _⟩ := h
  have e := Same.new (o := o) hL
  refine ⟨dx, km, mm, e _ _ h0, hK.same e, hM.same e, fun L' z => ?_, fun z => ?_, fun z => ?_⟩
  · rw [z, upd_same]
    exact fun q => by cases q
  · obtain ⟨vs, h1, _⟩ := hK
    rw [z, hL] at h1
    cases h1
  · obtain ⟨vs, h1, _⟩ := hM
    rw [z, hL] at h1
    cases h1
theorem RtL.other {H : Hp} {L p : Addr} {xs ys : List V} {rs : List Sr117.Rating} (hL : H L = some (.lst xs)) (n : p ≠ L) (h : RtL H p rs) : RtL (upd H L (.lst ys)) p rs := by
  obtain ⟨vs, h1, h2⟩ := h
  refine ⟨vs, (upd_ne n).trans h1, h2.mono fun v r ⟨t, e, ht⟩ => ⟨t, e, ?_⟩⟩
  have nt : t ≠ L := ne_of ht hL (by intro z; cases z)
  exact (upd_ne nt).trans ht
theorem HallAt.other {H : Hp} {a L : Addr} {b : Bool} {sh : Sr117.Shop} {xs ys : List V} (h : HallAt C (· = L) H a b sh) (hL : H L = some (.lst xs)) : HallAt C (· = L) (upd H L (.lst ys)) a b sh := by
  obtain ⟨dx, km, mm, h0, hK, hM, _, n1, n2⟩ := h
  have na : a ≠ L := ne_of h0 hL (by intro z; cases z)
  refine ⟨dx, km, mm, (upd_ne na).trans h0, hK.other hL n1, hM.other hL n2, fun L' z => ?_, n1, n2⟩
  rw [z, upd_same]
  exact fun q => by cases q
def spAns (K : PySem.W.Frag) : Sp := fun vs H Q _ => ∃ (a : Addr) (ns : List Int), vs = [.ref a] ∧ SqL K H a (iV ns) ∧ PySr117.answers_asked ns = true ∧
  ∀ H' p, H' p = some (.lst (iV (PySr117.answers ns))) → Q (.ref p) H'
theorem put1_cons (p : Int) (a : List Int) (xs : List (List Int)) : PyFlat.put1 ((p :: a) :: xs) = p :: (a ++ PyFlat.putRows xs) := rfl
theorem put_one (c : Raw) : PyFlat.put [c] = PyFlat.put1 c := List.append_nil _
/-- where a call begins -/
theorem call_split {ns : List Int} {raw : List Raw} {i : Nat} {c : Raw} (h : ns = PyFlat.put raw) (hx : raw[i]? = some c) : ∃ rest, ns = PyFlat.put (raw.take i) ++ (PyFlat.put1 c ++ rest) := by
  have e : raw = raw.take i ++ ([c] ++ raw.drop (i + 1)) := by
    have h1 := List.take_append_drop (i + 1) raw
    rw [take_more hx, List.append_assoc] at h1
    exact h1.symm
  refine ⟨PyFlat.put (raw.drop (i + 1)), ?_⟩
  rw [h, e, put_app, put_app, put_one, ← e]
theorem put1_pos {p : Int} {a : List Int} {xs : List (List Int)} : 0 < (PyFlat.put1 ((p :: a) :: xs)).length := by
  rw [put1_cons]
  exact Nat.zero_lt_succ _
theorem lt_size {n : Nat} (h : n ≤ 10000000) : n < sizeLine := Nat.lt_of_le_of_lt h (by decide)
theorem ok_answers (T : Txt K mg C) {fI f1 f2 : Addr} {fdI fd1 fd2 : FuncData} (MK : Mk K C fI) (C_init : Ml P w K mg base C "__init__" 1 fI fdI ["self"] (spInit C)) (C_rows_at : Cl P w K mg base "rows_at" 1 f1 fd1 ["calls", "begin", "many"] (spRowsAt K))
    (C_answered : Cl P w K mg base "answered" 8 f2 fd2 ["hall", "kind", "numbers", "rows"] (spAnswered K C)) (F : Fun K "answers" "answers" s_answers f fd) : FnOk P w K mg base CX0 9 f fd ["calls"] (spAns K) := by
  refine F.ok sc_answers (fun vs H Q E h => ?_) (fun cdv A outer s H vs Q E hr h => ?_)
  · obtain ⟨a, ns, rfl, _⟩ := h
    rfl
  · obtain ⟨a, ns, rfl, hA, hask, k⟩ := h
    obtain ⟨raw, hns, hraw, hans, hsz⟩ := asked_of hask
    obtain ⟨bn, gNUMBERS, hNUM⟩ := T.numbers
    obtain ⟨br, gROWS, hROW⟩ := T.rows
    refine ⟨_, (pss_cons (ps_set (i := 1) sc_answers.nd rfl (Or.inl rfl) (pe_make0 MK C_init.ok (hr.mono (by decide)) rfl T.gC C_init.bi .nil pass0))
        (pss_cons (ps_set (i := 2) sc_answers.nd rfl (Or.inl rfl) (pe_lst pa_nil))
        (pss_cons (ps_set (i := 3) sc_answers.nd rfl (Or.inl rfl) pe_int)
        (pss_cons (ps_while PassesOwn.never (pt_cmpR op_lt (pv 3) (pe_callB call_len_seq (by rfl) T.len PySem.boot_len (pa_cons (pv 0) pa_nil)) (nomark _)) (pss_cons (ps_set (i := 4) sc_answers.nd rfl (Or.inl rfl) (pe_ix ix_list (pv 0) (pv 3) (fun _ _ => rfl)))
        (pss_cons (ps_set (i := 5) sc_answers.nd rfl (Or.inl rfl) (pe_op op_add (pe_op op_add (pv 3) pe_int) (pe_ix ix_tup (pgr gNUMBERS) (pv 4) (fun _ _ => rfl))))
        (pss_cons (ps_set (i := 6) sc_answers.nd rfl (Or.inl rfl) (pe_slice sl_list (pv 0) (po_some (pe_op op_add (pv 3) pe_int)) (po_some (pv 5))))
        (pss_cons (ps_asg (pe_call C_rows_at.ok (hr.mono (by decide)) rfl C_rows_at.gl C_rows_at.kp C_rows_at.bi .nil pass0 (pa_cons (pv 0) (pa_cons (pv 5) (pa_cons (pe_ix ix_tup (pgr gROWS) (pv 4) (fun _ _ => rfl)) pa_nil)))) (pg_tup rfl (pgs_cons (pg_name (i := 7) sc_answers.nd rfl (Or.inl rfl)) (pgs_cons (pg_name (i := 3) sc_answers.nd rfl (Or.inl rfl)) pgs_nil))))
        (pss_cons (ps_set (i := 8) sc_answers.nd rfl (Or.inl rfl) (pe_call C_answered.ok (hr.mono (by decide)) rfl C_answered.gl C_answered.kp C_answered.bi .nil pass0 (pa_cons (pv 1) (pa_cons (pv 4) (pa_cons (pv 6) (pa_cons (pv 7) pa_nil))))))
        (pss_cons (ps_expr (pe_bm PySem.F.plainAttrs_list PySem.F.slot_list_append PySem.F.type_list_append mt_append (pv 2) (pa_cons (pe_callB call_len_seq (by rfl) T.len PySem.boot_len (pa_cons (pv 8) pa_nil)) pa_nil)))
        (pss_one (ps_expr (pe_bm PySem.F.plainAttrs_list PySem.F.slot_list_extend PySem.F.type_list_extend mt_extend (pv 2) (pa_cons (pv 8) pa_nil)))))))))))
        (pss_one (ps_ret (pv 2))))))), ?_⟩
    intro x dx nx nd ndx
    refine ⟨x, dx, rfl, upd_same, fun H1 hH1 sx1 => ⟨rfl, ?_⟩⟩
    have s1 : Same H H1 := fun y o h => sx1 y o (by rw [upd_ne (ne_of_none h nx), upd_ne (ne_of_none h nd)]; exact h) (ne_of_none h nx)
    refine ⟨by decide, fun L hL => ?_⟩
    have hxL : H L = none := s1.free hL
    refine ⟨fun m σ H' => ∃ (i : Nat) (b : Bool) (sh : Sr117.Shop) (v4 v5 v6 v7 v8 : Option V), m = raw.length - i ∧ i ≤ raw.length ∧ σ = [some (.ref a), some (.ref x), some (.ref L), some (.int ((PyFlat.put (raw.take i)).length : Int)), v4, v5, v6, v7, v8] ∧
      Same H H' ∧ HallAt C (· = L) H' x b sh ∧ Small sh ∧ stAt (raw.take i) = stOf b sh ∧ H' L = some (.lst (iV (PyFlat.told (outs (raw.take i))))),
      ⟨_, 0, false, ⟨[], []⟩, none, none, none, none, none, rfl, Nat.zero_le _, rfl, s1.trans (Same.new hL), hH1.avoid hL, ⟨by decide, by decide⟩, rfl, upd_same⟩, ?_⟩
    rintro m σ H2 ⟨i, b, sh, v4, v5, v6, v7, v8, rfl, hi, rfl, s2, hH2, hs2, hst, hL2⟩
    refine ⟨_, rfl, _, rfl, a, _, rfl, .inl (s2.seq hA), _, _, rfl, rfl, _, rfl, ifb (fun q => ?_) fun q => ?_⟩
    · -- one call more
      have q := of_decide_eq_true q
      rw [iV_len] at q
      have hlt : i < raw.length := by
        refine Nat.lt_of_le_of_ne hi fun e => ?_
        rw [e, List.take_length, ← hns] at q
        omega
      obtain ⟨c, hc⟩ := get_of hlt
      obtain ⟨p, al, xs, call, rfl, hk, hpc, hrl⟩ := hraw c (List.mem_iff_getElem?.mpr ⟨i, hc⟩)
      obtain ⟨rest, hsp⟩ := call_split hns hc
      obtain ⟨hp0, hn1, hn2, hx2⟩ := kd_nums hk
      have hpe : p = (p.toNat : Int) := by omega
      rw [put1_cons] at hsp
      have hnum : (iV ns)[(PyFlat.put (raw.take i)).length]? = some (.int p) := by
        refine iV_at ?_
        rw [hsp]
        exact at_mid
      refine ⟨fun σ' H' => ∃ (b : Bool) (sh : Sr117.Shop) (v4 v5 v6 v7 v8 : Option V), σ' = [some (.ref a), some (.ref x), some (.ref L), some (.int ((PyFlat.put (raw.take (i + 1))).length : Int)), v4, v5, v6, v7, v8] ∧
        Same H H' ∧ HallAt C (· = L) H' x b sh ∧ Small sh ∧ stAt (raw.take (i + 1)) = stOf b sh ∧ H' L = some (.lst (iV (PyFlat.told (outs (raw.take (i + 1)))))), ?_, ?_⟩
      · rintro σ' H' ⟨b, sh, v4, v5, v6, v7, v8, h1, h2⟩
        exact ⟨raw.length - (i + 1), by omega, i + 1, b, sh, v4, v5, v6, v7, v8, rfl, hlt, h1, h2⟩
      -- kind = calls[at]
      refine ⟨_, rfl, _, rfl, a, _, _, _, rfl, rfl, s2.seq hA, atI_nat hnum, ?_⟩
      -- behind = at + 1 + NUMBERS[kind]
      refine ⟨_, rfl, _, _, rfl, rfl, _, rfl, bn, _, p, _, rfl, rfl, hNUM _, at_of hpe (iV_at hn1), _, _, rfl, rfl, ?_⟩
      -- numbers = calls[at + 1:behind]
      refine ⟨_, rfl, _, rfl, _, _, rfl, rfl, _, rfl, _, rfl, _, rfl, a, _, rfl, s2.seq hA, fun pn hpn => ?_⟩
      have ecut : cutV (iV ns) (some (((PyFlat.put (raw.take i)).length : Int) + 1)) (some (((PyFlat.put (raw.take i)).length : Int) + 1 + (al.length : Int))) = iV al := by
        have e1 : (((PyFlat.put (raw.take i)).length : Int) + 1) = (((PyFlat.put (raw.take i)).length + 1 : Nat) : Int) := by omega
        have e2 : (((PyFlat.put (raw.take i)).length : Int) + 1 + (al.length : Int)) = (((PyFlat.put (raw.take i)).length + 1 + al.length : Nat) : Int) := by omega
        have hnl : (PyFlat.put (raw.take i)).length + 1 + al.length ≤ (iV ns).length := by
          rw [iV_len, hsp, List.length_append, List.cons_append, List.length_cons, List.append_assoc, List.length_append]
          omega
        rw [e2, e1, cut_mid _ (by omega) hnl]
        unfold iV
        rw [← List.map_drop, ← List.map_take]
        congr 1
        rw [show (PyFlat.put (raw.take i)).length + 1 + al.length - ((PyFlat.put (raw.take i)).length + 1) = al.length by omega, hsp, List.cons_append, List.append_assoc]
        exact cut_row
      have s3 := s2.trans (Same.new (o := .lst (cutV (iV ns) (some (((PyFlat.put (raw.take i)).length : Int) + 1)) (some (((PyFlat.put (raw.take i)).length : Int) + 1 + (al.length : Int))))) hpn)
      -- rows, at = rows_at(calls, behind, ROWS[kind])
      have ebeh : (((PyFlat.put (raw.take i)).length : Int) + 1 + (al.length : Int)) = (((PyFlat.put (raw.take i) ++ (p :: al)).length : Nat) : Int) := by
        rw [List.length_append, List.length_cons]
        omega
      have hns3 : ns = (PyFlat.put (raw.take i) ++ (p :: al)) ++ (PyFlat.putRows xs ++ rest) := by
        rw [hsp]
        simp [List.append_assoc]
      refine ⟨_, rfl, _, rfl, _, rfl, br, _, p, _, rfl, rfl, hROW _, at_of hpe (iV_at hn2), a, ns, PyFlat.put (raw.take i) ++ (p :: al), rest, xs, congrArg (fun z => [V.ref a, V.int z, V.int xs.length]) ebeh, s3.seq hA, hns3, hx2, fun H4 pt pr e4 hpt hpr => ?_⟩
      refine ⟨pt, _, rfl, SqT.of hpt, rfl, _, _, rfl, _, _, rfl, rfl, ?_⟩
      have s4 := s3.trans e4
      have e24 : Same H2 H4 := (Same.new hpn).trans e4
      -- answer = answered(hall, kind, numbers, rows)
      have hpn4 : H4 pn = some (.lst (iV al)) := by
        have := e4 pn _ upd_same
        rw [this]
        exact congrArg (fun z => some (HO.lst z)) ecut
      refine ⟨_, rfl, _, rfl, _, rfl, _, rfl, (· = L), x, pn, pr, b, sh, p, al, xs, call, rfl, SqL.of hpn4, hpr, hrl, hk, hs2, hH2.same e24, fun H5 pa hH5 sx5 hpa hpa0 => ?_⟩
      have hxn : H x = none := nx
      have s5 : Same H H5 := fun y o h => sx5 y o (s4 y o h) (ne_of_none h hxn)
      have hLx : L ≠ x := by
        obtain ⟨dx2, k2, m2, h0, _⟩ := hH2
        exact lst_ne h0 hL2
      have hL5 : H5 L = some (.lst (iV (PyFlat.told (outs (raw.take i))))) := sx5 L _ (e24 L _ hL2) hLx
      have hnst := nstep_eq b sh hpc
      have hout : outs (raw.take (i + 1)) = outs (raw.take i) ++ [nAns b sh call] := by
        rw [take_more hc, outs_app, hst, hnst]
      have htold : PyFlat.told (outs (raw.take (i + 1))) = PyFlat.told (outs (raw.take i)) ++ (((nAns b sh call).length : Int) :: nAns b sh call) := by
        rw [hout, told_app]
      have hle := told_le raw (i + 1)
      rw [htold, List.length_append, List.length_cons] at hle
      -- found.append(len(answer)); found.extend(answer)
      refine ⟨_, rfl, .inl ⟨rfl, _, SqL.of hL5⟩, _, rfl, pa, _, rfl, .inl (SqL.of hpa), L, _, _, rfl, rfl, hL5, ?_, ?_⟩
      · rw [iV_len]
        exact lt_size (by omega)
      have hpaL : pa ≠ L := fun e => by rw [e, e24 L _ hL2] at hpa0; cases hpa0
      refine ⟨_, rfl, .inl ⟨rfl, _, SqL.of upd_same⟩, _, rfl, L, pa, _, _, rfl, rfl, upd_same, (upd_ne hpaL).trans hpa, ?_, ?_⟩
      · rw [List.length_append, iV_len, iV_len]
        refine Nat.le_of_lt (lt_size ?_)
        show _ + 1 + _ ≤ _
        omega
      refine ⟨nB b call, nSh b sh call, some (.int p), some (.int (((PyFlat.put (raw.take i)).length : Int) + 1 + (al.length : Int))), some (.ref pn), some (.ref pr), some (.ref pa), ?_, Same.mut (Same.mut s5 hxL) hxL, (hH5.other hL5).other upd_same, small_nSh hs2 call, ?_, ?_⟩
      · have e3 : ((((PyFlat.put (raw.take i) ++ (p :: al)).length + (PyFlat.putRows xs).length : Nat)) : Int) = ((PyFlat.put (raw.take (i + 1))).length : Int) := by
          rw [take_more hc, put_app, put_one, put1_cons, List.length_append, List.length_append, List.length_cons, List.length_cons, List.length_append]
          omega
        rw [← e3]
        rfl
      · rw [take_more hc, stAt_app, hst, hnst]
      · rw [upd_same, htold, iV_app, List.append_assoc]
        have e4 : iV (((nAns b sh call).length : Int) :: nAns b sh call) = [V.int ((iV (nAns b sh call)).length : Int)] ++ iV (nAns b sh call) := by
          rw [iV_len]
          rfl
        rw [e4]
    · have q := of_decide_eq_false q
      rw [iV_len] at q
      have he : i = raw.length := by
        refine Nat.le_antisymm hi (Nat.le_of_not_lt fun hlt => q ?_)
        obtain ⟨c, hc⟩ := get_of hlt
        obtain ⟨p, al, xs, call, rfl, _⟩ := hraw c (List.mem_iff_getElem?.mpr ⟨i, hc⟩)
        obtain ⟨rest, hsp⟩ := call_split hns hc
        have h1 := put1_pos (p := p) (a := al) (xs := xs)
        have h2 := congrArg List.length hsp
        rw [List.length_append, List.length_append] at h2
        omega
      rw [he, List.take_length, ← hans] at hL2
      exact ⟨_, rfl, k _ L hL2⟩
end
end My
/-! ### what the top has written, and every def's promise from it -/
namespace My
open PySem PySem.Spec PyProof.Rows L2
section
variable {K : PySem.W.Frag} {x y : Str} {st : Stmt} {C f b : Addr} {oc : Value} {od : Option Addr} {kV dc pm : Value} {an : Option Addr} {cd ct : Value} {sl : Array (Option Value)} {ob : Obj} {its : Array Value} {n : Nat} {ns : List Int} {i : Int} {t : Tok}
def DefIn (K : PySem.W.Frag) (x y : Str) (st : Stmt) : Prop := ∃ (f : Addr) (oc : Value) (od : Option Addr) (kV dc pm : Value) (an : Option Addr) (cd ct : Value) (sl : Array (Option Value)), PySem.W.nsIn K mainGlobals x = some (some (.ref f)) ∧
  K.lookup f = some ⟨oc, od, .func (PySem.W.fnOf y y (defArgs st) (defBody st) (defScope st) .none kV dc pm an cd ct), sl⟩ ∧ PySem.W.codeIn K cd y = true ∧ PySem.W.keepIn K (.ref f) = true
theorem df_mk (a : PySem.W.nsIn K mainGlobals x = some (some (.ref f))) (l : K.lookup f = some ⟨oc, od, .func (PySem.W.fnOf y y (defArgs st) (defBody st) (defScope st) .none kV dc pm an cd ct), sl⟩) (c : PySem.W.codeIn K cd y = true)
  (k : PySem.W.keepIn K (.ref f) = true) : DefIn K x y st := ⟨f, oc, od, kV, dc, pm, an, cd, ct, sl, a, l, c, k⟩
def MethIn (K : PySem.W.Frag) (C : Addr) (x y : Str) (st : Stmt) : Prop := ∃ (f : Addr) (oc : Value) (od : Option Addr) (kV dc pm : Value) (an : Option Addr) (cd ct : Value) (sl : Array (Option Value)), PySem.W.findIn K (.ref C) x = some (some (.ref f)) ∧
  PySem.W.isFn K (.ref f) = true ∧ K.lookup f = some ⟨oc, od, .func (PySem.W.fnOf x y (defArgs st) (defBody st) (defScope st) .none kV dc pm an cd ct), sl⟩ ∧ PySem.W.codeIn K cd y = true ∧ PySem.W.keepIn K (.ref f) = true
theorem me_mk (a : PySem.W.findIn K (.ref C) x = some (some (.ref f))) (i : PySem.W.isFn K (.ref f) = true) (l : K.lookup f = some ⟨oc, od, .func (PySem.W.fnOf x y (defArgs st) (defBody st) (defScope st) .none kV dc pm an cd ct), sl⟩) (c : PySem.W.codeIn K cd y = true)
  (k : PySem.W.keepIn K (.ref f) = true) : MethIn K C x y st := ⟨f, oc, od, kV, dc, pm, an, cd, ct, sl, a, i, l, c, k⟩
def TupIn (K : PySem.W.Frag) (x : Str) (ns : List Int) : Prop := ∃ (b : Addr) (o : Obj) (its : Array Value) (n : Nat), PySem.W.nsIn K mainGlobals x = some (some (.ref b)) ∧ K.lookup b = some o ∧ o.cls = .type "tuple" ∧ o.data = .seq its n ∧ its.size ≤ sizeLine ∧ Vals (iV ns) its.toList
theorem ti_mk (a : PySem.W.nsIn K mainGlobals x = some (some (.ref b))) (l : K.lookup b = some ob) (c : ob.cls = .type "tuple") (d : ob.data = .seq its n) (e : its.size ≤ sizeLine) (v : Vals (iV ns) its.toList) : TupIn K x ns := ⟨b, ob, its, n, a, l, c, d, e, v⟩
def IntIn (K : PySem.W.Frag) (x : Str) (i : Int) : Prop := ∃ t, PySem.W.nsIn K mainGlobals x = some (some (.int i t))
theorem ii_mk (a : PySem.W.nsIn K mainGlobals x = some (some (.int i t))) : IntIn K x i := ⟨t, a⟩
/-- a method as callers need it -/
structure Mn (K : PySem.W.Frag) (C : Addr) (x y : Str) (st : Stmt) (ps : List Str) (f : Addr) (fd : FuncData) : Prop where
  fn : Fun K x y st f fd
  me : Meth K C x f
  bi : Binds K fd ps []
variable {h : Heap} {mg : Str → Option Value} {ps : List Str}
theorem DefIn.dn (X : K.In h) (G : h.Ns mainGlobals mg) (d : DefIn K x y st) (hb : ∀ (kV doc pm : Value) (an : Option Addr) (cdv ct : Value) (us : List Value), us.length = ps.length → bindArgs (PySem.W.fnOf y y (defArgs st) (defBody st) (defScope st) .none kV doc pm an cdv ct) ⟨us, []⟩ = pure (ps.zip us)) :
    ∃ f fd, Dn K mg x y st ps f fd := by
  obtain ⟨f, oc, od, kV, dc, pm, an, cd, ct, sl, a, l, c, k⟩ := d
  have F := fun_mk (st := st) l c k
  exact ⟨f, _, F, PySem.W.mg_of X G a, F.binds hb⟩
theorem MethIn.mn (d : MethIn K C x y st) (hb : ∀ (kV doc pm : Value) (an : Option Addr) (cdv ct : Value) (us : List Value), us.length = ps.length → bindArgs (PySem.W.fnOf x y (defArgs st) (defBody st) (defScope st) .none kV doc pm an cdv ct) ⟨us, []⟩ = pure (ps.zip us)) :
    ∃ f fd, Mn K C x y st ps f fd := by
  obtain ⟨f, oc, od, kV, dc, pm, an, cd, ct, sl, a, i, l, c, k⟩ := d
  have F := fun_mk (st := st) l c k
  exact ⟨f, _, F, ⟨a, i, k⟩, F.binds hb⟩
theorem TupIn.at_ (X : K.In h) (G : h.Ns mainGlobals mg) (d : TupIn K x ns) : ∃ b, mg x = some (.ref b) ∧ ∀ H, SqT K H b (iV ns) := by
  obtain ⟨b, o, its, n, a, l, c, e, z, v⟩ := d
  exact ⟨b, PySem.W.mg_of X G a, fun _ => .inr ⟨o, its, n, l, c, e, z, v⟩⟩
theorem IntIn.at_ (X : K.In h) (G : h.Ns mainGlobals mg) (d : IntIn K x i) : ∃ t, mg x = some (.int i t) := let ⟨t, a⟩ := d; ⟨t, PySem.W.mg_of X G a⟩
end
theorem all_mk {P : Program} {w : World} {K : PySem.W.Frag} {h : Heap} {mg : Str → Option Value} {fa C : Addr} (X : K.In h) (G : h.Ns mainGlobals mg) (hfa : mg "answers" = some (.ref fa)) (aC : PySem.W.nsIn K mainGlobals "Hall" = some (some (.ref C)))
    (d_is_rating : DefIn K "is_rating" "is_rating" s_is_rating)
    (d_fits_ratings : DefIn K "fits_ratings" "fits" s_fits)
    (d_is_index : DefIn K "is_index" "is_index" s_is_index)
    (d_are_indices : DefIn K "are_indices" "are_indices" s_are_indices)
    (d_neighbours_of : DefIn K "neighbours_of" "neighbours_of" s_neighbours_of)
    (d_without_item : DefIn K "without_item" "without_item" s_without_item)
    (d_with_item : DefIn K "with_item" "with_item" s_with_item)
    (d_size_of : DefIn K "size_of" "size_of" s_size_of)
    (d_choices_for : DefIn K "choices_for" "choices_for" s_choices_for)
    (d_valid_assignments : DefIn K "valid_assignments" "valid_assignments" s_valid_assignments)
    (d_best_assignment_assignments : DefIn K "best_assignment_assignments" "best_assignment" s_best_assignment)
    (d_max_running_assignments : DefIn K "max_running_assignments" "max_running" s_max_running)
    (d_are_entries : DefIn K "are_entries" "are_entries" s_are_entries)
    (d_is_valid : DefIn K "is_valid" "is_valid" s_is_valid)
    (d_members_of : DefIn K "members_of" "members_of" s_members_of)
    (d_is_cover : DefIn K "is_cover" "is_cover" s_is_cover)
    (d_minimum_cover_covers : DefIn K "minimum_cover_covers" "minimum_cover" s_minimum_cover)
    (d_max_deficiency_covers : DefIn K "max_deficiency_covers" "max_deficiency" s_max_deficiency)
    (d_told : DefIn K "told" "told" s_told)
    (d_add_error : DefIn K "add_error" "add_error" s_add_error)
    (d_set_error : DefIn K "set_error" "set_error" s_set_error)
    (d_changed : DefIn K "changed" "changed" s_changed)
    (d_asked : DefIn K "asked" "asked" s_asked)
    (d_checked : DefIn K "checked" "checked" s_checked)
    (d_answered : DefIn K "answered" "answered" s_answered)
    (d_rows_at : DefIn K "rows_at" "rows_at" s_rows_at)
    (d_answers : DefIn K "answers" "answers" s_answers)
    (e_init : MethIn K C "__init__" "Hall.__init__" s_m_init)
    (e_create : MethIn K C "create" "Hall.create" s_m_create)
    (e_add_machine : MethIn K C "add_machine" "Hall.add_machine" s_m_add_machine)
    (e_add_mould : MethIn K C "add_mould" "Hall.add_mould" s_m_add_mould)
    (e_remove_machine : MethIn K C "remove_machine" "Hall.remove_machine" s_m_remove_machine)
    (e_remove_mould : MethIn K C "remove_mould" "Hall.remove_mould" s_m_remove_mould)
    (e_set_machine : MethIn K C "set_machine" "Hall.set_machine" s_m_set_machine)
    (e_set_mould : MethIn K C "set_mould" "Hall.set_mould" s_m_set_mould)
    (e_fits : MethIn K C "fits" "Hall.fits" s_m_fits)
    (e_max_running : MethIn K C "max_running" "Hall.max_running" s_m_max_running)
    (e_best_assignment : MethIn K C "best_assignment" "Hall.best_assignment" s_m_best_assignment)
    (e_minimum_cover : MethIn K C "minimum_cover" "Hall.minimum_cover" s_m_minimum_cover)
    (e_max_deficiency : MethIn K C "max_deficiency" "Hall.max_deficiency" s_m_max_deficiency)
    (e_check_assignment : MethIn K C "check_assignment" "Hall.check_assignment" s_m_check_assignment)
    (e_check_cover : MethIn K C "check_cover" "Hall.check_cover" s_m_check_cover)
    (e_neighbours : MethIn K C "neighbours" "Hall.neighbours" s_m_neighbours)
    (e_max_running_without : MethIn K C "max_running_without" "Hall.max_running_without" s_m_max_running_without)
    (e_list_ratings : MethIn K C "list_ratings" "Hall.list_ratings" s_m_list_ratings)
    (i_LEAST_RATING : IntIn K "LEAST_RATING" 1)
    (i_MOST_RATING : IntIn K "MOST_RATING" 999)
    (i_NOWHERE : IntIn K "NOWHERE" (-1))
    (i_NO_INSTANCE : IntIn K "NO_INSTANCE" (-11))
    (i_NO_SUCH : IntIn K "NO_SUCH" (-2))
    (i_BAD_RANGE : IntIn K "BAD_RANGE" (-22))
    (i_FULL : IntIn K "FULL" (-28))
    (i_MOST : IntIn K "MOST" 5)
    (t_BITS : TupIn K "BITS" [1, 2, 4, 8, 16, 32])
    (t_NUMBERS : TupIn K "NUMBERS" [0, 2, 2, 1, 1, 3, 3, 2, 0, 0, 0, 0, 0, 0, 0, 1, 0])
    (t_ROWS : TupIn K "ROWS" [0, 0, 0, 0, 0, 0, 0, 0, 0, 0, 0, 0, 1, 2, 1, 0, 0])
    (b_len : PySem.W.nsIn K mainGlobals "len" = some none)
    (b_range : PySem.W.nsIn K mainGlobals "range" = some none)
    (b_enumerate : PySem.W.nsIn K mainGlobals "enumerate" = some none)
    (b_int : PySem.W.nsIn K mainGlobals "int" = some none)
    (pg : PySem.W.plainGet K C Str.empty = true) (hd : PySem.W.hasDictIn K C = true) (po : PySem.W.plainOver K C = true) (sa : PySem.W.findIn K (.ref C) "__setattr__" = some (some (.builtin "object.__setattr__"))) (mk : PySem.W.makesIn K C = true) (kc : PySem.W.keepIn K (.ref C) = true)
    (nT : PySem.W.findIn K (.ref C) "is_there" = some none) (nK : PySem.W.findIn K (.ref C) "machines" = some none) (nM : PySem.W.findIn K (.ref C) "moulds" = some none) :
    ∃ fd : FuncData, (∀ (s : Shared) (us : List Value), us.length = (["calls"] : List Str).length → BindsTo s fd ⟨us, []⟩ ((["calls"] : List Str).zip us)) ∧ ∀ base : Heap, K.In base → base.Ns mainGlobals mg → FnOk P w K mg base CX0 9 fa fd ["calls"] (spAns K) := by
  have T : Txt K mg C := ⟨⟨pg, hd, po, sa⟩, nT, nK, nM, PySem.W.mg_of X G aC, PySem.W.mg_none_of X G b_len, PySem.W.mg_none_of X G b_range, PySem.W.mg_none_of X G b_enumerate, PySem.W.mg_none_of X G b_int, i_LEAST_RATING.at_ X G, i_MOST_RATING.at_ X G, i_NOWHERE.at_ X G, i_NO_INSTANCE.at_ X G, i_NO_SUCH.at_ X G, i_BAD_RANGE.at_ X G, i_FULL.at_ X G, i_MOST.at_ X G, t_BITS.at_ X G, t_NUMBERS.at_ X G, t_ROWS.at_ X G⟩
  obtain ⟨_, _, n_is_rating⟩ := d_is_rating.dn (ps := ["clamp_force", "platen_size"]) X G (fun _ _ _ _ _ _ us hl => match us, hl with | [_, _], _ => rfl)
  obtain ⟨_, _, n_fits_ratings⟩ := d_fits_ratings.dn (ps := ["mould", "machine"]) X G (fun _ _ _ _ _ _ us hl => match us, hl with | [_, _], _ => rfl)
  obtain ⟨_, _, n_is_index⟩ := d_is_index.dn (ps := ["number", "many"]) X G (fun _ _ _ _ _ _ us hl => match us, hl with | [_, _], _ => rfl)
  obtain ⟨_, _, n_are_indices⟩ := d_are_indices.dn (ps := ["numbers", "many"]) X G (fun _ _ _ _ _ _ us hl => match us, hl with | [_, _], _ => rfl)
  obtain ⟨_, _, n_neighbours_of⟩ := d_neighbours_of.dn (ps := ["moulds", "machines", "some"]) X G (fun _ _ _ _ _ _ us hl => match us, hl with | [_, _, _], _ => rfl)
  obtain ⟨_, _, n_without_item⟩ := d_without_item.dn (ps := ["items", "index"]) X G (fun _ _ _ _ _ _ us hl => match us, hl with | [_, _], _ => rfl)
  obtain ⟨_, _, n_with_item⟩ := d_with_item.dn (ps := ["items", "index", "item"]) X G (fun _ _ _ _ _ _ us hl => match us, hl with | [_, _, _], _ => rfl)
  obtain ⟨_, _, n_size_of⟩ := d_size_of.dn (ps := ["entries"]) X G (fun _ _ _ _ _ _ us hl => match us, hl with | [_], _ => rfl)
  obtain ⟨_, _, n_choices_for⟩ := d_choices_for.dn (ps := ["mould", "machines", "entries"]) X G (fun _ _ _ _ _ _ us hl => match us, hl with | [_, _, _], _ => rfl)
  obtain ⟨_, _, n_valid_assignments⟩ := d_valid_assignments.dn (ps := ["moulds", "machines"]) X G (fun _ _ _ _ _ _ us hl => match us, hl with | [_, _], _ => rfl)
  obtain ⟨_, _, n_best_assignment_assignments⟩ := d_best_assignment_assignments.dn (ps := ["moulds", "machines"]) X G (fun _ _ _ _ _ _ us hl => match us, hl with | [_, _], _ => rfl)
  obtain ⟨_, _, n_max_running_assignments⟩ := d_max_running_assignments.dn (ps := ["moulds", "machines"]) X G (fun _ _ _ _ _ _ us hl => match us, hl with | [_, _], _ => rfl)
  obtain ⟨_, _, n_are_entries⟩ := d_are_entries.dn (ps := ["moulds", "machines", "entries"]) X G (fun _ _ _ _ _ _ us hl => match us, hl with | [_, _, _], _ => rfl)
  obtain ⟨_, _, n_is_valid⟩ := d_is_valid.dn (ps := ["moulds", "machines", "entries"]) X G (fun _ _ _ _ _ _ us hl => match us, hl with | [_, _, _], _ => rfl)
  obtain ⟨_, _, n_members_of⟩ := d_members_of.dn (ps := ["mask", "many"]) X G (fun _ _ _ _ _ _ us hl => match us, hl with | [_, _], _ => rfl)
  obtain ⟨_, _, n_is_cover⟩ := d_is_cover.dn (ps := ["moulds", "machines", "some", "others"]) X G (fun _ _ _ _ _ _ us hl => match us, hl with | [_, _, _, _], _ => rfl)
  obtain ⟨_, _, n_minimum_cover_covers⟩ := d_minimum_cover_covers.dn (ps := ["moulds", "machines"]) X G (fun _ _ _ _ _ _ us hl => match us, hl with | [_, _], _ => rfl)
  obtain ⟨_, _, n_max_deficiency_covers⟩ := d_max_deficiency_covers.dn (ps := ["moulds", "machines"]) X G (fun _ _ _ _ _ _ us hl => match us, hl with | [_, _], _ => rfl)
  obtain ⟨_, _, n_told⟩ := d_told.dn (ps := ["ratings"]) X G (fun _ _ _ _ _ _ us hl => match us, hl with | [_], _ => rfl)
  obtain ⟨_, _, n_add_error⟩ := d_add_error.dn (ps := ["ratings", "clamp_force", "platen_size"]) X G (fun _ _ _ _ _ _ us hl => match us, hl with | [_, _, _], _ => rfl)
  obtain ⟨_, _, n_set_error⟩ := d_set_error.dn (ps := ["ratings", "index", "clamp_force", "platen_size"]) X G (fun _ _ _ _ _ _ us hl => match us, hl with | [_, _, _, _], _ => rfl)
  obtain ⟨_, _, n_changed⟩ := d_changed.dn (ps := ["hall", "kind", "numbers"]) X G (fun _ _ _ _ _ _ us hl => match us, hl with | [_, _, _], _ => rfl)
  obtain ⟨_, _, n_asked⟩ := d_asked.dn (ps := ["hall", "kind", "numbers"]) X G (fun _ _ _ _ _ _ us hl => match us, hl with | [_, _, _], _ => rfl)
  obtain ⟨_, _, n_checked⟩ := d_checked.dn (ps := ["hall", "kind", "rows"]) X G (fun _ _ _ _ _ _ us hl => match us, hl with | [_, _, _], _ => rfl)
  obtain ⟨_, _, n_answered⟩ := d_answered.dn (ps := ["hall", "kind", "numbers", "rows"]) X G (fun _ _ _ _ _ _ us hl => match us, hl with | [_, _, _, _], _ => rfl)
  obtain ⟨_, _, n_rows_at⟩ := d_rows_at.dn (ps := ["calls", "begin", "many"]) X G (fun _ _ _ _ _ _ us hl => match us, hl with | [_, _, _], _ => rfl)
  obtain ⟨_, _, u_init⟩ := e_init.mn (ps := ["self"]) (fun _ _ _ _ _ _ us hl => match us, hl with | [_], _ => rfl)
  obtain ⟨_, _, u_create⟩ := e_create.mn (ps := ["self"]) (fun _ _ _ _ _ _ us hl => match us, hl with | [_], _ => rfl)
  obtain ⟨_, _, u_add_machine⟩ := e_add_machine.mn (ps := ["self", "clamp_force", "platen_size"]) (fun _ _ _ _ _ _ us hl => match us, hl with | [_, _, _], _ => rfl)
  obtain ⟨_, _, u_add_mould⟩ := e_add_mould.mn (ps := ["self", "clamp_force", "platen_size"]) (fun _ _ _ _ _ _ us hl => match us, hl with | [_, _, _], _ => rfl)
  obtain ⟨_, _, u_remove_machine⟩ := e_remove_machine.mn (ps := ["self", "j"]) (fun _ _ _ _ _ _ us hl => match us, hl with | [_, _], _ => rfl)
  obtain ⟨_, _, u_remove_mould⟩ := e_remove_mould.mn (ps := ["self", "i"]) (fun _ _ _ _ _ _ us hl => match us, hl with | [_, _], _ => rfl)
  obtain ⟨_, _, u_set_machine⟩ := e_set_machine.mn (ps := ["self", "j", "clamp_force", "platen_size"]) (fun _ _ _ _ _ _ us hl => match us, hl with | [_, _, _, _], _ => rfl)
  obtain ⟨_, _, u_set_mould⟩ := e_set_mould.mn (ps := ["self", "i", "clamp_force", "platen_size"]) (fun _ _ _ _ _ _ us hl => match us, hl with | [_, _, _, _], _ => rfl)
  obtain ⟨_, _, u_fits⟩ := e_fits.mn (ps := ["self", "i", "j"]) (fun _ _ _ _ _ _ us hl => match us, hl with | [_, _, _], _ => rfl)
  obtain ⟨_, _, u_max_running⟩ := e_max_running.mn (ps := ["self"]) (fun _ _ _ _ _ _ us hl => match us, hl with | [_], _ => rfl)
  obtain ⟨_, _, u_best_assignment⟩ := e_best_assignment.mn (ps := ["self"]) (fun _ _ _ _ _ _ us hl => match us, hl with | [_], _ => rfl)
  obtain ⟨_, _, u_minimum_cover⟩ := e_minimum_cover.mn (ps := ["self"]) (fun _ _ _ _ _ _ us hl => match us, hl with | [_], _ => rfl)
  obtain ⟨_, _, u_max_deficiency⟩ := e_max_deficiency.mn (ps := ["self"]) (fun _ _ _ _ _ _ us hl => match us, hl with | [_], _ => rfl)
  obtain ⟨_, _, u_check_assignment⟩ := e_check_assignment.mn (ps := ["self", "entries"]) (fun _ _ _ _ _ _ us hl => match us, hl with | [_, _], _ => rfl)
  obtain ⟨_, _, u_check_cover⟩ := e_check_cover.mn (ps := ["self", "some", "others"]) (fun _ _ _ _ _ _ us hl => match us, hl with | [_, _, _], _ => rfl)
  obtain ⟨_, _, u_neighbours⟩ := e_neighbours.mn (ps := ["self", "some"]) (fun _ _ _ _ _ _ us hl => match us, hl with | [_, _], _ => rfl)
  obtain ⟨_, _, u_max_running_without⟩ := e_max_running_without.mn (ps := ["self", "j"]) (fun _ _ _ _ _ _ us hl => match us, hl with | [_, _], _ => rfl)
  obtain ⟨_, _, u_list_ratings⟩ := e_list_ratings.mn (ps := ["self"]) (fun _ _ _ _ _ _ us hl => match us, hl with | [_], _ => rfl)
  obtain ⟨f, oc, od, kV, dc, pm, an, cd, ct, sl, a, l, c, k⟩ := d_answers
  have e := hfa.symm.trans (PySem.W.mg_of X G a)
  cases e
  have FA := fun_mk (st := s_answers) l c k
  have MK : Mk K C _ := ⟨mk, u_init.me.at_, u_init.me.fn, kc⟩
  refine ⟨PySem.W.fnOf "answers" "answers" (defArgs s_answers) (defBody s_answers) (defScope s_answers) .none kV dc pm an cd ct, fun s us hu => match us, hu with | [_], _ => .of_eq rfl, fun base _ _ => ?_⟩
  have C_is_rating := n_is_rating.cl (P := P) (w := w) (base := base) (ok_is_rating T n_is_rating.fn)
  have C_fits_ratings := n_fits_ratings.cl (P := P) (w := w) (base := base) (ok_fits n_fits_ratings.fn)
  have C_is_index := n_is_index.cl (P := P) (w := w) (base := base) (ok_is_index n_is_index.fn)
  have C_are_indices := n_are_indices.cl (P := P) (w := w) (base := base) (ok_are_indices T C_is_index n_are_indices.fn)
  have C_neighbours_of := n_neighbours_of.cl (P := P) (w := w) (base := base) (ok_neighbours_of T C_fits_ratings n_neighbours_of.fn)
  have C_without_item := n_without_item.cl (P := P) (w := w) (base := base) (ok_without_item n_without_item.fn)
  have C_with_item := n_with_item.cl (P := P) (w := w) (base := base) (ok_with_item n_with_item.fn)
  have C_size_of := n_size_of.cl (P := P) (w := w) (base := base) (ok_size_of T n_size_of.fn)
  have C_choices_for := n_choices_for.cl (P := P) (w := w) (base := base) (ok_choices_for T C_fits_ratings n_choices_for.fn)
  have C_valid_assignments := n_valid_assignments.cl (P := P) (w := w) (base := base) (ok_valid_assignments T C_choices_for n_valid_assignments.fn)
  have C_best_assignment_assignments := n_best_assignment_assignments.cl (P := P) (w := w) (base := base) (ok_best_assignment T C_valid_assignments C_size_of n_best_assignment_assignments.fn)
  have C_max_running_assignments := n_max_running_assignments.cl (P := P) (w := w) (base := base) (ok_max_running C_best_assignment_assignments C_size_of n_max_running_assignments.fn)
  have C_are_entries := n_are_entries.cl (P := P) (w := w) (base := base) (ok_are_entries T C_is_index n_are_entries.fn)
  have C_is_valid := n_is_valid.cl (P := P) (w := w) (base := base) (ok_is_valid T C_fits_ratings n_is_valid.fn)
  have C_members_of := n_members_of.cl (P := P) (w := w) (base := base) (ok_members_of T n_members_of.fn)
  have C_is_cover := n_is_cover.cl (P := P) (w := w) (base := base) (ok_is_cover T C_fits_ratings n_is_cover.fn)
  have C_minimum_cover_covers := n_minimum_cover_covers.cl (P := P) (w := w) (base := base) (ok_minimum_cover T C_members_of C_is_cover n_minimum_cover_covers.fn)
  have C_max_deficiency_covers := n_max_deficiency_covers.cl (P := P) (w := w) (base := base) (ok_max_deficiency T C_members_of C_neighbours_of n_max_deficiency_covers.fn)
  have C_told := n_told.cl (P := P) (w := w) (base := base) (ok_told T n_told.fn)
  have C_add_error := n_add_error.cl (P := P) (w := w) (base := base) (ok_add_error T C_is_rating n_add_error.fn)
  have C_set_error := n_set_error.cl (P := P) (w := w) (base := base) (ok_set_error T C_is_rating C_is_index n_set_error.fn)
  have M_init : Ml P w K mg base C "__init__" 1 _ _ ["self"] (spInit C) := ⟨ok_init T u_init.fn, u_init.me, u_init.bi⟩
  have M_create : Ml P w K mg base C "create" 1 _ _ ["self"] (spCreate C) := ⟨ok_create T u_create.fn, u_create.me, u_create.bi⟩
  have M_add_machine : Ml P w K mg base C "add_machine" 3 _ _ ["self", "clamp_force", "platen_size"] (spAddK C) := ⟨ok_add_machine T C_add_error u_add_machine.fn, u_add_machine.me, u_add_machine.bi⟩
  have M_add_mould : Ml P w K mg base C "add_mould" 3 _ _ ["self", "clamp_force", "platen_size"] (spAddM C) := ⟨ok_add_mould T C_add_error u_add_mould.fn, u_add_mould.me, u_add_mould.bi⟩
  have M_remove_machine : Ml P w K mg base C "remove_machine" 2 _ _ ["self", "j"] (spRemK C) := ⟨ok_remove_machine T C_is_index C_without_item u_remove_machine.fn, u_remove_machine.me, u_remove_machine.bi⟩
  have M_remove_mould : Ml P w K mg base C "remove_mould" 2 _ _ ["self", "i"] (spRemM C) := ⟨ok_remove_mould T C_is_index C_without_item u_remove_mould.fn, u_remove_mould.me, u_remove_mould.bi⟩
  have M_set_machine : Ml P w K mg base C "set_machine" 3 _ _ ["self", "j", "clamp_force", "platen_size"] (spSetK C) := ⟨ok_set_machine T C_set_error C_with_item u_set_machine.fn, u_set_machine.me, u_set_machine.bi⟩
  have M_set_mould : Ml P w K mg base C "set_mould" 3 _ _ ["self", "i", "clamp_force", "platen_size"] (spSetM C) := ⟨ok_set_mould T C_set_error C_with_item u_set_mould.fn, u_set_mould.me, u_set_mould.bi⟩
  have M_fits : Ml P w K mg base C "fits" 2 _ _ ["self", "i", "j"] (spHFits C) := ⟨ok_m_fits T C_is_index C_fits_ratings u_fits.fn, u_fits.me, u_fits.bi⟩
  have M_max_running : Ml P w K mg base C "max_running" 6 _ _ ["self"] (spQ0 C .maxRunning) := ⟨ok_m_max_running T C_max_running_assignments u_max_running.fn, u_max_running.me, u_max_running.bi⟩
  have M_best_assignment : Ml P w K mg base C "best_assignment" 5 _ _ ["self"] (spQ0 C .bestAssignment) := ⟨ok_m_best_assignment T C_best_assignment_assignments C_size_of u_best_assignment.fn, u_best_assignment.me, u_best_assignment.bi⟩
  have M_minimum_cover : Ml P w K mg base C "minimum_cover" 4 _ _ ["self"] (spQ0 C .minimumCover) := ⟨ok_m_minimum_cover T C_minimum_cover_covers u_minimum_cover.fn, u_minimum_cover.me, u_minimum_cover.bi⟩
  have M_max_deficiency : Ml P w K mg base C "max_deficiency" 4 _ _ ["self"] (spQ0 C .maxDeficiency) := ⟨ok_m_max_deficiency T C_max_deficiency_covers u_max_deficiency.fn, u_max_deficiency.me, u_max_deficiency.bi⟩
  have M_check_assignment : Ml P w K mg base C "check_assignment" 3 _ _ ["self", "entries"] (spChkA K C) := ⟨ok_m_check_assignment T C_are_entries C_is_valid C_size_of u_check_assignment.fn, u_check_assignment.me, u_check_assignment.bi⟩
  have M_check_cover : Ml P w K mg base C "check_cover" 3 _ _ ["self", "some", "others"] (spChkC K C) := ⟨ok_m_check_cover T C_are_indices C_is_cover u_check_cover.fn, u_check_cover.me, u_check_cover.bi⟩
  have M_neighbours : Ml P w K mg base C "neighbours" 3 _ _ ["self", "some"] (spNei K C) := ⟨ok_m_neighbours T C_are_indices C_neighbours_of u_neighbours.fn, u_neighbours.me, u_neighbours.bi⟩
  have M_max_running_without : Ml P w K mg base C "max_running_without" 6 _ _ ["self", "j"] (spWo C) := ⟨ok_m_max_running_without T C_is_index C_max_running_assignments C_without_item u_max_running_without.fn, u_max_running_without.me, u_max_running_without.bi⟩
  have M_list_ratings : Ml P w K mg base C "list_ratings" 2 _ _ ["self"] (spQ0 C .listRatings) := ⟨ok_m_list_ratings T C_told u_list_ratings.fn, u_list_ratings.me, u_list_ratings.bi⟩
  have C_changed := n_changed.cl (P := P) (w := w) (base := base) (ok_changed T M_add_machine M_add_mould M_remove_machine M_remove_mould M_set_machine M_set_mould n_changed.fn)
  have C_asked := n_asked.cl (P := P) (w := w) (base := base) (ok_asked T M_fits M_max_running M_best_assignment M_minimum_cover M_max_deficiency M_max_running_without M_list_ratings n_asked.fn)
  have C_checked := n_checked.cl (P := P) (w := w) (base := base) (ok_checked T M_check_assignment M_check_cover M_neighbours n_checked.fn)
  have C_answered := n_answered.cl (P := P) (w := w) (base := base) (ok_answered T C_changed C_asked C_checked M_create n_answered.fn)
  have C_rows_at := n_rows_at.cl (P := P) (w := w) (base := base) (ok_rows_at T n_rows_at.fn)
  exact ok_answers T MK M_init C_rows_at C_answered FA
end My
open PySem PySem.W PyProof.Rows
set_option maxRecDepth 100000 in
set_option maxHeartbeats 8000000 in
theorem PySem.Challenge.cw_mouldpress_s01_answers_holds : PySem.Challenge.rw_mouldpress_s01_answers.Holds := by
  w_on; k_headS; (case hw => exact ⟨[.list [.int 0]], by decide +kernel, by decide +kernel⟩)
  k_fillS
  refine L2.walk_specK (r := PySem.Challenge.rw_mouldpress_s01_answers) (k := 9) (CX := L2.CX0) (ps := ["calls"]) (sp := My.spAns) (by decide +kernel) rfl rfl ⟨rfl, by decide, by decide⟩ (fun w h Y => PySem.W.kIn_of Y) ?F ?S (fun _ _ _ _ z => z)
  case F =>
    intro w mg fa h Y KX G hmg
    refine' My.all_mk KX G hmg ?aC ?d_is_rating ?d_fits_ratings ?d_is_index ?d_are_indices ?d_neighbours_of ?d_without_item ?d_with_item ?d_size_of ?d_choices_for ?d_valid_assignments ?d_best_assignment_assignments ?d_max_running_assignments ?d_are_entries ?d_is_valid ?d_members_of ?d_is_cover ?d_minimum_cover_covers ?d_max_deficiency_covers ?d_told ?d_add_error ?d_set_error ?d_changed ?d_asked ?d_checked ?d_answered ?d_rows_at ?d_answers ?e_init ?e_create ?e_add_machine ?e_add_mould ?e_remove_machine ?e_remove_mould ?e_set_machine ?e_set_mould ?e_fits ?e_max_running ?e_best_assignment ?e_minimum_cover ?e_max_deficiency ?e_check_assignment ?e_check_cover ?e_neighbours ?e_max_running_without ?e_list_ratings ?i_LEAST_RATING ?i_MOST_RATING ?i_NOWHERE ?i_NO_INSTANCE ?i_NO_SUCH ?i_BAD_RANGE ?i_FULL ?i_MOST ?t_BITS ?t_NUMBERS ?t_ROWS ?b_len ?b_range ?b_enumerate ?b_int ?pg ?hd ?po ?sa ?mk ?kc ?nT ?nK ?nM
    (case aC => k_is)
    (case d_is_rating => (refine' My.df_mk ?a ?l ?c ?k; (case a => k_is); (case l => k_is); (case c => k_is); (case k => k_is)))
    (case d_fits_ratings => (refine' My.df_mk ?a ?l ?c ?k; (case a => k_is); (case l => k_is); (case c => k_is); (case k => k_is)))
    (case d_is_index => (refine' My.df_mk ?a ?l ?c ?k; (case a => k_is); (case l => k_is); (case c => k_is); (case k => k_is)))
    (case d_are_indices => (refine' My.df_mk ?a ?l ?c ?k; (case a => k_is); (case l => k_is); (case c => k_is); (case k => k_is)))
    (case d_neighbours_of => (refine' My.df_mk ?a ?l ?c ?k; (case a => k_is); (case l => k_is); (case c => k_is); (case k => k_is)))
    (case d_without_item => (refine' My.df_mk ?a ?l ?c ?k; (case a => k_is); (case l => k_is); (case c => k_is); (case k => k_is)))
    (case d_with_item => (refine' My.df_mk ?a ?l ?c ?k; (case a => k_is); (case l => k_is); (case c => k_is); (case k => k_is)))
    (case d_size_of => (refine' My.df_mk ?a ?l ?c ?k; (case a => k_is); (case l => k_is); (case c => k_is); (case k => k_is)))
    (case d_choices_for => (refine' My.df_mk ?a ?l ?c ?k; (case a => k_is); (case l => k_is); (case c => k_is); (case k => k_is)))
    (case d_valid_assignments => (refine' My.df_mk ?a ?l ?c ?k; (case a => k_is); (case l => k_is); (case c => k_is); (case k => k_is)))
    (case d_best_assignment_assignments => (refine' My.df_mk ?a ?l ?c ?k; (case a => k_is); (case l => k_is); (case c => k_is); (case k => k_is)))
    (case d_max_running_assignments => (refine' My.df_mk ?a ?l ?c ?k; (case a => k_is); (case l => k_is); (case c => k_is); (case k => k_is)))
    (case d_are_entries => (refine' My.df_mk ?a ?l ?c ?k; (case a => k_is); (case l => k_is); (case c => k_is); (case k => k_is)))
    (case d_is_valid => (refine' My.df_mk ?a ?l ?c ?k; (case a => k_is); (case l => k_is); (case c => k_is); (case k => k_is)))
    (case d_members_of => (refine' My.df_mk ?a ?l ?c ?k; (case a => k_is); (case l => k_is); (case c => k_is); (case k => k_is)))
    (case d_is_cover => (refine' My.df_mk ?a ?l ?c ?k; (case a => k_is); (case l => k_is); (case c => k_is); (case k => k_is)))
    (case d_minimum_cover_covers => (refine' My.df_mk ?a ?l ?c ?k; (case a => k_is); (case l => k_is); (case c => k_is); (case k => k_is)))
    (case d_max_deficiency_covers => (refine' My.df_mk ?a ?l ?c ?k; (case a => k_is); (case l => k_is); (case c => k_is); (case k => k_is)))
    (case d_told => (refine' My.df_mk ?a ?l ?c ?k; (case a => k_is); (case l => k_is); (case c => k_is); (case k => k_is)))
    (case d_add_error => (refine' My.df_mk ?a ?l ?c ?k; (case a => k_is); (case l => k_is); (case c => k_is); (case k => k_is)))
    (case d_set_error => (refine' My.df_mk ?a ?l ?c ?k; (case a => k_is); (case l => k_is); (case c => k_is); (case k => k_is)))
    (case d_changed => (refine' My.df_mk ?a ?l ?c ?k; (case a => k_is); (case l => k_is); (case c => k_is); (case k => k_is)))
    (case d_asked => (refine' My.df_mk ?a ?l ?c ?k; (case a => k_is); (case l => k_is); (case c => k_is); (case k => k_is)))
    (case d_checked => (refine' My.df_mk ?a ?l ?c ?k; (case a => k_is); (case l => k_is); (case c => k_is); (case k => k_is)))
    (case d_answered => (refine' My.df_mk ?a ?l ?c ?k; (case a => k_is); (case l => k_is); (case c => k_is); (case k => k_is)))
    (case d_rows_at => (refine' My.df_mk ?a ?l ?c ?k; (case a => k_is); (case l => k_is); (case c => k_is); (case k => k_is)))
    (case d_answers => (refine' My.df_mk ?a ?l ?c ?k; (case a => k_is); (case l => k_is); (case c => k_is); (case k => k_is)))
    (case e_init => (refine' My.me_mk ?a ?i ?l ?c ?k; (case a => k_is); (case i => k_is); (case l => k_is); (case c => k_is); (case k => k_is)))
    (case e_create => (refine' My.me_mk ?a ?i ?l ?c ?k; (case a => k_is); (case i => k_is); (case l => k_is); (case c => k_is); (case k => k_is)))
    (case e_add_machine => (refine' My.me_mk ?a ?i ?l ?c ?k; (case a => k_is); (case i => k_is); (case l => k_is); (case c => k_is); (case k => k_is)))
    (case e_add_mould => (refine' My.me_mk ?a ?i ?l ?c ?k; (case a => k_is); (case i => k_is); (case l => k_is); (case c => k_is); (case k => k_is)))
    (case e_remove_machine => (refine' My.me_mk ?a ?i ?l ?c ?k; (case a => k_is); (case i => k_is); (case l => k_is); (case c => k_is); (case k => k_is)))
    (case e_remove_mould => (refine' My.me_mk ?a ?i ?l ?c ?k; (case a => k_is); (case i => k_is); (case l => k_is); (case c => k_is); (case k => k_is)))
    (case e_set_machine => (refine' My.me_mk ?a ?i ?l ?c ?k; (case a => k_is); (case i => k_is); (case l => k_is); (case c => k_is); (case k => k_is)))
    (case e_set_mould => (refine' My.me_mk ?a ?i ?l ?c ?k; (case a => k_is); (case i => k_is); (case l => k_is); (case c => k_is); (case k => k_is)))
    (case e_fits => (refine' My.me_mk ?a ?i ?l ?c ?k; (case a => k_is); (case i => k_is); (case l => k_is); (case c => k_is); (case k => k_is)))
    (case e_max_running => (refine' My.me_mk ?a ?i ?l ?c ?k; (case a => k_is); (case i => k_is); (case l => k_is); (case c => k_is); (case k => k_is)))
    (case e_best_assignment => (refine' My.me_mk ?a ?i ?l ?c ?k; (case a => k_is); (case i => k_is); (case l => k_is); (case c => k_is); (case k => k_is)))
    (case e_minimum_cover => (refine' My.me_mk ?a ?i ?l ?c ?k; (case a => k_is); (case i => k_is); (case l => k_is); (case c => k_is); (case k => k_is)))
    (case e_max_deficiency => (refine' My.me_mk ?a ?i ?l ?c ?k; (case a => k_is); (case i => k_is); (case l => k_is); (case c => k_is); (case k => k_is)))
    (case e_check_assignment => (refine' My.me_mk ?a ?i ?l ?c ?k; (case a => k_is); (case i => k_is); (case l => k_is); (case c => k_is); (case k => k_is)))
    (case e_check_cover => (refine' My.me_mk ?a ?i ?l ?c ?k; (case a => k_is); (case i => k_is); (case l => k_is); (case c => k_is); (case k => k_is)))
    (case e_neighbours => (refine' My.me_mk ?a ?i ?l ?c ?k; (case a => k_is); (case i => k_is); (case l => k_is); (case c => k_is); (case k => k_is)))
    (case e_max_running_without => (refine' My.me_mk ?a ?i ?l ?c ?k; (case a => k_is); (case i => k_is); (case l => k_is); (case c => k_is); (case k => k_is)))
    (case e_list_ratings => (refine' My.me_mk ?a ?i ?l ?c ?k; (case a => k_is); (case i => k_is); (case l => k_is); (case c => k_is); (case k => k_is)))
    (case i_LEAST_RATING => (refine' My.ii_mk ?a; (case a => k_is)))
    (case i_MOST_RATING => (refine' My.ii_mk ?a; (case a => k_is)))
    (case i_NOWHERE => (refine' My.ii_mk ?a; (case a => k_is)))
    (case i_NO_INSTANCE => (refine' My.ii_mk ?a; (case a => k_is)))
    (case i_NO_SUCH => (refine' My.ii_mk ?a; (case a => k_is)))
    (case i_BAD_RANGE => (refine' My.ii_mk ?a; (case a => k_is)))
    (case i_FULL => (refine' My.ii_mk ?a; (case a => k_is)))
    (case i_MOST => (refine' My.ii_mk ?a; (case a => k_is)))
    (case t_BITS => (refine' My.ti_mk ?a ?l ?c ?d ?e ?v; (case a => k_is); (case l => k_is); (case c => rfl); (case d => rfl); (case e => decide); (case v => exact .cons ⟨_, rfl⟩ (.cons ⟨_, rfl⟩ (.cons ⟨_, rfl⟩ (.cons ⟨_, rfl⟩ (.cons ⟨_, rfl⟩ (.cons ⟨_, rfl⟩ (.nil)))))))))
    (case t_NUMBERS => (refine' My.ti_mk ?a ?l ?c ?d ?e ?v; (case a => k_is); (case l => k_is); (case c => rfl); (case d => rfl); (case e => decide); (case v => exact .cons ⟨_, rfl⟩ (.cons ⟨_, rfl⟩ (.cons ⟨_, rfl⟩ (.cons ⟨_, rfl⟩ (.cons ⟨_, rfl⟩ (.cons ⟨_, rfl⟩ (.cons ⟨_, rfl⟩ (.cons ⟨_, rfl⟩ (.cons ⟨_, rfl⟩ (.cons ⟨_, rfl⟩ (.cons ⟨_, rfl⟩ (.cons ⟨_, rfl⟩ (.cons ⟨_, rfl⟩ (.cons ⟨_, rfl⟩ (.cons ⟨_, rfl⟩ (.cons ⟨_, rfl⟩ (.cons ⟨_, rfl⟩ (.nil))))))))))))))))))))
    (case t_ROWS => (refine' My.ti_mk ?a ?l ?c ?d ?e ?v; (case a => k_is); (case l => k_is); (case c => rfl); (case d => rfl); (case e => decide); (case v => exact .cons ⟨_, rfl⟩ (.cons ⟨_, rfl⟩ (.cons ⟨_, rfl⟩ (.cons ⟨_, rfl⟩ (.cons ⟨_, rfl⟩ (.cons ⟨_, rfl⟩ (.cons ⟨_, rfl⟩ (.cons ⟨_, rfl⟩ (.cons ⟨_, rfl⟩ (.cons ⟨_, rfl⟩ (.cons ⟨_, rfl⟩ (.cons ⟨_, rfl⟩ (.cons ⟨_, rfl⟩ (.cons ⟨_, rfl⟩ (.cons ⟨_, rfl⟩ (.cons ⟨_, rfl⟩ (.cons ⟨_, rfl⟩ (.nil))))))))))))))))))))
    (case b_len => k_is)
    (case b_range => k_is)
    (case b_enumerate => k_is)
    (case b_int => k_is)
    (case pg => k_is)
    (case hd => k_is)
    (case po => k_is)
    (case sa => k_is)
    (case mk => k_is)
    (case kc => k_is)
    (case nT => k_is)
    (case nK => k_is)
    (case nM => k_is)
  case S =>
    intro K H xs a hO hwi hask hx
    cases hx with
    | cons h1 h2 =>
      cases h2
      cases h1 with
      | lst hs ha =>
        have e := L2.ints_dw a.1 _ ha
        subst e
        exact ⟨_, a.1, rfl, hs, hask, fun H' p hp => .lst (L2.SqL.of hp) (L2.dw_ints _)⟩
