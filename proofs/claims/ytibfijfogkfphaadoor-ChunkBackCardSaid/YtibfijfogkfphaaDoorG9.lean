/- The places where three bytes stand, and the best of them, plainly. Walks: lz's three, same, best. Walks: lz's goes. Walks: lz's literals. Walks: lz.Pack. -/
import Derived.Test.YtibfijfogkfphaaDoorG6
import Derived.Test.YtibfijfogkfphaaDoorG7
import Derived.Test.YtibfijfogkfphaaDoorG8

namespace Rm
open Go

def keyAt (s : List UInt8) (i : Nat) : Key := (s.getD i 0, s.getD (i + 1) 0, s.getD (i + 2) 0)
def posS (s : List UInt8) (k : Key) (a : Nat) : List Nat := (List.range a).filter fun i => decide (i + 3 ≤ s.length) && decide (keyAt s i = k)
theorem posS_succ (s : List UInt8) (k : Key) (a : Nat) : posS s k (a + 1) = if a + 3 ≤ s.length ∧ keyAt s a = k then posS s k a ++ [a] else posS s k a := by
  unfold posS
  rw [List.range_succ, List.filter_append]
  by_cases h : a + 3 ≤ s.length ∧ keyAt s a = k
  · rw [if_pos h]; simp [h.1, h.2]
  · rw [if_neg h]
    have : (decide (a + 3 ≤ s.length) && decide (keyAt s a = k)) = false := by
      rw [Bool.eq_false_iff]; simpa using h
    simp [this]
theorem posS_lt {s : List UInt8} {k : Key} {a q : Nat} (h : q ∈ posS s k a) : q < a ∧ q + 3 ≤ s.length ∧ keyAt s q = k := by
  unfold posS at h
  have := List.mem_filter.1 h
  simp at this
  exact ⟨this.1, this.2.1, this.2.2⟩
theorem posS_below {s : List UInt8} {k : Key} : ∀ {f : Nat} {L : List Nat} {q : Nat}, posS s k f = L ++ [q] → posS s k q = L
  | 0, L, q, h => by simp [posS] at h
  | f + 1, L, q, h => by
    rw [posS_succ] at h
    split at h
    · have := List.append_inj' h rfl
      simp at this
      obtain ⟨h1, h2⟩ := this
      subst h2
      exact h1
    · exact posS_below h

theorem mtGo_ge3 {s : List UInt8} {f a : Nat} (ha : a + 3 ≤ s.length) (h0 : s.getD f 0 = s.getD a 0) (h1 : s.getD (f + 1) 0 = s.getD (a + 1) 0) (h2 : s.getD (f + 2) 0 = s.getD (a + 2) 0) : 3 ≤ mt s f a := by
  unfold mt
  rw [show (66 : Nat) = 65 + 1 from rfl, mtGo, if_pos ⟨by omega, h0⟩, show (65 : Nat) = 64 + 1 from rfl, mtGo, if_pos ⟨by omega, h1⟩, show (64 : Nat) = 63 + 1 from rfl, mtGo, if_pos ⟨by omega, h2⟩]
  exact (mtGo_spec s f a 63 3).1
theorem mt_key {s : List UInt8} {f a : Nat} (ha : a + 3 ≤ s.length) : 3 ≤ mt s f a ↔ keyAt s f = keyAt s a := by
  constructor
  · intro h
    obtain ⟨_, h2, _⟩ := mt_spec s f a
    have e0 := h2 0 (by omega)
    have e1 := h2 1 (by omega)
    have e2 := h2 2 (by omega)
    unfold keyAt
    rw [Nat.add_zero, Nat.add_zero] at e0
    rw [e0, e1, e2]
  · intro h
    unfold keyAt at h
    simp only [Prod.mk.injEq] at h
    exact mtGo_ge3 ha h.1 h.2.1 h.2.2
/-- One more place is looked at. -/
def upd (s : List UInt8) (a q : Nat) (x : Nat × Nat) : Nat × Nat := if x.2 < mt s q a ∧ (3 < mt s q a ∨ a - q ≤ 128) then (q, mt s q a) else x
theorem bestGo_pos {s : List UInt8} {a : Nat} (ha : a + 3 ≤ s.length) : ∀ (f : Nat), f ≤ a → ∀ (k p n : Nat),
    (posS s (keyAt s a) f = [] → bestGo s a f k p n = (p, n)) ∧
    (∀ L q, posS s (keyAt s a) f = L ++ [q] → bestGo s a f k p n = if a - q ≤ 4096 ∧ k < 16 then bestGo s a q (k + 1) (upd s a q (p, n)).1 (upd s a q (p, n)).2 else (p, n))
  | 0, _, k, p, n => ⟨fun _ => rfl, fun L q h => by simp [posS] at h⟩
  | f + 1, hf, k, p, n => by
    obtain ⟨ih1, ih2⟩ := bestGo_pos ha f (by omega) k p n
    by_cases hk : keyAt s f = keyAt s a
    · have hp : posS s (keyAt s a) (f + 1) = posS s (keyAt s a) f ++ [f] := by rw [posS_succ, if_pos ⟨by omega, hk⟩]
      have hm := (mt_key (f := f) ha).2 hk
      refine ⟨fun h => by rw [hp] at h; simp at h, fun L q h => ?_⟩
      rw [hp] at h
      have := List.append_inj' h rfl
      simp at this
      obtain ⟨h1, h2⟩ := this
      subst h2
      rw [bestGo]
      by_cases hg : a - f ≤ 4096 ∧ k < 16
      · rw [if_pos hg, if_pos hg, if_neg (by omega)]
        unfold upd
        by_cases hu : n < mt s f a ∧ (3 < mt s f a ∨ a - f ≤ 128)
        · rw [if_pos hu, if_pos hu]
        · rw [if_neg hu, if_neg hu]
      · rw [if_neg hg, if_neg hg]
    · have hp : posS s (keyAt s a) (f + 1) = posS s (keyAt s a) f := by rw [posS_succ, if_neg (fun h => hk h.2)]
      have hm : mt s f a < 3 := Nat.lt_of_not_le fun h => hk ((mt_key ha).1 h)
      rw [hp, bestGo]
      by_cases hg : a - f ≤ 4096 ∧ k < 16
      · rw [if_pos hg, if_pos hm]
        exact ⟨ih1, ih2⟩
      · rw [if_neg hg]
        refine ⟨fun _ => rfl, fun L q h => ?_⟩
        have hq := (posS_lt (s := s) (k := keyAt s a) (a := f) (q := q) (by rw [h]; simp)).1
        rw [if_neg (by omega)]
theorem bestS_short {s : List UInt8} {a : Nat} (ha : ¬ a + 3 ≤ s.length) : bestS s a = (0, 0) := by
  have hm : ∀ f, mt s f a < 3 := fun f => by
    obtain ⟨_, _, h3⟩ := mt_spec s f a
    omega
  have key : ∀ f k, bestGo s a f k 0 0 = (0, 0) := fun f => by
    induction f with
    | zero => intro k; rfl
    | succ f ih =>
      intro k
      rw [bestGo]
      split
      · rw [if_pos (hm f)]; exact ih k
      · rfl
  exact key a 0

/-- The keys so far. -/
structure KOk (s : List UInt8) (a : Nat) (K : List Key) : Prop where
  nodup : K.Nodup
  mem : ∀ k, k ∈ K ↔ posS s k a ≠ []
def ints (l : List Nat) : List (List AV) := l.map fun (p : Nat) => [AV.int .i64 (p : Int)]
def rowsOf (s : List UInt8) (a : Nat) (K : List Key) : List Ob := K.map fun k => .row (posS s k a).length 1 (ints (posS s k a)) false
def entO (s : List UInt8) (a : Nat) (k : Key) (j : Nat) : AV × AV := (kA k, .row (3 + j) (posS s k a).length)
def mapOf (s : List UInt8) (a : Nat) (K : List Key) : List (AV × AV) := K.zipIdx.map fun q => entO s a q.1 q.2
theorem ints_length (l : List Nat) : (ints l).length = l.length := by simp [ints]
theorem ints_get {l : List Nat} {i q : Nat} (h : l[i]? = some q) : (ints l)[i]? = some [.int .i64 q] := by simp [ints, h]
theorem ints_one (l : List Nat) : ∀ e ∈ ints l, e.length = 1 := fun e h => by
  simp only [ints, List.mem_map] at h
  obtain ⟨_, _, rfl⟩ := h; rfl
theorem okLL_ints (n : Nat) (l : List Nat) : okLL n (ints l) = true := by
  rw [okLL_iff]
  intro x hx
  obtain ⟨e, he, hx⟩ := List.mem_flatten.1 hx
  simp only [ints, List.mem_map] at he
  obtain ⟨_, _, rfl⟩ := he
  simp at hx; subst hx; rfl
theorem mapOf_get {s : List UInt8} {a : Nat} {K : List Key} {j : Nat} {k : Key} (h : K[j]? = some k) : (mapOf s a K)[j]? = some (entO s a k j) := by
  simp [mapOf, List.getElem?_map, List.getElem?_zipIdx, h]
theorem mapOf_inv {s : List UInt8} {a : Nat} {K : List Key} {j : Nat} {x : AV × AV} (h : (mapOf s a K)[j]? = some x) : ∃ k, K[j]? = some k ∧ x = entO s a k j := by
  simp only [mapOf, List.getElem?_map, List.getElem?_zipIdx, Option.map_map, Option.map_eq_some_iff] at h
  obtain ⟨k, hk, rfl⟩ := h
  exact ⟨k, hk, by simp⟩
theorem mapOf_keys {s : List UInt8} {a : Nat} {K : List Key} : ∀ p ∈ mapOf s a K, ∃ k, p.1 = kA k := fun p hp => by
  obtain ⟨j, hj⟩ := List.getElem?_of_mem hp
  obtain ⟨k, _, rfl⟩ := mapOf_inv hj
  exact ⟨k, rfl⟩
theorem mapOf_no {s : List UInt8} {a : Nat} {K : List Key} {k : Key} (h : k ∉ K) : ∀ p ∈ mapOf s a K, p.1 ≠ kA k := fun p hp e => by
  obtain ⟨j, hj⟩ := List.getElem?_of_mem hp
  obtain ⟨k', hk', rfl⟩ := mapOf_inv hj
  have := kA_inj e
  subst this
  exact h (List.mem_of_getElem? hk')
theorem mapOf_uniq {s : List UInt8} {a : Nat} {K : List Key} (hn : K.Nodup) {k : Key} {i : Nat} (h : K[i]? = some k) : ∀ j v', (mapOf s a K)[j]? = some (kA k, v') → j = i := fun j v' hj => by
  obtain ⟨k', hk', e⟩ := mapOf_inv hj
  have : kA k = kA k' := congrArg Prod.fst e
  have := kA_inj this
  subst this
  have h1 := (List.getElem?_eq_some_iff.1 h).1
  have h2 := (List.getElem?_eq_some_iff.1 hk').1
  exact (List.getElem?_inj h2 hn).1 (hk'.trans h.symm)
theorem rowsOf_get {s : List UInt8} {a : Nat} {K : List Key} {j : Nat} {k : Key} (h : K[j]? = some k) : (rowsOf s a K)[j]? = some (.row (posS s k a).length 1 (ints (posS s k a)) false) := by
  simp [rowsOf, h]
/-- Nothing new stands there. -/
theorem KOk.skip {s : List UInt8} {a : Nat} {K : List Key} (h : KOk s a K) (ha : ¬ a + 3 ≤ s.length) : KOk s (a + 1) K ∧ rowsOf s (a + 1) K = rowsOf s a K ∧ mapOf s (a + 1) K = mapOf s a K := by
  have e : ∀ k, posS s k (a + 1) = posS s k a := fun k => by rw [posS_succ, if_neg (fun q => ha q.1)]
  refine ⟨⟨h.nodup, fun k => by rw [e]; exact h.mem k⟩, ?_, ?_⟩
  · unfold rowsOf; simp only [e]
  · unfold mapOf entO; simp only [e]
/-- A known key. -/
theorem KOk.old {s : List UInt8} {a : Nat} {K : List Key} (h : KOk s a K) (ha : a + 3 ≤ s.length) {j : Nat} (hj : K[j]? = some (keyAt s a)) :
    KOk s (a + 1) K ∧ rowsOf s (a + 1) K = (rowsOf s a K).set j (.row ((posS s (keyAt s a) a).length + 1) 1 (ints (posS s (keyAt s a) a ++ [a])) false) ∧ mapOf s (a + 1) K = (mapOf s a K).set j (kA (keyAt s a), .row (3 + j) ((posS s (keyAt s a) a).length + 1)) := by
  have e1 : posS s (keyAt s a) (a + 1) = posS s (keyAt s a) a ++ [a] := by rw [posS_succ, if_pos ⟨ha, rfl⟩]
  have e2 : ∀ k, k ≠ keyAt s a → posS s k (a + 1) = posS s k a := fun k hk => by rw [posS_succ, if_neg (fun q => hk q.2.symm)]
  have hjl := (List.getElem?_eq_some_iff.1 hj).1
  have hne : ∀ i k, K[i]? = some k → i ≠ j → k ≠ keyAt s a := fun i k hi hij e => by
    subst e
    exact hij ((List.getElem?_inj (List.getElem?_eq_some_iff.1 hi).1 h.nodup).1 (hi.trans hj.symm))
  refine ⟨⟨h.nodup, fun k => ?_⟩, ?_, ?_⟩
  · by_cases hk : k = keyAt s a
    · subst hk
      rw [e1]
      exact ⟨fun _ => by simp, fun _ => List.mem_of_getElem? hj⟩
    · rw [e2 k hk]; exact h.mem k
  · apply List.ext_getElem?
    intro i
    rw [List.getElem?_set]
    by_cases hij : j = i
    · subst hij
      rw [if_pos rfl, if_pos (by simpa [rowsOf] using hjl), rowsOf_get hj, e1]
      simp
    · rw [if_neg hij]
      cases hK : K[i]? with
      | none => simp [rowsOf, hK]
      | some k => rw [rowsOf_get hK, rowsOf_get hK, e2 k (hne i k hK (Ne.symm hij))]
  · apply List.ext_getElem?
    intro i
    rw [List.getElem?_set]
    by_cases hij : j = i
    · subst hij
      rw [if_pos rfl, if_pos (by simpa [mapOf] using hjl), mapOf_get hj]
      simp [entO, e1]
    · rw [if_neg hij]
      cases hK : K[i]? with
      | none => simp [mapOf, List.getElem?_zipIdx, hK]
      | some k => rw [mapOf_get hK, mapOf_get hK]; simp [entO, e2 k (hne i k hK (Ne.symm hij))]
/-- A new one. -/
theorem KOk.new {s : List UInt8} {a : Nat} {K : List Key} (h : KOk s a K) (ha : a + 3 ≤ s.length) (hj : keyAt s a ∉ K) :
    KOk s (a + 1) (K ++ [keyAt s a]) ∧ rowsOf s (a + 1) (K ++ [keyAt s a]) = rowsOf s a K ++ [.row 1 1 (ints [a]) false] ∧ mapOf s (a + 1) (K ++ [keyAt s a]) = mapOf s a K ++ [(kA (keyAt s a), .row (3 + K.length) 1)] := by
  have e0 : posS s (keyAt s a) a = [] := Classical.byContradiction fun q => hj ((h.mem _).2 q)
  have e1 : posS s (keyAt s a) (a + 1) = [a] := by rw [posS_succ, if_pos ⟨ha, rfl⟩, e0]; rfl
  have e2 : ∀ k, k ≠ keyAt s a → posS s k (a + 1) = posS s k a := fun k hk => by rw [posS_succ, if_neg (fun q => hk q.2.symm)]
  refine ⟨⟨?_, fun k => ?_⟩, ?_, ?_⟩
  · rw [List.nodup_append]
    exact ⟨h.nodup, by simp, fun x hx y hy e => by simp at hy; subst hy; subst e; exact hj hx⟩
  · by_cases hk : k = keyAt s a
    · subst hk; rw [e1]; simp
    · rw [e2 k hk]; simp [hk, h.mem k]
  · unfold rowsOf
    rw [List.map_append]
    congr 1
    · apply List.map_congr_left
      intro k hk
      rw [e2 k (fun e => hj (e ▸ hk))]
    · simp [e1]
  · unfold mapOf
    rw [List.zipIdx_append, List.map_append]
    congr 1
    · apply List.map_congr_left
      intro q hq
      have : q.1 ∈ K := by
        obtain ⟨i, hi⟩ := List.getElem?_of_mem hq
        rw [List.getElem?_zipIdx] at hi
        simp only [Option.map_eq_some_iff] at hi
        obtain ⟨k, hk, rfl⟩ := hi
        exact List.mem_of_getElem? hk
      unfold entO
      rw [e2 q.1 (fun e => hj (e ▸ this))]
    · simp [entO, e1]
end Rm

namespace Rm
open Go Go.Proofs
open Go.RowKit
set_option maxHeartbeats 8000000

/-- The packer. -/
def pkO (clip : Bool) (s : List UInt8) (a v pl : Nat) : Ob := .var [.sl clip (bs s), .int .i64 a, .mp 0, .row 2 v, .int .i64 pl]
theorem okO_pk (n : Nat) (h : 3 ≤ n) (clip : Bool) (s : List UInt8) (a v pl : Nat) : okO n (pkO clip s a v pl) = true := by
  simp [pkO, okO, okL, okA, okLL_bs]; omega
theorem key_cells {s : List UInt8} {i : Nat} (h : i + 3 ≤ s.length) : (bs (s.drop i)).flatten.take 3 = [.int .u8 (s.getD i 0).toNat, .int .u8 (s.getD (i + 1) 0).toNat, .int .u8 (s.getD (i + 2) 0).toNat] := by
  rw [bs_flatten, ← List.map_take]
  have h0 : (s.drop i).take 3 = [s.getD i 0, s.getD (i + 1) 0, s.getD (i + 2) 0] := by
    rw [List.drop_eq_getElem_cons (show i < s.length by omega), List.drop_eq_getElem_cons (show i + 1 < s.length by omega), List.drop_eq_getElem_cons (show i + 1 + 1 < s.length by omega)]
    rw [List.take_succ_cons, List.take_succ_cons, List.take_succ_cons, List.take_zero]
    simp [List.getD_eq_getElem?_getD, show i < s.length by omega, show i + 1 < s.length by omega, show i + 2 < s.length by omega]
  rw [h0]; rfl

theorem c47 {st : List Ob} {clip : Bool} {s : List UInt8} {a v pl i : Nat} (h1 : st[1]? = some (pkO clip s a v pl)) (hs : s.length ≤ 100000) (hi : i ≤ s.length) :
    Ctr Tryd.prog mG 47 st [.ptr 1 0, .int .i64 i] (fun st' r => st' = st ∧ r = .tup [if i + 3 ≤ s.length then kA (keyAt s i) else .agg D86.z, .bool (decide (i + 3 ≤ s.length))]) := by
  have h1' : (st ++ [Ob.var D86.z])[1]? = some (pkO clip s a v pl) := at_old _ h1
  refine Ctr.of_bodyO (E := Ev) (n := 23) Tryd.func47 rfl rfl (Nat.le_of_ble_eq_true rfl) ?_
  show AGo Ev _ _ (lst 23 [(0, .ptr 1 0), (1, .int .i64 i)]) _ _
  refine .seq ?_
  refine .region rfl ?_
  refine .o1 rfl rfl (op_alloc (D := D86) rfl) ?_
  refine .o1 rfl rfl (op_as (rfl : _ = AV.bool _)) ?_
  refine .nil ?_
  refine .seq ?_
  refine .seq ?_
  refine .region rfl ?_
  refine .o1 rfl rfl (op_mv (rfl : _ = AV.int _ _)) ?_
  refine .o1 rfl rfl (op_add rfl rfl (by simp only [Rm.lo]; omega) (by simp only [Rm.hi]; omega)) ?_
  refine .o1 rfl rfl (op_mv (by first | exact (rfl : _ = AV.ptr _ _) | exact (rfl : _ = AV.nilp))) ?_
  refine .o1 rfl rfl (op_nilCheck rfl (.inl ⟨_, _, rfl⟩)) ?_
  refine .o1 rfl rfl (op_fieldAddr rfl (D := D69) rfl rfl rfl rfl (by decide)) ?_
  refine .o1 rfl rfl (op_load rfl h1' (D := D22) rfl rfl rfl) ?_
  refine .o1 rfl rfl (op_lenSl rfl (S := D22) rfl rfl) ?_
  refine .o1 rfl rfl (op_bin rfl rfl rfl) ?_
  refine .nil ?_
  refine .condO rfl (fun h => ?_) (fun h => ?_)   -- t13
  · have hb : ¬ i + 3 ≤ s.length := by simp [bs_length] at h; omega
    rw [if_neg hb, decide_eq_false hb]
    refine .seq ?_
    refine .region rfl ?_
    refine .o1 rfl rfl (op_zeroArr (D := D86) (B := D5) rfl rfl rfl) ?_
    refine .o0 rfl rfl (op_storeA rfl (at0 _ _ _) (D := D86) rfl rfl rfl rfl rfl) ?_
    refine .o1 rfl rfl (op_as (rfl : _ = AV.bool _)) ?_
    refine .nil ?_
    refine .ret ?_
    rw [set0]
    exact ⟨_, _, _, .cons (.cellsO _ _ st.length 0 _ _ D86 rfl (at0 _ _ _) rfl rfl (Nat.le_of_ble_eq_true rfl) rfl) (.cons (.tmpO _ rfl) .nil), .drop st.length (Nat.le_refl _) rfl (fun h => by rw [take_app rfl]; exact h), take_app rfl, rfl⟩
  · have hb : i + 3 ≤ s.length := by simp [bs_length] at h; omega
    rw [if_pos hb, decide_eq_true hb]
    have hk := key_cells hb
    refine .skip ?_
    refine .seq ?_
    refine .region rfl ?_
    refine .o1 rfl rfl (op_mv (by first | exact (rfl : _ = AV.ptr _ _) | exact (rfl : _ = AV.nilp))) ?_
    refine .o1 rfl rfl (op_nilCheck rfl (.inl ⟨_, _, rfl⟩)) ?_
    refine .o1 rfl rfl (op_fieldAddr rfl (D := D69) rfl rfl rfl rfl (by decide)) ?_
    refine .o1 rfl rfl (op_load rfl h1' (D := D22) rfl rfl rfl) ?_
    refine .o1 rfl rfl (op_mv (rfl : _ = AV.int _ _)) ?_
    refine .o1 rfl rfl (op_sliceSl (clip' := false) (ln := i) (hn := (bs s).length) rfl (S := D22) rfl rfl (D := D5) rfl (bs_one s) (.inr ⟨_, _, _, rfl, rfl, by omega, by omega⟩) (.inl ⟨rfl, rfl⟩) (.inl ⟨rfl, fun h => by cases h⟩) (by rw [bs_length]; exact hi) (Nat.le_refl _) (r := bs (s.drop i)) (by rw [List.take_length, bs_drop])) ?_
    refine .o1 rfl rfl (op_arrayAt rfl (D := D86) rfl rfl (by decide) (by rw [bs_length, List.length_drop]; omega) rfl) ?_
    refine .o1 rfl rfl (op_load_vagg rfl (D := D86) rfl rfl (by rw [bs_flatten]; simp [D86]; omega) hk) ?_
    refine .o0 rfl rfl (op_storeA rfl (at0 _ _ _) (D := D86) rfl rfl rfl rfl rfl) ?_
    refine .o1 rfl rfl (op_as (rfl : _ = AV.bool _)) ?_
    refine .nil ?_
    refine .ret ?_
    rw [set0]
    exact ⟨_, _, _, .cons (.cellsO _ _ st.length 0 _ _ D86 rfl (at0 _ _ _) rfl rfl (Nat.le_of_ble_eq_true rfl) rfl) (.cons (.tmpO _ rfl) .nil), .drop st.length (Nat.le_refl _) rfl (fun h => by rw [take_app rfl]; exact h), take_app rfl, rfl⟩

theorem c48 {st : List Ob} {clip : Bool} {s : List UInt8} {a v pl f : Nat} (h1 : st[1]? = some (pkO clip s a v pl)) (hs : s.length ≤ 100000) (hf : f < a) (ha : a ≤ s.length) :
    Ctr Tryd.prog mG 48 st [.ptr 1 0, .int .i64 f] (fun st' r => st' = st ∧ r = .int .i64 (mt s f a)) := by
  refine Ctr.of_bodyO (E := Ev) (n := 49) Tryd.func48 rfl rfl (Nat.le_of_ble_eq_true rfl) ?_
  show AGo Ev _ _ (lst 49 [(0, .ptr 1 0), (1, .int .i64 f)]) _ _
  refine .seq ?_
  refine .region rfl ?_
  refine .o1 rfl rfl (op_as (rfl : _ = AV.int _ _)) ?_
  refine .nil ?_
  refine .seq ?_
  refine .region rfl ?_
  refine .o1 rfl rfl (op_as (rfl : _ = AV.int _ _)) ?_
  refine .nil ?_
  refine .seq ?_
  refine .block ?_
  refine .keep [0, 1, 5] ?_
  refine .loop (σ := Nat × Nat) (66, 0) (fun x => x.1 + x.2 = 66 ∧ mtGo s f a x.1 x.2 = mt s f a) (fun x => x.1) (fun x => lst 49 [(0, .ptr 1 0), (1, .int .i64 f), (5, .int .i64 x.2)]) (fun _ => st) ⟨rfl, rfl⟩ rfl rfl ?_
  rintro ⟨k, n⟩ ⟨q1, q2⟩ again
  dsimp only at q1 q2 again ⊢
  refine .seq ?_
  refine .seq ?_
  refine .cut (σ := Bool) (fun t => t = true ↔ (0 < k ∧ a + n < s.length ∧ s.getD (f + n) 0 = s.getD (a + n) 0)) (fun t => lst 49 [(0, .ptr 1 0), (1, .int .i64 f), (5, .int .i64 n), (45, .bool t)]) (fun _ => st) (fun t htt => ?_) (fun cont => ?_)
  · refine .condO rfl (fun h => ?_) (fun h => ?_)   -- t45
    · subst h
      obtain ⟨r1, r2⟩ := htt.1 rfl
      obtain ⟨k, rfl⟩ : ∃ k', k = k' + 1 := ⟨k - 1, by omega⟩
      refine .skip ?_
      refine .block ?_
      refine .region rfl ?_
      refine .o1 rfl rfl (op_mv (rfl : _ = AV.int _ _)) ?_
      refine .o1 rfl rfl (op_add rfl rfl (by simp only [Rm.lo]; omega) (by simp only [Rm.hi]; omega)) ?_
      refine .o1 rfl rfl (op_as (rfl : _ = AV.int _ _)) ?_
      refine .nil ?_
      refine .inBlock ?_
      refine .keep [0, 1, 5] ?_
      exact again (k, n + 1) ⟨by simp only; omega, by simp only; rw [← q2, mtGo, if_pos r2]⟩ (by simp only; omega)
    · subst h
      have hn : n = mt s f a := by
        rw [← q2]
        cases k with
        | zero => rfl
        | succ k => rw [mtGo, if_neg (fun q => by have := htt.2 ⟨Nat.succ_pos _, q⟩; cases this)]
      refine .exit rfl ?_
      refine .seq ?_
      refine .region rfl ?_
      refine .o1 rfl rfl (op_mv (rfl : _ = AV.int _ _)) ?_
      refine .o1 rfl rfl (op_as (rfl : _ = AV.int _ _)) ?_
      refine .nil ?_
      refine .ret ?_
      rw [← hn]
      exact ⟨_, _, _, .cons (.tmpO _ rfl) .nil, .drop st.length (Nat.le_refl _) rfl (fun h => by simpa using h), by rw [List.take_length], rfl⟩
  · refine .drawn [] rfl (by decide) (by decide +kernel) ?_
    refine .ds rfl rfl rfl (fun _ => (op_mv (rfl : _ = AV.int _ _))) ?_
    refine .ds rfl rfl rfl (fun _ => (op_bin rfl rfl rfl)) ?_
    by_cases hk : 0 < k
    · rw [show decide ((n : Int) < 66) = true by simp; omega]
      refine .ds rfl rfl rfl (fun _ => (op_mv (rfl : _ = AV.bool _))) ?_
      refine .dys rfl rfl rfl rfl rfl (fun _ => (op_mv (by first | exact (rfl : _ = AV.ptr _ _) | exact (rfl : _ = AV.nilp)))) ?_
      refine .dys rfl rfl rfl rfl rfl (fun _ => (op_nilCheck rfl (.inl ⟨_, _, rfl⟩))) ?_
      refine .dys rfl rfl rfl rfl rfl (fun _ => (op_fieldAddr rfl (D := D69) rfl rfl rfl rfl (by decide))) ?_
      refine .dy 0 rfl rfl rfl rfl rfl (by decide +kernel) rfl (op_load rfl h1 (D := D3) rfl rfl rfl) ?_
      refine .dys rfl rfl rfl rfl rfl (fun _ => (op_mv (rfl : _ = AV.int _ _))) ?_
      refine .dys rfl rfl rfl rfl rfl (fun _ => (op_add rfl rfl (by simp only [Rm.lo]; omega) (by simp only [Rm.hi]; omega))) ?_
      refine .dys rfl rfl rfl rfl rfl (fun _ => (op_mv (by first | exact (rfl : _ = AV.ptr _ _) | exact (rfl : _ = AV.nilp)))) ?_
      refine .dys rfl rfl rfl rfl rfl (fun _ => (op_nilCheck rfl (.inl ⟨_, _, rfl⟩))) ?_
      refine .dys rfl rfl rfl rfl rfl (fun _ => (op_fieldAddr rfl (D := D69) rfl rfl rfl rfl (by decide))) ?_
      refine .dy 0 rfl rfl rfl rfl rfl (by decide +kernel) rfl (op_load rfl h1 (D := D22) rfl rfl rfl) ?_
      refine .dys rfl rfl rfl rfl rfl (fun _ => (op_lenSl rfl (S := D22) rfl rfl)) ?_
      refine .dys rfl rfl rfl rfl rfl (fun _ => (op_bin rfl rfl rfl)) ?_
      by_cases hl : a + n < s.length
      · rw [show decide ((a : Int) + n < ((bs s).length : Int)) = true by simp [bs_length]; omega]
        refine .ds rfl rfl rfl (fun _ => (op_pick rfl (rfl : _ = AV.bool _))) ?_
        refine .ds rfl rfl rfl (fun _ => (op_mv (rfl : _ = AV.bool _))) ?_
        refine .dys rfl rfl rfl rfl rfl (fun _ => (op_mv (by first | exact (rfl : _ = AV.ptr _ _) | exact (rfl : _ = AV.nilp)))) ?_
        refine .dys rfl rfl rfl rfl rfl (fun _ => (op_nilCheck rfl (.inl ⟨_, _, rfl⟩))) ?_
        refine .dys rfl rfl rfl rfl rfl (fun _ => (op_fieldAddr rfl (D := D69) rfl rfl rfl rfl (by decide))) ?_
        refine .dy 0 rfl rfl rfl rfl rfl (by decide +kernel) rfl (op_load rfl h1 (D := D22) rfl rfl rfl) ?_
        refine .dys rfl rfl rfl rfl rfl (fun _ => (op_mv (rfl : _ = AV.int _ _))) ?_
        refine .dys rfl rfl rfl rfl rfl (fun _ => (op_mv (rfl : _ = AV.int _ _))) ?_
        refine .dys rfl rfl rfl rfl rfl (fun _ => (op_add rfl rfl (by simp only [Rm.lo]; omega) (by simp only [Rm.hi]; omega))) ?_
        refine .dy 0 rfl rfl rfl rfl rfl (by decide +kernel) rfl (op_indexAddr rfl rfl (S := D22) rfl rfl (D := D5) rfl (bs_one s) (by omega) (by rw [show ((f : Int) + n).toNat = f + n by omega]; exact bs_get _ _ _ (str_at (by omega)))) ?_
        refine .dy 0 rfl rfl rfl rfl rfl (by decide +kernel) rfl (op_load_v rfl (D := D5) rfl rfl rfl) ?_
        refine .dys rfl rfl rfl rfl rfl (fun _ => (op_mv (by first | exact (rfl : _ = AV.ptr _ _) | exact (rfl : _ = AV.nilp)))) ?_
        refine .dys rfl rfl rfl rfl rfl (fun _ => (op_nilCheck rfl (.inl ⟨_, _, rfl⟩))) ?_
        refine .dys rfl rfl rfl rfl rfl (fun _ => (op_fieldAddr rfl (D := D69) rfl rfl rfl rfl (by decide))) ?_
        refine .dy 0 rfl rfl rfl rfl rfl (by decide +kernel) rfl (op_load rfl h1 (D := D22) rfl rfl rfl) ?_
        refine .dys rfl rfl rfl rfl rfl (fun _ => (op_mv (by first | exact (rfl : _ = AV.ptr _ _) | exact (rfl : _ = AV.nilp)))) ?_
        refine .dys rfl rfl rfl rfl rfl (fun _ => (op_nilCheck rfl (.inl ⟨_, _, rfl⟩))) ?_
        refine .dys rfl rfl rfl rfl rfl (fun _ => (op_fieldAddr rfl (D := D69) rfl rfl rfl rfl (by decide))) ?_
        refine .dy 0 rfl rfl rfl rfl rfl (by decide +kernel) rfl (op_load rfl h1 (D := D3) rfl rfl rfl) ?_
        refine .dys rfl rfl rfl rfl rfl (fun _ => (op_mv (rfl : _ = AV.int _ _))) ?_
        refine .dys rfl rfl rfl rfl rfl (fun _ => (op_add rfl rfl (by simp only [Rm.lo]; omega) (by simp only [Rm.hi]; omega))) ?_
        refine .dy 0 rfl rfl rfl rfl rfl (by decide +kernel) rfl (op_indexAddr rfl rfl (S := D22) rfl rfl (D := D5) rfl (bs_one s) (by omega) (by rw [show ((a : Int) + n).toNat = a + n by omega]; exact bs_get _ _ _ (str_at hl))) ?_
        refine .dy 0 rfl rfl rfl rfl rfl (by decide +kernel) rfl (op_load_v rfl (D := D5) rfl rfl rfl) ?_
        refine .dys rfl rfl rfl rfl rfl (fun _ => (op_bin rfl rfl rfl)) ?_
        refine .ds rfl rfl rfl (fun _ => (op_pick rfl (rfl : _ = AV.bool _))) ?_
        refine .nil rfl rfl ?_
        refine .keep [0, 1, 5, 45] ?_
        exact cont _ (by rw [u8_eq]; simp [hk, hl])
      · rw [show decide ((a : Int) + n < ((bs s).length : Int)) = false by simp [bs_length]; omega]
        refine .ds rfl rfl rfl (fun _ => (op_pick rfl (rfl : _ = AV.bool _))) ?_
        refine .ds rfl rfl rfl (fun _ => (op_mv (rfl : _ = AV.bool _))) ?_
        refine .dn rfl rfl rfl rfl rfl ?_
        refine .dn rfl rfl rfl rfl rfl ?_
        refine .dn rfl rfl rfl rfl rfl ?_
        refine .dn rfl rfl rfl rfl rfl ?_
        refine .dn rfl rfl rfl rfl rfl ?_
        refine .dn rfl rfl rfl rfl rfl ?_
        refine .dn rfl rfl rfl rfl rfl ?_
        refine .dn rfl rfl rfl rfl rfl ?_
        refine .dn rfl rfl rfl rfl rfl ?_
        refine .dn rfl rfl rfl rfl rfl ?_
        refine .dn rfl rfl rfl rfl rfl ?_
        refine .dn rfl rfl rfl rfl rfl ?_
        refine .dn rfl rfl rfl rfl rfl ?_
        refine .dn rfl rfl rfl rfl rfl ?_
        refine .dn rfl rfl rfl rfl rfl ?_
        refine .dn rfl rfl rfl rfl rfl ?_
        refine .dn rfl rfl rfl rfl rfl ?_
        refine .dn rfl rfl rfl rfl rfl ?_
        refine .dn rfl rfl rfl rfl rfl ?_
        refine .dn rfl rfl rfl rfl rfl ?_
        refine .dn rfl rfl rfl rfl rfl ?_
        refine .dn rfl rfl rfl rfl rfl ?_
        refine .ds rfl rfl rfl (fun _ => (op_pick rfl (rfl : _ = AV.bool _))) ?_
        refine .nil rfl rfl ?_
        refine .keep [0, 1, 5, 45] ?_
        exact cont false (by simp [hl])
    · rw [show decide ((n : Int) < 66) = false by simp; omega]
      refine .ds rfl rfl rfl (fun _ => (op_mv (rfl : _ = AV.bool _))) ?_
      refine .dn rfl rfl rfl rfl rfl ?_
      refine .dn rfl rfl rfl rfl rfl ?_
      refine .dn rfl rfl rfl rfl rfl ?_
      refine .dn rfl rfl rfl rfl rfl ?_
      refine .dn rfl rfl rfl rfl rfl ?_
      refine .dn rfl rfl rfl rfl rfl ?_
      refine .dn rfl rfl rfl rfl rfl ?_
      refine .dn rfl rfl rfl rfl rfl ?_
      refine .dn rfl rfl rfl rfl rfl ?_
      refine .dn rfl rfl rfl rfl rfl ?_
      refine .dn rfl rfl rfl rfl rfl ?_
      refine .dn rfl rfl rfl rfl rfl ?_
      refine .ds rfl rfl rfl (fun _ => (op_pick rfl (rfl : _ = AV.bool _))) ?_
      refine .ds rfl rfl rfl (fun _ => (op_mv (rfl : _ = AV.bool _))) ?_
      refine .dn rfl rfl rfl rfl rfl ?_
      refine .dn rfl rfl rfl rfl rfl ?_
      refine .dn rfl rfl rfl rfl rfl ?_
      refine .dn rfl rfl rfl rfl rfl ?_
      refine .dn rfl rfl rfl rfl rfl ?_
      refine .dn rfl rfl rfl rfl rfl ?_
      refine .dn rfl rfl rfl rfl rfl ?_
      refine .dn rfl rfl rfl rfl rfl ?_
      refine .dn rfl rfl rfl rfl rfl ?_
      refine .dn rfl rfl rfl rfl rfl ?_
      refine .dn rfl rfl rfl rfl rfl ?_
      refine .dn rfl rfl rfl rfl rfl ?_
      refine .dn rfl rfl rfl rfl rfl ?_
      refine .dn rfl rfl rfl rfl rfl ?_
      refine .dn rfl rfl rfl rfl rfl ?_
      refine .dn rfl rfl rfl rfl rfl ?_
      refine .dn rfl rfl rfl rfl rfl ?_
      refine .dn rfl rfl rfl rfl rfl ?_
      refine .dn rfl rfl rfl rfl rfl ?_
      refine .dn rfl rfl rfl rfl rfl ?_
      refine .dn rfl rfl rfl rfl rfl ?_
      refine .dn rfl rfl rfl rfl rfl ?_
      refine .ds rfl rfl rfl (fun _ => (op_pick rfl (rfl : _ = AV.bool _))) ?_
      refine .nil rfl rfl ?_
      refine .keep [0, 1, 5, 45] ?_
      exact cont false (by simp [hk])

/-- The packer's objects. -/
def pkS (clip : Bool) (s : List UInt8) (a v pl : Nat) (out : List UInt8) (K : List Key) : List Ob := .map (mapOf s a K) :: pkO clip s a v pl :: .row v 1 (bs out) false :: rowsOf s a K
theorem rowsAt {clip : Bool} {s : List UInt8} {a v pl j : Nat} {out : List UInt8} {K : List Key} {k : Key} (l : List Ob) (h : K[j]? = some k) : (pkS clip s a v pl out K ++ l)[3 + j]? = some (.row (posS s k a).length 1 (ints (posS s k a)) false) := by
  have h2 : (pkS clip s a v pl out K)[3 + j]? = some (.row (posS s k a).length 1 (ints (posS s k a)) false) := by
    rw [show 3 + j = j + 1 + 1 + 1 by omega]
    simp only [pkS, List.getElem?_cons_succ]
    exact rowsOf_get h
  exact at_old _ h2
theorem c28 {clip : Bool} {s out : List UInt8} {a v pl : Nat} {K : List Key} (hK : KOk s a K) (hs : s.length ≤ 100000) (ha : a ≤ s.length) :
    Ctr Tryd.prog mG 28 (pkS clip s a v pl out K) [.ptr 1 0] (fun st' r => st' = pkS clip s a v pl out K ∧ r = .tup [.int .i64 (bestS s a).1, .int .i64 (bestS s a).2]) := by
  have fin : ∀ (fr : List AV) (l : List Ob) (p n : Nat), bestS s a = (p, n) → fr.getD 2 .any = .int .i64 p → fr.getD 3 .any = .int .i64 n → Fin Ev Tryd.f28.results.toList (pkS clip s a v pl out K) (fun st' r => st' = pkS clip s a v pl out K ∧ r = .tup [.int .i64 (bestS s a).1, .int .i64 (bestS s a).2]) fr (pkS clip s a v pl out K ++ l) := fun fr l p n hb q2 q3 => by
    refine ⟨_, _, _, .cons (.tmp _) (.cons (.tmp _) .nil), .drop (pkS clip s a v pl out K).length (Nat.le_refl _) ?_ (fun h => by rw [take_app rfl]; exact h), by rw [take_app rfl], ?_⟩
    · show okA _ (.tup [fr.getD 2 .any, fr.getD 3 .any]) = true
      rw [q2, q3]; rfl
    · show AV.tup [fr.getD 2 .any, fr.getD 3 .any] = _
      rw [q2, q3, hb]
  refine Ctr.of_bodyO (E := Ev) (n := 84) Tryd.func28 rfl rfl (Nat.le_of_ble_eq_true rfl) ?_
  show AGo Ev _ _ (lst 84 [(0, .ptr 1 0)]) _ _
  refine .seq ?_
  refine .region rfl ?_
  refine .o1 rfl rfl (op_as (rfl : _ = AV.int _ _)) ?_
  refine .o1 rfl rfl (op_as (rfl : _ = AV.int _ _)) ?_
  refine .nil ?_
  refine .scope ?_
  refine .seq ?_
  refine .region rfl ?_
  refine .o1 rfl rfl (op_as (rfl : _ = AV.int _ _)) ?_
  refine .o1 rfl rfl (op_as (rfl : _ = AV.int _ _)) ?_
  refine .nil ?_
  refine .seq ?_
  refine .region rfl ?_
  refine .o1 rfl rfl (op_mv (by first | exact (rfl : _ = AV.ptr _ _) | exact (rfl : _ = AV.nilp))) ?_
  refine .o1 rfl rfl (op_mv (by first | exact (rfl : _ = AV.ptr _ _) | exact (rfl : _ = AV.nilp))) ?_
  refine .o1 rfl rfl (op_nilCheck rfl (.inl ⟨_, _, rfl⟩)) ?_
  refine .o1 rfl rfl (op_fieldAddr rfl (D := D69) rfl rfl rfl rfl (by decide)) ?_
  refine .o1 rfl rfl (op_load rfl (show (pkS clip s a v pl out K)[1]? = some (pkO clip s a v pl) from rfl) (D := D3) rfl rfl rfl) ?_
  refine .o1 rfl rfl (op_callJ Tryd.func47 rfl rfl rfl rfl (c47 (clip := clip) (v := v) (pl := pl) (a := a) rfl hs ha)) ?_
  by_cases h3 : a + 3 ≤ s.length
  · rw [if_pos h3, decide_eq_true h3]
    obtain ⟨PS, hPS⟩ : ∃ PS, PS = pkS clip s a v pl out K := ⟨_, rfl⟩
    refine .o1 rfl rfl (op_mv (by first | exact (rfl : _ = AV.int _ _) | exact (rfl : _ = AV.bool _) | exact (rfl : _ = AV.str _) | exact (rfl : _ = AV.sl _ _) | exact (rfl : _ = AV.row _ _) | exact (rfl : _ = AV.ptr _ _) | exact (rfl : _ = AV.tup _) | exact (rfl : _ = AV.agg _) | exact (rfl : _ = AV.fn _ _ _) | exact (rfl : _ = AV.nilp) | exact (rfl : _ = AV.mp _) | exact (rfl : _ = AV.vptr _) | exact (rfl : _ = AV.any))) ?_
    refine .o1 rfl rfl (op_extract rfl rfl) ?_
    refine .o1 rfl rfl (op_extract rfl rfl) ?_
    refine .o1 rfl rfl (op_alloc (D := D86) rfl) ?_
    refine .o0 rfl rfl (op_storeA rfl (at0 _ _ _) (D := D86) rfl rfl rfl rfl rfl) ?_
    refine .o1 rfl rfl (op_as (rfl : _ = AV.bool _)) ?_
    refine .nil ?_
    rw [set0]
    refine .seq ?_
    refine .seq ?_
    refine .region rfl ?_
    refine .o1 rfl rfl (op_mv (rfl : _ = AV.bool _)) ?_
    refine .o1 rfl rfl (op_not rfl) ?_
    refine .nil ?_
    refine .condO rfl (fun h => by cases h) (fun _ => ?_)   -- t21
    refine .skip ?_
    refine .seq ?_
    refine .keep [0, 4, 5, 6] ?_
    have hbst := bestGo_pos h3 a (Nat.le_refl _) 0 0 0
    obtain ⟨V, hV⟩ : ∃ V, V = Ob.var [.int .u8 (s.getD a 0).toNat, .int .u8 (s.getD (a + 1) 0).toNat, .int .u8 (s.getD (a + 2) 0).toNat] := ⟨_, rfl⟩
    show AGo _ _ _ (lst 84 [(0, .ptr 1 0), (4, .int .i64 0), (5, .int .i64 0), (6, .ptr (pkS clip s a v pl out K).length 0)]) (pkS clip s a v pl out K ++ [Ob.var [.int .u8 (s.getD a 0).toNat, .int .u8 (s.getD (a + 1) 0).toNat, .int .u8 (s.getD (a + 2) 0).toNat]]) _
    by_cases hin : keyAt s a ∈ K
    · obtain ⟨j, hj⟩ := List.getElem?_of_mem hin
      have hrow := rowsAt (clip := clip) (s := s) (a := a) (v := v) (pl := pl) (out := out) [Ob.var [.int .u8 (s.getD a 0).toNat, .int .u8 (s.getD (a + 1) 0).toNat, .int .u8 (s.getD (a + 2) 0).toNat]] hj
      refine .drawn [] rfl (by decide) (by decide +kernel) ?_
      refine .ds rfl rfl rfl (fun _ => (op_mv (by first | exact (rfl : _ = AV.ptr _ _) | exact (rfl : _ = AV.nilp)))) ?_
      refine .ds rfl rfl rfl (fun _ => (op_nilCheck rfl (.inl ⟨_, _, rfl⟩))) ?_
      refine .ds rfl rfl rfl (fun _ => (op_fieldAddr rfl (D := D69) rfl rfl rfl rfl (by decide))) ?_
      refine .dp 0 rfl rfl rfl (by decide +kernel) rfl (op_load rfl (show (pkS clip s a v pl out K ++ [Ob.var [.int .u8 (s.getD a 0).toNat, .int .u8 (s.getD (a + 1) 0).toNat, .int .u8 (s.getD (a + 2) 0).toNat]])[1]? = some (pkO clip s a v pl) from rfl) (D := D67) rfl rfl rfl) ?_
      refine .dp 0 rfl rfl rfl (by decide +kernel) rfl (op_load_agg rfl (at0 _ _ _) (D := D86) rfl rfl (Nat.le_of_ble_eq_true rfl) rfl) ?_
      refine .dp 0 rfl rfl rfl (by decide +kernel) rfl (op_lookup_hit (k := keyAt s a) rfl (show (pkS clip s a v pl out K ++ [Ob.var [.int .u8 (s.getD a 0).toNat, .int .u8 (s.getD (a + 1) 0).toNat, .int .u8 (s.getD (a + 2) 0).toNat]])[0]? = some (.map (mapOf s a K)) from rfl) rfl mapOf_keys (mapOf_get hj) (mapOf_uniq hK.nodup hj)) ?_
      refine .ds rfl rfl rfl (fun _ => (op_as (rfl : _ = AV.row _ _))) ?_
      refine .nil rfl rfl ?_
      obtain ⟨L, hL⟩ : ∃ L, posS s (keyAt s a) a = L := ⟨_, rfl⟩
      rw [hL] at hrow
      have hLle : L.length ≤ 100000 := by
        rw [← hL]; unfold posS
        exact Nat.le_trans (List.length_filter_le _ _) (by simp; omega)
      have h1 : (pkS clip s a v pl out K ++ [Ob.var [.int .u8 (s.getD a 0).toNat, .int .u8 (s.getD (a + 1) 0).toNat, .int .u8 (s.getD (a + 2) 0).toNat]])[1]? = some (pkO clip s a v pl) := rfl
      have fin2 := fun fr p n => fin fr [Ob.var [.int .u8 (s.getD a 0).toNat, .int .u8 (s.getD (a + 1) 0).toNat, .int .u8 (s.getD (a + 2) 0).toNat]] p n
      refine .keep [0, 4, 5, 8] ?_
      show AGo _ _ _ (lst 84 [(0, .ptr 1 0), (4, .int .i64 0), (5, .int .i64 0), (8, .row (3 + j) (posS s (keyAt s a) a).length)]) (pkS clip s a v pl out K ++ [Ob.var [.int .u8 (s.getD a 0).toNat, .int .u8 (s.getD (a + 1) 0).toNat, .int .u8 (s.getD (a + 2) 0).toNat]]) _
      rw [hL]
      generalize hS0 : pkS clip s a v pl out K ++ [Ob.var [.int .u8 (s.getD a 0).toNat, .int .u8 (s.getD (a + 1) 0).toNat, .int .u8 (s.getD (a + 2) 0).toNat]] = S0 at hrow h1 fin2 ⊢
      refine .seq ?_
      refine .label ?_
      refine .seq ?_
      refine .seq ?_
      refine .region rfl ?_
      refine .o1 rfl rfl (op_mv (rfl : _ = AV.row _ _)) ?_
      refine .o1 rfl rfl (op_lenRow rfl hrow (S := D89) rfl rfl) ?_
      rw [ints_length]
      refine .o1 rfl rfl (op_sub rfl rfl (by simp only [Rm.lo]; omega) (by simp only [Rm.hi]; omega)) ?_
      refine .o1 rfl rfl (op_as (rfl : _ = AV.int _ _)) ?_
      refine .nil ?_
      refine .block ?_
      refine .keep [0, 4, 5, 8, 9] ?_
      refine .loop (σ := Nat × Nat × Nat × Nat) (L.length, a, 0, 0) (fun x => posS s (keyAt s a) x.2.1 = L.take x.1 ∧ x.1 ≤ L.length ∧ x.2.1 ≤ a ∧ bestGo s a x.2.1 (L.length - x.1) x.2.2.1 x.2.2.2 = bestS s a) (fun x => x.1) (fun x => lst 84 [(0, .ptr 1 0), (4, .int .i64 x.2.2.1), (5, .int .i64 x.2.2.2), (8, .row (3 + j) L.length), (9, .int .i64 ((x.1 : Int) - 1))]) (fun _ => S0) ⟨by simp only [List.take_length]; exact hL, Nat.le_refl _, Nat.le_refl _, by simp only [Nat.sub_self]; rfl⟩ rfl rfl ?_
      rintro ⟨i1, f, p, n⟩ ⟨q1, q2, q3, q4⟩ again
      dsimp only at q1 q2 q3 q4 again ⊢
      have hbg := bestGo_pos h3 f q3 (L.length - i1) p n
      refine .seq ?_
      refine .seq ?_
      refine .region rfl ?_
      refine .o1 rfl rfl (op_mv (rfl : _ = AV.int _ _)) ?_
      refine .o1 rfl rfl (op_bin rfl rfl rfl) ?_
      refine .nil ?_
      refine .condO rfl (fun h => ?_) (fun h => ?_)   -- t32
      · obtain ⟨i, rfl⟩ : ∃ i, i1 = i + 1 := ⟨i1 - 1, by simp at h; omega⟩
        obtain ⟨q, hq⟩ : ∃ q, L[i]? = some q := ⟨L[i]'(by omega), List.getElem?_eq_getElem _⟩
        have htk : L.take (i + 1) = L.take i ++ [q] := by rw [List.take_add_one, hq]; rfl
        rw [htk] at q1
        have hb2 := hbg.2 _ _ q1
        rw [q4] at hb2
        have hql := posS_lt (s := s) (k := keyAt s a) (a := f) (q := q) (by rw [q1]; simp)
        have hbelow := posS_below q1
        have ei : ((i + 1 : Nat) : Int) - 1 = i := by omega
        rw [ei]
        have hget : (ints L)[((i : Nat) : Int).toNat]? = some [.int .i64 q] := by simpa using ints_get hq
        have hil : ((i : Nat) : Int) < ((ints L).length : Int) := by rw [ints_length]; omega
        refine .skip ?_
        refine .seq ?_
        refine .block ?_
        refine .seq ?_
        refine .seq ?_
        refine .cut (σ := Bool) (fun t => t = true ↔ ¬ (a - q ≤ 4096 ∧ L.length - (i + 1) < 16)) (fun t => lst 84 [(0, .ptr 1 0), (4, .int .i64 p), (5, .int .i64 n), (8, .row (3 + j) L.length), (9, .int .i64 i), (51, .bool t)]) (fun _ => S0) (fun t htt => ?_) (fun cont => ?_)
        · refine .condO rfl (fun h => ?_) (fun h => ?_)   -- t51
          · subst h
            rw [if_neg (htt.1 rfl)] at hb2
            refine .exit rfl ?_
            refine .seq ?_
            refine .region rfl ?_
            refine .o1 rfl rfl (op_mv (rfl : _ = AV.int _ _)) ?_
            refine .o1 rfl rfl (op_mv (rfl : _ = AV.int _ _)) ?_
            refine .o1 rfl rfl (op_as (rfl : _ = AV.int _ _)) ?_
            refine .o1 rfl rfl (op_as (rfl : _ = AV.int _ _)) ?_
            refine .nil ?_
            refine .ret ?_
            exact fin2 _ p n hb2 (by rw [getD_lst]; rfl) (by rw [getD_lst]; rfl)
          · subst h
            have hg : a - q ≤ 4096 ∧ L.length - (i + 1) < 16 := Classical.byContradiction fun h => by have := htt.2 h; cases this
            rw [if_pos hg, show L.length - (i + 1) + 1 = L.length - i by omega] at hb2
            refine .skip ?_
            refine .seq ?_
            refine .region rfl ?_
            refine .o1 rfl rfl (op_mv (by first | exact (rfl : _ = AV.ptr _ _) | exact (rfl : _ = AV.nilp))) ?_
            refine .o1 rfl rfl (op_mv (rfl : _ = AV.row _ _)) ?_
            refine .o1 rfl rfl (op_mv (rfl : _ = AV.int _ _)) ?_
            refine .o1 rfl rfl (op_indexAddr_row rfl hrow rfl (S := D89) rfl rfl (D := D3) rfl rfl (by omega) hil) ?_
            refine .o1 rfl rfl (op_load_r rfl hrow (D := D3) rfl rfl hget) ?_
            refine .o1 rfl rfl (op_callJ Tryd.func48 rfl rfl rfl rfl (c48 (f := q) h1 hs (by omega) ha)) ?_
            refine .o1 rfl rfl (op_as (rfl : _ = AV.int _ _)) ?_
            refine .nil ?_
            try dsimp only [List.set, setR, D31, D53, D57, D69, D86, D95, D22, D3, D9, List.take_succ_cons, List.take_zero, List.drop_succ_cons, List.drop_zero, List.length_cons, List.length_nil, List.nil_append, List.cons_append, Nat.reduceAdd, Nat.zero_add]
            obtain ⟨m, hm⟩ : ∃ m, mt s q a = m := ⟨_, rfl⟩
            unfold upd at hb2
            rw [hm] at hb2 ⊢
            refine .seq ?_
            refine .cut (σ := Bool) (fun t => t = true ↔ (n < m ∧ (3 < m ∨ a - q ≤ 128))) (fun t => lst 84 [(0, .ptr 1 0), (4, .int .i64 p), (5, .int .i64 n), (8, .row (3 + j) L.length), (9, .int .i64 i), (10, .int .i64 m), (76, .bool t)]) (fun _ => S0) (fun t htt => ?_) (fun cont => ?_)
            · refine .condO rfl (fun h => ?_) (fun h => ?_)   -- t76
              · subst h
                rw [if_pos (htt.1 rfl)] at hb2
                refine .region rfl ?_
                refine .o1 rfl rfl (op_mv (rfl : _ = AV.row _ _)) ?_
                refine .o1 rfl rfl (op_mv (rfl : _ = AV.int _ _)) ?_
                refine .o1 rfl rfl (op_indexAddr_row rfl hrow rfl (S := D89) rfl rfl (D := D3) rfl rfl (by omega) hil) ?_
                refine .o1 rfl rfl (op_load_r rfl hrow (D := D3) rfl rfl hget) ?_
                refine .o1 rfl rfl (op_mv (rfl : _ = AV.int _ _)) ?_
                refine .o1 rfl rfl (op_as (rfl : _ = AV.int _ _)) ?_
                refine .o1 rfl rfl (op_as (rfl : _ = AV.int _ _)) ?_
                refine .nil ?_
                refine .inBlock ?_
                refine .region rfl ?_
                refine .o1 rfl rfl (op_mv (rfl : _ = AV.int _ _)) ?_
                refine .o1 rfl rfl (op_sub rfl rfl (by simp only [Rm.lo]; omega) (by simp only [Rm.hi]; omega)) ?_
                refine .o1 rfl rfl (op_as (rfl : _ = AV.int _ _)) ?_
                refine .nil ?_
                refine .keep [0, 4, 5, 8, 9] ?_
                exact again (i, q, q, m) ⟨hbelow, by simp only; omega, by simp only; omega, hb2.symm⟩ (by simp only; omega)
              · subst h
                rw [if_neg (fun q => by have := htt.2 q; cases this)] at hb2
                refine .skip ?_
                refine .inBlock ?_
                refine .region rfl ?_
                refine .o1 rfl rfl (op_mv (rfl : _ = AV.int _ _)) ?_
                refine .o1 rfl rfl (op_sub rfl rfl (by simp only [Rm.lo]; omega) (by simp only [Rm.hi]; omega)) ?_
                refine .o1 rfl rfl (op_as (rfl : _ = AV.int _ _)) ?_
                refine .nil ?_
                refine .keep [0, 4, 5, 8, 9] ?_
                exact again (i, q, p, n) ⟨hbelow, by simp only; omega, by simp only; omega, hb2.symm⟩ (by simp only; omega)
            · refine .drawn [] rfl (by decide) (by decide +kernel) ?_
              refine .ds rfl rfl rfl (fun _ => (op_mv (rfl : _ = AV.int _ _))) ?_
              refine .ds rfl rfl rfl (fun _ => (op_mv (rfl : _ = AV.int _ _))) ?_
              refine .ds rfl rfl rfl (fun _ => (op_bin rfl rfl rfl)) ?_
              by_cases e1 : n < m
              · rw [show decide ((n : Int) < m) = true by simp; omega]
                refine .ds rfl rfl rfl (fun _ => (op_mv (rfl : _ = AV.bool _))) ?_
                refine .dys rfl rfl rfl rfl rfl (fun _ => (op_mv (rfl : _ = AV.int _ _))) ?_
                refine .dys rfl rfl rfl rfl rfl (fun _ => (op_bin rfl rfl rfl)) ?_
                by_cases e2 : 3 < m
                · rw [show decide ((3 : Int) < m) = true by simp; omega]
                  refine .dys rfl rfl rfl rfl rfl (fun _ => (op_mv (rfl : _ = AV.bool _))) ?_
                  refine .dn rfl rfl rfl rfl rfl ?_
                  refine .dn rfl rfl rfl rfl rfl ?_
                  refine .dn rfl rfl rfl rfl rfl ?_
                  refine .dn rfl rfl rfl rfl rfl ?_
                  refine .dn rfl rfl rfl rfl rfl ?_
                  refine .dn rfl rfl rfl rfl rfl ?_
                  refine .dn rfl rfl rfl rfl rfl ?_
                  refine .dn rfl rfl rfl rfl rfl ?_
                  refine .dn rfl rfl rfl rfl rfl ?_
                  refine .dn rfl rfl rfl rfl rfl ?_
                  refine .dys rfl rfl rfl rfl rfl (fun _ => (op_pick rfl (rfl : _ = AV.bool _))) ?_
                  refine .ds rfl rfl rfl (fun _ => (op_pick rfl (rfl : _ = AV.bool _))) ?_
                  refine .nil rfl rfl ?_
                  refine .keep [0, 4, 5, 8, 9, 10, 76] ?_
                  exact cont true (by simp; omega)
                · rw [show decide ((3 : Int) < m) = false by simp; omega]
                  refine .dys rfl rfl rfl rfl rfl (fun _ => (op_mv (rfl : _ = AV.bool _))) ?_
                  refine .dys rfl rfl rfl rfl rfl (fun _ => (op_mv (by first | exact (rfl : _ = AV.ptr _ _) | exact (rfl : _ = AV.nilp)))) ?_
                  refine .dys rfl rfl rfl rfl rfl (fun _ => (op_nilCheck rfl (.inl ⟨_, _, rfl⟩))) ?_
                  refine .dys rfl rfl rfl rfl rfl (fun _ => (op_fieldAddr rfl (D := D69) rfl rfl rfl rfl (by decide))) ?_
                  refine .dy 0 rfl rfl rfl rfl rfl (by decide +kernel) rfl (op_load rfl h1 (D := D3) rfl rfl rfl) ?_
                  refine .dys rfl rfl rfl rfl rfl (fun _ => (op_mv (rfl : _ = AV.row _ _))) ?_
                  refine .dys rfl rfl rfl rfl rfl (fun _ => (op_mv (rfl : _ = AV.int _ _))) ?_
                  refine .dy 0 rfl rfl rfl rfl rfl (by decide +kernel) rfl (op_indexAddr_row rfl hrow rfl (S := D89) rfl rfl (D := D3) rfl rfl (by omega) hil) ?_
                  refine .dy 0 rfl rfl rfl rfl rfl (by decide +kernel) rfl (op_load_r rfl hrow (D := D3) rfl rfl hget) ?_
                  refine .dys rfl rfl rfl rfl rfl (fun _ => (op_sub rfl rfl (by simp only [Rm.lo]; omega) (by simp only [Rm.hi]; omega))) ?_
                  refine .dys rfl rfl rfl rfl rfl (fun _ => (op_bin rfl rfl rfl)) ?_
                  refine .dys rfl rfl rfl rfl rfl (fun _ => (op_pick rfl (rfl : _ = AV.bool _))) ?_
                  refine .ds rfl rfl rfl (fun _ => (op_pick rfl (rfl : _ = AV.bool _))) ?_
                  refine .nil rfl rfl ?_
                  refine .keep [0, 4, 5, 8, 9, 10, 76] ?_
                  exact cont (decide ((a : Int) - q ≤ 128)) (by simp; omega)
              · rw [show decide ((n : Int) < m) = false by simp; omega]
                refine .ds rfl rfl rfl (fun _ => (op_mv (rfl : _ = AV.bool _))) ?_
                refine .dn rfl rfl rfl rfl rfl ?_
                refine .dn rfl rfl rfl rfl rfl ?_
                refine .dn rfl rfl rfl rfl rfl ?_
                refine .dn rfl rfl rfl rfl rfl ?_
                refine .dn rfl rfl rfl rfl rfl ?_
                refine .dn rfl rfl rfl rfl rfl ?_
                refine .dn rfl rfl rfl rfl rfl ?_
                refine .dn rfl rfl rfl rfl rfl ?_
                refine .dn rfl rfl rfl rfl rfl ?_
                refine .dn rfl rfl rfl rfl rfl ?_
                refine .dn rfl rfl rfl rfl rfl ?_
                refine .dn rfl rfl rfl rfl rfl ?_
                refine .dn rfl rfl rfl rfl rfl ?_
                refine .dn rfl rfl rfl rfl rfl ?_
                refine .ds rfl rfl rfl (fun _ => (op_pick rfl (rfl : _ = AV.bool _))) ?_
                refine .nil rfl rfl ?_
                refine .keep [0, 4, 5, 8, 9, 10, 76] ?_
                exact cont false (by simp; omega)
        · refine .drawn [] rfl (by decide) (by decide +kernel) ?_
          refine .ds rfl rfl rfl (fun _ => (op_mv (by first | exact (rfl : _ = AV.ptr _ _) | exact (rfl : _ = AV.nilp)))) ?_
          refine .ds rfl rfl rfl (fun _ => (op_nilCheck rfl (.inl ⟨_, _, rfl⟩))) ?_
          refine .ds rfl rfl rfl (fun _ => (op_fieldAddr rfl (D := D69) rfl rfl rfl rfl (by decide))) ?_
          refine .dp 0 rfl rfl rfl (by decide +kernel) rfl (op_load rfl h1 (D := D3) rfl rfl rfl) ?_
          refine .ds rfl rfl rfl (fun _ => (op_mv (rfl : _ = AV.row _ _))) ?_
          refine .ds rfl rfl rfl (fun _ => (op_mv (rfl : _ = AV.int _ _))) ?_
          refine .dp 0 rfl rfl rfl (by decide +kernel) rfl (op_indexAddr_row rfl hrow rfl (S := D89) rfl rfl (D := D3) rfl rfl (by omega) hil) ?_
          refine .dp 0 rfl rfl rfl (by decide +kernel) rfl (op_load_r rfl hrow (D := D3) rfl rfl hget) ?_
          refine .ds rfl rfl rfl (fun _ => (op_sub rfl rfl (by simp only [Rm.lo]; omega) (by simp only [Rm.hi]; omega))) ?_
          refine .ds rfl rfl rfl (fun _ => (op_bin rfl rfl rfl)) ?_
          by_cases e1 : a - q ≤ 4096
          · rw [show decide ((4096 : Int) < (a : Int) - q) = false by simp; omega]
            refine .ds rfl rfl rfl (fun _ => (op_mv (rfl : _ = AV.bool _))) ?_
            refine .dys rfl rfl rfl rfl rfl (fun _ => (op_mv (rfl : _ = AV.row _ _))) ?_
            refine .dy 0 rfl rfl rfl rfl rfl (by decide +kernel) rfl (op_lenRow rfl hrow (S := D89) rfl rfl) ?_
            rw [ints_length]
            refine .dys rfl rfl rfl rfl rfl (fun _ => (op_mv (rfl : _ = AV.int _ _))) ?_
            refine .dys rfl rfl rfl rfl rfl (fun _ => (op_sub rfl rfl (by simp only [Rm.lo]; omega) (by simp only [Rm.hi]; omega))) ?_
            refine .dys rfl rfl rfl rfl rfl (fun _ => (op_bin rfl rfl rfl)) ?_
            refine .ds rfl rfl rfl (fun _ => (op_pick rfl (rfl : _ = AV.bool _))) ?_
            refine .nil rfl rfl ?_
            refine .keep [0, 4, 5, 8, 9, 51] ?_
            exact cont (decide ((16 : Int) < (L.length : Int) - i)) (by simp; omega)
          · rw [show decide ((4096 : Int) < (a : Int) - q) = true by simp; omega]
            refine .ds rfl rfl rfl (fun _ => (op_mv (rfl : _ = AV.bool _))) ?_
            refine .dn rfl rfl rfl rfl rfl ?_
            refine .dn rfl rfl rfl rfl rfl ?_
            refine .dn rfl rfl rfl rfl rfl ?_
            refine .dn rfl rfl rfl rfl rfl ?_
            refine .dn rfl rfl rfl rfl rfl ?_
            refine .ds rfl rfl rfl (fun _ => (op_pick rfl (rfl : _ = AV.bool _))) ?_
            refine .nil rfl rfl ?_
            refine .keep [0, 4, 5, 8, 9, 51] ?_
            exact cont true (by simp; omega)
      · have h0 : i1 = 0 := by simp at h; omega
        subst h0
        have hb2 := hbg.1 (by rw [q1]; rfl)
        rw [q4] at hb2
        refine .exit rfl ?_
        refine .seq ?_
        refine .region rfl ?_
        refine .o1 rfl rfl (op_mv (rfl : _ = AV.int _ _)) ?_
        refine .o1 rfl rfl (op_mv (rfl : _ = AV.int _ _)) ?_
        refine .o1 rfl rfl (op_as (rfl : _ = AV.int _ _)) ?_
        refine .o1 rfl rfl (op_as (rfl : _ = AV.int _ _)) ?_
        refine .nil ?_
        refine .ret ?_
        exact fin2 _ p n hb2 (by rw [getD_lst]; rfl) (by rw [getD_lst]; rfl)
    · have hnil : posS s (keyAt s a) a = [] := Classical.byContradiction fun q => hin ((hK.mem _).2 q)
      have hb2 := hbst.1 hnil
      refine .drawn [] rfl (by decide) (by decide +kernel) ?_
      refine .ds rfl rfl rfl (fun _ => (op_mv (by first | exact (rfl : _ = AV.ptr _ _) | exact (rfl : _ = AV.nilp)))) ?_
      refine .ds rfl rfl rfl (fun _ => (op_nilCheck rfl (.inl ⟨_, _, rfl⟩))) ?_
      refine .ds rfl rfl rfl (fun _ => (op_fieldAddr rfl (D := D69) rfl rfl rfl rfl (by decide))) ?_
      refine .dp 0 rfl rfl rfl (by decide +kernel) rfl (op_load rfl (show (pkS clip s a v pl out K ++ [Ob.var [.int .u8 (s.getD a 0).toNat, .int .u8 (s.getD (a + 1) 0).toNat, .int .u8 (s.getD (a + 2) 0).toNat]])[1]? = some (pkO clip s a v pl) from rfl) (D := D67) rfl rfl rfl) ?_
      refine .dp 0 rfl rfl rfl (by decide +kernel) rfl (op_load_agg rfl (at0 _ _ _) (D := D86) rfl rfl (Nat.le_of_ble_eq_true rfl) rfl) ?_
      refine .dp 0 rfl rfl rfl (by decide +kernel) rfl (op_lookup_miss (k := keyAt s a) rfl (show (pkS clip s a v pl out K ++ [Ob.var [.int .u8 (s.getD a 0).toNat, .int .u8 (s.getD (a + 1) 0).toNat, .int .u8 (s.getD (a + 2) 0).toNat]])[0]? = some (.map (mapOf s a K)) from rfl) rfl mapOf_keys (mapOf_no hin)) ?_
      refine .ds rfl rfl rfl (fun _ => (op_as (rfl : _ = AV.sl _ _))) ?_
      refine .nil rfl rfl ?_
      refine .seq ?_
      refine .label ?_
      refine .seq ?_
      refine .seq ?_
      refine .region rfl ?_
      refine .o1 rfl rfl (op_mv (rfl : _ = AV.sl _ _)) ?_
      refine .o1 rfl rfl (op_lenSl rfl (S := D89) rfl rfl) ?_
      refine .o1 rfl rfl (op_sub (k := .i64) (n := 0) (q := 1) rfl rfl (by decide) (by decide)) ?_
      refine .o1 rfl rfl (op_as (rfl : _ = AV.int _ _)) ?_
      refine .nil ?_
      refine .block ?_
      refine .loop0 ?_
      refine .seq ?_
      refine .seq ?_
      refine .region rfl ?_
      refine .o1 rfl rfl (op_mv (rfl : _ = AV.int _ _)) ?_
      refine .o1 rfl rfl (op_bin rfl rfl rfl) ?_
      refine .nil ?_
      refine .condO (t := false) rfl (fun h => by cases h) (fun _ => ?_)   -- t32
      refine .exit rfl ?_
      refine .seq ?_
      refine .region rfl ?_
      refine .o1 rfl rfl (op_mv (rfl : _ = AV.int _ _)) ?_
      refine .o1 rfl rfl (op_mv (rfl : _ = AV.int _ _)) ?_
      refine .o1 rfl rfl (op_as (rfl : _ = AV.int _ _)) ?_
      refine .o1 rfl rfl (op_as (rfl : _ = AV.int _ _)) ?_
      refine .nil ?_
      refine .ret ?_
      exact fin _ _ 0 0 hb2 (by rw [getD_lst]; rfl) (by rw [getD_lst]; rfl)
  · rw [if_neg h3, decide_eq_false h3]
    refine .o1 rfl rfl (op_mv (by first | exact (rfl : _ = AV.int _ _) | exact (rfl : _ = AV.bool _) | exact (rfl : _ = AV.str _) | exact (rfl : _ = AV.sl _ _) | exact (rfl : _ = AV.row _ _) | exact (rfl : _ = AV.ptr _ _) | exact (rfl : _ = AV.tup _) | exact (rfl : _ = AV.agg _) | exact (rfl : _ = AV.fn _ _ _) | exact (rfl : _ = AV.nilp) | exact (rfl : _ = AV.mp _) | exact (rfl : _ = AV.vptr _) | exact (rfl : _ = AV.any))) ?_
    refine .o1 rfl rfl (op_extract rfl rfl) ?_
    refine .o1 rfl rfl (op_extract rfl rfl) ?_
    refine .o1 rfl rfl (op_alloc (D := D86) rfl) ?_
    refine .o0 rfl rfl (op_storeA rfl (at0 _ _ _) (D := D86) rfl rfl rfl rfl rfl) ?_
    refine .o1 rfl rfl (op_as (rfl : _ = AV.bool _)) ?_
    refine .nil ?_
    refine .seq ?_
    refine .seq ?_
    refine .region rfl ?_
    refine .o1 rfl rfl (op_mv (rfl : _ = AV.bool _)) ?_
    refine .o1 rfl rfl (op_not rfl) ?_
    refine .nil ?_
    refine .condO rfl (fun _ => ?_) (fun h => by cases h)   -- t21
    refine .seq ?_
    refine .region rfl ?_
    refine .o1 rfl rfl (op_as (rfl : _ = AV.int _ _)) ?_
    refine .o1 rfl rfl (op_as (rfl : _ = AV.int _ _)) ?_
    refine .nil ?_
    refine .ret ?_
    rw [set0]
    exact fin _ _ 0 0 (bestS_short h3) (by rw [getD_lst]; rfl) (by rw [getD_lst]; rfl)
end Rm

namespace Rm
open Go Go.Proofs
open Go.RowKit
set_option maxHeartbeats 8000000

def mkS (M : List (AV × AV)) (P O : Ob) (R : List Ob) : List Ob := .map M :: P :: O :: R
def keyO (s : List UInt8) (b : Nat) : Ob := .var [.int .u8 (s.getD b 0).toNat, .int .u8 (s.getD (b + 1) 0).toNat, .int .u8 (s.getD (b + 2) 0).toNat]
theorem mkS_len (M : List (AV × AV)) (P O : Ob) (R : List Ob) : (mkS M P O R).length = R.length + 3 := rfl
theorem mkS_set {M : List (AV × AV)} {P O : Ob} {R : List Ob} (j : Nat) (r : Ob) : (mkS M P O R).set (3 + j) r = mkS M P O (R.set j r) := by
  rw [show 3 + j = j + 1 + 1 + 1 by omega]; rfl
theorem mkS_get {M : List (AV × AV)} {P O : Ob} {R : List Ob} (j : Nat) : (mkS M P O R)[3 + j]? = R[j]? := by
  rw [show 3 + j = j + 1 + 1 + 1 by omega]; rfl
theorem okS_pkS (clip : Bool) (s : List UInt8) (a v pl : Nat) (out : List UInt8) (K : List Key) : okSt (pkS clip s a v pl out K).length (pkS clip s a v pl out K) = true := by
  have hl : (pkS clip s a v pl out K).length = K.length + 3 := by simp [pkS, rowsOf]
  rw [hl]
  simp only [okSt, pkS, List.all_cons, Bool.and_eq_true]
  refine ⟨?_, okO_pk _ (by omega) _ _ _ _ _, okLL_bs _ _, ?_⟩
  · simp only [okO, List.all_eq_true, Bool.and_eq_true]
    intro p hp
    obtain ⟨j, hj⟩ := List.getElem?_of_mem hp
    obtain ⟨k, hk, rfl⟩ := mapOf_inv hj
    have := (List.getElem?_eq_some_iff.1 hk).1
    exact ⟨rfl, by simp [entO, okA]; omega⟩
  · rw [List.all_eq_true]
    intro ob hob
    simp only [rowsOf, List.mem_map] at hob
    obtain ⟨k, _, rfl⟩ := hob
    exact okLL_ints _ _

section
variable {g : Operand → AV} {st : List Ob} {d : Option Tmp} {t : TypeId} {p : String} {af : Array Edge} {gd : Option (Nat × Bool)}
theorem ints_app (l : List Nat) (q : Nat) : ints l ++ ints [q] = ints (l ++ [q]) := by simp [ints]
theorem ints_oneA (l : List Nat) : ∀ c ∈ (ints l).flatten, oneA c = true := fun c hc => by
  obtain ⟨e, he, hx⟩ := List.mem_flatten.1 hc
  simp only [ints, List.mem_map] at he
  obtain ⟨_, _, rfl⟩ := he
  simp at hx; subst hx; rfl
theorem op_appI {x y : Operand} {o ver q : Nat} {l : List Nat} (hx : g x = .row o ver) (ho : st[o]? = some (.row ver 1 (ints l) false)) (hy : g y = .sl true (ints [q])) (hl : l.length ≤ 1000000000) :
    OpOk Ev ⟨d, .call ⟨.builtin .append, #[x, y], #[89, 89]⟩, t, p, af, gd⟩ g st (Just (.row o (ver + 1)) (st.set o (.row (ver + 1) 1 (ints (l ++ [q])) false))) :=
  op_append_row hx ho (hy ▸ .sl _ _) (S := D89) rfl rfl (D := D3) rfl rfl rfl (Sx := D89) rfl rfl (ints_one [q]) (ints_oneA [q]) (by rw [ints_length, ints_length]; simp only [D3, List.length_cons, List.length_nil]; omega) (by rw [ints_length, ints_length]; simp only [List.length_cons, List.length_nil]; omega) rfl (ints_app l q)
theorem op_appN {x y : Operand} {o q : Nat} (hx : g x = .sl true []) (ho : st[o]? = some (.row 0 1 [] false)) (hy : g y = .sl true (ints [q])) :
    OpOk Ev ⟨d, .call ⟨.builtin .append, #[x, y], #[89, 89]⟩, t, p, af, gd⟩ g st (Just (.row o 1) (st.set o (.row 1 1 (ints [q]) false))) :=
  op_append_sl hx ho (hy ▸ .sl _ _) (S := D89) rfl rfl (D := D3) rfl rfl rfl (by decide) (Sx := D89) rfl rfl (by simp) (ints_one [q]) (ints_oneA [q]) (.inl rfl) (by rw [ints_length]; simp only [D3, List.length_cons, List.length_nil]; omega) (by rw [ints_length]; simp only [List.length_cons, List.length_nil]; omega) rfl rfl
end

theorem AGo.stEq {E : Env} {n0 : Nat} {todo : List Item} {fr : List AV} {st st' : List Ob} {R : List AV → List Ob → Prop} (h : st = st') (g : AGo E n0 todo fr st' R) : AGo E n0 todo fr st R := h ▸ g
theorem c29 {clip : Bool} {s out : List UInt8} {a v pl n : Nat} {K : List Key} (hK : KOk s a K) (hs : s.length ≤ 100000) (ha : a + n ≤ s.length) :
    Ctr Tryd.prog mG 29 (pkS clip s a v pl out K) [.ptr 1 0, .int .i64 n] (fun st' r => ∃ K', KOk s (a + n) K' ∧ st' = pkS clip s (a + n) v pl out K' ∧ r = .tup []) := by
  refine Ctr.of_bodyO (E := Ev) (n := 41) Tryd.func29 rfl rfl (Nat.le_of_ble_eq_true rfl) ?_
  show AGo Ev _ _ (lst 41 [(0, .ptr 1 0), (1, .int .i64 n)]) _ _
  refine .seq ?_
  refine .region rfl ?_
  refine .o1 rfl rfl (op_mv (rfl : _ = AV.int _ _)) ?_
  refine .o1 rfl rfl (op_mv (rfl : _ = AV.int _ _)) ?_
  refine .nil ?_
  refine .block ?_
  refine .keep [0, 6, 7] ?_
  refine .loop (σ := Nat × List Key) (0, K) (fun x => x.1 ≤ n ∧ KOk s (a + x.1) x.2 ∧ K.length ≤ x.2.length) (fun x => n - x.1) (fun x => lst 41 [(0, .ptr 1 0), (6, .int .i64 n), (7, .int .i64 x.1)]) (fun x => pkS clip s (a + x.1) v pl out x.2) ⟨Nat.zero_le _, hK, Nat.le_refl _⟩ rfl rfl ?_
  rintro ⟨i, Ki⟩ ⟨h1, h2, h3⟩ again
  dsimp only at h1 h2 h3 again ⊢
  have hl0 : ∀ (a' : Nat) (K' : List Key), (pkS clip s a' v pl out K').length = K'.length + 3 := fun a' K' => by simp [pkS, rowsOf]
  refine .seq ?_
  refine .region rfl ?_
  refine .o1 rfl rfl (op_bin rfl rfl rfl) ?_
  refine .nil ?_
  refine .seq ?_
  refine .condO rfl (fun h => ?_) (fun h => ?_)   -- t8
  · have hin : i < n := by simp at h; omega
    obtain ⟨b, hb⟩ : ∃ b, a + i = b := ⟨_, rfl⟩
    have hbl : b < s.length := by omega
    have next := fun (K' : List Key) (hk : KOk s (b + 1) K') (hlen : Ki.length ≤ K'.length) => again (i + 1, K') ⟨hin, by simp only [← Nat.add_assoc, hb]; exact hk, by simp only; omega⟩ (by simp only; omega)
    simp only [← Nat.add_assoc, hb] at next
    rw [hb] at h2 ⊢
    clear again
    have hle : (pkS clip s a v pl out K).length ≤ Ki.length + 3 := by rw [hl0]; omega
    refine .skip ?_
    refine .seq ?_
    refine .block ?_
    refine .seq ?_
    by_cases hs3 : b + 3 ≤ s.length
    · have hc47 := fun (l : List Ob) => c47 (st := pkS clip s b v pl out Ki ++ l) (clip := clip) (s := s) (a := b) (v := v) (pl := pl) (i := b) rfl hs (by omega)
      simp only [if_pos hs3, decide_eq_true hs3] at hc47
      by_cases hkin : keyAt s b ∈ Ki
      · obtain ⟨j, hj⟩ := List.getElem?_of_mem hkin
        obtain ⟨k1, k2, k3⟩ := h2.old hs3 hj
        have hjl : j < (rowsOf s b Ki).length := by simp [rowsOf]; exact (List.getElem?_eq_some_iff.1 hj).1
        have hLle : (posS s (keyAt s b) b).length ≤ 100000 := by
          unfold posS
          exact Nat.le_trans (List.length_filter_le _ _) (by simp; omega)
        have hc0 := hc47 []
        rw [List.append_nil] at hc0
        refine .seq ?_
        refine .region rfl ?_
        refine .o1 rfl rfl (op_mv (by first | exact (rfl : _ = AV.ptr _ _) | exact (rfl : _ = AV.nilp))) ?_
        refine .o1 rfl rfl (op_mv (by first | exact (rfl : _ = AV.ptr _ _) | exact (rfl : _ = AV.nilp))) ?_
        refine .o1 rfl rfl (op_nilCheck rfl (.inl ⟨_, _, rfl⟩)) ?_
        refine .o1 rfl rfl (op_fieldAddr rfl (D := D69) rfl rfl rfl rfl (by decide)) ?_
        refine .o1 rfl rfl (op_load rfl (show (pkS clip s b v pl out Ki)[1]? = some (pkO clip s b v pl) from rfl) (D := D3) rfl rfl rfl) ?_
        refine .o1 rfl rfl (op_callJ Tryd.func47 rfl rfl rfl rfl hc0) ?_
        refine .o1 rfl rfl (op_mv (by first | exact (rfl : _ = AV.int _ _) | exact (rfl : _ = AV.bool _) | exact (rfl : _ = AV.str _) | exact (rfl : _ = AV.sl _ _) | exact (rfl : _ = AV.row _ _) | exact (rfl : _ = AV.ptr _ _) | exact (rfl : _ = AV.tup _) | exact (rfl : _ = AV.agg _) | exact (rfl : _ = AV.fn _ _ _) | exact (rfl : _ = AV.nilp) | exact (rfl : _ = AV.mp _) | exact (rfl : _ = AV.vptr _) | exact (rfl : _ = AV.any))) ?_
        refine .o1 rfl rfl (op_extract rfl rfl) ?_
        refine .o1 rfl rfl (op_extract rfl rfl) ?_
        refine .o1 rfl rfl (op_alloc (D := D86) rfl) ?_
        refine .o0 rfl rfl (op_storeA rfl (at0 _ _ _) (D := D86) rfl rfl rfl rfl rfl) ?_
        refine .o1 rfl rfl (op_as (rfl : _ = AV.bool _)) ?_
        refine .nil ?_
        rw [set0]
        refine .keep [0, 4, 5, 6, 7] ?_
        show AGo _ _ _ (lst 41 [(0, .ptr 1 0), (4, .ptr (pkS clip s b v pl out Ki).length 0), (5, .bool true), (6, .int .i64 n), (7, .int .i64 i)]) (pkS clip s b v pl out Ki ++ [keyO s b]) _
        refine .seq ?_
        refine .region rfl ?_
        refine .o1 rfl rfl (op_mv (rfl : _ = AV.bool _)) ?_
        refine .nil ?_
        refine .condO rfl (fun _ => ?_) (fun h => by cases h)   -- t18
        have hrow := rowsAt (clip := clip) (s := s) (a := b) (v := v) (pl := pl) (out := out) [keyO s b] hj
        have h1s : (pkS clip s b v pl out Ki ++ [keyO s b])[1]? = some (pkO clip s b v pl) := rfl
        have h0s : (pkS clip s b v pl out Ki ++ [keyO s b])[0]? = some (.map (mapOf s b Ki)) := rfl
        have h0s2 : ((pkS clip s b v pl out Ki ++ [keyO s b]).set (3 + j) (.row ((posS s (keyAt s b) b).length + 1) 1 (ints (posS s (keyAt s b) b ++ [b])) false))[0]? = some (.map (mapOf s b Ki)) := by rw [List.getElem?_set_ne (by omega)]; rfl
        refine .drawn [12, 14] rfl (by decide) (by decide +kernel) ?_
        refine .ds rfl rfl rfl (fun _ => (op_mv (by first | exact (rfl : _ = AV.ptr _ _) | exact (rfl : _ = AV.nilp)))) ?_
        refine .ds rfl rfl rfl (fun _ => (op_nilCheck rfl (.inl ⟨_, _, rfl⟩))) ?_
        refine .ds rfl rfl rfl (fun _ => (op_fieldAddr rfl (D := D69) rfl rfl rfl rfl (by decide))) ?_
        refine .dp 0 rfl rfl rfl (by decide +kernel) rfl (op_load rfl h1s (D := D67) rfl rfl rfl) ?_
        refine .dp 0 rfl rfl rfl (by decide +kernel) rfl (op_load_agg rfl (at0 _ _ _) (D := D86) rfl rfl (Nat.le_of_ble_eq_true rfl) rfl) ?_
        refine .ds rfl rfl rfl (fun _ => (op_mv (by first | exact (rfl : _ = AV.ptr _ _) | exact (rfl : _ = AV.nilp)))) ?_
        refine .ds rfl rfl rfl (fun _ => (op_nilCheck rfl (.inl ⟨_, _, rfl⟩))) ?_
        refine .ds rfl rfl rfl (fun _ => (op_fieldAddr rfl (D := D69) rfl rfl rfl rfl (by decide))) ?_
        refine .dp 0 rfl rfl rfl (by decide +kernel) rfl (op_load rfl h1s (D := D3) rfl rfl rfl) ?_
        refine .dp 0 rfl rfl rfl (by decide +kernel) rfl (op_lit (S := D89) (D := D3) (vs := [.int .i64 b]) rfl rfl rfl rfl rfl (by decide) rfl ⟨rfl, rfl⟩) ?_
        refine .dp 0 rfl rfl rfl (by decide +kernel) rfl (op_mapEntry_hit (k := keyAt s b) rfl h0s rfl mapOf_keys (mapOf_get hj) (mapOf_uniq h2.nodup hj)) ?_
        refine .ds rfl rfl rfl (fun _ => (op_extract rfl rfl)) ?_
        refine .de 0 rfl rfl rfl rfl rfl (op_appI rfl hrow rfl (by omega)) ?_
        refine .ds rfl rfl rfl (fun _ => (op_extract rfl rfl)) ?_
        refine .de0 1 rfl rfl rfl rfl rfl (op_entryStore (k := keyAt s b) rfl h0s2 rfl (mapOf_get hj) rfl) ?_
        refine .nil rfl rfl ?_
        have e1 : (((pkS clip s b v pl out Ki ++ [keyO s b]).set (3 + j) (.row ((posS s (keyAt s b) b).length + 1) 1 (ints (posS s (keyAt s b) b ++ [b])) false)).set 0 (.map ((mapOf s b Ki).set j (kA (keyAt s b), .row (3 + j) ((posS s (keyAt s b) b).length + 1))))) = mkS (mapOf s (b + 1) Ki) (pkO clip s b v pl) (.row v 1 (bs out) false) (rowsOf s (b + 1) Ki ++ [keyO s b]) := by
          rw [k2, k3]
          show ((mkS (mapOf s b Ki) (pkO clip s b v pl) (.row v 1 (bs out) false) (rowsOf s b Ki ++ [keyO s b])).set (3 + j) _).set 0 _ = _
          rw [mkS_set, List.set_append_left _ _ hjl]
          rfl
        refine .stEq e1 ?_
        refine .region rfl ?_
        refine .o1 rfl rfl (op_mv (by first | exact (rfl : _ = AV.ptr _ _) | exact (rfl : _ = AV.nilp))) ?_
        refine .o1 rfl rfl (op_nilCheck rfl (.inl ⟨_, _, rfl⟩)) ?_
        refine .o1 rfl rfl (op_fieldAddr rfl (D := D69) rfl rfl rfl rfl (by decide)) ?_
        refine .o1 rfl rfl (op_load rfl rfl (D := D3) rfl rfl rfl) ?_
        refine .o1 rfl rfl (op_add rfl rfl (by simp only [Rm.lo]; omega) (by simp only [Rm.hi]; omega)) ?_
        refine .o1 rfl rfl (op_nilCheck rfl (.inl ⟨_, _, rfl⟩)) ?_
        refine .o1 rfl rfl (op_fieldAddr rfl (D := D69) rfl rfl rfl rfl (by decide)) ?_
        refine .o0 rfl rfl (op_store1 rfl rfl (D := D3) rfl (by first | exact (rfl : _ = AV.int _ _) | exact (rfl : _ = AV.bool _) | exact (rfl : _ = AV.str _) | exact (rfl : _ = AV.sl _ _) | exact (rfl : _ = AV.row _ _) | exact (rfl : _ = AV.ptr _ _) | exact (rfl : _ = AV.tup _) | exact (rfl : _ = AV.agg _) | exact (rfl : _ = AV.fn _ _ _) | exact (rfl : _ = AV.nilp) | exact (rfl : _ = AV.mp _) | exact (rfl : _ = AV.vptr _) | exact (rfl : _ = AV.any)) rfl rfl (Nat.le_of_ble_eq_true rfl) rfl) ?_
        refine .nil ?_
        try dsimp only [List.set, setR, D31, D53, D57, D69, D86, D95, D22, D3, D9, List.take_succ_cons, List.take_zero, List.drop_succ_cons, List.drop_zero, List.length_cons, List.length_nil, List.nil_append, List.cons_append, Nat.reduceAdd, Nat.zero_add]
        refine .inBlock ?_
        refine .region rfl ?_
        refine .o1 rfl rfl (op_add rfl rfl (by simp only [Rm.lo]; omega) (by simp only [Rm.hi]; omega)) ?_
        refine .o1 rfl rfl (op_mv (rfl : _ = AV.int _ _)) ?_
        refine .nil ?_
        refine .keep [0, 6, 7] ?_
        have e2 : (mkS (mapOf s (b + 1) Ki) (pkO clip s (b + 1) v pl) (.row v 1 (bs out) false) (rowsOf s (b + 1) Ki ++ [keyO s b])).take (Ki.length + 3) = pkS clip s (b + 1) v pl out Ki := take_app (hl0 _ _)
        refine .drop (Ki.length + 3) hle rfl ?_ ?_
        · show okSt _ ((mkS (mapOf s (b + 1) Ki) (pkO clip s (b + 1) v pl) (.row v 1 (bs out) false) (rowsOf s (b + 1) Ki ++ [keyO s b])).take (Ki.length + 3)) = true
          rw [e2, ← hl0 (b + 1) Ki]
          exact okS_pkS _ _ _ _ _ _ _
        · show AGo _ _ _ _ ((mkS (mapOf s (b + 1) Ki) (pkO clip s (b + 1) v pl) (.row v 1 (bs out) false) (rowsOf s (b + 1) Ki ++ [keyO s b])).take (Ki.length + 3)) _
          rw [e2]
          exact next Ki k1 (Nat.le_refl _)
      · obtain ⟨k1, k2, k3⟩ := h2.new hs3 hkin
        have hMl : (mapOf s b Ki).length = Ki.length := by simp [mapOf]
        have hRl : (rowsOf s b Ki).length = Ki.length := by simp [rowsOf]
        refine .adopt 1 (by decide) ?_
        refine .seq ?_
        refine .region rfl ?_
        refine .o1 rfl rfl (op_mv (by first | exact (rfl : _ = AV.ptr _ _) | exact (rfl : _ = AV.nilp))) ?_
        refine .o1 rfl rfl (op_mv (by first | exact (rfl : _ = AV.ptr _ _) | exact (rfl : _ = AV.nilp))) ?_
        refine .o1 rfl rfl (op_nilCheck rfl (.inl ⟨_, _, rfl⟩)) ?_
        refine .o1 rfl rfl (op_fieldAddr rfl (D := D69) rfl rfl rfl rfl (by decide)) ?_
        refine .o1 rfl rfl (op_load rfl (show (pkS clip s b v pl out Ki ++ [Ob.row 0 1 [] false])[1]? = some (pkO clip s b v pl) from rfl) (D := D3) rfl rfl rfl) ?_
        refine .o1 rfl rfl (op_callJ Tryd.func47 rfl rfl rfl rfl (hc47 [Ob.row 0 1 [] false])) ?_
        refine .o1 rfl rfl (op_mv (by first | exact (rfl : _ = AV.int _ _) | exact (rfl : _ = AV.bool _) | exact (rfl : _ = AV.str _) | exact (rfl : _ = AV.sl _ _) | exact (rfl : _ = AV.row _ _) | exact (rfl : _ = AV.ptr _ _) | exact (rfl : _ = AV.tup _) | exact (rfl : _ = AV.agg _) | exact (rfl : _ = AV.fn _ _ _) | exact (rfl : _ = AV.nilp) | exact (rfl : _ = AV.mp _) | exact (rfl : _ = AV.vptr _) | exact (rfl : _ = AV.any))) ?_
        refine .o1 rfl rfl (op_extract rfl rfl) ?_
        refine .o1 rfl rfl (op_extract rfl rfl) ?_
        refine .o1 rfl rfl (op_alloc (D := D86) rfl) ?_
        refine .o0 rfl rfl (op_storeA rfl (at0 _ _ _) (D := D86) rfl rfl rfl rfl rfl) ?_
        refine .o1 rfl rfl (op_as (rfl : _ = AV.bool _)) ?_
        refine .nil ?_
        rw [set0]
        refine .keep [0, 4, 5, 6, 7] ?_
        show AGo _ _ _ (lst 41 [(0, .ptr 1 0), (4, .ptr (pkS clip s b v pl out Ki ++ [Ob.row 0 1 [] false]).length 0), (5, .bool true), (6, .int .i64 n), (7, .int .i64 i)]) ((pkS clip s b v pl out Ki ++ [Ob.row 0 1 [] false]) ++ [keyO s b]) _
        refine .seq ?_
        refine .region rfl ?_
        refine .o1 rfl rfl (op_mv (rfl : _ = AV.bool _)) ?_
        refine .nil ?_
        refine .condO rfl (fun _ => ?_) (fun h => by cases h)   -- t18
        have h1s : ((pkS clip s b v pl out Ki ++ [Ob.row 0 1 [] false]) ++ [keyO s b])[1]? = some (pkO clip s b v pl) := rfl
        have h0s : ((pkS clip s b v pl out Ki ++ [Ob.row 0 1 [] false]) ++ [keyO s b])[0]? = some (.map (mapOf s b Ki)) := rfl
        have hslot : (((pkS clip s b v pl out Ki ++ [Ob.row 0 1 [] false]) ++ [keyO s b]).set 0 (.map (mapOf s b Ki ++ [(kA (keyAt s b), .sl true [])])))[3 + Ki.length]? = some (.row 0 1 [] false) := by
          rw [List.getElem?_set_ne (by omega), List.append_assoc]
          exact getL (n := 3 + Ki.length) _ (by rw [hl0]; omega)
        have h0s2 : ((((pkS clip s b v pl out Ki ++ [Ob.row 0 1 [] false]) ++ [keyO s b]).set 0 (.map (mapOf s b Ki ++ [(kA (keyAt s b), .sl true [])]))).set (3 + Ki.length) (.row 1 1 (ints [b]) false))[0]? = some (.map (mapOf s b Ki ++ [(kA (keyAt s b), .sl true [])])) := by rw [List.getElem?_set_ne (by omega)]; rfl
        refine .drawn [10, 12, 14] rfl (by decide) (by decide +kernel) ?_
        refine .ds rfl rfl rfl (fun _ => (op_mv (by first | exact (rfl : _ = AV.ptr _ _) | exact (rfl : _ = AV.nilp)))) ?_
        refine .ds rfl rfl rfl (fun _ => (op_nilCheck rfl (.inl ⟨_, _, rfl⟩))) ?_
        refine .ds rfl rfl rfl (fun _ => (op_fieldAddr rfl (D := D69) rfl rfl rfl rfl (by decide))) ?_
        refine .dp 0 rfl rfl rfl (by decide +kernel) rfl (op_load rfl h1s (D := D67) rfl rfl rfl) ?_
        refine .dp 0 rfl rfl rfl (by decide +kernel) rfl (op_load_agg rfl (at0 _ _ _) (D := D86) rfl rfl (Nat.le_of_ble_eq_true rfl) rfl) ?_
        refine .ds rfl rfl rfl (fun _ => (op_mv (by first | exact (rfl : _ = AV.ptr _ _) | exact (rfl : _ = AV.nilp)))) ?_
        refine .ds rfl rfl rfl (fun _ => (op_nilCheck rfl (.inl ⟨_, _, rfl⟩))) ?_
        refine .ds rfl rfl rfl (fun _ => (op_fieldAddr rfl (D := D69) rfl rfl rfl rfl (by decide))) ?_
        refine .dp 0 rfl rfl rfl (by decide +kernel) rfl (op_load rfl h1s (D := D3) rfl rfl rfl) ?_
        refine .dp 0 rfl rfl rfl (by decide +kernel) rfl (op_lit (S := D89) (D := D3) (vs := [.int .i64 b]) rfl rfl rfl rfl rfl (by decide) rfl ⟨rfl, rfl⟩) ?_
        refine .de 0 rfl rfl rfl rfl rfl (op_mapEntry_miss (k := keyAt s b) rfl h0s rfl mapOf_keys (mapOf_no hkin)) ?_
        refine .ds rfl rfl rfl (fun _ => (op_extract rfl rfl)) ?_
        refine .de 1 rfl rfl rfl rfl rfl (op_appN (o := 3 + Ki.length) (q := b) rfl hslot rfl) ?_
        refine .ds rfl rfl rfl (fun _ => (op_extract rfl rfl)) ?_
        refine .de0 2 rfl rfl rfl rfl rfl (op_entryStore (i := (mapOf s b Ki).length) (k := keyAt s b) rfl h0s2 rfl (at0 _ _ _) rfl) ?_
        refine .nil rfl rfl ?_
        have e1 : (((((pkS clip s b v pl out Ki ++ [Ob.row 0 1 [] false]) ++ [keyO s b]).set 0 (.map (mapOf s b Ki ++ [(kA (keyAt s b), .sl true [])]))).set (3 + Ki.length) (.row 1 1 (ints [b]) false)).set 0 (.map ((mapOf s b Ki ++ [(kA (keyAt s b), AV.sl true [])]).set (mapOf s b Ki).length (kA (keyAt s b), .row (3 + Ki.length) 1)))) = mkS (mapOf s (b + 1) (Ki ++ [keyAt s b])) (pkO clip s b v pl) (.row v 1 (bs out) false) (rowsOf s (b + 1) (Ki ++ [keyAt s b]) ++ [keyO s b]) := by
          rw [k2, k3, set0]
          show ((mkS (mapOf s b Ki ++ [(kA (keyAt s b), .sl true [])]) (pkO clip s b v pl) (.row v 1 (bs out) false) ((rowsOf s b Ki ++ [Ob.row 0 1 [] false]) ++ [keyO s b])).set (3 + Ki.length) _).set 0 _ = _
          rw [mkS_set, List.append_assoc, List.append_assoc, ← hRl]
          have := set0 (rowsOf s b Ki) (.row 0 1 [] false) (.row 1 1 (ints [b]) false) [keyO s b]
          rw [show ([Ob.row 0 1 [] false] ++ [keyO s b]) = .row 0 1 [] false :: [keyO s b] from rfl, this]
          rfl
        refine .stEq e1 ?_
        refine .region rfl ?_
        refine .o1 rfl rfl (op_mv (by first | exact (rfl : _ = AV.ptr _ _) | exact (rfl : _ = AV.nilp))) ?_
        refine .o1 rfl rfl (op_nilCheck rfl (.inl ⟨_, _, rfl⟩)) ?_
        refine .o1 rfl rfl (op_fieldAddr rfl (D := D69) rfl rfl rfl rfl (by decide)) ?_
        refine .o1 rfl rfl (op_load rfl rfl (D := D3) rfl rfl rfl) ?_
        refine .o1 rfl rfl (op_add rfl rfl (by simp only [Rm.lo]; omega) (by simp only [Rm.hi]; omega)) ?_
        refine .o1 rfl rfl (op_nilCheck rfl (.inl ⟨_, _, rfl⟩)) ?_
        refine .o1 rfl rfl (op_fieldAddr rfl (D := D69) rfl rfl rfl rfl (by decide)) ?_
        refine .o0 rfl rfl (op_store1 rfl rfl (D := D3) rfl (by first | exact (rfl : _ = AV.int _ _) | exact (rfl : _ = AV.bool _) | exact (rfl : _ = AV.str _) | exact (rfl : _ = AV.sl _ _) | exact (rfl : _ = AV.row _ _) | exact (rfl : _ = AV.ptr _ _) | exact (rfl : _ = AV.tup _) | exact (rfl : _ = AV.agg _) | exact (rfl : _ = AV.fn _ _ _) | exact (rfl : _ = AV.nilp) | exact (rfl : _ = AV.mp _) | exact (rfl : _ = AV.vptr _) | exact (rfl : _ = AV.any)) rfl rfl (Nat.le_of_ble_eq_true rfl) rfl) ?_
        refine .nil ?_
        try dsimp only [List.set, setR, D31, D53, D57, D69, D86, D95, D22, D3, D9, List.take_succ_cons, List.take_zero, List.drop_succ_cons, List.drop_zero, List.length_cons, List.length_nil, List.nil_append, List.cons_append, Nat.reduceAdd, Nat.zero_add]
        refine .inBlock ?_
        refine .region rfl ?_
        refine .o1 rfl rfl (op_add rfl rfl (by simp only [Rm.lo]; omega) (by simp only [Rm.hi]; omega)) ?_
        refine .o1 rfl rfl (op_mv (rfl : _ = AV.int _ _)) ?_
        refine .nil ?_
        refine .keep [0, 6, 7] ?_
        have hle2 : (pkS clip s a v pl out K).length ≤ (Ki ++ [keyAt s b]).length + 3 := by rw [List.length_append]; omega
        have e2 : (mkS (mapOf s (b + 1) (Ki ++ [keyAt s b])) (pkO clip s (b + 1) v pl) (.row v 1 (bs out) false) (rowsOf s (b + 1) (Ki ++ [keyAt s b]) ++ [keyO s b])).take ((Ki ++ [keyAt s b]).length + 3) = pkS clip s (b + 1) v pl out (Ki ++ [keyAt s b]) := take_app (hl0 _ _)
        refine .drop ((Ki ++ [keyAt s b]).length + 3) hle2 rfl ?_ ?_
        · show okSt _ ((mkS (mapOf s (b + 1) (Ki ++ [keyAt s b])) (pkO clip s (b + 1) v pl) (.row v 1 (bs out) false) (rowsOf s (b + 1) (Ki ++ [keyAt s b]) ++ [keyO s b])).take ((Ki ++ [keyAt s b]).length + 3)) = true
          rw [e2, ← hl0 (b + 1) (Ki ++ [keyAt s b])]
          exact okS_pkS _ _ _ _ _ _ _
        · show AGo _ _ _ _ ((mkS (mapOf s (b + 1) (Ki ++ [keyAt s b])) (pkO clip s (b + 1) v pl) (.row v 1 (bs out) false) (rowsOf s (b + 1) (Ki ++ [keyAt s b]) ++ [keyO s b])).take ((Ki ++ [keyAt s b]).length + 3)) _
          rw [e2]
          exact next (Ki ++ [keyAt s b]) k1 (by simp)
    · obtain ⟨k1, k2, k3⟩ := h2.skip hs3
      have hc0 := c47 (st := pkS clip s b v pl out Ki) (clip := clip) (s := s) (a := b) (v := v) (pl := pl) (i := b) rfl hs (by omega)
      rw [if_neg hs3, decide_eq_false hs3] at hc0
      refine .seq ?_
      refine .region rfl ?_
      refine .o1 rfl rfl (op_mv (by first | exact (rfl : _ = AV.ptr _ _) | exact (rfl : _ = AV.nilp))) ?_
      refine .o1 rfl rfl (op_mv (by first | exact (rfl : _ = AV.ptr _ _) | exact (rfl : _ = AV.nilp))) ?_
      refine .o1 rfl rfl (op_nilCheck rfl (.inl ⟨_, _, rfl⟩)) ?_
      refine .o1 rfl rfl (op_fieldAddr rfl (D := D69) rfl rfl rfl rfl (by decide)) ?_
      refine .o1 rfl rfl (op_load rfl (show (pkS clip s b v pl out Ki)[1]? = some (pkO clip s b v pl) from rfl) (D := D3) rfl rfl rfl) ?_
      refine .o1 rfl rfl (op_callJ Tryd.func47 rfl rfl rfl rfl hc0) ?_
      refine .o1 rfl rfl (op_mv (by first | exact (rfl : _ = AV.int _ _) | exact (rfl : _ = AV.bool _) | exact (rfl : _ = AV.str _) | exact (rfl : _ = AV.sl _ _) | exact (rfl : _ = AV.row _ _) | exact (rfl : _ = AV.ptr _ _) | exact (rfl : _ = AV.tup _) | exact (rfl : _ = AV.agg _) | exact (rfl : _ = AV.fn _ _ _) | exact (rfl : _ = AV.nilp) | exact (rfl : _ = AV.mp _) | exact (rfl : _ = AV.vptr _) | exact (rfl : _ = AV.any))) ?_
      refine .o1 rfl rfl (op_extract rfl rfl) ?_
      refine .o1 rfl rfl (op_extract rfl rfl) ?_
      refine .o1 rfl rfl (op_alloc (D := D86) rfl) ?_
      refine .o0 rfl rfl (op_storeA rfl (at0 _ _ _) (D := D86) rfl rfl rfl rfl rfl) ?_
      refine .o1 rfl rfl (op_as (rfl : _ = AV.bool _)) ?_
      refine .nil ?_
      rw [set0]
      refine .seq ?_
      refine .region rfl ?_
      refine .o1 rfl rfl (op_mv (rfl : _ = AV.bool _)) ?_
      refine .nil ?_
      refine .condO rfl (fun h => by cases h) (fun _ => ?_)   -- t18
      refine .skip ?_
      refine .keep [0, 6, 7] ?_
      show AGo _ _ _ _ (mkS (mapOf s b Ki) (pkO clip s b v pl) (.row v 1 (bs out) false) (rowsOf s b Ki ++ [.var D86.z])) _
      rw [← k2, ← k3]
      refine .region rfl ?_
      refine .o1 rfl rfl (op_mv (by first | exact (rfl : _ = AV.ptr _ _) | exact (rfl : _ = AV.nilp))) ?_
      refine .o1 rfl rfl (op_nilCheck rfl (.inl ⟨_, _, rfl⟩)) ?_
      refine .o1 rfl rfl (op_fieldAddr rfl (D := D69) rfl rfl rfl rfl (by decide)) ?_
      refine .o1 rfl rfl (op_load rfl rfl (D := D3) rfl rfl rfl) ?_
      refine .o1 rfl rfl (op_add rfl rfl (by simp only [Rm.lo]; omega) (by simp only [Rm.hi]; omega)) ?_
      refine .o1 rfl rfl (op_nilCheck rfl (.inl ⟨_, _, rfl⟩)) ?_
      refine .o1 rfl rfl (op_fieldAddr rfl (D := D69) rfl rfl rfl rfl (by decide)) ?_
      refine .o0 rfl rfl (op_store1 rfl rfl (D := D3) rfl (by first | exact (rfl : _ = AV.int _ _) | exact (rfl : _ = AV.bool _) | exact (rfl : _ = AV.str _) | exact (rfl : _ = AV.sl _ _) | exact (rfl : _ = AV.row _ _) | exact (rfl : _ = AV.ptr _ _) | exact (rfl : _ = AV.tup _) | exact (rfl : _ = AV.agg _) | exact (rfl : _ = AV.fn _ _ _) | exact (rfl : _ = AV.nilp) | exact (rfl : _ = AV.mp _) | exact (rfl : _ = AV.vptr _) | exact (rfl : _ = AV.any)) rfl rfl (Nat.le_of_ble_eq_true rfl) rfl) ?_
      refine .nil ?_
      try dsimp only [List.set, setR, D31, D53, D57, D69, D86, D95, D22, D3, D9, List.take_succ_cons, List.take_zero, List.drop_succ_cons, List.drop_zero, List.length_cons, List.length_nil, List.nil_append, List.cons_append, Nat.reduceAdd, Nat.zero_add]
      refine .inBlock ?_
      refine .region rfl ?_
      refine .o1 rfl rfl (op_add rfl rfl (by simp only [Rm.lo]; omega) (by simp only [Rm.hi]; omega)) ?_
      refine .o1 rfl rfl (op_mv (rfl : _ = AV.int _ _)) ?_
      refine .nil ?_
      refine .keep [0, 6, 7] ?_
      have e2 : (mkS (mapOf s (b + 1) Ki) (pkO clip s (b + 1) v pl) (.row v 1 (bs out) false) (rowsOf s (b + 1) Ki ++ [.var D86.z])).take (Ki.length + 3) = pkS clip s (b + 1) v pl out Ki := take_app (hl0 _ _)
      refine .drop (Ki.length + 3) hle rfl ?_ ?_
      · show okSt _ ((mkS (mapOf s (b + 1) Ki) (pkO clip s (b + 1) v pl) (.row v 1 (bs out) false) (rowsOf s (b + 1) Ki ++ [.var D86.z])).take (Ki.length + 3)) = true
        rw [e2, ← hl0 (b + 1) Ki]
        exact okS_pkS _ _ _ _ _ _ _
      · show AGo _ _ _ _ ((mkS (mapOf s (b + 1) Ki) (pkO clip s (b + 1) v pl) (.row v 1 (bs out) false) (rowsOf s (b + 1) Ki ++ [.var D86.z])).take (Ki.length + 3)) _
        rw [e2]
        exact next Ki k1 (Nat.le_refl _)
  · have hin : i = n := by simp at h; omega
    subst hin
    refine .exit rfl ?_
    refine .fin ?_
    refine ⟨_, _, _, .nil, .drop (pkS clip s (a + i) v pl out Ki).length ?_ rfl (fun _ => ?_), Ki, h2, by rw [List.take_length], rfl⟩
    · rw [hl0, hl0]; omega
    · rw [List.take_length]; exact okS_pkS _ _ _ _ _ _ _
end Rm

namespace Rm
open Go Go.Proofs
open Go.RowKit
set_option maxHeartbeats 8000000

theorem fin_two {rs : List ResultVar} {fr : List AV} {st : List Ob} {o1 o2 : Ob} {xs : List AV} {Q : List Ob → AV → Prop} (hr : ResL Ev fr ((st.set 2 o2).set 1 o1) rs xs) (_hl : 2 < st.length) (hx : okA st.length (packA xs) = true) (h2 : okO st.length o2 = true) (h1 : okO st.length o1 = true) (hQ : Q ((st.set 2 o2).set 1 o1) (packA xs)) : Fin Ev rs st Q fr ((st.set 2 o2).set 1 o1) := by
  have e : ((st.set 2 o2).set 1 o1).take st.length = (st.set 2 o2).set 1 o1 := List.take_of_length_le (by simp)
  exact ⟨_, _, _, hr, .drop st.length (Nat.le_refl _) hx (fun h => by rw [e]; exact okSt_set (okSt_set h h2) h1), by rw [e]; exact hQ⟩
theorem c49 {st : List Ob} {clip clip' : Bool} {s l out : List UInt8} {a v pl op : Nat} (hp : st[op]? = some (.var [.ptr 1 0])) (h1 : st[1]? = some (pkO clip s a v pl)) (h2 : st[2]? = some (.row v 1 (bs out) false)) (hl0 : l.length ≠ 0) (hl : l.length ≤ 64) (ho : out.length ≤ 10000000) :
    Ctr Tryd.prog mG 49 st [.sl clip' (bs l), .ptr op 0] (fun st' r => st' = (st.set 2 (.row (v + 2) 1 (bs (out ++ UInt8.ofNat (2 * (l.length - 1)) :: l)) false)).set 1 (pkO clip s a (v + 2) pl) ∧ r = .tup []) := by
  have hlen2 : 2 < st.length := (List.getElem?_eq_some_iff.1 h2).1
  have hne : op ≠ 2 := fun e => by subst e; rw [h2] at hp; cases hp
  have g1 : ∀ ob, (st.set 2 ob)[1]? = some (pkO clip s a v pl) := fun ob => by rw [List.getElem?_set_ne (by decide)]; exact h1
  have g2 : ∀ ob, (st.set 2 ob)[2]? = some ob := fun ob => set_get hlen2
  have gp : ∀ ob, (st.set 2 ob)[op]? = some (.var [.ptr 1 0]) := fun ob => by rw [List.getElem?_set_ne (Ne.symm hne)]; exact hp
  refine Ctr.of_bodyO (E := Ev) (n := 19) Tryd.func49 rfl rfl (Nat.le_of_ble_eq_true rfl) ?_
  show AGo Ev _ _ (lst 19 [(0, .sl clip' (bs l)), (1, .ptr op 0)]) _ _
  refine .drawnJ 2 (fun s => s[op]? = some (.var [.ptr 1 0])) [11, 13, 16] rfl (by decide) (by decide +kernel) hp ?_
  refine .dJ rfl rfl rfl (by decide +kernel) (fun _ hJ => (op_load rfl hJ (D := D66) rfl rfl rfl)) ?_
  refine .dp 0 rfl rfl rfl (by decide +kernel) rfl (op_load rfl hp (D := D66) rfl rfl rfl) ?_
  refine .ds rfl rfl rfl (fun _ => (op_nilCheck rfl (.inl ⟨_, _, rfl⟩))) ?_
  refine .ds rfl rfl rfl (fun _ => (op_fieldAddr rfl (D := D69) rfl rfl rfl rfl (by decide))) ?_
  refine .dp 0 rfl rfl rfl (by decide +kernel) rfl (op_load rfl h1 (D := D22) rfl rfl rfl) ?_
  refine .ds rfl rfl rfl (fun _ => (op_mv (by first | exact (rfl : _ = AV.sl _ _) | exact (rfl : _ = AV.row _ _)))) ?_
  refine .ds rfl rfl rfl (fun _ => (op_lenSl rfl (S := D22) rfl rfl)) ?_
  refine .ds rfl rfl rfl (fun _ => (op_sub rfl rfl (by simp only [Rm.lo, bs_length]; omega) (by simp only [Rm.hi, bs_length]; omega))) ?_
  refine .ds rfl rfl rfl (fun _ => (op_mul rfl rfl (by simp only [Rm.lo, bs_length]; omega) (by simp only [Rm.hi, bs_length]; omega))) ?_
  refine .ds rfl rfl rfl (fun _ => (op_convInt (r := ((UInt8.ofNat (2 * (l.length - 1))).toNat : Int)) rfl (S := D3) (D := D5) rfl rfl rfl (byte_wrap (by rw [bs_length]; omega)))) ?_
  refine .dp 0 rfl rfl rfl (by decide +kernel) rfl (op_lit (S := D22) (D := D5) (vs := [.int .u8 (UInt8.ofNat (2 * (l.length - 1))).toNat]) rfl rfl rfl rfl rfl (by decide) rfl ⟨rfl, rfl⟩) ?_
  refine .deJ 0 rfl rfl rfl rfl rfl (op_appB (l2 := [UInt8.ofNat (2 * (l.length - 1))]) rfl h2 (.sl _ _) (by simp; omega)) (fun _ => (gp _)) ?_
  refine .ds rfl rfl rfl (fun _ => (op_mv (by first | exact (rfl : _ = AV.sl _ _) | exact (rfl : _ = AV.row _ _)))) ?_
  try dsimp only [List.set, setR, D31, D53, D57, D69, D86, D95, D22, D3, D9, List.take_succ_cons, List.take_zero, List.drop_succ_cons, List.drop_zero, List.length_cons, List.length_nil, List.nil_append, List.cons_append, Nat.reduceAdd, Nat.zero_add]
  refine .deJ 1 rfl rfl rfl rfl rfl (op_appB (l2 := l) rfl (g2 _) (.sl _ _) (by simp; omega)) (fun _ => (by rw [List.set_set]; exact gp _)) ?_
  try dsimp only [List.set, setR, D31, D53, D57, D69, D86, D95, D22, D3, D9, List.take_succ_cons, List.take_zero, List.drop_succ_cons, List.drop_zero, List.length_cons, List.length_nil, List.nil_append, List.cons_append, Nat.reduceAdd, Nat.zero_add]
  refine .ds rfl rfl rfl (fun _ => (op_nilCheck rfl (.inl ⟨_, _, rfl⟩))) ?_
  refine .ds rfl rfl rfl (fun _ => (op_fieldAddr rfl (D := D69) rfl rfl rfl rfl (by decide))) ?_
  refine .deJ0 2 rfl rfl rfl rfl rfl (op_store1 rfl (show (List.set (List.set st 2 _) 2 _)[1]? = some (pkO clip s a v pl) by rw [List.set_set]; exact g1 _) (D := D22) rfl (rfl : _ = AV.row _ _) rfl rfl (Nat.le_of_ble_eq_true rfl) rfl) (fun h => absurd h (by decide)) ?_
  try dsimp only [List.set, setR, D31, D53, D57, D69, D86, D95, D22, D3, D9, List.take_succ_cons, List.take_zero, List.drop_succ_cons, List.drop_zero, List.length_cons, List.length_nil, List.nil_append, List.cons_append, Nat.reduceAdd, Nat.zero_add]
  refine .nil rfl rfl ?_
  refine .fin ?_
  have e : ((st.set 2 (.row (v + 1) 1 (bs (out ++ [UInt8.ofNat (2 * (l.length - 1))])) false)).set 2 (.row (v + 2) 1 (bs (out ++ [UInt8.ofNat (2 * (l.length - 1))] ++ l)) false)).set 1 (pkO clip s a (v + 2) pl) = (st.set 2 (.row (v + 2) 1 (bs (out ++ UInt8.ofNat (2 * (l.length - 1)) :: l)) false)).set 1 (pkO clip s a (v + 2) pl) := by
    rw [List.set_set, List.append_assoc]; rfl
  show Fin _ _ _ _ _ (((st.set 2 (.row (v + 1) 1 (bs (out ++ [UInt8.ofNat (2 * (l.length - 1))])) false)).set 2 (.row (v + 2) 1 (bs (out ++ [UInt8.ofNat (2 * (l.length - 1))] ++ l)) false)).set 1 (pkO clip s a (v + 2) pl))
  rw [e]
  exact fin_two .nil hlen2 rfl (okLL_bs _ _) (okO_pk _ (by omega) _ _ _ _ _) ⟨rfl, rfl⟩

/-- What stays to be told. -/
def tl (st : List Ob) (clip : Bool) (s : List UInt8) (a v pl : Nat) (out : List UInt8) : List Ob := (st.set 2 (.row v 1 (bs out) false)).set 1 (pkO clip s a v pl)
theorem tl_next {st l : List Ob} {clip : Bool} {s : List UInt8} {a v pl v' pl' : Nat} {out out' : List UInt8} (hlen : 2 < st.length) : ((tl st clip s a v pl out ++ l).set 2 (.row v' 1 (bs out') false)).set 1 (pkO clip s a v' pl') = tl st clip s a v' pl' out' ++ l := by
  unfold tl
  rw [List.set_append_left _ _ (by simpa using hlen), List.set_append_left _ _ (by simp; omega)]
  congr 1
  apply List.ext_getElem?
  intro i
  simp only [List.getElem?_set]
  by_cases h1 : 1 = i
  · subst h1; simp [show 1 < st.length by omega]
  · by_cases h2 : 2 = i
    · subst h2; simp [hlen]
    · simp [h1, h2]
theorem tl_pl {st l : List Ob} {clip : Bool} {s : List UInt8} {a v pl pl' : Nat} {out : List UInt8} (hlen : 2 < st.length) : (tl st clip s a v pl out ++ l).set 1 (pkO clip s a v pl') = tl st clip s a v pl' out ++ l := by
  unfold tl
  rw [List.set_append_left _ _ (by simp; omega), List.set_set]
theorem run_more {s : List UInt8} {a p : Nat} (h : 64 < a - p) (ha : a ≤ s.length) : runS ((s.take a).drop p) = UInt8.ofNat (2 * (64 - 1)) :: ((s.take (p + 64)).drop p ++ runS ((s.take a).drop (p + 64))) := by
  have hl : ((s.take a).drop p).length = a - p := by simp; omega
  rw [runS_cons (by omega), hl, Nat.min_eq_left (by omega), List.drop_drop]
  congr 2
  rw [List.drop_take, List.drop_take, List.take_take, Nat.min_eq_left (by omega), Nat.add_sub_cancel_left]
theorem run_last {s : List UInt8} {a p : Nat} (h : a - p ≤ 64) (h0 : p < a) (ha : a ≤ s.length) : runS ((s.take a).drop p) = UInt8.ofNat (2 * (((s.take a).drop p).length - 1)) :: (s.take a).drop p := by
  have hl : ((s.take a).drop p).length = a - p := by simp; omega
  rw [runS_cons (by omega), hl, Nat.min_eq_right h, List.take_of_length_le (by omega), runS_nil (by rw [List.length_drop]; omega), List.append_nil]
theorem c30 {st : List Ob} {clip : Bool} {s out : List UInt8} {a v pl : Nat} (h1 : st[1]? = some (pkO clip s a v pl)) (h2 : st[2]? = some (.row v 1 (bs out) false)) (hpl : pl ≤ a) (ha : a ≤ s.length) (hs : s.length ≤ 100000) (ho : out.length ≤ 5000000) :
    Ctr Tryd.prog mG 30 st [.ptr 1 0] (fun st' r => ∃ v' pl', st' = tl st clip s a v' pl' (out ++ runS ((s.take a).drop pl)) ∧ r = .tup []) := by
  have hlen2 : 2 < st.length := (List.getElem?_eq_some_iff.1 h2).1
  have hrl := runS_len ((s.take a).drop pl)
  have hdl : ((s.take a).drop pl).length = a - pl := by simp; omega
  refine Ctr.of_bodyO (E := Ev) (n := 61) Tryd.func30 rfl rfl (Nat.le_of_ble_eq_true rfl) ?_
  show AGo Ev _ _ (lst 61 [(0, .ptr 1 0)]) _ _
  refine .seq ?_
  refine .region rfl ?_
  refine .o1 rfl rfl (op_box1 (by first | exact (rfl : _ = AV.int _ _) | exact (rfl : _ = AV.bool _) | exact (rfl : _ = AV.str _) | exact (rfl : _ = AV.sl _ _) | exact (rfl : _ = AV.row _ _) | exact (rfl : _ = AV.ptr _ _) | exact (rfl : _ = AV.tup _) | exact (rfl : _ = AV.agg _) | exact (rfl : _ = AV.fn _ _ _) | exact (rfl : _ = AV.nilp) | exact (rfl : _ = AV.mp _) | exact (rfl : _ = AV.vptr _) | exact (rfl : _ = AV.any)) rfl) ?_
  refine .nil ?_
  refine .seq ?_
  refine .region rfl ?_
  refine .o1 rfl rfl op_makeFunc ?_
  refine .o1 rfl rfl (op_as (by first | exact (rfl : _ = AV.int _ _) | exact (rfl : _ = AV.bool _) | exact (rfl : _ = AV.str _) | exact (rfl : _ = AV.sl _ _) | exact (rfl : _ = AV.row _ _) | exact (rfl : _ = AV.ptr _ _) | exact (rfl : _ = AV.tup _) | exact (rfl : _ = AV.agg _) | exact (rfl : _ = AV.fn _ _ _) | exact (rfl : _ = AV.nilp) | exact (rfl : _ = AV.mp _) | exact (rfl : _ = AV.vptr _) | exact (rfl : _ = AV.any))) ?_
  refine .nil ?_
  refine .seq ?_
  refine .block ?_
  refine .keep [1, 2] ?_
  have est : st ++ [Ob.var [.ptr 1 0]] = tl st clip s a v pl out ++ [Ob.var [.ptr 1 0]] := by
    unfold tl
    rw [set_same h2, set_same h1]
  refine .stEq est ?_
  have g1 : ∀ v' pl' out', (tl st clip s a v' pl' out' ++ [Ob.var [.ptr 1 0]])[1]? = some (pkO clip s a v' pl') := fun v' pl' out' => at_old _ (by unfold tl; exact set_get (by simp; omega))
  have g2 : ∀ v' pl' out', (tl st clip s a v' pl' out' ++ [Ob.var [.ptr 1 0]])[2]? = some (.row v' 1 (bs out') false) := fun v' pl' out' => at_old _ (by unfold tl; rw [List.getElem?_set_ne (by decide)]; exact set_get hlen2)
  have gL : ∀ v' pl' out', (tl st clip s a v' pl' out').length = st.length := fun v' pl' out' => by simp [tl]
  have gp : ∀ v' pl' out', (tl st clip s a v' pl' out' ++ [Ob.var [.ptr 1 0]])[st.length]? = some (.var [.ptr 1 0]) := fun v' pl' out' => getL _ (gL _ _ _)
  refine .loop (σ := Nat × Nat × List UInt8) (pl, v, out) (fun x => x.1 ≤ a ∧ x.2.2 ++ runS ((s.take a).drop x.1) = out ++ runS ((s.take a).drop pl)) (fun x => a - x.1) (fun x => lst 61 [(1, .ptr st.length 0), (2, .fn (.func 49) [] [.ptr st.length 0])]) (fun x => tl st clip s a x.2.1 x.1 x.2.2 ++ [Ob.var [.ptr 1 0]]) ⟨hpl, rfl⟩ rfl rfl ?_
  rintro ⟨p, w, o⟩ ⟨q1, q2⟩ again
  dsimp only at q1 q2 again ⊢
  have hol : o.length ≤ 5200000 := by
    have := congrArg List.length q2
    rw [List.length_append, List.length_append] at this
    omega
  have hpd : ((s.take a).drop p).length = a - p := by simp; omega
  have fin : ∀ (fr : List AV) (w' p' : Nat) (o' : List UInt8), o' = out ++ runS ((s.take a).drop pl) → Fin Ev [] st (fun st' r => ∃ v' pl', st' = tl st clip s a v' pl' (out ++ runS ((s.take a).drop pl)) ∧ r = .tup []) fr (tl st clip s a w' p' o' ++ [Ob.var [.ptr 1 0]]) := fun fr w' p' o' hq => by
    refine ⟨_, _, _, .nil, .drop st.length (Nat.le_refl _) rfl (fun h => ?_), w', p', by rw [take_app (gL _ _ _), hq], rfl⟩
    rw [take_app (gL _ _ _)]
    exact okSt_set (okSt_set h (okLL_bs _ _)) (okO_pk _ (by omega) _ _ _ _ _)
  refine .seq ?_
  refine .seq ?_
  refine .drawn [] rfl (by decide) (by decide +kernel) ?_
  refine .dp 0 rfl rfl rfl (by decide +kernel) rfl (op_load rfl (gp w p o) (D := D66) rfl rfl rfl) ?_
  refine .ds rfl rfl rfl (fun _ => (op_nilCheck rfl (.inl ⟨_, _, rfl⟩))) ?_
  refine .ds rfl rfl rfl (fun _ => (op_fieldAddr rfl (D := D69) rfl rfl rfl rfl (by decide))) ?_
  refine .dp 0 rfl rfl rfl (by decide +kernel) rfl (op_load rfl (g1 w p o) (D := D3) rfl rfl rfl) ?_
  refine .dp 0 rfl rfl rfl (by decide +kernel) rfl (op_load rfl (gp w p o) (D := D66) rfl rfl rfl) ?_
  refine .ds rfl rfl rfl (fun _ => (op_nilCheck rfl (.inl ⟨_, _, rfl⟩))) ?_
  refine .ds rfl rfl rfl (fun _ => (op_fieldAddr rfl (D := D69) rfl rfl rfl rfl (by decide))) ?_
  refine .dp 0 rfl rfl rfl (by decide +kernel) rfl (op_load rfl (g1 w p o) (D := D3) rfl rfl rfl) ?_
  refine .ds rfl rfl rfl (fun _ => (op_sub rfl rfl (by simp only [Rm.lo]; omega) (by simp only [Rm.hi]; omega))) ?_
  refine .ds rfl rfl rfl (fun _ => (op_bin rfl rfl rfl)) ?_
  refine .nil rfl rfl ?_
  refine .condO rfl (fun h => ?_) (fun h => ?_)   -- t13
  · have h64 : 64 < a - p := by simp at h; omega
    have hrm := run_more h64 ha
    have hl1 : ((s.take (p + 64)).drop p).length = 64 := by simp; omega
    have hc := c49 (clip' := false) (l := (s.take (p + 64)).drop p) (gp w p o) (g1 w p o) (g2 w p o) (by omega) (by omega) (by omega)
    rw [tl_next hlen2, hl1] at hc
    refine .skip ?_
    refine .seq ?_
    refine .block ?_
    refine .drawn [15] rfl (by decide) (by decide +kernel) ?_
    refine .ds rfl rfl rfl (fun _ => (op_mv (rfl : _ = AV.fn _ _ _))) ?_
    refine .dp 0 rfl rfl rfl (by decide +kernel) rfl (op_load rfl (gp w p o) (D := D66) rfl rfl rfl) ?_
    refine .ds rfl rfl rfl (fun _ => (op_nilCheck rfl (.inl ⟨_, _, rfl⟩))) ?_
    refine .ds rfl rfl rfl (fun _ => (op_fieldAddr rfl (D := D69) rfl rfl rfl rfl (by decide))) ?_
    refine .dp 0 rfl rfl rfl (by decide +kernel) rfl (op_load rfl (g1 w p o) (D := D22) rfl rfl rfl) ?_
    refine .dp 0 rfl rfl rfl (by decide +kernel) rfl (op_load rfl (gp w p o) (D := D66) rfl rfl rfl) ?_
    refine .ds rfl rfl rfl (fun _ => (op_nilCheck rfl (.inl ⟨_, _, rfl⟩))) ?_
    refine .ds rfl rfl rfl (fun _ => (op_fieldAddr rfl (D := D69) rfl rfl rfl rfl (by decide))) ?_
    refine .dp 0 rfl rfl rfl (by decide +kernel) rfl (op_load rfl (g1 w p o) (D := D3) rfl rfl rfl) ?_
    refine .dp 0 rfl rfl rfl (by decide +kernel) rfl (op_load rfl (gp w p o) (D := D66) rfl rfl rfl) ?_
    refine .ds rfl rfl rfl (fun _ => (op_nilCheck rfl (.inl ⟨_, _, rfl⟩))) ?_
    refine .ds rfl rfl rfl (fun _ => (op_fieldAddr rfl (D := D69) rfl rfl rfl rfl (by decide))) ?_
    refine .dp 0 rfl rfl rfl (by decide +kernel) rfl (op_load rfl (g1 w p o) (D := D3) rfl rfl rfl) ?_
    refine .ds rfl rfl rfl (fun _ => (op_add rfl rfl (by simp only [Rm.lo]; omega) (by simp only [Rm.hi]; omega))) ?_
    refine .ds rfl rfl rfl (fun _ => (op_sliceSl (clip' := false) (ln := p) (hn := p + 64) rfl (S := D22) rfl rfl (D := D5) rfl (bs_one s) (.inr ⟨_, _, _, rfl, rfl, by omega, by omega⟩) (.inr ⟨_, _, _, rfl, rfl, by omega, by omega⟩) (.inl ⟨rfl, fun h => by cases h⟩) (by omega) (by rw [bs_length]; omega) (r := bs ((s.take (p + 64)).drop p)) (by rw [bs_take, bs_drop]))) ?_
    refine .de 0 rfl rfl rfl rfl rfl (op_callJ Tryd.func49 rfl rfl rfl rfl hc) ?_
    refine .nil rfl rfl ?_
    refine .inBlock ?_
    refine .region rfl ?_
    refine .o1 rfl rfl (op_load rfl (gp _ p _) (D := D66) rfl rfl rfl) ?_
    refine .o1 rfl rfl (op_nilCheck rfl (.inl ⟨_, _, rfl⟩)) ?_
    refine .o1 rfl rfl (op_fieldAddr rfl (D := D69) rfl rfl rfl rfl (by decide)) ?_
    refine .o1 rfl rfl (op_load rfl (g1 _ p _) (D := D3) rfl rfl rfl) ?_
    refine .o1 rfl rfl (op_add rfl rfl (by simp only [Rm.lo]; omega) (by simp only [Rm.hi]; omega)) ?_
    refine .o1 rfl rfl (op_nilCheck rfl (.inl ⟨_, _, rfl⟩)) ?_
    refine .o1 rfl rfl (op_fieldAddr rfl (D := D69) rfl rfl rfl rfl (by decide)) ?_
    refine .o0 rfl rfl (op_store1 rfl (g1 _ p _) (D := D3) rfl (by first | exact (rfl : _ = AV.int _ _) | exact (rfl : _ = AV.bool _) | exact (rfl : _ = AV.str _) | exact (rfl : _ = AV.sl _ _) | exact (rfl : _ = AV.row _ _) | exact (rfl : _ = AV.ptr _ _) | exact (rfl : _ = AV.tup _) | exact (rfl : _ = AV.agg _) | exact (rfl : _ = AV.fn _ _ _) | exact (rfl : _ = AV.nilp) | exact (rfl : _ = AV.mp _) | exact (rfl : _ = AV.vptr _) | exact (rfl : _ = AV.any)) rfl rfl (Nat.le_of_ble_eq_true rfl) rfl) ?_
    refine .nil ?_
    refine .keep [1, 2] ?_
    refine .stEq (tl_pl (pl' := p + 64) hlen2) ?_
    refine again (p + 64, w + 2, o ++ UInt8.ofNat (2 * (64 - 1)) :: (s.take (p + 64)).drop p) ⟨by simp only; omega, ?_⟩ (by simp only; omega)
    simp only
    rw [← q2, hrm, List.append_assoc, List.cons_append]
  · have h64 : a - p ≤ 64 := by simp at h; omega
    refine .exit rfl ?_
    refine .seq ?_
    refine .drawn [] rfl (by decide) (by decide +kernel) ?_
    refine .dp 0 rfl rfl rfl (by decide +kernel) rfl (op_load rfl (gp w p o) (D := D66) rfl rfl rfl) ?_
    refine .ds rfl rfl rfl (fun _ => (op_nilCheck rfl (.inl ⟨_, _, rfl⟩))) ?_
    refine .ds rfl rfl rfl (fun _ => (op_fieldAddr rfl (D := D69) rfl rfl rfl rfl (by decide))) ?_
    refine .dp 0 rfl rfl rfl (by decide +kernel) rfl (op_load rfl (g1 w p o) (D := D3) rfl rfl rfl) ?_
    refine .dp 0 rfl rfl rfl (by decide +kernel) rfl (op_load rfl (gp w p o) (D := D66) rfl rfl rfl) ?_
    refine .ds rfl rfl rfl (fun _ => (op_nilCheck rfl (.inl ⟨_, _, rfl⟩))) ?_
    refine .ds rfl rfl rfl (fun _ => (op_fieldAddr rfl (D := D69) rfl rfl rfl rfl (by decide))) ?_
    refine .dp 0 rfl rfl rfl (by decide +kernel) rfl (op_load rfl (g1 w p o) (D := D3) rfl rfl rfl) ?_
    refine .ds rfl rfl rfl (fun _ => (op_bin rfl rfl rfl)) ?_
    refine .nil rfl rfl ?_
    refine .condO rfl (fun h => ?_) (fun h => ?_)   -- t45
    · have hpa : p < a := by simp at h; omega
      have hrm := run_last h64 hpa ha
      have hc := c49 (clip' := false) (l := (s.take a).drop p) (gp w p o) (g1 w p o) (g2 w p o) (by omega) (by omega) (by omega)
      rw [tl_next hlen2, ← hrm, q2] at hc
      refine .drawn [14] rfl (by decide) (by decide +kernel) ?_
      refine .ds rfl rfl rfl (fun _ => (op_mv (rfl : _ = AV.fn _ _ _))) ?_
      refine .dp 0 rfl rfl rfl (by decide +kernel) rfl (op_load rfl (gp w p o) (D := D66) rfl rfl rfl) ?_
      refine .ds rfl rfl rfl (fun _ => (op_nilCheck rfl (.inl ⟨_, _, rfl⟩))) ?_
      refine .ds rfl rfl rfl (fun _ => (op_fieldAddr rfl (D := D69) rfl rfl rfl rfl (by decide))) ?_
      refine .dp 0 rfl rfl rfl (by decide +kernel) rfl (op_load rfl (g1 w p o) (D := D22) rfl rfl rfl) ?_
      refine .dp 0 rfl rfl rfl (by decide +kernel) rfl (op_load rfl (gp w p o) (D := D66) rfl rfl rfl) ?_
      refine .ds rfl rfl rfl (fun _ => (op_nilCheck rfl (.inl ⟨_, _, rfl⟩))) ?_
      refine .ds rfl rfl rfl (fun _ => (op_fieldAddr rfl (D := D69) rfl rfl rfl rfl (by decide))) ?_
      refine .dp 0 rfl rfl rfl (by decide +kernel) rfl (op_load rfl (g1 w p o) (D := D3) rfl rfl rfl) ?_
      refine .dp 0 rfl rfl rfl (by decide +kernel) rfl (op_load rfl (gp w p o) (D := D66) rfl rfl rfl) ?_
      refine .ds rfl rfl rfl (fun _ => (op_nilCheck rfl (.inl ⟨_, _, rfl⟩))) ?_
      refine .ds rfl rfl rfl (fun _ => (op_fieldAddr rfl (D := D69) rfl rfl rfl rfl (by decide))) ?_
      refine .dp 0 rfl rfl rfl (by decide +kernel) rfl (op_load rfl (g1 w p o) (D := D3) rfl rfl rfl) ?_
      refine .ds rfl rfl rfl (fun _ => (op_sliceSl (clip' := false) (ln := p) (hn := a) rfl (S := D22) rfl rfl (D := D5) rfl (bs_one s) (.inr ⟨_, _, _, rfl, rfl, by omega, by omega⟩) (.inr ⟨_, _, _, rfl, rfl, by omega, by omega⟩) (.inl ⟨rfl, fun h => by cases h⟩) (by omega) (by rw [bs_length]; omega) (r := bs ((s.take a).drop p)) (by rw [bs_take, bs_drop]))) ?_
      refine .de 0 rfl rfl rfl rfl rfl (op_callJ Tryd.func49 rfl rfl rfl rfl hc) ?_
      refine .nil rfl rfl ?_
      refine .fin ?_
      exact fin _ _ _ _ rfl
    · have hpa : ¬ p < a := by simp at h; omega
      rw [runS_nil (by rw [hpd]; omega), List.append_nil] at q2
      refine .skip ?_
      refine .fin ?_
      exact fin _ _ _ _ q2
end Rm

namespace Rm
open Go Go.Proofs
open Go.RowKit
set_option maxHeartbeats 8000000

theorem tl_pkS {clip : Bool} {s out out' : List UInt8} {a v pl v' pl' : Nat} {K : List Key} : tl (pkS clip s a v pl out K) clip s a v' pl' out' = pkS clip s a v' pl' out' K := rfl
theorem c13 {clip : Bool} {s : List UInt8} (hs0 : s.length ≤ 40000) : Ctr Tryd.prog mG 13 [] [.sl clip (bs s)] (fun st' r => st' = [.row 0 1 (bs (packS s)) false] ∧ r = .row 0 0) := by
  have hs : s.length ≤ 100000 := by omega
  refine Ctr.of_bodyO (E := Ev) (n := 67) Tryd.func13 rfl rfl (Nat.le_of_ble_eq_true rfl) ?_
  show AGo Ev _ _ (lst 67 [(0, .sl clip (bs s))]) _ _
  refine .seq ?_
  refine .region rfl ?_
  refine .o1 rfl rfl (op_as (by first | exact (rfl : _ = AV.sl _ _) | exact (rfl : _ = AV.row _ _))) ?_
  refine .nil ?_
  refine .seq ?_
  refine .region rfl ?_
  refine .o1 rfl rfl (op_mv (by first | exact (rfl : _ = AV.sl _ _) | exact (rfl : _ = AV.row _ _))) ?_
  refine .o1 rfl rfl op_makeMap ?_
  refine .o1 rfl rfl (op_build1 (D := D69) rfl rfl pl69 (vs := [(0, .sl clip (bs s)), (2, .mp 0)]) rfl rfl) ?_
  refine .o1 rfl rfl (op_boxA rfl) ?_
  refine .o1 rfl rfl (op_as (by first | exact (rfl : _ = AV.ptr _ _) | exact (rfl : _ = AV.nilp))) ?_
  refine .nil ?_
  refine .adopt 1 (by decide) ?_
  refine .becomeCell 1 3 2 (ver := 0) (sz := 1) (es0 := []) (fz := false) (cs := [.sl clip (bs s), .int .i64 0, .mp 0, .sl true [], .int .i64 0]) rfl rfl rfl (by decide) ?_
  have hK0 : KOk s 0 [] := ⟨List.nodup_nil, fun k => by simp [posS]⟩
  refine .seq ?_
  refine .block ?_
  refine .keep [0, 3] ?_
  show AGo _ _ _ (lst 67 [(0, .sl clip (bs s)), (3, .ptr 1 0)]) (pkS clip s 0 1 0 [] []) _
  refine .loop (σ := Nat × Nat × Nat × Nat × List UInt8 × List Key) (s.length + 1, 0, 0, 1, [], []) (fun x => x.2.1 ≤ s.length ∧ s.length < x.2.1 + x.1 ∧ x.2.2.1 ≤ x.2.1 ∧ packGo s x.1 x.2.1 x.2.2.1 x.2.2.2.2.1 = packS s ∧ x.2.2.2.2.1.length ≤ 20 * x.2.2.1 ∧ KOk s x.2.1 x.2.2.2.2.2) (fun x => x.1) (fun x => lst 67 [(0, .sl clip (bs s)), (3, .ptr 1 0)]) (fun x => pkS clip s x.2.1 x.2.2.2.1 x.2.2.1 x.2.2.2.2.1 x.2.2.2.2.2) ⟨Nat.zero_le _, by simp only; omega, Nat.le_refl _, rfl, Nat.le_refl _, hK0⟩ rfl rfl ?_
  rintro ⟨f, a, pl, v, out, K⟩ ⟨h1, h2, h3, h4, h5, h6⟩ again
  dsimp only at h1 h2 h3 h4 h5 h6 again ⊢
  obtain ⟨f, rfl⟩ : ∃ f', f = f' + 1 := ⟨f - 1, by omega⟩
  rw [packGo_succ] at h4
  have g1 : ∀ a v pl out K, (pkS clip s a v pl out K)[1]? = some (pkO clip s a v pl) := fun _ _ _ _ _ => rfl
  have g2 : ∀ a v pl out K, (pkS clip s a v pl out K)[2]? = some (.row v 1 (bs out) false) := fun _ _ _ _ _ => rfl
  refine .seq ?_
  refine .seq ?_
  refine .region rfl ?_
  refine .o1 rfl rfl (op_mv (by first | exact (rfl : _ = AV.ptr _ _) | exact (rfl : _ = AV.nilp))) ?_
  refine .o1 rfl rfl (op_nilCheck rfl (.inl ⟨_, _, rfl⟩)) ?_
  refine .o1 rfl rfl (op_fieldAddr rfl (D := D69) rfl rfl rfl rfl (by decide)) ?_
  refine .o1 rfl rfl (op_load rfl (g1 a v pl out K) (D := D3) rfl rfl rfl) ?_
  refine .o1 rfl rfl (op_mv (by first | exact (rfl : _ = AV.sl _ _) | exact (rfl : _ = AV.row _ _))) ?_
  refine .o1 rfl rfl (op_lenSl rfl (S := D22) rfl rfl) ?_
  refine .o1 rfl rfl (op_bin rfl rfl rfl) ?_
  refine .nil ?_
  refine .condO rfl (fun h => ?_) (fun h => ?_)   -- t16
  · have hlt : a < s.length := by simp [bs_length] at h; omega
    rw [if_neg (by omega)] at h4
    have hsp := bestS_spec s a
    have hms := mt_spec s (bestS s a).1 a
    have hc28 := c28 (clip := clip) (out := out) (v := v) (pl := pl) h6 hs h1
    obtain ⟨p, n, hb⟩ : ∃ p n, bestS s a = (p, n) := ⟨_, _, rfl⟩
    rw [hb] at h4 hsp hms hc28
    simp only at h4 hsp hms hc28
    refine .skip ?_
    refine .block ?_
    refine .seq ?_
    refine .region rfl ?_
    refine .o1 rfl rfl (op_mv (by first | exact (rfl : _ = AV.ptr _ _) | exact (rfl : _ = AV.nilp))) ?_
    refine .o1 rfl rfl (op_callJ Tryd.func28 rfl rfl rfl rfl hc28) ?_
    refine .o1 rfl rfl (op_mv (by first | exact (rfl : _ = AV.int _ _) | exact (rfl : _ = AV.bool _) | exact (rfl : _ = AV.str _) | exact (rfl : _ = AV.sl _ _) | exact (rfl : _ = AV.row _ _) | exact (rfl : _ = AV.ptr _ _) | exact (rfl : _ = AV.tup _) | exact (rfl : _ = AV.agg _) | exact (rfl : _ = AV.fn _ _ _) | exact (rfl : _ = AV.nilp) | exact (rfl : _ = AV.mp _) | exact (rfl : _ = AV.vptr _) | exact (rfl : _ = AV.any))) ?_
    refine .o1 rfl rfl (op_extract rfl rfl) ?_
    refine .o1 rfl rfl (op_extract rfl rfl) ?_
    refine .o1 rfl rfl (op_as (rfl : _ = AV.int _ _)) ?_
    refine .o1 rfl rfl (op_as (rfl : _ = AV.int _ _)) ?_
    refine .nil ?_
    refine .seq ?_
    refine .seq ?_
    refine .region rfl ?_
    refine .o1 rfl rfl (op_mv (rfl : _ = AV.int _ _)) ?_
    refine .o1 rfl rfl (op_bin rfl rfl rfl) ?_
    refine .nil ?_
    refine .condO rfl (fun h => ?_) (fun h => ?_)   -- t23
    · have hn : n = 0 := by simpa using h
      rw [if_pos hn] at h4
      refine .seq ?_
      refine .region rfl ?_
      refine .o1 rfl rfl (op_mv (by first | exact (rfl : _ = AV.ptr _ _) | exact (rfl : _ = AV.nilp))) ?_
      refine .oq rfl rfl (op_call Tryd.func29 rfl rfl rfl rfl (c29 (n := 1) h6 hs (by omega))) ?_
      rintro _ _ ⟨K', hK', rfl, rfl⟩
      refine .nil ?_
      refine .exit rfl ?_
      refine .keep [0, 3] ?_
      exact again (f, a + 1, pl, v, out, K') ⟨by simp only; omega, by simp only; omega, by simp only; omega, h4, h5, hK'⟩ (by simp only; omega)
    · have hn : n ≠ 0 := by simpa using h
      rw [if_neg hn] at h4
      obtain ⟨r1, r2, r3, r4⟩ := hsp.resolve_left hn
      rw [← r4] at hms
      have r5 := hms.1
      have r6 := hms.2.2.resolve_left hn
      obtain ⟨lit, hlit⟩ : ∃ l, runS ((s.take a).drop pl) = l := ⟨_, rfl⟩
      have hrl := runS_len ((s.take a).drop pl)
      have hdl : ((s.take a).drop pl).length = a - pl := by simp; omega
      have hvl := varB_lt64 (n := a - p - 1) (by omega)
      have hc30 := c30 (g1 a v pl out K) (g2 a v pl out K) h3 h1 hs (by omega)
      simp only [tl_pkS] at hc30
      rw [hlit] at h4 hrl hc30
      refine .skip ?_
      refine .seq ?_
      refine .region rfl ?_
      refine .o1 rfl rfl (op_mv (by first | exact (rfl : _ = AV.ptr _ _) | exact (rfl : _ = AV.nilp))) ?_
      refine .oq rfl rfl (op_call Tryd.func30 rfl rfl rfl rfl hc30) ?_
      rintro _ _ ⟨v1, pl1, rfl, rfl⟩
      refine .nil ?_
      have hlo : (out ++ lit).length ≤ 900000 := by rw [List.length_append]; omega
      obtain ⟨o1, ho1⟩ : ∃ o1, out ++ lit = o1 := ⟨_, rfl⟩
      rw [ho1] at h4 hlo ⊢
      refine .keep [0, 3, 4, 5] ?_
      refine .seq ?_
      have ho2 : ((pkS clip s a v1 pl1 o1 K).set 2 (.row (v1 + 1) 1 (bs (o1 ++ [UInt8.ofNat (2 * (n - 3) + 1)])) false))[2]? = some (.row (v1 + 1) 1 (bs (o1 ++ [UInt8.ofNat (2 * (n - 3) + 1)])) false) := rfl
      have hc17 := c17 (n0 := a - p - 1) ho2 (by omega) (by simp; omega)
      refine .drawnJ 1 (fun st => st[1]? = some (pkO clip s a v1 pl1)) [11, 20, 23] rfl (by decide) (by decide +kernel) rfl ?_
      refine .ds rfl rfl rfl (fun _ => (op_mv (by first | exact (rfl : _ = AV.ptr _ _) | exact (rfl : _ = AV.nilp)))) ?_
      refine .ds rfl rfl rfl (fun _ => (op_mv (by first | exact (rfl : _ = AV.ptr _ _) | exact (rfl : _ = AV.nilp)))) ?_
      refine .ds rfl rfl rfl (fun _ => (op_nilCheck rfl (.inl ⟨_, _, rfl⟩))) ?_
      refine .ds rfl rfl rfl (fun _ => (op_fieldAddr rfl (D := D69) rfl rfl rfl rfl (by decide))) ?_
      refine .dp 0 rfl rfl rfl (by decide +kernel) rfl (op_load rfl (g1 a v1 pl1 o1 K) (D := D22) rfl rfl rfl) ?_
      refine .ds rfl rfl rfl (fun _ => (op_mv (rfl : _ = AV.int _ _))) ?_
      refine .ds rfl rfl rfl (fun _ => (op_sub rfl rfl (by simp only [Rm.lo]; omega) (by simp only [Rm.hi]; omega))) ?_
      refine .ds rfl rfl rfl (fun _ => (op_mul rfl rfl (by simp only [Rm.lo]; omega) (by simp only [Rm.hi]; omega))) ?_
      refine .ds rfl rfl rfl (fun _ => (op_add rfl rfl (by simp only [Rm.lo]; omega) (by simp only [Rm.hi]; omega))) ?_
      refine .ds rfl rfl rfl (fun _ => (op_convInt (r := ((UInt8.ofNat (2 * (n - 3) + 1)).toNat : Int)) rfl (S := D3) (D := D5) rfl rfl rfl (byte_wrap (by omega)))) ?_
      refine .dp 0 rfl rfl rfl (by decide +kernel) rfl (op_lit (S := D22) (D := D5) (vs := [.int .u8 (UInt8.ofNat (2 * (n - 3) + 1)).toNat]) rfl rfl rfl rfl rfl (by decide) rfl ⟨rfl, rfl⟩) ?_
      refine .deJ 0 rfl rfl rfl rfl rfl (op_appB (l2 := [UInt8.ofNat (2 * (n - 3) + 1)]) rfl (g2 a v1 pl1 o1 K) (.sl _ _) (by simp; omega)) (fun _ => rfl) ?_
      try dsimp only [List.set, setR, D31, D53, D57, D69, D86, D95, D22, D3, D9, List.take_succ_cons, List.take_zero, List.drop_succ_cons, List.drop_zero, List.length_cons, List.length_nil, List.nil_append, List.cons_append, Nat.reduceAdd, Nat.zero_add]
      refine .ds rfl rfl rfl (fun _ => (op_mv (by first | exact (rfl : _ = AV.ptr _ _) | exact (rfl : _ = AV.nilp)))) ?_
      refine .ds rfl rfl rfl (fun _ => (op_nilCheck rfl (.inl ⟨_, _, rfl⟩))) ?_
      refine .ds rfl rfl rfl (fun _ => (op_fieldAddr rfl (D := D69) rfl rfl rfl rfl (by decide))) ?_
      refine .dJ rfl rfl rfl (by decide +kernel) (fun _ hJ => (op_load rfl hJ (D := D3) rfl rfl rfl)) ?_
      refine .ds rfl rfl rfl (fun _ => (op_mv (rfl : _ = AV.int _ _))) ?_
      refine .ds rfl rfl rfl (fun _ => (op_sub rfl rfl (by simp only [Rm.lo]; omega) (by simp only [Rm.hi]; omega))) ?_
      refine .ds rfl rfl rfl (fun _ => (op_sub rfl rfl (by simp only [Rm.lo]; omega) (by simp only [Rm.hi]; omega))) ?_
      refine .ds rfl rfl rfl (fun _ => (op_convInt (r := ((a - p - 1 : Nat) : Int)) rfl (S := D3) (D := D46) rfl rfl rfl (by rw [show (a : Int) - p - 1 = ((a - p - 1 : Nat) : Int) by omega]; exact wrap_in (by simp only [lo]; omega) (by simp only [hi]; omega)))) ?_
      refine .deJ 1 rfl rfl rfl rfl rfl (op_callJ Tryd.func17 rfl rfl rfl rfl hc17) (fun h => absurd h (by decide)) ?_
      refine .ds rfl rfl rfl (fun _ => (op_nilCheck rfl (.inl ⟨_, _, rfl⟩))) ?_
      refine .ds rfl rfl rfl (fun _ => (op_fieldAddr rfl (D := D69) rfl rfl rfl rfl (by decide))) ?_
      refine .deJ0 2 rfl rfl rfl rfl rfl (op_store1 rfl rfl (D := D22) rfl (rfl : _ = AV.row _ _) rfl rfl (Nat.le_of_ble_eq_true rfl) rfl) (fun h => absurd h (by decide)) ?_
      try dsimp only [List.set, setR, D31, D53, D57, D69, D86, D95, D22, D3, D9, List.take_succ_cons, List.take_zero, List.drop_succ_cons, List.drop_zero, List.length_cons, List.length_nil, List.nil_append, List.cons_append, Nat.reduceAdd, Nat.zero_add]
      refine .nil rfl rfl ?_
      obtain ⟨v2, hv2⟩ : ∃ v2, v1 + 1 + 1 + (varB (a - p - 1)).length = v2 := ⟨_, rfl⟩
      obtain ⟨o2, ho2'⟩ : ∃ o2, o1 ++ [UInt8.ofNat (2 * (n - 3) + 1)] ++ varB (a - p - 1) = o2 := ⟨_, rfl⟩
      refine .keep [0, 3, 5] ?_
      have e3 : pkS clip s a (v1 + 1 + 1 + (varB (a - p - 1)).length) pl1 (o1 ++ [UInt8.ofNat (2 * (n - 3) + 1)] ++ varB (a - p - 1)) K = pkS clip s a v2 pl1 o2 K := by rw [hv2, ho2']
      refine .stEq e3 ?_
      rw [ho2'] at h4
      refine .seq ?_
      refine .region rfl ?_
      refine .o1 rfl rfl (op_mv (by first | exact (rfl : _ = AV.ptr _ _) | exact (rfl : _ = AV.nilp))) ?_
      refine .o1 rfl rfl (op_mv (rfl : _ = AV.int _ _)) ?_
      refine .oq rfl rfl (op_call Tryd.func29 rfl rfl rfl rfl (c29 (n := n) h6 hs r6)) ?_
      rintro _ _ ⟨K', hK', rfl, rfl⟩
      refine .nil ?_
      refine .region rfl ?_
      refine .o1 rfl rfl (op_mv (by first | exact (rfl : _ = AV.ptr _ _) | exact (rfl : _ = AV.nilp))) ?_
      refine .o1 rfl rfl (op_mv (by first | exact (rfl : _ = AV.ptr _ _) | exact (rfl : _ = AV.nilp))) ?_
      refine .o1 rfl rfl (op_nilCheck rfl (.inl ⟨_, _, rfl⟩)) ?_
      refine .o1 rfl rfl (op_fieldAddr rfl (D := D69) rfl rfl rfl rfl (by decide)) ?_
      refine .o1 rfl rfl (op_load rfl (g1 (a + n) v2 pl1 o2 K') (D := D3) rfl rfl rfl) ?_
      refine .o1 rfl rfl (op_nilCheck rfl (.inl ⟨_, _, rfl⟩)) ?_
      refine .o1 rfl rfl (op_fieldAddr rfl (D := D69) rfl rfl rfl rfl (by decide)) ?_
      refine .o0 rfl rfl (op_store1 rfl (g1 (a + n) v2 pl1 o2 K') (D := D3) rfl (by first | exact (rfl : _ = AV.int _ _) | exact (rfl : _ = AV.bool _) | exact (rfl : _ = AV.str _) | exact (rfl : _ = AV.sl _ _) | exact (rfl : _ = AV.row _ _) | exact (rfl : _ = AV.ptr _ _) | exact (rfl : _ = AV.tup _) | exact (rfl : _ = AV.agg _) | exact (rfl : _ = AV.fn _ _ _) | exact (rfl : _ = AV.nilp) | exact (rfl : _ = AV.mp _) | exact (rfl : _ = AV.vptr _) | exact (rfl : _ = AV.any)) rfl rfl (Nat.le_of_ble_eq_true rfl) rfl) ?_
      refine .nil ?_
      refine .inBlock ?_
      refine .keep [0, 3] ?_
      refine again (f, a + n, a + n, v2, o2, K') ⟨r6, by simp only; omega, Nat.le_refl _, h4, ?_, hK'⟩ (by simp only; omega)
      simp only
      rw [← ho2', ← ho1]
      simp only [List.length_append, List.length_cons, List.length_nil]
      omega
  · have hge : s.length ≤ a := by simp [bs_length] at h; omega
    rw [if_pos hge] at h4
    have hal : a = s.length := by omega
    have hc30 := c30 (g1 a v pl out K) (g2 a v pl out K) h3 h1 hs (by omega)
    simp only [tl_pkS] at hc30
    rw [show (s.take a) = s by rw [hal, List.take_length], h4] at hc30
    refine .exit rfl ?_
    refine .seq ?_
    refine .region rfl ?_
    refine .o1 rfl rfl (op_mv (by first | exact (rfl : _ = AV.ptr _ _) | exact (rfl : _ = AV.nilp))) ?_
    refine .oq rfl rfl (op_call Tryd.func30 rfl rfl rfl rfl hc30) ?_
    rintro _ _ ⟨v1, pl1, rfl, rfl⟩
    refine .nil ?_
    refine .seq ?_
    refine .region rfl ?_
    refine .o1 rfl rfl (op_mv (by first | exact (rfl : _ = AV.ptr _ _) | exact (rfl : _ = AV.nilp))) ?_
    refine .o1 rfl rfl (op_nilCheck rfl (.inl ⟨_, _, rfl⟩)) ?_
    refine .o1 rfl rfl (op_fieldAddr rfl (D := D69) rfl rfl rfl rfl (by decide)) ?_
    refine .o1 rfl rfl (op_load rfl (g1 a v1 pl1 (packS s) K) (D := D22) rfl rfl rfl) ?_
    refine .o1 rfl rfl (op_as (rfl : _ = AV.row _ _)) ?_
    refine .nil ?_
    refine .ret ?_
    exact ⟨_, _, _, .cons (.tmpO _ rfl) .nil, .row (.row 0 0) 2 v1 1 (bs (packS s)) false rfl (Nat.zero_le _) (fun _ => rfl) (okLL_bs _ _) .row, rfl, rfl⟩
end Rm
