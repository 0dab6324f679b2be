/- The engine, part 11: regions whose operations come in any order that their edges let in. The engine, part 12: the rules for regions that come in any order, told one operation after the other. The engine, part 13: frames told by what was put last. -/
import Derived.Test.YtibfijfogkfphaaDoorG2
import Derived.Orders

namespace Rm
open Go
open Go.RowKit

/-- 'j' stands ahead of 'i', always. -/
def aftr (ops : Array Oper) (i j : Nat) : Bool := ((ops[i]?).map fun o => o.after.any fun e => Region.binds .any e && e.on == j).getD false
def dstOf (ops : Array Oper) (j : Nat) : Option Tmp := (ops[j]?).bind (·.dst)
def tmpsOf (o : Oper) : List Tmp := o.op.operands.toList.filterMap fun | .tmp t => some t | _ => none
def guardOk (ops : Array Oper) (i : Nat) (o : Oper) : Bool := match o.guard with
  | none => true
  | some (q, _) => aftr ops i q
/-- What is asked of the edges. -/
def drawOk (ops : Array Oper) (effs : List Nat) : Bool :=
  ((List.range ops.size).all fun i => (List.range ops.size).all fun j => i == j || dstOf ops i == none || dstOf ops i != dstOf ops j) &&
  ((List.range ops.size).all fun i => ((ops[i]?).map fun o => o.after.all fun e => !Region.binds .any e || decide (e.on < i)).getD true) &&
  ((List.range ops.size).all fun i => ((ops[i]?).map fun o => guardOk ops i o && (tmpsOf o).all fun t => (List.range ops.size).all fun j => dstOf ops j != some t || (decide (j < i) && aftr ops i j) || j == i || (decide (i < j) && aftr ops j i)).getD true) &&
  ((List.range effs.length).all fun c => c == 0 || aftr ops (effs.getD c 0) (effs.getD (c - 1) 0)) &&
  (effs.all fun e => decide (e < ops.size)) && ((List.range effs.length).all fun c => (List.range effs.length).all fun c' => c == c' || effs.getD c 0 != effs.getD c' 0)
/-- All that stands ahead of an operation, as bits. -/
def mstep (acc : List Nat) (o : Oper) : List Nat := acc ++ [o.after.toList.foldl (fun m e => if Region.binds .any e then (m ||| 1 <<< e.on) ||| acc.getD e.on 0 else m) 0]
def masks (ops : Array Oper) : List Nat := ops.toList.foldl mstep []
def aftT (ops : Array Oper) (i j : Nat) : Bool := ((masks ops).getD i 0).testBit j
theorem bits_fold (acc : List Nat) (j : Nat) : ∀ (l : List Edge) (m : Nat), (l.foldl (fun m e => if Region.binds .any e then (m ||| 1 <<< e.on) ||| acc.getD e.on 0 else m) m).testBit j = true → m.testBit j = true ∨ ∃ e ∈ l, Region.binds .any e = true ∧ (e.on = j ∨ (acc.getD e.on 0).testBit j = true)
  | [], m, h => .inl h
  | e :: l, m, h => by
    rw [List.foldl_cons] at h
    rcases bits_fold acc j l _ h with h | ⟨e', he', h'⟩
    · split at h
      · rename_i hb
        rw [Nat.testBit_or, Nat.testBit_or, Nat.one_shiftLeft, Nat.testBit_two_pow] at h
        simp only [Bool.or_eq_true, decide_eq_true_eq] at h
        rcases h with (h | h) | h
        · exact .inl h
        · exact .inr ⟨e, by simp, hb, .inl h⟩
        · exact .inr ⟨e, by simp, hb, .inr h⟩
      · exact .inl h
    · exact .inr ⟨e', by simp [he'], h'⟩
theorem masks_spec : ∀ (l pre : List Oper) (acc : List Nat), acc.length = pre.length →
    (∀ (i j : Nat), (acc.getD i 0).testBit j = true → ∃ o e, pre[i]? = some o ∧ e ∈ o.after.toList ∧ Region.binds .any e = true ∧ (e.on = j ∨ (e.on < i ∧ (acc.getD e.on 0).testBit j = true))) →
    ∀ (i j : Nat), ((l.foldl mstep acc).getD i 0).testBit j = true → ∃ o e, (pre ++ l)[i]? = some o ∧ e ∈ o.after.toList ∧ Region.binds .any e = true ∧ (e.on = j ∨ (e.on < i ∧ ((l.foldl mstep acc).getD e.on 0).testBit j = true))
  | [], pre, acc, _, h, i, j, hb => by simpa using h i j hb
  | o :: l, pre, acc, hl, h, i, j, hb => by
    rw [List.foldl_cons] at hb ⊢
    have := masks_spec l (pre ++ [o]) (mstep acc o) (by simp [mstep, hl]) (fun i j hb => by
      have hz : ∀ (x d : Nat), (acc.getD x 0).testBit d = true → x < acc.length := fun x d hh => by
        rcases Nat.lt_or_ge x acc.length with hlt | hge
        · exact hlt
        · rw [List.getD_eq_getElem?_getD, List.getElem?_eq_none hge] at hh; simp at hh
      have hg : ∀ x, x < acc.length → (mstep acc o).getD x 0 = acc.getD x 0 := fun x hx => by
        simp only [mstep, List.getD_eq_getElem?_getD]
        rw [List.getElem?_append_left hx]
      rcases Nat.lt_trichotomy i acc.length with hi | hi | hi
      · rw [hg i hi] at hb
        obtain ⟨o', e, h1, h2, h3, h4⟩ := h i j hb
        refine ⟨o', e, by rw [List.getElem?_append_left (by omega)]; exact h1, h2, h3, ?_⟩
        rcases h4 with h4 | ⟨h4, h5⟩
        · exact .inl h4
        · exact .inr ⟨h4, by rw [hg _ (by omega)]; exact h5⟩
      · subst hi
        have hb' : (o.after.toList.foldl (fun m e => if Region.binds .any e then (m ||| 1 <<< e.on) ||| acc.getD e.on 0 else m) 0).testBit j = true := by
          simpa [mstep, List.getD_eq_getElem?_getD] using hb
        rcases bits_fold acc j _ _ hb' with h0 | ⟨e, he, h3, h4⟩
        · simp at h0
        · refine ⟨o, e, by rw [List.getElem?_append_right (by omega), hl]; simp, he, h3, ?_⟩
          rcases h4 with h4 | h4
          · exact .inl h4
          · have := hz _ _ h4
            exact .inr ⟨this, by rw [hg _ this]; exact h4⟩
      · have : (mstep acc o).getD i 0 = 0 := by
          rw [List.getD_eq_getElem?_getD, List.getElem?_eq_none (by simp [mstep]; omega)]; rfl
        rw [this] at hb; simp at hb) i j hb
    simpa using this
/-- Where a set of operations is closed, and all that stands right ahead of one is in it, so is all that stands ahead of it. -/
theorem aftT_closed {ops : Array Oper} {L : Nat → Bool} (hcl : ∀ i j, L i = true → aftr ops i j = true → L j = true) : ∀ (i j : Nat), (∀ j, aftr ops i j = true → L j = true) → aftT ops i j = true → L j = true := by
  intro i
  induction i using Nat.strongRecOn with
  | _ i ih =>
    intro j hpre h
    obtain ⟨o, e, h1, h2, h3, h4⟩ := masks_spec ops.toList [] [] rfl (fun i j hb => by simp at hb) i j h
    have ha : aftr ops i e.on = true := by
      have : ops[i]? = some o := by simpa using h1
      simp only [aftr, this, Option.map_some, Option.getD_some]
      exact Array.any_eq_true'.2 ⟨e, by simpa using h2, by simp [h3]⟩
    rcases h4 with h4 | ⟨h4, h5⟩
    · rw [← h4]; exact hpre _ ha
    · exact ih e.on h4 j (fun j' hj' => hcl _ _ (hpre _ ha) hj') h5
/-- Which states an operation may meet. -/
def csOf (ops : Array Oper) (effs : List Nat) (i : Nat) : List Nat :=
  (List.range (effs.length + 1)).filter fun c => (List.range effs.length).all fun c' => (!aftT ops i (effs.getD c' 0) || decide (c' < c)) && (!aftT ops (effs.getD c' 0) i || decide (c ≤ c'))

/-- What is shown of one operation. -/
def ObD (E : Env) (ops : Array Oper) (effs : List Nat) (S : List (List Ob)) (i : Nat) (o : Oper) (fr : List AV) (x : AV) : Prop :=
  (∃ j d want, o.guard = some (j, want) ∧ dstOf ops j = some d ∧ offA want (fr.getD d .any) = true ∧ x = .tup [] ∧ effs.contains i = false) ∨
  ((∀ j want, o.guard = some (j, want) → ∃ d, dstOf ops j = some d ∧ fr.getD d .any = .bool want) ∧
    ((effs.contains i = false ∧ ∀ c ∈ csOf ops effs i, OpOk E o (av E fr) (S.getD c []) (Just x (S.getD c []))) ∨
     ∃ c, effs[c]? = some i ∧ OpOk E o (av E fr) (S.getD c []) (Just x (S.getD (c + 1) []))))

inductive Chain (E : Env) (ops : Array Oper) (effs : List Nat) (S : List (List Ob)) : Nat → List Oper → List AV → List AV → List AV → Prop where
  | nil (i : Nat) (fr : List AV) : Chain E ops effs S i [] fr [] fr
  | cons (i : Nat) (o : Oper) (l : List Oper) (fr fr' V : List AV) (x : AV) (h : ObD E ops effs S i o fr x) (k : Chain E ops effs S (i + 1) l (putA fr o.dst x) V fr') : Chain E ops effs S i (o :: l) fr (x :: V) fr'

def foldPut (fr : List AV) : List Oper → List AV → Nat → List AV
  | o :: l, x :: V, j + 1 => foldPut (putA fr o.dst x) l V j
  | _, _, _ => fr
theorem Chain.spec {E : Env} {ops : Array Oper} {effs : List Nat} {S : List (List Ob)} {i : Nat} {l : List Oper} {fr V fr' : List AV} (h : Chain E ops effs S i l fr V fr') :
    V.length = l.length ∧ (∀ j o x, l[j]? = some o → V[j]? = some x → ObD E ops effs S (i + j) o (foldPut fr l V j) x) ∧ fr' = foldPut fr l V l.length := by
  induction h with
  | nil i fr => exact ⟨rfl, fun j o x h => by simp at h, rfl⟩
  | cons i o l fr fr' V x h k ih =>
    refine ⟨by simp [ih.1], fun j o' x' hj hx => ?_, ih.2.2⟩
    cases j with
    | zero => simp at hj hx; subst hj; subst hx; exact h
    | succ j =>
      have := ih.2.1 j o' x' (by simpa using hj) (by simpa using hx)
      rw [Nat.add_assoc, Nat.add_comm 1 j] at this
      exact this
theorem foldPut_succ : ∀ (l : List Oper) (V fr : List AV) (j : Nat) (o : Oper) (x : AV), l[j]? = some o → V[j]? = some x → foldPut fr l V (j + 1) = putA (foldPut fr l V j) o.dst x
  | [], _, _, _, _, _, h, _ => by simp at h
  | _ :: _, [], _, _, _, _, _, h => by simp at h
  | o' :: l, x' :: V, fr, 0, o, x, h, h' => by
    simp at h h'
    subst h; subst h'
    cases l <;> cases V <;> rfl
  | o' :: l, x' :: V, fr, j + 1, o, x, h, h' => by
    show foldPut (putA fr o'.dst x') l V (j + 1) = _
    rw [foldPut_succ l V _ j o x (by simpa using h) (by simpa using h')]
    rfl

section draw
variable {E : Env} {n0 : Nat} {ops : Array Oper} {effs : List Nat} {S : List (List Ob)} {k : List Item} {fr0 : List AV} {R : List AV → List Ob → Prop}

/-- What stands at a place when these operations have been carried out. -/
def valL (ops : Array Oper) (fr0 V : List AV) (L : Nat → Bool) (t : Tmp) : AV :=
  match (List.range ops.size).find? fun j => L j && dstOf ops j == some t with
  | some j => V.getD j .any
  | none => fr0.getD t .any
def frL (ops : Array Oper) (fr0 V : List AV) (L : Nat → Bool) : List AV := (List.range fr0.length).map (valL ops fr0 V L)

structure Edges (ops : Array Oper) (effs : List Nat) : Prop where
  dsts : ∀ i j t, dstOf ops i = some t → dstOf ops j = some t → i = j
  back : ∀ i j, aftr ops i j = true → j < i
  reads : ∀ i o t j, ops[i]? = some o → t ∈ tmpsOf o → dstOf ops j = some t → j ≠ i → (j < i ∧ aftr ops i j = true) ∨ (i < j ∧ aftr ops j i = true)
  guards : ∀ i o q want, ops[i]? = some o → o.guard = some (q, want) → aftr ops i q = true
  chain : ∀ c e e', effs[c]? = some e → effs[c + 1]? = some e' → aftr ops e' e = true
  effLt : ∀ (c : Nat) e, effs[c]? = some e → e < ops.size
  effNe : ∀ (c c' : Nat) e, effs[c]? = some e → effs[c']? = some e → c = c'
theorem dst_lt {j : Nat} {t : Tmp} (h : dstOf ops j = some t) : j < ops.size := by
  rcases Nat.lt_or_ge j ops.size with hl | hl
  · exact hl
  · simp [dstOf, Array.getElem?_eq_none hl] at h
theorem Edges.of (h : drawOk ops effs = true) : Edges ops effs := by
  simp only [drawOk, Bool.and_eq_true] at h
  obtain ⟨⟨⟨⟨⟨h1, h2⟩, h3⟩, h4⟩, h5⟩, h6⟩ := h
  simp only [List.all_eq_true, List.mem_range] at h1 h2 h3 h4 h5 h6
  refine ⟨fun i j t hi hj => ?_, fun i j h => ?_, fun i o t j ho ht hj hne => ?_, fun i o q want ho hg => ?_, fun c e e' he he' => ?_, fun c e he => ?_, fun c c' e he he' => ?_⟩
  · have := h1 i (dst_lt hi) j (dst_lt hj)
    simp [hi, hj] at this
    exact this
  · unfold aftr at h
    cases ho : ops[i]? with
    | none => simp [ho] at h
    | some o =>
      have hlt := (Array.getElem?_eq_some_iff.1 ho).1
      have h2' := h2 i hlt
      simp only [ho, Option.map_some, Option.getD_some] at h h2'
      obtain ⟨e, he, hb⟩ := Array.any_eq_true'.1 h
      simp only [Bool.and_eq_true, beq_iff_eq] at hb
      have := Array.all_eq_true_iff_forall_mem.1 h2' e he
      simp [hb.1, hb.2] at this
      exact this
  · have hlt := (Array.getElem?_eq_some_iff.1 ho).1
    have := h3 i hlt
    simp only [ho, Option.map_some, Option.getD_some, Bool.and_eq_true, List.all_eq_true, List.mem_range] at this
    have := this.2 t ht j (dst_lt hj)
    simp [hj, hne] at this
    exact this
  · have hlt := (Array.getElem?_eq_some_iff.1 ho).1
    have := h3 i hlt
    simp only [ho, Option.map_some, Option.getD_some, Bool.and_eq_true] at this
    have := this.1
    simpa [guardOk, hg] using this
  · have hlt := (List.getElem?_eq_some_iff.1 he').1
    have := h4 (c + 1) hlt
    simpa [List.getD_eq_getElem?_getD, he, he'] using this
  · have := h5 e (List.mem_of_getElem? he)
    simpa using this
  · have hl := (List.getElem?_eq_some_iff.1 he).1
    have hl' := (List.getElem?_eq_some_iff.1 he').1
    have := h6 c hl c' hl'
    simpa [List.getD_eq_getElem?_getD, he, he'] using this

theorem valL_some (hE : Edges ops effs) {V : List AV} {L : Nat → Bool} {j : Nat} {t : Tmp} (hj : dstOf ops j = some t) (hL : L j = true) : valL ops fr0 V L t = V.getD j .any := by
  unfold valL
  cases hf : (List.range ops.size).find? fun j => L j && dstOf ops j == some t with
  | none =>
    have := List.find?_eq_none.1 hf j (by simpa using dst_lt hj)
    simp [hL, hj] at this
  | some j' =>
    have h1 := List.find?_some hf
    simp only [Bool.and_eq_true, beq_iff_eq] at h1
    rw [hE.dsts j' j t h1.2 hj]
theorem valL_none {V : List AV} {L : Nat → Bool} {t : Tmp} (h : ∀ j, dstOf ops j = some t → L j = false) : valL ops fr0 V L t = fr0.getD t .any := by
  unfold valL
  cases hf : (List.range ops.size).find? fun j => L j && dstOf ops j == some t with
  | none => rfl
  | some j' =>
    have h1 := List.find?_some hf
    simp only [Bool.and_eq_true, beq_iff_eq] at h1
    rw [h j' h1.2] at h1
    cases h1.1
theorem frL_getD {V : List AV} {L : Nat → Bool} {t : Tmp} (ht : t < fr0.length) : (frL ops fr0 V L).getD t .any = valL ops fr0 V L t := by
  simp [frL, List.getD_eq_getElem?_getD, ht]
theorem frL_getD_out {V : List AV} {L : Nat → Bool} {t : Tmp} (ht : ¬ t < fr0.length) : (frL ops fr0 V L).getD t .any = .any := by
  have : (frL ops fr0 V L).length = fr0.length := by simp [frL]
  have h2 : (frL ops fr0 V L)[t]? = none := List.getElem?_eq_none (by rw [this]; exact Nat.le_of_not_lt ht)
  rw [List.getD_eq_getElem?_getD, h2]
  rfl
theorem frL_put (hE : Edges ops effs) {V : List AV} {L L' : Nat → Bool} {i : Nat} {o : Oper} {x : AV} (ho : ops[i]? = some o) (hx : V[i]? = some x) (hi : L i = false) (hL' : ∀ j, L' j = (L j || j == i)) : frL ops fr0 V L' = putA (frL ops fr0 V L) o.dst x := by
  have hd : dstOf ops i = o.dst := by simp [dstOf, ho]
  cases hdst : o.dst with
  | none =>
    rw [hdst] at hd
    simp only [putA, frL]
    apply List.map_congr_left
    intro t _
    by_cases hex : ∃ j, dstOf ops j = some t ∧ L j = true
    · obtain ⟨j, hj, hLj⟩ := hex
      rw [valL_some hE hj hLj, valL_some hE hj (by rw [hL', hLj]; rfl)]
    · have hno : ∀ j, dstOf ops j = some t → L j = false := fun j hj => by
        cases h : L j
        · rfl
        · exact absurd ⟨j, hj, h⟩ hex
      rw [valL_none hno, valL_none fun j hj => by
        rw [hL', hno j hj]
        have : j ≠ i := fun e => by subst e; rw [hd] at hj; cases hj
        simp [this]]
  | some d =>
    rw [hdst] at hd
    simp only [putA]
    apply List.ext_getElem?
    intro t
    rw [List.getElem?_set]
    simp only [frL, List.getElem?_map, List.length_map, List.length_range]
    by_cases hdt : d = t
    · subst hdt
      rw [if_pos rfl]
      by_cases hlt : d < fr0.length
      · rw [if_pos hlt, List.getElem?_range hlt, Option.map_some, valL_some hE hd (by rw [hL']; simp)]
        simp [List.getD_eq_getElem?_getD, hx]
      · rw [if_neg hlt, List.getElem?_eq_none (by simpa using hlt)]
        rfl
    · rw [if_neg hdt]
      by_cases hlt : t < fr0.length
      · rw [List.getElem?_range hlt, Option.map_some, Option.map_some]
        congr 1
        by_cases hex : ∃ j, dstOf ops j = some t ∧ L j = true
        · obtain ⟨j, hj, hLj⟩ := hex
          rw [valL_some hE hj hLj, valL_some hE hj (by rw [hL', hLj]; rfl)]
        · have hno : ∀ j, dstOf ops j = some t → L j = false := fun j hj => by
            cases h : L j
            · rfl
            · exact absurd ⟨j, hj, h⟩ hex
          rw [valL_none hno, valL_none fun j hj => by
            rw [hL', hno j hj]
            have : j ≠ i := fun e => by subst e; rw [hd] at hj; cases hj; exact hdt rfl
            simp [this]]
      · rw [List.getElem?_eq_none (by simpa using hlt)]
        rfl

theorem frL_none {V : List AV} : frL ops fr0 V (fun _ => false) = fr0 := by
  apply List.ext_getElem?
  intro t
  simp only [frL, List.getElem?_map]
  by_cases hlt : t < fr0.length
  · rw [List.getElem?_range hlt, Option.map_some, valL_none fun _ _ => rfl]
    simp [List.getD_eq_getElem?_getD, hlt]
  · rw [List.getElem?_eq_none (by simpa using hlt), List.getElem?_eq_none (by omega)]
    rfl
theorem frL_congr {V : List AV} {L L' : Nat → Bool} (h : ∀ j, j < ops.size → L j = L' j) : frL ops fr0 V L = frL ops fr0 V L' := by
  unfold frL
  apply List.map_congr_left
  intro t _
  unfold valL
  have : (List.range ops.size).find? (fun j => L j && dstOf ops j == some t) = (List.range ops.size).find? (fun j => L' j && dstOf ops j == some t) := by
    have key : ∀ l : List Nat, (∀ j ∈ l, j < ops.size) → l.find? (fun j => L j && dstOf ops j == some t) = l.find? (fun j => L' j && dstOf ops j == some t) := by
      intro l
      induction l with
      | nil => intro _; rfl
      | cons j l ih =>
        intro hl
        rw [List.find?_cons, List.find?_cons, h j (hl j (by simp)), ih fun j hj => hl j (by simp [hj])]
    exact key _ fun j hj => by simpa using hj
  rw [this]
theorem frL_text (hE : Edges ops effs) {V : List AV} (hV : V.length = ops.size) : ∀ i, i ≤ ops.size → foldPut fr0 ops.toList V i = frL ops fr0 V (fun j => decide (j < i))
  | 0, _ => by
    have : foldPut fr0 ops.toList V 0 = fr0 := by cases ops.toList <;> cases V <;> rfl
    rw [this]
    conv => lhs; rw [← frL_none (ops := ops) (V := V) (fr0 := fr0)]
    exact frL_congr fun j _ => by simp
  | i + 1, hi => by
    have ho : ops.toList[i]? = some (ops[i]'(by omega)) := by simp
    have hx : V[i]? = some (V[i]'(by omega)) := by simp
    rw [foldPut_succ _ _ _ i _ _ ho hx, frL_text hE hV i (by omega)]
    refine (frL_put hE (L := fun j => decide (j < i)) (i := i) (by simp) hx (by simp) fun j => ?_).symm
    rw [Bool.eq_iff_iff]
    simp
    omega

/-- How many effects there have been. -/
def cnt (effs : List Nat) (L : Nat → Bool) : Nat := (effs.filter L).length
theorem cnt_prefix {L : Nat → Bool} (hc : ∀ c, c + 1 < effs.length → L (effs.getD (c + 1) 0) = true → L (effs.getD c 0) = true) : ∀ c, c < effs.length → (L (effs.getD c 0) = true ↔ c < cnt effs L) := by
  induction effs with
  | nil => intro c h; simp at h
  | cons e es ih =>
    have hc' : ∀ c, c + 1 < es.length → L (es.getD (c + 1) 0) = true → L (es.getD c 0) = true := fun c h h' => by simpa using hc (c + 1) (by simpa using h) (by simpa using h')
    have hdown : ∀ c, c < es.length → L (es.getD c 0) = true → L e = true := by
      intro c
      induction c with
      | zero => intro h h'; simpa using hc 0 (by simpa using h) (by simpa using h')
      | succ c ihc => intro h h'; exact ihc (by omega) (hc' c h h')
    intro c h
    by_cases he : L e = true
    · have : cnt (e :: es) L = cnt es L + 1 := by simp [cnt, he]
      rw [this]
      cases c with
      | zero => simp [he]
      | succ c =>
        have := ih hc' c (by simpa using h)
        simp only [List.getD_cons_succ]
        rw [this]; omega
    · have he' : L e = false := by simpa using he
      have h0 : es.filter L = [] := by
        rw [List.filter_eq_nil_iff]
        intro x hx
        obtain ⟨i, hi⟩ := List.getElem?_of_mem hx
        have hlt := (List.getElem?_eq_some_iff.1 hi).1
        intro hLx
        exact he (hdown i hlt (by simp [List.getD_eq_getElem?_getD, hi, hLx]))
      have : cnt (e :: es) L = 0 := by simp [cnt, he', h0]
      rw [this]
      cases c with
      | zero => simp [he']
      | succ c =>
        simp only [List.getD_cons_succ]
        constructor
        · intro h'; exact absurd (hdown c (by simpa using h) h') he
        · intro h'; omega

def un (L : Nat → Bool) : Nat → Nat
  | 0 => 0
  | n + 1 => un L n + if L n then 0 else 1
theorem un_same {L L' : Nat → Bool} : ∀ n, (∀ j, j < n → L' j = L j) → un L' n = un L n
  | 0, _ => rfl
  | n + 1, h => by simp only [un]; rw [un_same n (fun j hj => h j (by omega)), h n (by omega)]
theorem un_set {L L' : Nat → Bool} {i : Nat} (hi : L i = false) (h : ∀ j, L' j = (L j || j == i)) : ∀ n, i < n → un L' n + 1 = un L n
  | 0, hn => by omega
  | n + 1, hn => by
    simp only [un]
    by_cases e : i = n
    · subst e
      have hsame : un L' i = un L i := un_same i fun j hj => by
        have hne : (j == i) = false := by simp; omega
        rw [h j, hne, Bool.or_false]
      rw [hsame, h i]
      simp [hi]
    · have := un_set hi h n (by omega)
      rw [h n]
      have hne : (n == i) = false := by simp; omega
      rw [hne, Bool.or_false]
      omega
theorem un_zero {L : Nat → Bool} : ∀ n, un L n = 0 → ∀ j, j < n → L j = true
  | 0, _, j, hj => by omega
  | n + 1, h, j, hj => by
    simp only [un] at h
    by_cases e : j = n
    · subst e
      cases hL : L j
      · simp [hL] at h
      · rfl
    · exact un_zero n (by omega) j (by omega)

theorem mem_tmpsOf {o : Oper} {t : Tmp} (h : Operand.tmp t ∈ o.op.operands) : t ∈ tmpsOf o := by
  unfold tmpsOf
  rw [List.mem_filterMap]
  exact ⟨.tmp t, by simpa using h, rfl⟩

theorem Rel.drawn {C : Cx} {β : List BV} {m : Mem} {fr : List AV} {st : List Ob} {a : Act} {w : World} (d : Nat) (h : Rel C β m fr st a w) : Rel C β m fr st a { w with drawn := d } :=
  ⟨h.pre, h.fresh, ⟨h.inv.len, h.inv.mem, fun o bv ob hb ho => (h.inv.obj o bv ob hb ho).congr (BLe.refl _) (MemLe.refl _) (fun _ _ _ e => e) fun _ _ => rfl, h.inv.apart, h.inv.lt⟩, ⟨h.keep.os, h.keep.tape, h.keep.output, h.keep.size, h.keep.block⟩, h.new, h.frm, h.dfr⟩

theorem draw_run (hE : Edges ops effs) {V : List AV} (hV : V.length = ops.size) (hOb : ∀ j o x, ops[j]? = some o → V[j]? = some x → ObD E ops effs S j o (frL ops fr0 V (fun i => decide (i < j))) x)
    (g : AGo E n0 k (frL ops fr0 V (fun _ => true)) (S.getD effs.length []) R) :
    ∀ (fuel t : Nat) (listed : Array Bool), listed.size = ops.size → (∀ i j, listed.getD i false = true → aftr ops i j = true → listed.getD j false = true) → un (fun j => listed.getD j false) ops.size ≤ fuel →
      AGo E n0 (.inRegion ops (Region.linearise.go .any ops fuel t listed []) :: k) (frL ops fr0 V (fun j => listed.getD j false)) (S.getD (cnt effs (fun j => listed.getD j false)) []) R := by
  have fin : ∀ (listed : Array Bool), (∀ j, j < ops.size → listed.getD j false = true) → AGo E n0 (.inRegion ops [] :: k) (frL ops fr0 V (fun j => listed.getD j false)) (S.getD (cnt effs (fun j => listed.getD j false)) []) R := by
    intro listed hall
    refine .step1 (fun _ _ _ _ => step_region_end) ?_
    rw [frL_congr (L' := fun _ => true) hall]
    have : cnt effs (fun j => listed.getD j false) = effs.length := by
      unfold cnt
      rw [List.filter_eq_self.2]
      intro e he
      obtain ⟨c, hc⟩ := List.getElem?_of_mem he
      exact hall e (hE.effLt c e hc)
    rw [this]
    exact g
  intro fuel
  induction fuel with
  | zero =>
    intro t listed hs hcl hun
    have := un_zero ops.size (Nat.le_zero.1 hun)
    simp only [Region.linearise.go, List.reverse_nil]
    exact fin listed this
  | succ fuel ih =>
    intro t listed hs hcl hun
    have hgd : ∀ i, i < ops.size → listed.getD i true = listed.getD i false := fun i hi => by
      simp [Array.getElem?_eq_getElem (hs ▸ hi : i < listed.size)]
    have haft : ∀ i o, ops[i]? = some o → ((∀ e ∈ o.after, Region.binds .any e = true → listed.getD e.on false = true) ↔ ∀ j, aftr ops i j = true → listed.getD j false = true) := fun i o ho => by
      constructor
      · intro h j hj
        simp only [aftr, ho, Option.map_some, Option.getD_some] at hj
        obtain ⟨e, he, hb⟩ := Array.any_eq_true'.1 hj
        simp only [Bool.and_eq_true, beq_iff_eq] at hb
        rw [← hb.2]; exact h e he hb.1
      · intro h e he hb
        refine h e.on ?_
        simp only [aftr, ho, Option.map_some, Option.getD_some]
        exact Array.any_eq_true'.2 ⟨e, he, by simp [hb]⟩
    simp only [Region.linearise.go]
    change AGo E n0 (.inRegion ops (match (Region.ready .any ops listed)[t % (Region.ready .any ops listed).length]? with
      | some i => Region.linearise.go .any ops fuel (t / (Region.ready .any ops listed).length) (listed.setIfInBounds i true) [i]
      | none => [].reverse) :: k) _ _ R
    cases hi : (Region.ready .any ops listed)[t % (Region.ready .any ops listed).length]? with
    | none =>
      have hnil : Region.ready .any ops listed = [] := by
        cases hr : Region.ready .any ops listed with
        | nil => rfl
        | cons x xs =>
          rw [hr] at hi
          have hlt : t % (x :: xs).length < (x :: xs).length := Nat.mod_lt _ (by simp)
          simp at hi
          simp at hlt
          omega
      refine fin listed ?_
      intro i
      induction i using Nat.strongRecOn with
      | _ i ihi =>
        intro hlt
        cases hL : listed.getD i false with
        | true => rfl
        | false =>
          have hmem : i ∈ Region.ready .any ops listed := by
            rw [mem_ready]
            refine ⟨by rw [hgd i hlt]; exact hL, ops[i], Array.getElem?_eq_getElem hlt, (haft i _ (Array.getElem?_eq_getElem hlt)).2 fun j hj => ?_⟩
            have := hE.back i j hj
            exact ihi j this (by omega)
          rw [hnil] at hmem
          cases hmem
    | some i =>
      simp only []
      rw [linearise_go_acc, List.reverse_singleton, List.singleton_append]
      obtain ⟨hun0, o, ho, hall⟩ := mem_ready.1 (List.mem_of_getElem? hi)
      have hlt : i < ops.size := (Array.getElem?_eq_some_iff.1 ho).1
      have hLi : listed.getD i false = false := by rw [← hgd i hlt]; exact hun0
      have hpre := (haft i o ho).1 hall
      obtain ⟨x, hx⟩ : ∃ x, V[i]? = some x := ⟨V[i]'(by omega), by simp⟩
      have hL' : ∀ j, (listed.setIfInBounds i true).getD j false = (listed.getD j false || j == i) := fun j => by
        by_cases e : i = j
        · subst e; simp [hs, hlt]
        · have : (j == i) = false := by simp; omega
          rw [getD_set_ne false e, this, Bool.or_false]
      have hcl' : ∀ i' j, (listed.setIfInBounds i true).getD i' false = true → aftr ops i' j = true → (listed.setIfInBounds i true).getD j false = true := fun i' j h hj => by
        rw [hL'] at h ⊢
        by_cases e : i' = i
        · subst e; rw [hpre j hj]; rfl
        · have : (i' == i) = false := by simpa using e
          rw [this, Bool.or_false] at h
          rw [hcl i' j h hj]; rfl
      have hun' : un (fun j => (listed.setIfInBounds i true).getD j false) ops.size ≤ fuel := by
        have := un_set (L := fun j => listed.getD j false) (L' := fun j => (listed.setIfInBounds i true).getD j false) hLi hL' ops.size hlt
        omega
      have next := ih (t / (Region.ready .any ops listed).length) (listed.setIfInBounds i true) (by simpa using hs) hcl' hun'
      have hfr' : frL ops fr0 V (fun j => (listed.setIfInBounds i true).getD j false) = putA (frL ops fr0 V (fun j => listed.getD j false)) o.dst x := frL_put hE ho hx hLi hL'
      rw [hfr'] at next
      -- places that this operation reads hold what they hold in the text's order
      have hread : ∀ t', (∃ u, u ∈ tmpsOf o ∧ u = t') ∨ (∃ q want, o.guard = some (q, want) ∧ dstOf ops q = some t') → (frL ops fr0 V (fun j => listed.getD j false)).getD t' .any = (frL ops fr0 V (fun j => decide (j < i))).getD t' .any := fun t' hh => by
        by_cases htl : t' < fr0.length
        · rw [frL_getD htl, frL_getD htl]
          by_cases hex : ∃ j, dstOf ops j = some t' ∧ j ≠ i
          · obtain ⟨j, hj, hne⟩ := hex
            have hcase : (j < i ∧ aftr ops i j = true) ∨ (i < j ∧ aftr ops j i = true) := by
              rcases hh with ⟨u, hu, rfl⟩ | ⟨q, want, hq, hqd⟩
              · exact hE.reads i o u j ho hu hj hne
              · have := hE.dsts q j t' hqd hj
                subst this
                have hg := hE.guards i o q want ho hq
                exact .inl ⟨hE.back i q hg, hg⟩
            rcases hcase with ⟨h1, h2⟩ | ⟨h1, h2⟩
            · rw [valL_some hE hj (hpre j h2), valL_some hE hj (by simpa using h1)]
            · have q1 : ∀ j', dstOf ops j' = some t' → listed.getD j' false = false := fun j' hj' => by
                have := hE.dsts j' j t' hj' hj
                subst this
                cases hL : listed.getD j' false
                · rfl
                · have := hcl j' i hL h2
                  rw [hLi] at this; cases this
              have q2 : ∀ j', dstOf ops j' = some t' → decide (j' < i) = false := fun j' hj' => by
                have := hE.dsts j' j t' hj' hj
                subst this
                simp; omega
              rw [valL_none (L := fun j => listed.getD j false) q1, valL_none (L := fun j => decide (j < i)) q2]
          · have q1 : ∀ j', dstOf ops j' = some t' → listed.getD j' false = false := fun j' hj' => by
              have : j' = i := Classical.byContradiction fun h => hex ⟨j', hj', h⟩
              subst this; exact hLi
            have q2 : ∀ j', dstOf ops j' = some t' → decide (j' < i) = false := fun j' hj' => by
              have : j' = i := Classical.byContradiction fun h => hex ⟨j', hj', h⟩
              subst this; simp
            rw [valL_none (L := fun j => listed.getD j false) q1, valL_none (L := fun j => decide (j < i)) q2]
        · rw [frL_getD_out htl, frL_getD_out htl]
      have hob := hOb i o x ho hx
      -- the effects so far
      have hchain : ∀ c, c + 1 < effs.length → listed.getD (effs.getD (c + 1) 0) false = true → listed.getD (effs.getD c 0) false = true := fun c hc h => by
        have e1 : effs[c]? = some (effs.getD c 0) := by simp [List.getD_eq_getElem?_getD, show c < effs.length by omega]
        have e2 : effs[c + 1]? = some (effs.getD (c + 1) 0) := by simp [List.getD_eq_getElem?_getD, hc]
        exact hcl _ _ h (hE.chain c _ _ e1 e2)
      have hpref := cnt_prefix (L := fun j => listed.getD j false) (effs := effs) hchain
      have hcle : cnt effs (fun j => listed.getD j false) ≤ effs.length := List.length_filter_le _ _
      rcases hob with ⟨j, d, want, hgd', hd, hval, rfl, hne⟩ | ⟨hguard, hob⟩
      · -- it is not wanted
        have hcnt : cnt effs (fun j => (listed.setIfInBounds i true).getD j false) = cnt effs (fun j => listed.getD j false) := by
          unfold cnt
          congr 1
          apply List.filter_congr
          intro e he
          rw [hL' e]
          have : e ≠ i := fun h => by subst h; rw [List.contains_iff_mem.2 he] at hne; cases hne
          simp [this]
        rw [hcnt] at next
        intro C β m a w b cs hG hn hr
        have hd' := hread d (.inr ⟨j, want, hgd', hd⟩)
        obtain ⟨a', w', fr', st', β', m', todo', hR, hrel, hs'⟩ := next C β m (a.put o.dst undef) w b cs hG hn (hr.put o.dst (rel_undef β m))
        refine ⟨a', w', fr', st', β', m', todo', hR, hrel, Steps.head ?_ hs'⟩
        have hw : Region.wanted o (yielded ops a.tmps) = false := not_wanted hr hgd' hd (by rw [hd']; exact hval)
        have hsk := step_op_skip (P := E.P) (b := b) (a := a) (k := k) (cs := cs) (w := w) (ops := ops) (i := i) (rest := Region.linearise.go .any ops fuel (t / (Region.ready .any ops listed).length) (listed.setIfInBounds i true) []) (by simp [ho, hw])
        simpa [ho] using hsk
      · have hok : OpOk E o (av E (frL ops fr0 V (fun j => decide (j < i)))) (S.getD (cnt effs (fun j => listed.getD j false)) []) (Just x (S.getD (cnt effs (fun j => (listed.setIfInBounds i true).getD j false)) [])) := by
          rcases hob with ⟨hne, hob⟩ | ⟨c, hc, hob⟩
          · have hcnt : cnt effs (fun j => (listed.setIfInBounds i true).getD j false) = cnt effs (fun j => listed.getD j false) := by
              unfold cnt
              congr 1
              apply List.filter_congr
              intro e he
              rw [hL' e]
              have : e ≠ i := fun h => by subst h; rw [List.contains_iff_mem.2 he] at hne; cases hne
              simp [this]
            rw [hcnt]
            refine hob _ ?_
            simp only [csOf, List.mem_filter, List.mem_range, List.all_eq_true, Bool.and_eq_true, Bool.or_eq_true, Bool.not_eq_true', decide_eq_true_eq]
            refine ⟨by omega, fun c' hc' => ⟨?_, ?_⟩⟩
            · cases h : aftT ops i (effs.getD c' 0)
              · exact .inl rfl
              · exact .inr ((hpref c' hc').1 (aftT_closed (L := fun j => listed.getD j false) hcl i _ hpre h))
            · cases h : aftT ops (effs.getD c' 0) i
              · exact .inl rfl
              · right
                have : ¬ c' < cnt effs (fun j => listed.getD j false) := fun h' => by
                  have h2 := (hpref c' hc').2 h'
                  have := aftT_closed (L := fun j => listed.getD j false) hcl _ _ (fun j hj => hcl _ _ h2 hj) h
                  simp only [hLi] at this; cases this
                omega
          · have hcl2 : c < effs.length := (List.getElem?_eq_some_iff.1 hc).1
            have hcg : effs.getD c 0 = i := by simp [List.getD_eq_getElem?_getD, hc]
            have e1 : cnt effs (fun j => listed.getD j false) = c := by
              have h1 : ¬ c < cnt effs (fun j => listed.getD j false) := fun h => by
                have := (hpref c hcl2).2 h
                simp only [hcg] at this
                rw [hLi] at this; cases this
              rcases Nat.eq_zero_or_pos c with h0 | h0
              · omega
              · have h2 : c - 1 < cnt effs (fun j => listed.getD j false) := (hpref (c - 1) (by omega)).1 (by
                  have e2 : effs[c - 1]? = some (effs.getD (c - 1) 0) := by simp [List.getD_eq_getElem?_getD, show c - 1 < effs.length by omega]
                  exact hpre _ (hE.chain (c - 1) _ _ e2 (by rw [show c - 1 + 1 = c by omega]; exact hc)))
                omega
            have hpref' := cnt_prefix (L := fun j => (listed.setIfInBounds i true).getD j false) (effs := effs) fun c hc h => by
              have e1 : effs[c]? = some (effs.getD c 0) := by simp [List.getD_eq_getElem?_getD, show c < effs.length by omega]
              have e2 : effs[c + 1]? = some (effs.getD (c + 1) 0) := by simp [List.getD_eq_getElem?_getD, hc]
              exact hcl' _ _ h (hE.chain c _ _ e1 e2)
            have e2 : cnt effs (fun j => (listed.setIfInBounds i true).getD j false) = c + 1 := by
              have h1 := (hpref' c hcl2).1 (by simp only [hcg]; rw [hL']; simp)
              have h2 : ¬ c + 1 < cnt effs (fun j => (listed.setIfInBounds i true).getD j false) := fun h => by
                have hlt2 : c + 1 < effs.length := Nat.lt_of_lt_of_le h (List.length_filter_le _ _)
                have h3 := (hpref' (c + 1) hlt2).2 h
                rw [hL'] at h3
                have h4 : listed.getD (effs.getD (c + 1) 0) false = true := by
                  have hne : effs.getD (c + 1) 0 ≠ i := fun hh => by
                    have e3 : effs[c + 1]? = some i := by rw [← hh]; simp [List.getD_eq_getElem?_getD, hlt2]
                    have := hE.effNe c (c + 1) i hc e3
                    omega
                  have : (effs.getD (c + 1) 0 == i) = false := by simpa using hne
                  rw [this, Bool.or_false] at h3
                  exact h3
                have := (hpref (c + 1) hlt2).1 h4
                omega
              omega
            rw [e1, e2]
            exact hob
        intro C β m a w b cs hG hn hr
        have hops : ∀ y ∈ o.op.operands, RelV β m (a.eval y) (av E (frL ops fr0 V (fun j => decide (j < i))) y) := fun y hy => by
          have h0 := ev_rel (E := E) (hG.trans hr.fresh.1) hr y
          cases y with
          | tmp t' =>
            simp only [av] at h0 ⊢
            rw [← hread t' (.inl ⟨t', mem_tmpsOf hy, rfl⟩)]
            exact h0
          | const v => exact h0
          | global g => exact h0
          | func f => exact h0
        have hw : Region.wanted o (yielded ops a.tmps) = true := by
          cases hgo : o.guard with
          | none => simp [Region.wanted, hgo]
          | some qw =>
            obtain ⟨q, want⟩ := qw
            obtain ⟨d, hd, hval⟩ := hguard q want hgo
            rw [wanted_iff hr hgo hd ((hread d (.inr ⟨q, want, hgo, hd⟩)).trans hval)]
            simp
        obtain ⟨v, w1, β1, m1, x1, st1, hs1, ⟨rfl, rfl⟩, hrel, hv⟩ := hok C β m _ a w (hG.trans hr.fresh.1) hr hops b k cs ops i (Region.linearise.go .any ops fuel (t / (Region.ready .any ops listed).length) (listed.setIfInBounds i true) []) ho hw
        obtain ⟨a', w', fr', st', β', m', todo', hR, hrel', hs'⟩ := next C β1 m1 (a.put o.dst v) w1 b cs hG hn (hrel.put o.dst hv)
        exact ⟨a', w', fr', st', β', m', todo', hR, hrel', hs1.trans hs'⟩

theorem rep_getD (n j : Nat) : (Array.replicate n false).getD j false = false := by
  rw [Array.getD_eq_getD_getElem?, Array.getElem?_replicate]
  split <;> rfl
/-- Any order comes to what the text's order comes to. -/
theorem AGo.draw {id : Nat} {V fr' : List AV} {st : List Ob} {l : List Oper} (hl : ops.toList = l) (hm : E.P.follows .mixedOrders = true) (hE : drawOk ops effs = true) (hS : S.getD 0 [] = st) (hch : Chain E ops effs S 0 l fr0 V fr') (g : AGo E n0 k fr' (S.getD effs.length []) R) :
    AGo E n0 (.code (.region id ops true) :: k) fr0 st R := by
  subst hl; subst hS
  have hEd := Edges.of hE
  obtain ⟨h1, h2, h3⟩ := hch.spec
  have hV : V.length = ops.size := by simpa using h1
  have hlast : fr' = frL ops fr0 V (fun _ => true) := by
    rw [h3, show ops.toList.length = ops.size by simp, frL_text hEd hV ops.size (Nat.le_refl _)]
    exact frL_congr fun j hj => by simp [hj]
  subst hlast
  have run := draw_run (fr0 := fr0) (k := k) (R := R) (n0 := n0) hEd hV (fun j o x ho hx => by
    have := h2 j o x (by simpa using ho) hx
    rw [Nat.zero_add] at this
    rw [← frL_text hEd hV j (Nat.le_of_lt (Array.getElem?_eq_some_iff.1 ho).1)]
    exact this) g
  intro C β m a w b cs hG hn hr
  have r0 := run ops.size (w.tape w.drawn (.order b.fn id)) (Array.replicate ops.size false) (by simp) (fun i j h => by rw [rep_getD] at h; cases h) (by
    have : ∀ n, un (fun j => (Array.replicate ops.size false).getD j false) n ≤ n := fun n => by
      induction n with
      | zero => exact Nat.le_refl _
      | succ n ih => simp only [un]; split <;> omega
    exact this _)
  have hfr : frL ops fr0 V (fun j => (Array.replicate ops.size false).getD j false) = fr0 := by
    conv => rhs; rw [← frL_none (ops := ops) (V := V) (fr0 := fr0)]
    exact frL_congr fun j hj => rep_getD _ j
  have hcnt : cnt effs (fun j => (Array.replicate ops.size false).getD j false) = 0 := by
    unfold cnt
    rw [List.filter_eq_nil_iff.2 fun e _ => by rw [rep_getD]; simp]
    rfl
  rw [hfr, hcnt] at r0
  obtain ⟨a', w', fr', st', β', m', todo', hR, hrel', hs'⟩ := r0 C β m a { w with drawn := w.drawn + 1 } b cs hG hn (hr.drawn _)
  refine ⟨a', w', fr', st', β', m', todo', hR, hrel', Steps.head ?_ hs'⟩
  have := step_region_draw (P := E.P) (b := b) (a := a) (k := k) (cs := cs) (w := w) (ops := ops) (id := id)
  simp only [Region.schedule, hm, Bool.true_or, if_true] at this
  exact this
end draw
end Rm

namespace Rm
open Go
open Go.RowKit

/-- Holds of the first states. -/
def jc (cm : Nat) (J0 : List Ob → Prop) (c : Nat) (s : List Ob) : Prop := c ≤ cm → J0 s
/-- What is left of such a region; 'Sp': the states so far; 'J' holds of each state. -/
def ADr (E : Env) (n0 : Nat) (ops : Array Oper) (effs : List Nat) (J : Nat → List Ob → Prop) (Sp : List (List Ob)) (i : Nat) (l : List Oper) (k : List Item) (fr : List AV) (R : List AV → List Ob → Prop) : Prop :=
  (∀ (c : Nat) s, Sp[c]? = some s → J c s) → ∃ rest V fr', (∀ (c : Nat) s, (Sp ++ rest)[c]? = some s → J c s) ∧ (Sp ++ rest).length = effs.length + 1 ∧ Chain E ops effs (Sp ++ rest) i l fr V fr' ∧ AGo E n0 k fr' ((Sp ++ rest).getD effs.length []) R

section rules
variable {E : Env} {n0 : Nat} {ops : Array Oper} {effs : List Nat} {J : Nat → List Ob → Prop} {Sp : List (List Ob)} {i : Nat} {l : List Oper} {o : Oper} {k : List Item} {fr : List AV} {st st' : List Ob} {R : List AV → List Ob → Prop} {x : AV}

theorem getD_app {α : Type} {l r : List α} {c : Nat} {x d : α} (h : l[c]? = some x) : (l ++ r).getD c d = x := by
  have hlt := (List.getElem?_eq_some_iff.1 h).1
  rw [List.getD_eq_getElem?_getD, List.getElem?_append_left hlt, h]; rfl
theorem csOf_le {c : Nat} (h : c ∈ csOf ops effs i) : c < effs.length + 1 := by
  unfold csOf at h
  exact List.mem_range.1 (List.mem_filter.1 h).1
theorem AGo.drawnG {id : Nat} (J : Nat → List Ob → Prop) (effs : List Nat) (hl : ops.toList = l) (hm : E.P.follows .mixedOrders = true) (hE : drawOk ops effs = true) (hJ : J 0 st) (g : ADr E n0 ops effs J [st] 0 l k fr R) : AGo E n0 (.code (.region id ops true) :: k) fr st R := by
  obtain ⟨rest, V, fr', _, _, hch, hg⟩ := g (fun c s hs => by
    cases c with
    | zero => simp at hs; subst hs; exact hJ
    | succ c => simp at hs)
  exact AGo.draw hl hm hE rfl hch hg
theorem AGo.drawnJ {id : Nat} (cm : Nat) (J0 : List Ob → Prop) (effs : List Nat) (hl : ops.toList = l) (hm : E.P.follows .mixedOrders = true) (hE : drawOk ops effs = true) (hJ : J0 st) (g : ADr E n0 ops effs (jc cm J0) [st] 0 l k fr R) : AGo E n0 (.code (.region id ops true) :: k) fr st R :=
  .drawnG _ effs hl hm hE (fun _ => hJ) g
theorem AGo.drawn {id : Nat} (effs : List Nat) (hl : ops.toList = l) (hm : E.P.follows .mixedOrders = true) (hE : drawOk ops effs = true) (g : ADr E n0 ops effs (fun _ _ => True) [st] 0 l k fr R) : AGo E n0 (.code (.region id ops true) :: k) fr st R :=
  .drawnG _ effs hl hm hE trivial g
theorem ADr.nil (hS : Sp[effs.length]? = some st) (hl : Sp.length = effs.length + 1) (g : AGo E n0 k fr st R) : ADr E n0 ops effs J Sp i [] k fr R := fun h => ⟨[], [], fr, by simpa using h, by simpa using hl, .nil _ _, by rw [getD_app hS]; exact g⟩
theorem ADr.cons (h : ∀ rest, (∀ c, c < effs.length + 1 → J c ((Sp ++ rest).getD c [])) → ObD E ops effs (Sp ++ rest) i o fr x) (g : ADr E n0 ops effs J Sp (i + 1) l k (putA fr o.dst x) R) : ADr E n0 ops effs J Sp i (o :: l) k fr R := by
  intro hSp
  obtain ⟨rest, V, fr', hJ, hlen, hch, hg⟩ := g hSp
  refine ⟨rest, x :: V, fr', hJ, hlen, .cons _ _ _ _ _ _ _ (h rest fun c hc => ?_) hch, hg⟩
  rw [← hlen] at hc
  rw [List.getD_eq_getElem?_getD, List.getElem?_eq_getElem hc]
  exact hJ c _ (List.getElem?_eq_getElem hc)
/-- It meets one state alone. -/
theorem ADr.pureAt (c : Nat) (hg : o.guard = none) (he : effs.contains i = false) (hc : csOf ops effs i = [c]) (hS : Sp[c]? = some st) (h : OpOk E o (av E fr) st (Just x st)) (g : ADr E n0 ops effs J Sp (i + 1) l k (putA fr o.dst x) R) : ADr E n0 ops effs J Sp i (o :: l) k fr R :=
  .cons (fun rest _ => .inr ⟨fun j want e => (by rw [hg] at e; cases e), .inl ⟨he, fun c' hcc => by
    rw [hc] at hcc
    simp at hcc; subst hcc
    rw [getD_app hS]; exact h⟩⟩) g
theorem ADr.pure (hg : o.guard = none) (he : effs.contains i = false) (hc : csOf ops effs i = [0]) (hS : Sp[0]? = some st) (h : OpOk E o (av E fr) st (Just x st)) (g : ADr E n0 ops effs J Sp (i + 1) l k (putA fr o.dst x) R) : ADr E n0 ops effs J Sp i (o :: l) k fr R :=
  .pureAt 0 hg he hc hS h g
/-- Whatever the state. -/
theorem ADr.pureG (hg : o.guard = none) (he : effs.contains i = false) (h : ∀ c st, c ∈ csOf ops effs i → J c st → OpOk E o (av E fr) st (Just x st)) (g : ADr E n0 ops effs J Sp (i + 1) l k (putA fr o.dst x) R) : ADr E n0 ops effs J Sp i (o :: l) k fr R :=
  .cons (fun _ hJ => .inr ⟨fun j want e => (by rw [hg] at e; cases e), .inl ⟨he, fun c hc => h c _ hc (hJ c (csOf_le hc))⟩⟩) g
theorem ADr.pureJ {cm : Nat} {J0 : List Ob → Prop} (hg : o.guard = none) (he : effs.contains i = false) (hc : (csOf ops effs i).all (fun c => decide (c ≤ cm)) = true) (h : ∀ st, J0 st → OpOk E o (av E fr) st (Just x st)) (g : ADr E n0 ops effs (jc cm J0) Sp (i + 1) l k (putA fr o.dst x) R) : ADr E n0 ops effs (jc cm J0) Sp i (o :: l) k fr R :=
  .pureG hg he (fun c st hcs hJ => h st (hJ (by
    have := List.all_eq_true.1 hc c hcs
    simpa using this))) g
theorem ADr.pures (hg : o.guard = none) (he : effs.contains i = false) (h : ∀ st, OpOk E o (av E fr) st (Just x st)) (g : ADr E n0 ops effs J Sp (i + 1) l k (putA fr o.dst x) R) : ADr E n0 ops effs J Sp i (o :: l) k fr R :=
  .pureG hg he (fun _ st _ _ => h st) g
theorem ADr.effJ (c : Nat) (hJ : J (c + 1) st') (hg : o.guard = none) (he : effs[c]? = some i) (hS : Sp[c]? = some st) (hl : Sp.length = c + 1) (h : OpOk E o (av E fr) st (Just x st')) (g : ADr E n0 ops effs J (Sp ++ [st']) (i + 1) l k (putA fr o.dst x) R) : ADr E n0 ops effs J Sp i (o :: l) k fr R := by
  intro hSp
  obtain ⟨rest, V, fr', hJr, hlen, hch, hg'⟩ := g (fun c' s hs => by
    rcases Nat.lt_or_ge c' Sp.length with hlt | hge
    · rw [List.getElem?_append_left hlt] at hs; exact hSp c' s hs
    · rw [List.getElem?_append_right hge] at hs
      have : c' = c + 1 := by
        have := (List.getElem?_eq_some_iff.1 hs).1
        simp at this; omega
      subst this
      rw [hl] at hs
      simp at hs; subst hs; exact hJ)
  rw [List.append_assoc] at hch hg' hlen hJr
  refine ⟨[st'] ++ rest, x :: V, fr', hJr, hlen, .cons _ _ _ _ _ _ _ (.inr ⟨fun j want e => (by rw [hg] at e; cases e), .inr ⟨c, he, ?_⟩⟩) hch, hg'⟩
  rw [getD_app hS]
  have : (Sp ++ ([st'] ++ rest)).getD (c + 1) [] = st' := by
    rw [List.getD_eq_getElem?_getD, List.getElem?_append_right (by omega), hl]
    simp
  rw [this]; exact h
theorem ADr.eff (c : Nat) (hg : o.guard = none) (he : effs[c]? = some i) (hS : Sp[c]? = some st) (hl : Sp.length = c + 1) (h : OpOk E o (av E fr) st (Just x st')) (g : ADr E n0 ops effs (fun _ _ => True) (Sp ++ [st']) (i + 1) l k (putA fr o.dst x) R) : ADr E n0 ops effs (fun _ _ => True) Sp i (o :: l) k fr R :=
  .effJ c trivial hg he hS hl h g
theorem ADr.yesAt {j d : Nat} {want : Bool} (c : Nat) (hg : o.guard = some (j, want)) (hd : dstOf ops j = some d) (hv : fr.getD d .any = .bool want) (he : effs.contains i = false) (hc : csOf ops effs i = [c]) (hS : Sp[c]? = some st) (h : OpOk E o (av E fr) st (Just x st))
    (g : ADr E n0 ops effs J Sp (i + 1) l k (putA fr o.dst x) R) : ADr E n0 ops effs J Sp i (o :: l) k fr R :=
  .cons (fun rest _ => .inr ⟨fun j' want' e => (by rw [hg] at e; cases e; exact ⟨d, hd, hv⟩), .inl ⟨he, fun c' hcc => by
    rw [hc] at hcc
    simp at hcc; subst hcc
    rw [getD_app hS]; exact h⟩⟩) g
theorem ADr.yes {j d : Nat} {want : Bool} (hg : o.guard = some (j, want)) (hd : dstOf ops j = some d) (hv : fr.getD d .any = .bool want) (he : effs.contains i = false) (hc : csOf ops effs i = [0]) (hS : Sp[0]? = some st) (h : OpOk E o (av E fr) st (Just x st))
    (g : ADr E n0 ops effs J Sp (i + 1) l k (putA fr o.dst x) R) : ADr E n0 ops effs J Sp i (o :: l) k fr R := .yesAt 0 hg hd hv he hc hS h g
theorem ADr.yess {j d : Nat} {want : Bool} (hg : o.guard = some (j, want)) (hd : dstOf ops j = some d) (hv : fr.getD d .any = .bool want) (he : effs.contains i = false) (h : ∀ st, OpOk E o (av E fr) st (Just x st))
    (g : ADr E n0 ops effs J Sp (i + 1) l k (putA fr o.dst x) R) : ADr E n0 ops effs J Sp i (o :: l) k fr R :=
  .cons (fun _ _ => .inr ⟨fun j' want' e => (by rw [hg] at e; cases e; exact ⟨d, hd, hv⟩), .inl ⟨he, fun _ _ => h _⟩⟩) g
theorem ADr.no {j d : Nat} {want : Bool} (hg : o.guard = some (j, want)) (hd : dstOf ops j = some d) (hv : offA want (fr.getD d .any) = true) (he : effs.contains i = false) (g : ADr E n0 ops effs J Sp (i + 1) l k (putA fr o.dst (.tup [])) R) : ADr E n0 ops effs J Sp i (o :: l) k fr R :=
  .cons (fun _ _ => .inl ⟨j, d, want, hg, hd, hv, rfl, he⟩) g
/-- What comes behind is shown once. -/
theorem AGo.cut {σ : Type} {c : Item} (I : σ → Prop) (F : σ → List AV) (S : σ → List Ob) (h2 : ∀ s, I s → AGo E n0 k (F s) (S s) R) (h1 : (∀ s, I s → AGo E n0 k (F s) (S s) R) → AGo E n0 (c :: k) fr st R) : AGo E n0 (c :: k) fr st R := h1 h2
end rules
end Rm

namespace Rm
open Go
open Go.RowKit

def look (t : Nat) : List (Nat × AV) → AV
  | [] => .any
  | (d, x) :: r => bif Nat.beq t d then x else look t r
/-- A frame of n places. -/
def lst (n : Nat) (ov : List (Nat × AV)) : List AV := (List.range n).map fun t => look t ov
theorem lst_length (n : Nat) (ov : List (Nat × AV)) : (lst n ov).length = n := by simp [lst]
theorem put_lst (n d : Nat) (x : AV) (ov : List (Nat × AV)) : (lst n ov).set d x = lst n ((d, x) :: ov) := by
  apply List.ext_getElem?
  intro t
  rw [List.getElem?_set]
  simp only [lst, List.getElem?_map, List.length_map, List.length_range, look]
  by_cases h : d = t
  · subst h
    rw [if_pos rfl]
    by_cases hd : d < n
    · rw [if_pos hd, List.getElem?_eq_getElem (by simpa using hd)]
      simp
    · rw [if_neg hd, List.getElem?_eq_none (by simpa using hd)]
      rfl
  · rw [if_neg h]
    have : Nat.beq t d = false := by
      cases e : Nat.beq t d with
      | false => rfl
      | true => exact absurd (Nat.eq_of_beq_eq_true e).symm h
    rcases Nat.lt_or_ge t n with ht | ht
    · rw [List.getElem?_eq_getElem (by simpa using ht)]
      simp [this]
    · rw [List.getElem?_eq_none (by simpa using ht)]
      rfl
def avo (E : Env) (n : Nat) (ov : List (Nat × AV)) : Operand → AV
  | .tmp t => bif Nat.blt t n then look t ov else .any
  | .const v => avOf v
  | .global g => .vptr (E.G g)
  | .func f => .fn (.func f) [] []
theorem getD_lst (n : Nat) (ov : List (Nat × AV)) (t : Nat) : (lst n ov).getD t .any = bif Nat.blt t n then look t ov else .any := by
  rw [List.getD_eq_getElem?_getD]
  simp only [lst, List.getElem?_map]
  by_cases h : t < n
  · have : Nat.blt t n = true := by simpa using h
    simp [h, this]
  · have : Nat.blt t n = false := by
      cases e : Nat.blt t n with
      | false => rfl
      | true => exact absurd (by simpa using e) h
    simp [h, this]
theorem av_lst (E : Env) (n : Nat) (ov : List (Nat × AV)) : av E (lst n ov) = avo E n ov := by
  funext x
  cases x with
  | tmp t => exact getD_lst n ov t
  | _ => rfl

def enumA (k : Nat) : List AV → List (Nat × AV)
  | [] => []
  | x :: r => (k, x) :: enumA (k + 1) r
theorem look_enum : ∀ (l : List AV) (k t : Nat), look t (enumA k l) = if k ≤ t then l.getD (t - k) .any else .any
  | [], k, t => by simp [enumA, look]
  | x :: r, k, t => by
    simp only [enumA, look]
    by_cases h : t = k
    · subst h; simp
    · have hb : Nat.beq t k = false := by
        cases e : Nat.beq t k with
        | false => rfl
        | true => exact absurd (Nat.eq_of_beq_eq_true e) h
      rw [hb, cond_false, look_enum r (k + 1) t]
      by_cases hk : k ≤ t
      · rw [if_pos (by omega), if_pos hk, show t - k = (t - (k + 1)) + 1 by omega, List.getD_cons_succ]
      · rw [if_neg (by omega), if_neg hk]
theorem frame_lst {args : List AV} {n : Nat} (h : args.length ≤ n) : args ++ List.replicate (n - args.length) .any = lst n (enumA 0 args) := by
  apply List.ext_getElem?
  intro t
  simp only [lst, List.getElem?_map, look_enum, Nat.zero_le, if_true, Nat.sub_zero]
  by_cases ht : t < n
  · rw [show (List.range n)[t]? = some t by simp [ht]]
    simp only [Option.map_some]
    by_cases hl : t < args.length
    · rw [List.getElem?_append_left hl, List.getD_eq_getElem?_getD, List.getElem?_eq_getElem hl]; rfl
    · rw [List.getElem?_append_right (by omega), List.getElem?_replicate, if_pos (by omega), List.getD_eq_getElem?_getD, List.getElem?_eq_none (by omega)]; rfl
  · rw [show (List.range n)[t]? = none by simp; omega, List.getElem?_append_right (by omega), List.getElem?_replicate, if_neg (by omega)]; rfl
theorem Ctr.of_bodyO {E : Env} {f : FuncId} {fn : Func} {c : Code} {st : List Ob} {args : List AV} {Q : List Ob → AV → Prop} {n : Nat} (hf : E.P.funcs[f]? = some fn) (hb : fn.body = some c) (hn : fn.ntmps = n) (hl : args.length ≤ n)
    (h : AGo E st.length [.code c] (lst n (enumA 0 args)) st (Fin E fn.results.toList st Q)) : Ctr E.P E.mG f st args Q :=
  Ctr.of_body hf hb (by rw [hn, frame_lst hl]; exact h)
theorem ResA.tmpO {E : Env} {n : Nat} {ov : List (Nat × AV)} {st : List Ob} {x : AV} (t : Tmp) (h : avo E n ov (.tmp t) = x) : ResA E (lst n ov) st (.tmp t) x := by
  subst h
  have := ResA.tmp (E := E) (fr := lst n ov) (st := st) t
  rw [getD_lst] at this
  exact this
theorem ResA.cellO {E : Env} {n : Nat} {ov : List (Nat × AV)} {st : List Ob} (a : Tmp) (t : TypeId) (o off : Nat) (cs : List AV) (D : TD) (r : AV) (ha : avo E n ov (.tmp a) = .ptr o off) (ho : st[o]? = some (.var cs)) (hT : E.tab t = some D) (hg : aggB D.u = false) (hr : cs[off]? = some r) : ResA E (lst n ov) st (.cell a t) r :=
  .cell a t o off cs D r (by rw [getD_lst]; exact ha) ho hT hg hr
theorem ResA.cellsO {E : Env} {n : Nat} {ov : List (Nat × AV)} {st : List Ob} (a : Tmp) (t : TypeId) (o off : Nat) (cs r : List AV) (D : TD) (ha : avo E n ov (.tmp a) = .ptr o off) (ho : st[o]? = some (.var cs)) (hT : E.tab t = some D) (hg : aggB D.u = true) (hn : off + D.size ≤ cs.length) (hr : (cs.drop off).take D.size = r) : ResA E (lst n ov) st (.cell a t) (.agg r) :=
  .cells a t o off cs r D (by rw [getD_lst]; exact ha) ho hT hg hn hr

section arith
variable {E : Env} {g : Operand → AV} {st : List Ob} {d : Option Tmp} {t : TypeId} {p : String} {af : Array Edge} {gd : Option (Nat × Bool)}
theorem op_add {xt yt : TypeId} {x y : Operand} {k : IntKind} {n q : Int} (hx : g x = .int k n) (hy : g y = .int k q) (h1 : lo k ≤ n + q) (h2 : n + q ≤ hi k) : OpOk E ⟨d, .binOp .add xt x y yt, t, p, af, gd⟩ g st (Just (.int k (n + q)) st) := op_arith hx hy rfl h1 h2
theorem op_sub {xt yt : TypeId} {x y : Operand} {k : IntKind} {n q : Int} (hx : g x = .int k n) (hy : g y = .int k q) (h1 : lo k ≤ n - q) (h2 : n - q ≤ hi k) : OpOk E ⟨d, .binOp .sub xt x y yt, t, p, af, gd⟩ g st (Just (.int k (n - q)) st) := op_arith hx hy rfl h1 h2
theorem op_mul {xt yt : TypeId} {x y : Operand} {k : IntKind} {n q : Int} (hx : g x = .int k n) (hy : g y = .int k q) (h1 : lo k ≤ n * q) (h2 : n * q ≤ hi k) : OpOk E ⟨d, .binOp .mul xt x y yt, t, p, af, gd⟩ g st (Just (.int k (n * q)) st) := op_arith hx hy rfl h1 h2
end arith
section rules
variable {E : Env} {n0 n : Nat} {k : List Item} {ov : List (Nat × AV)} {st st' : List Ob} {R : List AV → List Ob → Prop} {ops : Array Oper} {o : Oper} {l : List Oper} {x : AV} {d : Nat}

theorem AGo.condO {c : Operand} {x y : Code} {t : Bool} (hc : avo E n ov c = .bool t) (h1 : t = true → AGo E n0 (.code x :: k) (lst n ov) st R) (h2 : t = false → AGo E n0 (.code y :: k) (lst n ov) st R) : AGo E n0 (.code (.cond c x y) :: k) (lst n ov) st R :=
  .cond (by rw [av_lst]; exact hc) h1 h2
theorem AOps.o1 (hg : o.guard = none) (hd : o.dst = some d) (h : OpOk E o (avo E n ov) st (Just x st')) (g : AOps E n0 ops l k (lst n ((d, x) :: ov)) st' R) : AOps E n0 ops (o :: l) k (lst n ov) st R :=
  .op1 hg (by rw [av_lst]; exact h) (by rw [hd]; show AOps E n0 ops l k ((lst n ov).set d x) st' R; rw [put_lst]; exact g)
theorem AOps.o0 (hg : o.guard = none) (hd : o.dst = none) (h : OpOk E o (avo E n ov) st (Just x st')) (g : AOps E n0 ops l k (lst n ov) st' R) : AOps E n0 ops (o :: l) k (lst n ov) st R :=
  .op1 hg (by rw [av_lst]; exact h) (by rw [hd]; exact g)
theorem AOps.oq {Q : AV → List Ob → Prop} (hg : o.guard = none) (hd : o.dst = some d) (h : OpOk E o (avo E n ov) st Q) (g : ∀ x st', Q x st' → AOps E n0 ops l k (lst n ((d, x) :: ov)) st' R) : AOps E n0 ops (o :: l) k (lst n ov) st R :=
  .op hg (by rw [av_lst]; exact h) (fun x st' hQ => by rw [hd]; show AOps E n0 ops l k ((lst n ov).set d x) st' R; rw [put_lst]; exact g x st' hQ)
theorem AOps.oy {j d' : Nat} {want : Bool} (hg : o.guard = some (j, want)) (hj : (ops[j]?).bind (·.dst) = some d') (hv : avo E n ov (.tmp d') = .bool want) (hd : o.dst = some d) (h : OpOk E o (avo E n ov) st (Just x st')) (g : AOps E n0 ops l k (lst n ((d, x) :: ov)) st' R) : AOps E n0 ops (o :: l) k (lst n ov) st R :=
  .yes1 hg hj (by rw [getD_lst]; exact hv) (by rw [av_lst]; exact h) (by rw [hd]; show AOps E n0 ops l k ((lst n ov).set d x) st' R; rw [put_lst]; exact g)
theorem AOps.oyq {j d' : Nat} {want : Bool} {Q : AV → List Ob → Prop} (hg : o.guard = some (j, want)) (hj : (ops[j]?).bind (·.dst) = some d') (hv : avo E n ov (.tmp d') = .bool want) (hd : o.dst = some d) (h : OpOk E o (avo E n ov) st Q) (g : ∀ x st', Q x st' → AOps E n0 ops l k (lst n ((d, x) :: ov)) st' R) : AOps E n0 ops (o :: l) k (lst n ov) st R :=
  .yes hg hj (by rw [getD_lst]; exact hv) (by rw [av_lst]; exact h) (fun x st' hQ => by rw [hd]; show AOps E n0 ops l k ((lst n ov).set d x) st' R; rw [put_lst]; exact g x st' hQ)
theorem AOps.on {j d' : Nat} {want : Bool} (hg : o.guard = some (j, want)) (hj : (ops[j]?).bind (·.dst) = some d') (hv : offA want (avo E n ov (.tmp d')) = true) (hd : o.dst = some d) (g : AOps E n0 ops l k (lst n ((d, .tup []) :: ov)) st R) : AOps E n0 ops (o :: l) k (lst n ov) st R :=
  .no hg hj (by rw [getD_lst]; exact hv) (by rw [hd]; show AOps E n0 ops l k ((lst n ov).set d (.tup [])) st R; rw [put_lst]; exact g)
/-- A value told otherwise (a rewriting). -/
theorem AOps.re {t : Nat} {x y : AV} (h : avo E n ov (.tmp t) = x) (e : x = y) (g : AOps E n0 ops l k (lst n ((t, y) :: ov)) st R) : AOps E n0 ops l k (lst n ov) st R := by
  subst e
  have : lst n ((t, x) :: ov) = lst n ov := by
    rw [← put_lst]
    apply List.ext_getElem?
    intro i
    rw [List.getElem?_set]
    split
    · rename_i hi; subst hi
      split
      · rename_i hlt
        have hg := getD_lst n ov t
        rw [List.getD_eq_getElem?_getD, List.getElem?_eq_getElem hlt] at hg
        simp only [Option.getD_some] at hg
        rw [List.getElem?_eq_getElem hlt, hg]
        exact congrArg some h.symm
      · rename_i hlt
        rw [List.getElem?_eq_none (Nat.le_of_not_lt hlt)]
    · rfl
  rw [this] at g
  exact g
theorem AGo.re {todo : List Item} {t : Nat} {x y : AV} (h : avo E n ov (.tmp t) = x) (e : x = y) (g : AGo E n0 todo (lst n ((t, y) :: ov)) st R) : AGo E n0 todo (lst n ov) st R := by
  subst e
  refine .weaken (fun {β m vs} hr => ?_) g
  rw [← put_lst]
  refine hr.setA t _ fun v hv => ?_
  rw [getD_lst] at hv
  rw [← h]; exact hv

/-- What is kept. -/
def keepO (ov : List (Nat × AV)) : List Nat → List (Nat × AV)
  | [] => []
  | t :: ts => (t, look t ov) :: keepO ov ts
theorem look_keep (ov : List (Nat × AV)) (t : Nat) : ∀ ts, look t (keepO ov ts) = look t ov ∨ look t (keepO ov ts) = .any
  | [] => .inr rfl
  | a :: ts => by
    simp only [keepO, look]
    cases e : Nat.beq t a with
    | true => exact .inl (by rw [cond_true, Nat.eq_of_beq_eq_true e])
    | false => exact look_keep ov t ts
theorem AGo.keep {todo : List Item} (ts : List Nat) (g : AGo E n0 todo (lst n (keepO ov ts)) st R) : AGo E n0 todo (lst n ov) st R :=
  .frame (by rw [lst_length, lst_length]) (fun i x y hx hy => by
    have hi : i < n := by have := (List.getElem?_eq_some_iff.1 hx).1; rwa [lst_length] at this
    simp [lst, hi] at hx hy
    rcases look_keep ov i ts with h | h
    · left; rw [← hy, ← hx, h]
    · right; rw [← hy, h]) g
theorem AGo.viewO {todo : List Item} {o ver sz : Nat} {es : List (List AV)} (t : Nat) (ht : avo E n ov (.tmp t) = .row o ver) (ho : st[o]? = some (.row ver sz es true)) (g : AGo E n0 todo (lst n ((t, .sl false es) :: ov)) st R) : AGo E n0 todo (lst n ov) st R :=
  .view t (by rw [getD_lst]; exact ht) ho (by rw [put_lst]; exact g)
theorem AOps.viewO {o ver sz : Nat} {es : List (List AV)} (t : Nat) (ht : avo E n ov (.tmp t) = .row o ver) (ho : st[o]? = some (.row ver sz es true)) (g : AOps E n0 ops l k (lst n ((t, .sl false es) :: ov)) st R) : AOps E n0 ops l k (lst n ov) st R :=
  fun js hj => .viewO t ht ho (g js hj)
theorem lst_getElem {t : Nat} (ht : t < n) : (lst n ov)[t]? = some (look t ov) := by simp [lst, ht]

/-! ### Regions in any order -/
variable {effs : List Nat} {J : Nat → List Ob → Prop} {Sp : List (List Ob)} {i : Nat}
theorem ADr.ds (hg : o.guard = none) (hd : o.dst = some d) (he : effs.contains i = false) (h : ∀ st, OpOk E o (avo E n ov) st (Just x st)) (g : ADr E n0 ops effs J Sp (i + 1) l k (lst n ((d, x) :: ov)) R) : ADr E n0 ops effs J Sp i (o :: l) k (lst n ov) R :=
  .pures hg he (by rw [av_lst]; exact h) (by rw [hd]; show ADr E n0 ops effs J Sp (i + 1) l k ((lst n ov).set d x) R; rw [put_lst]; exact g)
theorem ADr.dJ {cm : Nat} {J0 : List Ob → Prop} (hg : o.guard = none) (hd : o.dst = some d) (he : effs.contains i = false) (hc : (csOf ops effs i).all (fun c => decide (c ≤ cm)) = true) (h : ∀ st, J0 st → OpOk E o (avo E n ov) st (Just x st)) (g : ADr E n0 ops effs (jc cm J0) Sp (i + 1) l k (lst n ((d, x) :: ov)) R) : ADr E n0 ops effs (jc cm J0) Sp i (o :: l) k (lst n ov) R :=
  .pureJ hg he hc (by rw [av_lst]; exact h) (by rw [hd]; show ADr E n0 ops effs (jc cm J0) Sp (i + 1) l k ((lst n ov).set d x) R; rw [put_lst]; exact g)
theorem ADr.dp (c : Nat) (hg : o.guard = none) (hd : o.dst = some d) (he : effs.contains i = false) (hc : csOf ops effs i = [c]) (hS : Sp[c]? = some st) (h : OpOk E o (avo E n ov) st (Just x st)) (g : ADr E n0 ops effs J Sp (i + 1) l k (lst n ((d, x) :: ov)) R) : ADr E n0 ops effs J Sp i (o :: l) k (lst n ov) R :=
  .pureAt c hg he hc hS (by rw [av_lst]; exact h) (by rw [hd]; show ADr E n0 ops effs J Sp (i + 1) l k ((lst n ov).set d x) R; rw [put_lst]; exact g)
theorem ADr.de (c : Nat) (hg : o.guard = none) (hd : o.dst = some d) (he : effs[c]? = some i) (hS : Sp[c]? = some st) (hl : Sp.length = c + 1) (h : OpOk E o (avo E n ov) st (Just x st')) (g : ADr E n0 ops effs (fun _ _ => True) (Sp ++ [st']) (i + 1) l k (lst n ((d, x) :: ov)) R) : ADr E n0 ops effs (fun _ _ => True) Sp i (o :: l) k (lst n ov) R :=
  .eff c hg he hS hl (by rw [av_lst]; exact h) (by rw [hd]; show ADr E n0 ops effs (fun _ _ => True) (Sp ++ [st']) (i + 1) l k ((lst n ov).set d x) R; rw [put_lst]; exact g)
theorem ADr.de0 (c : Nat) (hg : o.guard = none) (hd : o.dst = none) (he : effs[c]? = some i) (hS : Sp[c]? = some st) (hl : Sp.length = c + 1) (h : OpOk E o (avo E n ov) st (Just x st')) (g : ADr E n0 ops effs (fun _ _ => True) (Sp ++ [st']) (i + 1) l k (lst n ov) R) : ADr E n0 ops effs (fun _ _ => True) Sp i (o :: l) k (lst n ov) R :=
  .eff c hg he hS hl (by rw [av_lst]; exact h) (by rw [hd]; exact g)
theorem ADr.deJ (c : Nat) (hg : o.guard = none) (hd : o.dst = some d) (he : effs[c]? = some i) (hS : Sp[c]? = some st) (hl : Sp.length = c + 1) (h : OpOk E o (avo E n ov) st (Just x st')) (hJ : J (c + 1) st') (g : ADr E n0 ops effs J (Sp ++ [st']) (i + 1) l k (lst n ((d, x) :: ov)) R) : ADr E n0 ops effs J Sp i (o :: l) k (lst n ov) R :=
  .effJ c hJ hg he hS hl (by rw [av_lst]; exact h) (by rw [hd]; show ADr E n0 ops effs J (Sp ++ [st']) (i + 1) l k ((lst n ov).set d x) R; rw [put_lst]; exact g)
theorem ADr.deJ0 (c : Nat) (hg : o.guard = none) (hd : o.dst = none) (he : effs[c]? = some i) (hS : Sp[c]? = some st) (hl : Sp.length = c + 1) (h : OpOk E o (avo E n ov) st (Just x st')) (hJ : J (c + 1) st') (g : ADr E n0 ops effs J (Sp ++ [st']) (i + 1) l k (lst n ov) R) : ADr E n0 ops effs J Sp i (o :: l) k (lst n ov) R :=
  .effJ c hJ hg he hS hl (by rw [av_lst]; exact h) (by rw [hd]; exact g)
theorem ADr.dy {j d' : Nat} {want : Bool} (c : Nat) (hg : o.guard = some (j, want)) (hj : dstOf ops j = some d') (hv : avo E n ov (.tmp d') = .bool want) (hd : o.dst = some d) (he : effs.contains i = false) (hc : csOf ops effs i = [c]) (hS : Sp[c]? = some st) (h : OpOk E o (avo E n ov) st (Just x st))
    (g : ADr E n0 ops effs J Sp (i + 1) l k (lst n ((d, x) :: ov)) R) : ADr E n0 ops effs J Sp i (o :: l) k (lst n ov) R :=
  .yesAt c hg hj (by rw [getD_lst]; exact hv) he hc hS (by rw [av_lst]; exact h) (by rw [hd]; show ADr E n0 ops effs J Sp (i + 1) l k ((lst n ov).set d x) R; rw [put_lst]; exact g)
theorem ADr.dys {j d' : Nat} {want : Bool} (hg : o.guard = some (j, want)) (hj : dstOf ops j = some d') (hv : avo E n ov (.tmp d') = .bool want) (hd : o.dst = some d) (he : effs.contains i = false) (h : ∀ st, OpOk E o (avo E n ov) st (Just x st))
    (g : ADr E n0 ops effs J Sp (i + 1) l k (lst n ((d, x) :: ov)) R) : ADr E n0 ops effs J Sp i (o :: l) k (lst n ov) R :=
  .yess hg hj (by rw [getD_lst]; exact hv) he (by rw [av_lst]; exact h) (by rw [hd]; show ADr E n0 ops effs J Sp (i + 1) l k ((lst n ov).set d x) R; rw [put_lst]; exact g)
theorem ADr.dn {j d' : Nat} {want : Bool} (hg : o.guard = some (j, want)) (hj : dstOf ops j = some d') (hv : offA want (avo E n ov (.tmp d')) = true) (hd : o.dst = some d) (he : effs.contains i = false) (g : ADr E n0 ops effs J Sp (i + 1) l k (lst n ((d, .tup []) :: ov)) R) : ADr E n0 ops effs J Sp i (o :: l) k (lst n ov) R :=
  .no hg hj (by rw [getD_lst]; exact hv) he (by rw [hd]; show ADr E n0 ops effs J Sp (i + 1) l k ((lst n ov).set d (.tup [])) R; rw [put_lst]; exact g)
theorem ADr.re {t : Nat} {x y : AV} (h : avo E n ov (.tmp t) = x) (e : x = y) (g : ADr E n0 ops effs J Sp i l k (lst n ((t, y) :: ov)) R) : ADr E n0 ops effs J Sp i l k (lst n ov) R := by
  subst e
  have : lst n ((t, x) :: ov) = lst n ov := by
    rw [← put_lst]
    apply List.ext_getElem?
    intro i
    rw [List.getElem?_set]
    split
    · rename_i hi; subst hi
      split
      · rename_i hlt
        have hg := getD_lst n ov t
        rw [List.getD_eq_getElem?_getD, List.getElem?_eq_getElem hlt] at hg
        simp only [Option.getD_some] at hg
        rw [List.getElem?_eq_getElem hlt, hg]
        exact congrArg some h.symm
      · rename_i hlt
        rw [List.getElem?_eq_none (Nat.le_of_not_lt hlt)]
    · rfl
  rw [this] at g
  exact g
end rules
end Rm
