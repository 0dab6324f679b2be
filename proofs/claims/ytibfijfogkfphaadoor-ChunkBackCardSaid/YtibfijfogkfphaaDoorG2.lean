/- The engine, part 7: slices of one's own that grow: append, Clip; objects that come and go. The engine, part 8: bytes and strings, structs and literals, comparison with nil; slices of one's own that are lent; objects that come and go. The engine, part 9: what a body leaves: objects that nobody names any more are forgotten; contracts from bodies. The engine, part 10: calls; objects that are laid, forgotten, lent. -/
import Derived.Test.YtibfijfogkfphaaDoorG1
import Derived.Deep.AppendSrc
import Derived.Laws.IdiomStrings

namespace Rm
open Go
open Go.RowKit

theorem set_get {α : Type} {l : List α} {o : Nat} {x : α} (h : o < l.length) : (l.set o x)[o]? = some x := by simp [h]
theorem BLe.set {β : List BV} {o : Nat} {bv bv' : BV} (hb : β[o]? = some bv) (hf : bv.fix = false) (hf' : bv'.fix = false) (hv : bv.ver < bv'.ver) : BLe β (β.set o bv') := fun o' x h => by
  by_cases e : o = o'
  · subst e
    rw [hb] at h; cases h
    exact ⟨bv', set_get (List.getElem?_eq_some_iff.1 hb).1, Nat.le_of_lt hv, hf'.trans hf.symm, fun hh => by
      rcases hh with hh | hh
      · rw [hf] at hh; cases hh
      · omega⟩
  · exact ⟨x, by rw [List.getElem?_set_ne e]; exact h, Nat.le_refl _, rfl, fun _ => rfl⟩

/-- A slice of one's own lies elsewhere, or has another form, from now on. -/
theorem Rel.move {C : Cx} {β : List BV} {m : Mem} {fr : List AV} {st : List Ob} {a : Act} {w w' : World} {o : Nat} {bv bv' : BV} {ob : Ob} (h : Rel C β m fr st a w) (hb : β[o]? = some bv) (hf : bv.fix = false) (hf' : bv'.fix = false) (hv : bv.ver < bv'.ver)
    (hk : ∀ b, bv'.blk = some b → (b = w.heap.size ∧ w.heap.size < w'.heap.size) ∨ bv.blk = some b)
    (hos : w'.os = w.os) (htp : w'.tape = w.tape) (hou : w'.output = w.output) (hs : w.heap.size ≤ w'.heap.size) (hw : ∀ r, r < w.heap.size → bv.blk ≠ some r → w'.heap[r]? = w.heap[r]?)
    (hm : ∀ b i v, bv.blk = some b → m b i = some v → w'.cell? ⟨b, i, none⟩ = some v) (hO : RelO (β.set o bv') m w' bv' ob) : Rel C (β.set o bv') m fr (st.set o ob) a w' := by
  have hlt : o < β.length := (List.getElem?_eq_some_iff.1 hb).1
  have hle := BLe.set hb hf hf' hv
  refine h.after hle ⟨MemLe.refl _, fun _ _ _ e => .inl e⟩ ⟨by simp [h.inv.len], fun b i v e => ?_, fun o' x ob' hx ho' => ?_, fun o1 o2 x y b hne hx hy hbx hby => ?_, fun o' x b hx hbx => ?_⟩
    ⟨hos, htp, hou, hs, fun r hr ho => hw r hr fun e => ho ⟨o, bv, hb, e⟩⟩ fun o' x b hx hbx => ?_
  · by_cases hbb : bv.blk = some b
    · exact hm b i v hbb e
    · have := h.inv.mem b i v e
      simpa [World.cell?, hw b (h.inv.mem.lt e) hbb] using this
  · by_cases e : o = o'
    · subst e
      rw [set_get hlt] at hx; cases hx
      rw [set_get (h.inv.len ▸ hlt)] at ho'; cases ho'
      exact hO
    · rw [List.getElem?_set_ne e] at hx ho'
      refine (h.inv.obj o' x ob' hx ho').congr hle (MemLe.refl _) (fun _ _ _ e => e) fun b hbx => hw b (h.inv.lt o' x b hx hbx) fun hbb => ?_
      exact h.inv.apart o o' bv x b e hb hx hbb hbx
  · by_cases e1 : o = o1
    · subst e1
      rw [set_get hlt] at hx; cases hx
      rw [List.getElem?_set_ne hne] at hy
      rcases hk b hbx with ⟨e, _⟩ | e
      · have := h.inv.lt o2 y b hy hby; omega
      · exact h.inv.apart o o2 bv y b hne hb hy e hby
    · rw [List.getElem?_set_ne e1] at hx
      by_cases e2 : o = o2
      · subst e2
        rw [set_get hlt] at hy; cases hy
        rcases hk b hby with ⟨e, _⟩ | e
        · have := h.inv.lt o1 x b hx hbx; omega
        · exact absurd e (h.inv.apart o1 o x bv b hne hx hb hbx)
      · rw [List.getElem?_set_ne e2] at hy
        exact h.inv.apart o1 o2 x y b hne hx hy hbx hby
  · by_cases e1 : o = o'
    · subst e1
      rw [set_get hlt] at hx; cases hx
      rcases hk b hbx with ⟨e, e'⟩ | e
      · omega
      · exact Nat.lt_of_lt_of_le (h.inv.lt o bv b hb e) hs
    · rw [List.getElem?_set_ne e1] at hx
      exact Nat.lt_of_lt_of_le (h.inv.lt o' x b hx hbx) hs
  · by_cases e1 : o = o'
    · subst e1
      rw [set_get hlt] at hx; cases hx
      rcases hk b hbx with ⟨e, e'⟩ | e
      · exact .inl (by omega)
      · exact .inr ⟨o, bv, hb, e⟩
    · rw [List.getElem?_set_ne e1] at hx
      exact .inr ⟨o', x, hx, hbx⟩

/-- What is appended, or made a string: a slice that is read, or one of one's own. -/
inductive SrcA (st : List Ob) : AV → List (List AV) → Prop where
  | sl (clip : Bool) (es : List (List AV)) : SrcA st (.sl clip es) es
  | row (o ver sz : Nat) (es : List (List AV)) (fz : Bool) (h : st[o]? = some (.row ver sz es fz)) : SrcA st (.row o ver) es

theorem SrcA.cells {C : Cx} {β : List BV} {m : Mem} {fr : List AV} {st : List Ob} {a : Act} {w : World} {v : Value} {x : AV} {es : List (List AV)} (hrel : Rel C β m fr st a w) (hv : RelV β m v x) (hs : SrcA st x es) :
    ∃ a' c cs, v = .slice a' es.length c ∧ es.length ≤ c ∧ RelL β m cs es.flatten ∧ (es.flatten ≠ [] → ∃ b off, a' = some ⟨b, off, none⟩ ∧ ∀ (i : Nat) x, cs[i]? = some x → w.cell? ⟨b, off + i, none⟩ = some x) := by
  cases hs with
  | sl clip es =>
    rcases hv.sl_inv with ⟨rfl, a', c, e1, _⟩ | ⟨b, off, c, sz, u, e1, h0, hc, _, hsz, hu, hr⟩
    · exact ⟨a', c, [], e1, by simp, RelL.nil, fun h => absurd rfl h⟩
    · refine ⟨_, c, (List.range es.flatten.length).map u, e1, hc, ⟨by simp, fun i v c hv hc => ?_⟩, fun _ => ⟨b, off, rfl, fun i x hx => ?_⟩⟩
      · have hi := (List.getElem?_eq_some_iff.1 hc).1
        simp only [List.getElem?_map, List.getElem?_range hi, Option.map_some, Option.some.injEq] at hv
        subst hv; exact hr i c hc
      · have hi : i < es.flatten.length := by have := (List.getElem?_eq_some_iff.1 hx).1; simpa using this
        simp only [List.getElem?_map, List.getElem?_range hi, Option.map_some, Option.some.injEq] at hx
        subst hx
        exact hrel.inv.mem _ _ _ (hu i _ (List.getElem?_eq_getElem hi))
  | row o ver sz es fz ho =>
    obtain ⟨bv, hb, hf, hl, hq, hs⟩ := hv.row_inv
    rcases hrel.inv.obj o _ _ hb ho with ⟨rfl, h0, a', rfl⟩ | ⟨b, c, us, tt, rfl, hh, h2, h3, h5, h6, h7, h8, h9⟩
    · exact ⟨a', 0, [], hq rfl, by simp, RelL.nil, fun h => absurd rfl h⟩
    · refine ⟨_, c, _, hq rfl, h2, h7, fun _ => ⟨b, 0, rfl, fun i x hx => ?_⟩⟩
      rw [List.getElem?_take] at hx
      split at hx
      · simp at hx; simp [World.cell?, hh, hx]
      · cases hx
theorem SrcA.src {E : Env} {C : Cx} {β : List BV} {m : Mem} {fr : List AV} {st : List Ob} {a : Act} {w : World} {v : Value} {x : AV} {es : List (List AV)} {T e : TypeId} {S : TD} {sz : Nat} (hrel : Rel C β m fr st a w) (hv : RelV β m v x) (hs : SrcA st x es)
    (hT : E.tab T = some S) (hu : S.u = .slice e) (hsz : ∀ e ∈ es, e.length = sz) (h1 : ∀ c ∈ es.flatten, oneA c = true) : ∃ news, Src E.P sz T v es.length news w ∧ RelL β m news es.flatten := by
  obtain ⟨a', c, cs, e1, hc, hl, hb⟩ := hs.cells hrel hv
  have hk : E.P.underlying T = some (.slice e) := by have := (E.tab_ok T S hT).1; rw [hu] at this; exact this
  have hlen : cs.length = es.length * sz := by rw [hl.1, flatten_length es hsz]
  have hone : ∀ u ∈ cs, u.oneCell' = true := fun u hu => by
    obtain ⟨i, hi⟩ := List.getElem?_of_mem hu
    have hlt := (List.getElem?_eq_some_iff.1 hi).1
    rw [hl.1] at hlt
    exact oneCell_of (hl.2 i u es.flatten[i] hi (List.getElem?_eq_getElem hlt)) (h1 _ (List.getElem_mem hlt))
  refine ⟨cs, ?_, hl⟩
  subst e1
  by_cases he : es.flatten = []
  · have hcs : cs = [] := List.eq_nil_of_length_eq_zero (by rw [hl.1, he]; rfl)
    subst hcs
    cases a' with
    | some b => exact Src.ofSlice w hk b es.length c [] hlen (fun j u h => by simp at h) (fun u h => by cases h)
    | none =>
      refine ⟨.inl ⟨e, hk⟩, fun _ => rfl, run_firstCells_none w sz _ _ c, run_firstCells_none w.drew sz _ _ c, hlen, hone⟩
  · obtain ⟨b, off, rfl, hcell⟩ := hb he
    exact Src.ofSlice w hk _ es.length c cs hlen (fun j u h => by rw [add_plain]; exact hcell j u h) hone

theorem firstCells_eq {P : Program} {w : World} {size n : Nat} {a' : Option Addr} {len cap : Nat} {cs : List Value} (hl : cs.length = n * size) (h : cs ≠ [] → ∃ b off, a' = some ⟨b, off, none⟩ ∧ ∀ (i : Nat) x, cs[i]? = some x → w.cell? ⟨b, off + i, none⟩ = some x) :
    (Builtin.firstCells size n (.slice a' len cap)).run P w = .ok cs.toArray w := by
  by_cases hn : cs = []
  · subst hn
    cases a' with
    | some b => exact run_firstCells_some w size n b len cap [] hl (fun j v h => by simp at h)
    | none => exact run_firstCells_none w size n len cap
  · obtain ⟨b, off, rfl, hc⟩ := h hn
    exact run_firstCells_some w size n _ len cap cs hl (fun j v h => by rw [add_plain]; exact hc j v h)

theorem heap_drew_alloc_ne {w : World} {o : Obj} {r : Nat} (h : r ≠ w.heap.size) : (w.drew.alloc o).heap[r]? = w.heap[r]? := heap_alloc_ne (w := w.drew) h
theorem heap_drew_alloc_eq {w : World} {o : Obj} : (w.drew.alloc o).heap[w.heap.size]? = some o := heap_alloc_eq (w := w.drew)
theorem size_drew_alloc {w : World} {o : Obj} : (w.drew.alloc o).heap.size = w.heap.size + 1 := size_alloc (w := w.drew)

section app
variable {E : Env} {g : Operand → AV} {st : List Ob} {d : Option Tmp} {t : TypeId} {p : String} {af : Array Edge} {gd : Option (Nat × Bool)}

/-- No room: a new block, in the place of an object of one's own. -/
theorem append_grows {C : Cx} {β : List BV} {m : Mem} {fr : List AV} {a : Act} {w : World} {T e tx : TypeId} {S D : TD} {o n sz : Nat} {ob0 : Ob} {bv : BV} {base : Option Addr} {sLen sCap : Nat} {olds : List Value} {es es2 : List (List AV)} {v2 : Value} {news : List Value}
    (hrel : Rel C β m fr st a w) (hS : E.tab T = some S) (hu : S.u = .slice e) (hD : E.tab e = some D) (hz : D.z.length = D.size) (hb : β[o]? = some bv) (_ho : st[o]? = some ob0) (hf : bv.fix = false) (hn : n = bv.ver + 1) (hsz : sz = D.size) (h0 : 0 < sz)
    (hlen : sLen = es.length) (h6 : ∀ e ∈ es ++ es2, e.length = sz) (hol : RelL β m olds es.flatten) (hoc : olds ≠ [] → ∃ b off, base = some ⟨b, off, none⟩ ∧ ∀ (i : Nat) x, olds[i]? = some x → w.cell? ⟨b, off + i, none⟩ = some x)
    (hsrc : Src E.P D.size tx v2 es2.length news w) (hnl : RelL β m news es2.flatten) (hg : sCap < sLen + es2.length) (hmax : (es.length + es2.length) * D.bytes ≤ 140737488355328) (hmax' : es.length + es2.length ≤ 9223372036854775807) :
    ∃ v' w', (Builtin.append_ #[T, tx] t #[.slice base sLen sCap, v2]).run E.P w = .ok v' w' ∧ ∃ bv', Rel C (β.set o bv') m fr (st.set o (.row n sz (es ++ es2) false)) a w' ∧ RelV (β.set o bv') m v' (.row o n) := by
  subst hlen; subst hsz; subst hn
  obtain ⟨hut, i, hi, his, hib, z, hiz, hzl, hzr⟩ := E.tab_ok e D hD
  have hTu := (E.tab_ok T S hS).1
  rw [hu] at hTu
  have hol1 : olds.length = es.length * D.size := by rw [hol.1, flatten_length es (fun x hx => h6 x (by simp [hx]))]
  have hnl1 : news.length = es2.length * D.size := by rw [hnl.1, flatten_length es2 (fun x hx => h6 x (by simp [hx]))]
  have hfc := firstCells_eq (P := E.P) (w := w.drew) (size := i.size) (n := es.length) (a' := base) (len := es.length) (cap := sCap) (cs := olds) (by rw [his]; exact hol1) (fun h => by
    obtain ⟨b, off, h1, h2⟩ := hoc h
    exact ⟨b, off, h1, fun i x hx => by simpa using h2 i x hx⟩)
  have hfit : Builtin.nextslicecap (es.length + es2.length) sCap * i.bytes ≤ 281474976710656 := by
    rw [hib]; exact growslice_fits hg hmax
  have hrun := run_append_grow_src (P := E.P) w T tx t e i z hTu hi hiz base es.length sCap olds hfc v2 es2.length news (his ▸ hsrc) hg (by omega) hfit
  have hge := grownCap_ge w (es.length + es2.length) sCap e
  refine ⟨_, _, hrun, ⟨some w.heap.size, .slice (some ⟨w.heap.size, 0, none⟩) (es.length + es2.length) (grownCap w (es.length + es2.length) sCap e), false, bv.ver + 1⟩, ?_⟩
  have hle := BLe.set (bv' := ⟨some w.heap.size, .slice (some ⟨w.heap.size, 0, none⟩) (es.length + es2.length) (grownCap w (es.length + es2.length) sCap e), false, bv.ver + 1⟩) hb hf rfl (Nat.lt_succ_self _)
  have hlt : o < β.length := (List.getElem?_eq_some_iff.1 hb).1
  refine ⟨hrel.move hb hf rfl (Nat.lt_succ_self _) (fun b hbb => ?_) rfl rfl rfl (by rw [size_drew_alloc]; omega) (fun r hr _ => heap_drew_alloc_ne (by omega)) (fun b i v hbb hm => ?_) ?_, .row _ _ _ _ (set_get hlt) rfl (Nat.le_refl _) (fun _ => rfl) ⟨_, _, _, rfl⟩⟩
  · simp at hbb; subst hbb; exact .inl ⟨rfl, by rw [size_drew_alloc]; omega⟩
  · have hl := hrel.inv.mem.lt hm
    have := hrel.inv.mem b i v hm
    simpa [World.cell?, heap_drew_alloc_ne (o := Obj.cells ((olds ++ news).toArray ++ Builtin.zeroCells z.cells (grownCap w (es.length + es2.length) sCap e - (es.length + es2.length))) e) (show b ≠ w.heap.size by omega)] using this
  · refine .inr ⟨w.heap.size, grownCap w (es.length + es2.length) sCap e, _, e, by rw [List.length_append], heap_drew_alloc_eq, by simpa using hge, ?_, h0, h6, ?_, fun i _ => hrel.inv.mem.none (Nat.le_refl _) i, by simpa using fun i => hrel.inv.mem.none (Nat.le_refl _) i⟩
    · have hzz : z.cells.size = D.size := by rw [← hz, ← hzl]; simp
      simp only [Array.size_append, List.size_toArray, List.length_append, size_zeroCells, hol1, hnl1, hzz, ← Nat.add_mul]
      exact Nat.mul_le_mul_right _ (by omega)
    · have e1 : ((olds ++ news).toArray ++ Builtin.zeroCells z.cells (grownCap w (es.length + es2.length) sCap e - (es.length + es2.length))).toList.take ((es ++ es2).length * D.size) = olds ++ news := by
        rw [Array.toList_append, List.length_append, Nat.add_mul, ← hol1, ← hnl1, ← List.length_append]
        exact List.take_left
      rw [e1, List.flatten_append]
      exact ((hol.append hnl).mono hle (MemLe.refl _))

/-- Nothing is appended to a slice that holds nothing. -/
theorem append_none {E : Env} {w : World} {T e tx t : TypeId} {S D : TD} {base : Option Addr} {sLen sCap : Nat} {v2 : Value} (hS : E.tab T = some S) (hu : S.u = .slice e) (hD : E.tab e = some D) (hsrc : Src E.P D.size tx v2 0 [] w) (hle : sLen ≤ sCap) :
    (Builtin.append_ #[T, tx] t #[.slice base sLen sCap, v2]).run E.P w = .ok (.slice base sLen sCap) w := by
  have hTu := (E.tab_ok T S hS).1
  rw [hu] at hTu
  obtain ⟨_, i, hi, his, _⟩ := E.tab_ok e D hD
  have hc := hsrc.cells
  rw [← his] at hc
  rcases hsrc.kind with ⟨e', hk⟩ | hk <;> cases base <;> simp [Builtin.append_, run_underlying hTu, run_underlying hk, Go.sizeOf, typeInfo, hi, hsrc.len, hle, hc, storeCells]

theorem op_append_row {T e tx : TypeId} {S D Sx : TD} {x y : Operand} {o ver sz n : Nat} {es es2 r : List (List AV)} {ex : TypeId} (hx : g x = .row o ver) (ho : st[o]? = some (.row ver sz es false)) (hy : SrcA st (g y) es2) (hS : E.tab T = some S) (hu : S.u = .slice e) (hD : E.tab e = some D) (hz : D.z.length = D.size) (hsz : D.size = sz)
    (hSx : E.tab tx = some Sx) (hux : Sx.u = .slice ex) (h2 : ∀ e ∈ es2, e.length = sz) (h1 : ∀ c ∈ es2.flatten, oneA c = true) (hmax : (es.length + es2.length) * D.bytes ≤ 140737488355328) (hmax' : es.length + es2.length ≤ 9223372036854775807) (hn : ver + 1 = n) (hr : es ++ es2 = r) :
    OpOk E ⟨d, .call ⟨.builtin .append, #[x, y], #[T, tx]⟩, t, p, af, gd⟩ g st (Just (.row o n) (st.set o (.row n sz r false))) :=
  .run fun C β m fr a w hG hrel hg => by
    subst hr; subst hn; subst hsz
    have hvx := hg x (by simp [Op.operands, Call.operands])
    have hvy := hg y (by simp [Op.operands, Call.operands])
    rw [hx] at hvx
    obtain ⟨news, hsrc, hnl⟩ := hy.src hrel hvy hSx hux h2 h1
    obtain ⟨bv, hb, hf, hl, hq, hs⟩ := hvx.row_inv
    have hexec : ∀ v' w', (Builtin.append_ #[T, tx] t #[a.eval x, a.eval y]).run E.P w = .ok v' w' → (execOp a.eval ⟨d, .call ⟨.builtin .append, #[x, y], #[T, tx]⟩, t, p, af, gd⟩).run E.P w = .ok (.value v') w' := fun v' w' h => by
      simp [execOp, resolve, invoke, builtin, h]
    have hlt : o < β.length := (List.getElem?_eq_some_iff.1 hb).1
    rcases hrel.inv.obj o _ _ hb ho with ⟨rfl, h0, a', rfl⟩ | ⟨b, c, us, tt, rfl, hh, q2, q3, q5, q6, q7, q8, q9⟩
    · have e1 := hq rfl
      by_cases hn2 : es2.length = 0
      · have : es2 = [] := List.eq_nil_of_length_eq_zero hn2
        subst this
        have hnews : news = [] := List.eq_nil_of_length_eq_zero (by rw [hnl.1]; rfl)
        subst hnews
        have hrun := append_none (t := t) (base := a') (sLen := 0) (sCap := 0) hS hu hD hsrc (Nat.le_refl _)
        have hv' : ver < ver + 1 := Nat.lt_succ_self _
        refine ⟨.slice a' 0 0, w, β.set o ⟨none, .slice a' 0 0, false, ver + 1⟩, m, _, _, hexec _ _ (by rw [e1]; exact hrun), ⟨rfl, rfl⟩, ?_, .row _ _ _ _ (set_get hlt) rfl (Nat.le_refl _) (fun _ => rfl) ⟨_, _, _, rfl⟩⟩
        exact hrel.move hb rfl rfl (Nat.lt_succ_self _) (fun b h => by cases h) rfl rfl rfl (Nat.le_refl _) (fun _ _ _ => rfl) (fun b i v h _ => by cases h) (.inl ⟨rfl, h0, a', rfl⟩)
      · obtain ⟨v', w', hrun, bv', h1', h2'⟩ := append_grows (t := t) (o := o) (n := ver + 1) (sz := D.size) (base := a') (sLen := 0) (sCap := 0) (olds := []) (es := []) hrel hS hu hD hz hb ho rfl rfl rfl h0 rfl (by simpa using h2) RelL.nil (fun h => absurd rfl h) hsrc hnl (by omega) hmax hmax'
        exact ⟨v', w', _, m, _, _, hexec _ _ (by rw [e1]; exact hrun), ⟨rfl, rfl⟩, h1', h2'⟩
    · have e1 := hq rfl
      have hlen6 : ∀ e ∈ es ++ es2, e.length = D.size := fun e he => (List.mem_append.1 he).elim (q6 e) (h2 e)
      have hfl := flatten_length es q6
      have hfl2 := flatten_length es2 h2
      have hm9 : ∀ i, m b i = none := by simpa using q9
      by_cases hroom : es.length + es2.length ≤ c
      · obtain ⟨_, i, hi, his, _⟩ := E.tab_ok e D hD
        have hTu := (E.tab_ok T S hS).1
        rw [hu] at hTu
        have hnl1 : news.length = es2.length * D.size := by rw [hnl.1, hfl2]
        have hsum : es.length * D.size + es2.length * D.size ≤ us.size := by
          rw [← Nat.add_mul]; exact Nat.le_trans (Nat.mul_le_mul_right _ hroom) q3
        have hrun := run_append_room_src (P := E.P) w T tx t e i hTu hi b 0 es.length c (a.eval y) es2.length news (his ▸ hsrc) hroom
          (fun j hj => by rw [his]; simp only [Nat.zero_add, World.cell?, hh]; simp; omega) (fun j hj => by simp [World.frozen?, hh])
        rw [his, Nat.zero_add] at hrun
        have hos := os_setCells b news (es.length * D.size) w
        have hle := BLe.set (bv' := ⟨some b, .slice (some ⟨b, 0, none⟩) (es ++ es2).length c, false, ver + 1⟩) hb hf rfl (Nat.lt_succ_self _)
        refine ⟨.slice (some ⟨b, 0, none⟩) (es.length + es2.length) c, _, β.set o ⟨some b, .slice (some ⟨b, 0, none⟩) (es ++ es2).length c, false, ver + 1⟩, m, _, _, hexec _ _ (by rw [e1]; exact hrun), ⟨rfl, rfl⟩, ?_, .row _ _ _ _ (set_get hlt) rfl (Nat.le_refl _) (fun _ => by rw [List.length_append]) ⟨_, _, _, rfl⟩⟩
        refine hrel.move hb rfl rfl (Nat.lt_succ_self _) (fun b' h => .inr h) hos.1 hos.2.1 hos.2.2 (by rw [size_setCells]; exact Nat.le_refl _) (fun r _ hr => heap_setCells_ne b _ _ _ r (fun h => hr (by rw [h]))) (fun b' i v hbb hmm => by
          simp only [Option.some.injEq] at hbb; subst hbb; rw [hm9] at hmm; cases hmm) ?_
        refine .inr ⟨b, c, _, tt, rfl, heap_setCells_eq b news _ w us tt _ hh (by rw [hnl1]; omega), by simpa using hroom, by rw [List.size_toArray, setR_length (by rw [hnl1]; simpa using hsum)]; simpa using q3, q5, hlen6, ?_, fun i _ => hm9 i, by simpa using hm9⟩
        have htk : (setR us.toList (es.length * D.size) news).take ((es ++ es2).length * D.size) = us.toList.take (es.length * D.size) ++ news := by
          have hlt' : (us.toList.take (es.length * D.size)).length = es.length * D.size := by simp; omega
          unfold setR
          rw [List.take_left']
          rw [List.length_append, hlt', hnl1, List.length_append, Nat.add_mul]
        rw [htk, List.flatten_append]
        exact (q7.append hnl).mono hle (MemLe.refl _)
      · obtain ⟨v', w', hrun, bv', h1', h2'⟩ := append_grows (t := t) (o := o) (n := ver + 1) (sz := D.size) (base := some ⟨b, 0, none⟩) (sLen := es.length) (sCap := c) (olds := us.toList.take (es.length * D.size)) (es := es) hrel hS hu hD hz hb ho rfl rfl rfl q5 rfl hlen6 q7
          (fun _ => ⟨b, 0, rfl, fun i x hx => by
            rw [List.getElem?_take] at hx
            split at hx
            · simp at hx; simp [World.cell?, hh, hx]
            · cases hx⟩) hsrc hnl (by omega) hmax hmax'
        exact ⟨v', w', _, m, _, _, hexec _ _ (by rw [e1]; exact hrun), ⟨rfl, rfl⟩, h1', h2'⟩

/-- Onto a slice that is read and has no room: the new one lies in an object's place. -/
theorem op_append_sl {T e tx : TypeId} {S D Sx : TD} {x y : Operand} {o ver sz n : Nat} {es es2 r : List (List AV)} {ob0 : List (List AV)} {fz : Bool} {ex : TypeId} (hx : g x = .sl true es) (ho : st[o]? = some (.row ver sz ob0 fz)) (hy : SrcA st (g y) es2) (hS : E.tab T = some S) (hu : S.u = .slice e) (hD : E.tab e = some D) (hz : D.z.length = D.size) (hsz : D.size = sz) (h0 : 0 < sz)
    (hSx : E.tab tx = some Sx) (hux : Sx.u = .slice ex) (h1' : ∀ e ∈ es, e.length = sz) (h2 : ∀ e ∈ es2, e.length = sz) (h1 : ∀ c ∈ es2.flatten, oneA c = true) (hne : es = [] ∨ es2 ≠ []) (hmax : (es.length + es2.length) * D.bytes ≤ 140737488355328) (hmax' : es.length + es2.length ≤ 9223372036854775807) (hn : ver + 1 = n) (hr : es ++ es2 = r) :
    OpOk E ⟨d, .call ⟨.builtin .append, #[x, y], #[T, tx]⟩, t, p, af, gd⟩ g st (Just (.row o n) (st.set o (.row n sz r false))) :=
  .run fun C β m fr a w hG hrel hg => by
    subst hr; subst hn; subst hsz
    have hvx := hg x (by simp [Op.operands, Call.operands])
    have hvy := hg y (by simp [Op.operands, Call.operands])
    rw [hx] at hvx
    obtain ⟨news, hsrc, hnl⟩ := hy.src hrel hvy hSx hux h2 h1
    have hexec : ∀ v' w', (Builtin.append_ #[T, tx] t #[a.eval x, a.eval y]).run E.P w = .ok v' w' → (execOp a.eval ⟨d, .call ⟨.builtin .append, #[x, y], #[T, tx]⟩, t, p, af, gd⟩).run E.P w = .ok (.value v') w' := fun v' w' h => by
      simp [execOp, resolve, invoke, builtin, h]
    have hlo : o < β.length := by rw [hrel.inv.len]; exact (List.getElem?_eq_some_iff.1 ho).1
    obtain ⟨bv, hb⟩ : ∃ bv, β[o]? = some bv := ⟨_, List.getElem?_eq_getElem hlo⟩
    have hbv : bv.fix = false ∧ bv.ver = ver := by
      rcases hrel.inv.obj o _ _ hb ho with ⟨_, _, a', rfl⟩ | ⟨b, c, us, tt, rfl, _⟩ <;> exact ⟨rfl, rfl⟩
    obtain ⟨hf, hver⟩ := hbv
    subst hver
    by_cases hn2 : es2.length = 0
    · have : es2 = [] := List.eq_nil_of_length_eq_zero hn2
      subst this
      have he : es = [] := hne.resolve_right (fun h => h rfl)
      subst he
      have hnews : news = [] := List.eq_nil_of_length_eq_zero (by rw [hnl.1]; rfl)
      subst hnews
      rcases hvx.sl_inv with ⟨_, a', c, e1, hc⟩ | ⟨_, _, _, _, _, _, hbad, _⟩
      · have hc0 := hc rfl
        subst hc0
        have hrun := append_none (t := t) (base := a') (sLen := 0) (sCap := 0) hS hu hD hsrc (Nat.le_refl _)
        refine ⟨.slice a' 0 0, w, β.set o ⟨none, .slice a' 0 0, false, bv.ver + 1⟩, m, _, _, hexec _ _ (by rw [e1]; exact hrun), ⟨rfl, rfl⟩, ?_, .row _ _ _ _ (set_get hlo) rfl (Nat.le_refl _) (fun _ => rfl) ⟨_, _, _, rfl⟩⟩
        exact hrel.move hb hf rfl (Nat.lt_succ_self _) (fun b h => by cases h) rfl rfl rfl (Nat.le_refl _) (fun _ _ _ => rfl) (fun b i v h hm => hrel.inv.mem _ _ _ hm) (.inl ⟨rfl, h0, a', rfl⟩)
      · simp at hbad
    · have hlen6 : ∀ e ∈ es ++ es2, e.length = D.size := fun e he => (List.mem_append.1 he).elim (h1' e) (h2 e)
      rcases hvx.sl_inv with ⟨rfl, a', c, e1, hc⟩ | ⟨b, off, c, sz', u, e1, hp, hc, hcl, hsz', hu', hr'⟩
      · have hc0 := hc rfl
        subst hc0
        obtain ⟨v', w', hrun, bv', q1, q2⟩ := append_grows (t := t) (o := o) (n := bv.ver + 1) (sz := D.size) (base := a') (sLen := 0) (sCap := 0) (olds := []) (es := []) hrel hS hu hD hz hb ho hf rfl rfl h0 rfl hlen6 RelL.nil (fun h => absurd rfl h) hsrc hnl (by omega) hmax hmax'
        exact ⟨v', w', _, m, _, _, hexec _ _ (by rw [e1]; exact hrun), ⟨rfl, rfl⟩, q1, q2⟩
      · have hc' := hcl rfl
        subst hc'
        obtain ⟨v', w', hrun, bv', q1, q2⟩ := append_grows (t := t) (o := o) (n := bv.ver + 1) (sz := D.size) (base := some ⟨b, off, none⟩) (sLen := es.length) (sCap := es.length) (olds := (List.range es.flatten.length).map u) (es := es) hrel hS hu hD hz hb ho hf rfl rfl h0 rfl hlen6
          ⟨by simp, fun i v c hv hc => by
            have hi := (List.getElem?_eq_some_iff.1 hc).1
            simp only [List.getElem?_map, List.getElem?_range hi, Option.map_some, Option.some.injEq] at hv
            subst hv; exact hr' i c hc⟩
          (fun _ => ⟨b, off, rfl, fun i x hx => by
            have hi : i < es.flatten.length := by have := (List.getElem?_eq_some_iff.1 hx).1; simpa using this
            simp only [List.getElem?_map, List.getElem?_range hi, Option.map_some, Option.some.injEq] at hx
            subst hx
            exact hrel.inv.mem _ _ _ (hu' i _ (List.getElem?_eq_getElem hi))⟩) hsrc hnl (by omega) hmax hmax'
        exact ⟨v', w', _, m, _, _, hexec _ _ (by rw [e1]; exact hrun), ⟨rfl, rfl⟩, q1, q2⟩

/-- 'x[:n:n]' of a slice of one's own that has n elements. -/
theorem op_clipRow {T e : TypeId} {S D : TD} {x y z : Operand} {o ver sz n : Nat} {es : List (List AV)} {k k' : IntKind} (hx : g x = .row o ver) (ho : st[o]? = some (.row ver sz es false)) (hy : g y = .int k es.length) (hz : g z = .int k' es.length) (hS : E.tab T = some S) (hu : S.u = .slice e) (hD : E.tab e = some D) (hn : ver + 1 = n) :
    OpOk E ⟨d, .slice T x none (some y) (some z), t, p, af, gd⟩ g st (Just (.row o n) (st.set o (.row n sz es false))) :=
  .run fun C β m fr a w hG hrel hg => by
    subst hn
    have hvx := hg x (by simp [Op.operands])
    rw [hx] at hvx
    have e2 := eval_int (hg y (by simp [Op.operands])) hy
    have e3 := eval_int (hg z (by simp [Op.operands])) hz
    have hun := run_under_tab (w := w) hS
    rw [hu] at hun
    obtain ⟨bv, hb, hf, hl, hq, hs⟩ := hvx.row_inv
    have hlt : o < β.length := (List.getElem?_eq_some_iff.1 hb).1
    obtain ⟨a', c, e1, hc⟩ : ∃ a' c, bv.val = .slice a' es.length c ∧ es.length ≤ c := by
      rcases hrel.inv.obj o _ _ hb ho with ⟨rfl, h0, a', rfl⟩ | ⟨b, c, us, tt, rfl, hh, q2, _⟩
      · exact ⟨a', 0, rfl, by simp⟩
      · exact ⟨_, c, rfl, q2⟩
    have hver : ver = bv.ver := by
      rcases hrel.inv.obj o _ _ hb ho with ⟨rfl, h0, a', rfl⟩ | ⟨b, c, us, tt, rfl, hh, q2, _⟩ <;> rfl
    have hbound : (Instr.sliceBounds true es.length c none (some (a.eval y)) (some (a.eval z))).run E.P w = .ok (0, es.length, es.length) w := by
      unfold Instr.sliceBounds
      simp [e2, e3, run_sliceBound (show (0 : Int) ≤ (es.length : Int) by omega) (show (es.length : Int) ≤ ((c : Nat) : Int) by omega), run_sliceBound (show (0 : Int) ≤ (es.length : Int) by omega) (show (es.length : Int) ≤ ((es.length : Nat) : Int) by omega)]
    have hval : ∃ base, (execOp a.eval ⟨d, .slice T x none (some y) (some z), t, p, af, gd⟩).run E.P w = .ok (.value (.slice base es.length es.length)) w ∧ base = a' := by
      refine ⟨if es.length = 0 then a' else a'.map (·.add (0 * D.size)), ?_, ?_⟩
      · simp only [execOp, Instr.sliceAt, Sem.run_bind, hun, Result.andThen_ok, hq hver, e1, Instr.slice, hbound, Option.map_none, Option.map_some, run_sizeOf_tab hD, Sem.run_pure, Nat.sub_zero]
      · split
        · rfl
        · cases a' with
          | none => rfl
          | some ad => cases ad with | mk b off pth => simp [Addr.add]
    obtain ⟨base, hrun, rfl⟩ := hval
    refine ⟨.slice base es.length es.length, w, β.set o ⟨bv.blk, .slice base es.length es.length, false, ver + 1⟩, m, _, _, hrun, ⟨rfl, rfl⟩, ?_, .row _ _ _ _ (set_get hlt) rfl (Nat.le_refl _) (fun _ => rfl) ⟨_, _, _, rfl⟩⟩
    have hle := BLe.set (bv' := ⟨bv.blk, .slice base es.length es.length, false, ver + 1⟩) hb hf rfl (by simp only; omega)
    refine hrel.move hb hf rfl (by simp only; omega) (fun b h => .inr h) rfl rfl rfl (Nat.le_refl _) (fun _ _ _ => rfl) (fun b i v _ hm => hrel.inv.mem _ _ _ hm) ?_
    rcases hrel.inv.obj o _ _ hb ho with ⟨rfl, h0, a'', rfl⟩ | ⟨b, c', us, tt, rfl, hh, q2, q3, q5, q6, q7, q8, q9⟩
    · simp only [Value.slice.injEq] at e1
      exact .inl ⟨rfl, h0, base, by simp⟩
    · simp only [Value.slice.injEq] at e1
      obtain ⟨rfl, _, rfl⟩ := e1
      exact .inr ⟨b, es.length, us, tt, rfl, hh, Nat.le_refl _, Nat.le_trans (Nat.mul_le_mul_right _ q2) q3, q5, q6, q7.mono hle (MemLe.refl _), q8, q9⟩
end app
end Rm

namespace Rm
open Go
open Go.RowKit

/-- Bytes as cells. -/
def bs (l : List UInt8) : List (List AV) := l.map fun c => [.int .u8 c.toNat]
theorem bs_length (l : List UInt8) : (bs l).length = l.length := by simp [bs]
theorem bs_append (l r : List UInt8) : bs l ++ bs r = bs (l ++ r) := by simp [bs]
theorem bs_nil : bs [] = [] := rfl
theorem bs_one : ∀ (l : List UInt8), ∀ e ∈ bs l, e.length = 1 := fun l e h => by
  simp only [bs, List.mem_map] at h
  obtain ⟨_, _, rfl⟩ := h
  rfl
theorem bs_flatten (l : List UInt8) : (bs l).flatten = l.map fun c => .int .u8 c.toNat := by
  induction l with
  | nil => rfl
  | cons c l ih => simp only [bs, List.map_cons, List.flatten_cons] at *; rw [ih]; rfl
theorem bs_oneA (l : List UInt8) : ∀ c ∈ (bs l).flatten, oneA c = true := fun c h => by
  rw [bs_flatten] at h
  obtain ⟨_, _, rfl⟩ := List.mem_map.1 h
  rfl
theorem bs_take (l : List UInt8) (n : Nat) : (bs l).take n = bs (l.take n) := by simp [bs, List.map_take]
theorem bs_drop (l : List UInt8) (n : Nat) : (bs l).drop n = bs (l.drop n) := by simp [bs, List.map_drop]
theorem bs_get (l : List UInt8) (i : Nat) (c : UInt8) (h : l[i]? = some c) : (bs l)[i]? = some [.int .u8 c.toNat] := by simp [bs, h]
theorem bs_set (l : List UInt8) (i : Nat) (c : UInt8) : (bs l).set i [.int .u8 c.toNat] = bs (l.set i c) := by simp [bs, List.map_set]
theorem rel_bytes {β : List BV} {m : Mem} {cs : List Value} {l : List UInt8} (h : RelL β m cs (bs l).flatten) : cs = l.map fun c => Value.int .u8 c.toNat := by
  rw [bs_flatten] at h
  apply List.ext_getElem?
  intro i
  rcases Nat.lt_or_ge i l.length with hi | hi
  · obtain ⟨u, hu, hr⟩ := h.get i (c := .int .u8 l[i].toNat) (by simp [hi])
    rw [hu, RelV.int_iff.1 hr]
    simp [hi]
  · rw [List.getElem?_eq_none (by rw [h.1]; simpa using hi), List.getElem?_eq_none (by simpa using hi)]

section ops
variable {E : Env} {g : Operand → AV} {st : List Ob} {d : Option Tmp} {t : TypeId} {p : String} {af : Array Edge} {gd : Option (Nat × Bool)}

theorem op_string {src dst e : TypeId} {S D B : TD} {x : Operand} {l : List UInt8} (hx : SrcA st (g x) (bs l)) (hS : E.tab src = some S) (hu : S.u = .slice e) (hB : E.tab e = some B) (hb : B.u = .int .u8) (hD : E.tab dst = some D) (hd : D.u = .string) :
    OpOk E ⟨d, .convert src dst x, t, p, af, gd⟩ g st (Just (.str l) st) :=
  .run fun C β m fr a w hG hrel hg => by
    have h1 := (E.tab_ok src S hS).1
    have h2 := (E.tab_ok e B hB).1
    have h3 := (E.tab_ok dst D hD).1
    rw [hu] at h1; rw [hb] at h2; rw [hd] at h3
    obtain ⟨a', c, cs, e1, hc, hl, hcell⟩ := hx.cells hrel (hg x (by simp [Op.operands]))
    have hcs := rel_bytes hl
    subst hcs
    refine ⟨.string ⟨l.toArray⟩, w, β, m, _, _, ?_, ⟨rfl, rfl⟩, hrel, .str _ _ (by simp)⟩
    have key : (convert src dst (a.eval x)).run E.P w = .ok (.string ⟨l.toArray⟩) w := by
      rw [e1, bs_length]
      by_cases hne : l = []
      · subst hne
        rw [run_convert_bytes_string w src dst e _ _ _ h1 h2 h3]
        cases a' with
        | none => simp [Conv.bytesToString]; rfl
        | some ad =>
          show _ = Result.ok (Value.string ByteArray.empty) w
          simpa using run_bytesToString (P := E.P) w ad 0 c [] (by simpa using run_loadCells_list (P := E.P) w ad [] (fun j v hj => by simp at hj))
      · obtain ⟨b, off, rfl, hcc⟩ := hcell (by rw [bs_flatten]; simpa using hne)
        exact run_convert_bytes_back w src dst e _ c l h1 h2 h3 fun j hj => by
          rw [add_plain]
          exact hcc j _ (by simp [hj])
    simp only [execOp, Sem.run_bind, key]
    rfl

theorem op_bytes {src dst e : TypeId} {S D B : TD} {x : Operand} {l : List UInt8} (hx : g x = .str l) (hS : E.tab src = some S) (hu : S.u = .string) (hD : E.tab dst = some D) (hd : D.u = .slice e) (hB : E.tab e = some B) (hb : B.u = .int .u8) :
    OpOk E ⟨d, .convert src dst x, t, p, af, gd⟩ g st (Just (.sl false (bs l)) st) :=
  .run fun C β m fr a w hG hrel hg => by
    have h1 := (E.tab_ok src S hS).1
    have h2 := (E.tab_ok e B hB).1
    have h3 := (E.tab_ok dst D hD).1
    rw [hu] at h1; rw [hb] at h2; rw [hd] at h3
    obtain ⟨s, e1, hs⟩ := eval_str (hg x (by simp [Op.operands])) hx
    have hz : s.size = l.length := by rw [← hs]; exact size_toList _
    have hrun := run_bytes_of_string (P := E.P) w src dst e s h1 h3 h2
    have hge := grownCap_ge w s.size 0 e
    have hcs : (bytesRow s (grownCap w s.size 0 e)).toList.take (l.map fun c => Value.int .u8 c.toNat).length = l.map fun c => Value.int .u8 c.toNat := by
      rw [List.length_map, ← hs]
      simp only [bytesRow, Array.toList_append, Array.toList_map]
      rw [List.take_left' (by simp)]
    obtain ⟨hsh, hle⟩ := hrel.share (w' := w.drew.alloc (.cells (bytesRow s (grownCap w s.size 0 e)) e ((bytesRow s (grownCap w s.size 0 e)).size, (bytesRow s (grownCap w s.size 0 e)).size + 1))) hcs rfl rfl rfl size_drew_alloc (fun r hr => heap_drew_alloc_ne (by omega)) heap_drew_alloc_eq
    refine ⟨.slice (some ⟨w.heap.size, 0, none⟩) s.size (grownCap w s.size 0 e), _, β, _, _, _, ?_, ⟨rfl, rfl⟩, hsh, ?_⟩
    · simp only [execOp, Sem.run_bind, e1, hrun]
      rfl
    · by_cases hne : l = []
      · subst hne
        rw [hz]
        exact .sl0 _ _ _ (fun h => by cases h)
      · have hpos : 0 < l.length := by cases l <;> simp_all
        refine .sl _ _ _ _ 1 _ _ (fun i => Value.int .u8 ((l[i]?.getD 0).toNat)) (by rw [bs_length]; exact hz) (by omega) hge (fun h => by cases h) (bs_one l) (fun i c hc => ?_) (fun i c hc => ?_)
        · rw [bs_flatten] at hc
          have hi : i < l.length := by have := (List.getElem?_eq_some_iff.1 hc).1; simpa using this
          simp [Rm.share, hi]
        · rw [bs_flatten] at hc
          have hi : i < l.length := by have := (List.getElem?_eq_some_iff.1 hc).1; simpa using this
          simp [hi] at hc
          subst hc
          simp [hi]
          exact .int _ _

/-! ### Literals -/
def partA : AV → Bool
  | .agg _ => true
  | x => oneA x
theorem cells_part {β : List BV} {m : Mem} {v : Value} {y : AV} (h : RelV β m v y) (hy : partA y = true) : RelL β m v.cells.toList (cellsA y) := by
  refine cells_rel h ?_
  cases y with
  | agg cs => exact .inr ⟨cs, rfl⟩
  | _ => exact .inl hy
def fillA (pl : Nat → Option (Nat × Nat)) (z : List AV) : List (Nat × AV) → Option (List AV)
  | [] => some z
  | (i, x) :: rest =>
    match pl i with
    | none => none
    | some (off, size) => if (cellsA x).length = size ∧ off + size ≤ z.length ∧ partA x = true then fillA pl (setR z off (cellsA x)) rest else none
theorem foldl_set (off : Nat) : ∀ (vs : List Value) (k : Nat) (cells : Array Value), off + k + vs.length ≤ cells.size →
    (vs.zipIdx k).foldl (fun cs (x : Value × Nat) => cs.setIfInBounds (off + x.2) x.1) cells = (setR cells.toList (off + k) vs).toArray
  | [], k, cells, _ => by simp [setR]
  | v :: vs, k, cells, h => by
    simp only [List.length_cons] at h
    rw [List.zipIdx_cons, List.foldl_cons, foldl_set off vs (k + 1) _ (by simp; omega)]
    congr 1
    have hlt : off + k < cells.toList.length := by simp; omega
    simp only [setR, Array.toList_setIfInBounds, List.length_cons]
    have e1 : (cells.toList.set (off + k) v).take (off + (k + 1)) = cells.toList.take (off + k) ++ [v] := by
      have h3 : off + k ≤ cells.size := by simp at hlt; omega
      rw [List.set_eq_take_append_cons_drop, if_pos hlt, List.take_append, List.take_take]
      simp [Nat.min_eq_left h3, show off + (k + 1) - (off + k) = 1 by omega]
    have e2 : (cells.toList.set (off + k) v).drop (off + (k + 1) + vs.length) = cells.toList.drop (off + k + (vs.length + 1)) := by
      rw [List.drop_set_of_lt (by omega)]
      congr 1; omega
    rw [e1, e2]
    simp
theorem fill_rel {β : List BV} {m : Mem} {pl : Nat → Option (Nat × Nat)} {f : Operand → Value} : ∀ (parts : List (Nat × Operand)) (cells : Array Value) (z r : List AV), RelL β m cells.toList z → (∀ q ∈ parts, RelV β m (f q.2) (g q.2)) →
    fillA pl z (parts.map fun q => (q.1, g q.2)) = some r → ∃ cells', Instr.fill pl cells (parts.map fun q => (q.1, f q.2)) = some cells' ∧ RelL β m cells'.toList r
  | [], cells, z, r, hz, _, h => by
    simp only [List.map_nil, fillA, Option.some.injEq] at h
    subst h
    exact ⟨cells, rfl, hz⟩
  | (i, x) :: parts, cells, z, r, hz, hp, h => by
    simp only [List.map_cons, fillA] at h
    cases hpl : pl i with
    | none => rw [hpl] at h; cases h
    | some os =>
      obtain ⟨off, size⟩ := os
      rw [hpl] at h
      simp only at h
      split at h
      · rename_i hc
        obtain ⟨h1, h2, h3⟩ := hc
        have hv := hp (i, x) (by simp)
        have hcr := cells_part hv h3
        have hsz : (f x).cells.size = size := by
          have := hcr.1
          simp at this; omega
        have hzl : cells.size = z.length := by simpa using hz.1
        obtain ⟨cells', e1, e2⟩ := fill_rel parts (setR cells.toList off (f x).cells.toList).toArray _ r (by simpa using hz.setR hcr off) (fun q hq => hp q (by simp [hq])) h
        refine ⟨cells', ?_, e2⟩
        simp only [List.map_cons, Instr.fill, hpl]
        have hno : ¬ ((f x).cells.size ≠ size ∨ off + (f x).cells.size > cells.size) := by
          rw [hsz, hzl]
          rintro (h | h)
          · exact h rfl
          · omega
        rw [if_neg (by simpa using hno)]
        rw [← e1]
        congr 1
        have := foldl_set off (f x).cells.toList 0 cells (by simp only [Array.length_toList, Nat.add_zero]; omega)
        rw [Nat.add_zero] at this
        rw [← this]
        rw [← Array.foldl_toList, Array.toList_zipIdx]
      · exact absurd h (by simp)

theorem op_build {T : TypeId} {D : TD} {fs : Array Field} {parts : Array (Nat × Operand)} {pl : List (Nat × Nat)} {r : List AV} (hT : E.tab T = some D) (hu : D.u = .struct fs)
    (hpl : ∀ w, (fs.mapM (m := Sem) fun (f : Field) => do pure (f.offset, ← Go.sizeOf f.type)).run E.P w = .ok pl.toArray w) (hr : fillA (pl[·]?) D.z (parts.toList.map fun q => (q.1, g q.2)) = some r) :
    OpOk E ⟨d, .build T parts, t, p, af, gd⟩ g st (Just (.agg r) st) :=
  .val fun β m a w hg => by
    obtain ⟨z, hz, hzl, hzr⟩ := run_zero_tab (w := w) hT
    have hun := run_under_tab (w := w) hT
    rw [hu] at hun
    obtain ⟨cells', e1, e2⟩ := fill_rel (β := β) (m := m) (g := g) (pl := (pl[·]?)) (f := a.eval) parts.toList z.cells D.z r (hzr β m) (fun q hq => hg q.2 (by simp only [Op.operands]; simp; exact ⟨q.1, by simpa using hq⟩)) hr
    refine ⟨.agg cells', ?_, RelV.agg_iff.2 ⟨_, rfl, e2⟩⟩
    have hpl' := hpl w
    simp only [execOp, Instr.build, Sem.run_bind, hz, hun, Result.andThen_ok, hpl']
    have : Instr.fill (fun x => pl.toArray[x]?) z.cells (parts.map fun (i, x) => (i, a.eval x)).toList = some cells' := by
      rw [← e1]; simp
    simp only [this]
    rfl
/-- A whole array's zero. -/
theorem op_zeroArr {T e : TypeId} {D B : TD} {n : Nat} (hT : E.tab T = some D) (hu : D.u = .array n e) (hB : E.tab e = some B) :
    OpOk E ⟨d, .build T #[], t, p, af, gd⟩ g st (Just (.agg D.z) st) :=
  .val fun β m a w hg => by
    obtain ⟨z, hz, hzl, hzr⟩ := run_zero_tab (w := w) hT
    have hun := run_under_tab (w := w) hT
    rw [hu] at hun
    refine ⟨.agg z.cells, ?_, RelV.agg_iff.2 ⟨_, rfl, hzr β m⟩⟩
    simp [execOp, Instr.build, hz, hun, run_sizeOf_tab hB, Instr.fill]

theorem buildSlice_run {β : List BV} {m : Mem} {a : Act} {w : World} {T e : TypeId} {S D : TD} {len : Nat} {parts : Array (Nat × Operand)} {r : List AV} (hS : E.tab T = some S) (hu : S.u = .slice e) (hD : E.tab e = some D) (hz : D.z.length = D.size) (h0 : 0 < D.size) (hlen : len * D.size ≤ 16777216)
    (hg : ∀ q ∈ parts.toList, RelV β m (a.eval q.2) (g q.2)) (hr : fillA (fun i => some (i * D.size, D.size)) (List.replicate (len * D.size) .any) (parts.toList.map fun q => (q.1, g q.2)) = some r) :
    ∃ cells, (Instr.buildSlice T len (parts.map fun (i, x) => (i, a.eval x))).run E.P w = .ok (.slice (some ⟨w.heap.size, 0, none⟩) len len) (w.alloc (.cells cells e)) ∧ RelL β m cells.toList r := by
  have hun := run_under_tab (w := w) hS
  rw [hu] at hun
  obtain ⟨z, hzz, hzl, hzr⟩ := run_zero_tab (w := w) hD
  have hstart : ∀ zero : Array Value, RelL β m ((Array.range (len * D.size)).map fun x => zero[x % zero.size]!).toList (List.replicate (len * D.size) .any) := fun zero =>
    ⟨by simp, fun i u c _ hc => by
      rw [List.getElem?_replicate] at hc
      split at hc
      · simp at hc; subst hc; exact .any _
      · cases hc⟩
  have main : ∀ zero : Array Value, ∃ cells, Instr.fill (fun i => some (i * D.size, D.size)) ((Array.range (len * D.size)).map fun x => zero[x % zero.size]!) (parts.map fun (i, x) => (i, a.eval x)).toList = some cells ∧ RelL β m cells.toList r := fun zero => by
    obtain ⟨cells, e1, e2⟩ := fill_rel (β := β) (m := m) (g := g) (pl := fun i => some (i * D.size, D.size)) (f := a.eval) parts.toList _ _ r (hstart zero) hg hr
    exact ⟨cells, by rw [← e1]; simp, e2⟩
  have hbig : ¬ (16777216 < len * D.size) := by omega
  by_cases hn : len * D.size = 0
  · have hl0 : len = 0 := by
      rcases Nat.mul_eq_zero.1 hn with h | h
      · exact h
      · omega
    subst hl0
    obtain ⟨cells, e1, e2⟩ := main #[]
    refine ⟨cells, ?_, e2⟩
    simp only [Instr.buildSlice, Sem.run_bind, hun, Result.andThen_ok, run_sizeOf_tab hD]
    rw [hn] at e1
    simp at e1
    simp [e1, newRow, newObj, Sem.run]
  · obtain ⟨cells, e1, e2⟩ := main z.cells
    refine ⟨cells, ?_, e2⟩
    simp only [Instr.buildSlice, Sem.run_bind, hun, Result.andThen_ok, run_sizeOf_tab hD]
    simp at e1
    simp [hbig, hzz, e1, newRow, newObj, Sem.run]
    exact fun h => absurd h hn

/-- A literal of a slice that is only read. -/
theorem op_buildSlice {T e : TypeId} {S D : TD} {len : Nat} {parts : Array (Nat × Operand)} {es : List (List AV)} (hS : E.tab T = some S) (hu : S.u = .slice e) (hD : E.tab e = some D) (hz : D.z.length = D.size) (h0 : 0 < D.size) (hlen : len * D.size ≤ 16777216)
    (hl : es.length = len) (hsz : ∀ e ∈ es, e.length = D.size) (hr : fillA (fun i => some (i * D.size, D.size)) (List.replicate (len * D.size) .any) (parts.toList.map fun q => (q.1, g q.2)) = some es.flatten) :
    OpOk E ⟨d, .buildSlice T len parts, t, p, af, gd⟩ g st (Just (.sl true es) st) :=
  .run fun C β m fr a w hG hrel hg => by
    obtain ⟨cells, hrun, hrl⟩ := buildSlice_run (β := β) (m := m) (a := a) (w := w) (g := g) hS hu hD hz h0 hlen (fun q hq => hg q.2 (by simp only [Op.operands]; simp; exact ⟨q.1, by simpa using hq⟩)) hr
    have hcs : cells.toList.take cells.toList.length = cells.toList := List.take_length
    obtain ⟨hsh, hle⟩ := hrel.share (w' := w.alloc (.cells cells e)) hcs rfl rfl rfl size_alloc (fun r hr => heap_alloc_ne (by omega)) heap_alloc_eq
    refine ⟨.slice (some ⟨w.heap.size, 0, none⟩) len len, _, β, _, _, _, ?_, ⟨rfl, rfl⟩, hsh, ?_⟩
    · simp only [execOp, Sem.run_bind, hrun]
      rfl
    · by_cases hne : len = 0
      · have : es = [] := List.eq_nil_of_length_eq_zero (by omega)
        subst this; subst hne
        exact .sl0 _ _ _ (fun _ => rfl)
      · refine .sl _ _ _ _ D.size _ _ (fun i => cells.toList.getD i undef) hl.symm (by omega) (Nat.le_refl _) (fun _ => rfl) hsz (fun i c hc => ?_) (fun i c hc => ?_)
        · have hi := (List.getElem?_eq_some_iff.1 hc).1
          rw [← hrl.1] at hi
          simp [Rm.share, show i < cells.size by simpa using hi]
        · obtain ⟨u, hu', hr'⟩ := hrl.get i hc
          have : cells.toList.getD i undef = u := by rw [List.getD_eq_getElem?_getD, hu']; rfl
          rw [this]
          exact hr'.mono (BLe.refl _) hle
/-- A literal of a slice that is one's own. -/
theorem op_buildRow {T e : TypeId} {S D : TD} {len : Nat} {parts : Array (Nat × Operand)} {es : List (List AV)} (hS : E.tab T = some S) (hu : S.u = .slice e) (hD : E.tab e = some D) (hz : D.z.length = D.size) (h0 : 0 < D.size) (hlen : len * D.size ≤ 16777216)
    (hl : es.length = len) (hsz : ∀ e ∈ es, e.length = D.size) (hr : fillA (fun i => some (i * D.size, D.size)) (List.replicate (len * D.size) .any) (parts.toList.map fun q => (q.1, g q.2)) = some es.flatten) :
    OpOk E ⟨d, .buildSlice T len parts, t, p, af, gd⟩ g st (Just (.row st.length 0) (st ++ [.row 0 D.size es false])) :=
  .run fun C β m fr a w hG hrel hg => by
    obtain ⟨cells, hrun, hrl⟩ := buildSlice_run (β := β) (m := m) (a := a) (w := w) (g := g) hS hu hD hz h0 hlen (fun q hq => hg q.2 (by simp only [Op.operands]; simp; exact ⟨q.1, by simpa using hq⟩)) hr
    have hfl := flatten_length es hsz
    refine ⟨.slice (some ⟨w.heap.size, 0, none⟩) len len, w.alloc (.cells cells e), β ++ [⟨some w.heap.size, .slice (some ⟨w.heap.size, 0, none⟩) len len, false, 0⟩], m, _, _, ?_, ⟨rfl, rfl⟩,
      hrel.newObj (bv := ⟨some w.heap.size, .slice (some ⟨w.heap.size, 0, none⟩) len len, false, 0⟩) (w' := w.alloc (.cells cells e)) (fun b hb => by simp at hb; subst hb; exact ⟨rfl, by rw [size_alloc]; omega⟩) rfl rfl rfl (by rw [size_alloc]; omega) (fun r hr => heap_alloc_ne (by omega)) ?_, .row _ _ _ ⟨some w.heap.size, .slice (some ⟨w.heap.size, 0, none⟩) len len, false, 0⟩ (by rw [← hrel.inv.len]; simp) rfl (Nat.le_refl _) (fun _ => rfl) ⟨_, _, _, rfl⟩⟩
    · simp only [execOp, Sem.run_bind, hrun]
      rfl
    · refine .inr ⟨w.heap.size, len, cells, e, by rw [hl], heap_alloc_eq, by omega, ?_, h0, hsz, ?_, fun i _ => hrel.inv.mem.none (Nat.le_refl _) i, by simpa using fun i => hrel.inv.mem.none (Nat.le_refl _) i⟩
      · have := hrl.1
        rw [hfl] at this
        simp at this; rw [this, hl]; exact Nat.le_refl _
      · rw [List.take_of_length_le (by rw [hrl.1, hfl]; exact Nat.le_refl _)]
        exact hrl.mono (BLe.append _ _) (MemLe.refl _)

/-! ### nil -/
theorem eqIn_ptr {P : Program} {w : World} (d : Nat) {t e : TypeId} {a : Addr} (h : P.underlying t = some (.pointer e)) : (Op.equalIn (d + 1) t (.pointer (some a)) (.pointer none)).run P w = .ok false w := by
  simp [Op.equalIn, run_underlying h]
theorem eq_ptr {P : Program} {w : World} {t e : TypeId} {a : Addr} (h : P.underlying t = some (.pointer e)) : (Op.equal t (.pointer (some a)) (.pointer none)).run P w = .ok false w := eqIn_ptr 9999 h
theorem eqIn_slice {P : Program} {w : World} (d : Nat) {t e : TypeId} {a : Option Addr} {n c : Nat} (h : P.underlying t = some (.slice e)) : (Op.equalIn (d + 1) t (.slice a n c) (.slice none 0 0)).run P w = .ok a.isNone w := by
  cases a <;> simp [Op.equalIn, run_underlying h]
theorem eq_slice {P : Program} {w : World} {t e : TypeId} {a : Option Addr} {n c : Nat} (h : P.underlying t = some (.slice e)) : (Op.equal t (.slice a n c) (.slice none 0 0)).run P w = .ok a.isNone w := eqIn_slice 9999 h
theorem op_eqNil {xt yt : TypeId} {x : Operand} {D : TD} {e : TypeId} (hx : (∃ o off, g x = .ptr o off) ∨ ∃ cs, g x = .vptr cs) (hT : E.tab xt = some D) (hu : D.u = .pointer e) : OpOk E ⟨d, .binOp .eql xt x (.const (.pointer none)) yt, t, p, af, gd⟩ g st (Just (.bool false) st) :=
  .val fun β m a w hg => by
    have h0 := hg x (by simp [Op.operands])
    have h1 := (E.tab_ok xt D hT).1
    rw [hu] at h1
    obtain ⟨b, off, hx'⟩ : ∃ b off, a.eval x = .pointer (some ⟨b, off, none⟩) := by
      rcases hx with ⟨o, off, hx⟩ | ⟨cs, hx⟩
      · rw [hx] at h0
        obtain ⟨b, v, n, hb, hx'⟩ := h0.ptr_inv
        exact ⟨b, off, hx'⟩
      · rw [hx] at h0
        obtain ⟨b, off, u, hx', _⟩ := h0.vptr_inv
        exact ⟨b, off, hx'⟩
    refine ⟨.bool false, ?_, .bool _⟩
    have hb : (binOp .eql xt (.pointer (some ⟨b, off, none⟩)) (.pointer none)).run E.P w = .ok (.bool false) w := by
      show (do pure (.bool (← Op.equal xt (.pointer (some ⟨b, off, none⟩)) (.pointer none))) : Sem Value).run E.P w = _
      simp [eq_ptr h1]
    have hgd : (eqGuard .eql xt x (.const (.pointer none)) (.pointer (some ⟨b, off, none⟩)) (.pointer none)).run E.P w = .ok () w := rfl
    have he : a.eval (.const (.pointer none)) = .pointer none := rfl
    simp only [execOp, Sem.run_bind, hx', he, hgd, Result.andThen_ok, hb]
    rfl
/-- Whether a slice is nil: where it is, it holds nothing. -/
theorem op_nilSlice {xt yt : TypeId} {x : Operand} {D : TD} {e : TypeId} {clip : Bool} {es : List (List AV)} (hx : g x = .sl clip es) (hT : E.tab xt = some D) (hu : D.u = .slice e) :
    OpOk E ⟨d, .binOp .eql xt x (.const (.slice none 0 0)) yt, t, p, af, gd⟩ g st (fun r st' => st' = st ∧ ∃ b, r = .bool b ∧ (b = true → es = [])) :=
  .run fun C β m fr a w hG hrel hg => by
    have h0 := hg x (by simp [Op.operands])
    rw [hx] at h0
    have h1 := (E.tab_ok xt D hT).1
    rw [hu] at h1
    obtain ⟨a', c, e1, hn⟩ : ∃ a' c, a.eval x = .slice a' es.length c ∧ (a' = none → es = []) := by
      rcases h0.sl_inv with ⟨rfl, a', c, e1, _⟩ | ⟨b, off, c, sz, u, e1, _⟩
      · exact ⟨a', c, e1, fun _ => rfl⟩
      · exact ⟨_, c, e1, fun h => by cases h⟩
    refine ⟨.bool a'.isNone, w, β, m, _, _, ?_, ⟨rfl, _, rfl, fun h => hn (by simpa using h)⟩, hrel, .bool _⟩
    have hb : (binOp .eql xt (.slice a' es.length c) (.slice none 0 0)).run E.P w = .ok (.bool a'.isNone) w := by
      show (do pure (.bool (← Op.equal xt (.slice a' es.length c) (.slice none 0 0))) : Sem Value).run E.P w = _
      simp [eq_slice h1]
    have hgd : (eqGuard .eql xt x (.const (.slice none 0 0)) (.slice a' es.length c) (.slice none 0 0)).run E.P w = .ok () w := rfl
    have he : a.eval (.const (.slice none 0 0)) = .slice none 0 0 := rfl
    simp only [execOp, Sem.run_bind, e1, he, hgd, Result.andThen_ok, hb]
    rfl
/-- A slice's array. -/
theorem op_arrayAt {T e : TypeId} {D : TD} {x : Operand} {clip : Bool} {es : List (List AV)} {n : Nat} {r : List AV} (hx : g x = .sl clip es) (hT : E.tab T = some D) (hu : D.u = .array n e) (h0 : 0 < n) (hn : n ≤ es.length) (hr : es.flatten = r) :
    OpOk E ⟨d, .sliceToArrayPointer T x, t, p, af, gd⟩ g st (Just (.vptr r) st) :=
  .val fun β m a w hg => by
    have hv := hg x (by simp [Op.operands])
    rw [hx] at hv
    have h1 := run_under_tab (w := w) hT
    rw [hu] at h1
    subst hr
    rcases hv.sl_inv with ⟨rfl, _⟩ | ⟨b, off, c, sz, u, e1, hp, hc, _, hsz, hu', hr'⟩
    · simp at hn; omega
    · refine ⟨.pointer (some ⟨b, off, none⟩), ?_, .vptr _ _ _ u hu' hr'⟩
      have : ¬ es.length < n := by omega
      simp [execOp, Instr.arrayAt, h1, e1, this]
end ops

/-! ### What is lent, what comes and goes -/
theorem Rel.kill {C : Cx} {β : List BV} {m : Mem} {fr : List AV} {st : List Ob} {a : Act} {w : World} (o : Nat) (h : Rel C β m fr st a w) : Rel C β m fr (st.set o .dead) a w :=
  ⟨h.pre, h.fresh, ⟨by simp [h.inv.len], h.inv.mem, fun o' bv ob hb ho => by
    rw [List.getElem?_set] at ho
    split at ho
    · split at ho
      · simp at ho; subst ho; trivial
      · cases ho
    · exact h.inv.obj o' bv ob hb ho, h.inv.apart, h.inv.lt⟩, h.keep, h.new, h.frm, h.dfr⟩

/-- Cells of a block of one's own that are shared from now on. -/
def lendM (m : Mem) (b : Nat) (vs : Array Value) (n : Nat) : Mem := fun b' o => if b' = b then (if o < n then vs[o]? else none) else m b' o
theorem Rel.lend {C : Cx} {β : List BV} {m : Mem} {fr : List AV} {st : List Ob} {a : Act} {w : World} {o ver sz : Nat} {es : List (List AV)} (h : Rel C β m fr st a w) (ho : st[o]? = some (.row ver sz es false)) :
    ∃ m', MemLe m m' ∧ Rel C β m' fr (st.set o (.row ver sz es true)) a w ∧ ∀ v, RelV β m v (.row o ver) → RelV β m' v (.sl false es) := by
  have hlo : o < β.length := by rw [h.inv.len]; exact (List.getElem?_eq_some_iff.1 ho).1
  obtain ⟨bv, hb⟩ : ∃ bv, β[o]? = some bv := ⟨_, List.getElem?_eq_getElem hlo⟩
  rcases h.inv.obj o _ _ hb ho with ⟨rfl, h0, a', rfl⟩ | ⟨b, c, us, tt, rfl, hh, q2, q3, q5, q6, q7, q8, q9⟩
  · refine ⟨m, MemLe.refl _, ⟨h.pre, h.fresh, ⟨by simp [h.inv.len], h.inv.mem, fun o' bv ob hb' ho' => ?_, h.inv.apart, h.inv.lt⟩, h.keep, h.new, h.frm, h.dfr⟩, fun v hv => ?_⟩
    · rw [List.getElem?_set] at ho'
      split at ho'
      · split at ho'
        · rename_i e _; subst e
          simp at ho'; subst ho'
          rw [hb] at hb'; cases hb'
          exact .inl ⟨rfl, h0, a', rfl⟩
        · cases ho'
      · exact h.inv.obj o' bv ob hb' ho'
    · obtain ⟨bv', hb', _, _, hq, _⟩ := hv.row_inv
      rw [hb] at hb'; cases hb'
      rw [hq rfl]
      exact .sl0 _ _ _ (fun h => by cases h)
  · have h9 : ∀ i, m b i = none := by simpa using q9
    have hle : MemLe m (lendM m b us (es.length * sz)) := fun b' i v e => by
      have : b' ≠ b := fun hh => by subst hh; rw [h9] at e; cases e
      simp only [lendM, if_neg this]
      exact e
    have hown : Own β b := ⟨o, _, hb, rfl⟩
    have hus : es.length * sz ≤ us.size := Nat.le_trans (Nat.mul_le_mul_right _ q2) q3
    refine ⟨_, hle, ?_, fun v hv => ?_⟩
    · refine h.after (BLe.refl _) ⟨hle, fun b' i v e => ?_⟩ ⟨by simp [h.inv.len], fun b' i v e => ?_, fun o' bv ob hb' ho' => ?_, h.inv.apart, h.inv.lt⟩ (Keep.refl _ _) fun o' bv b' hb' hk => .inr ⟨o', bv, hb', hk⟩
      · by_cases hbb : b' = b
        · subst hbb; exact .inr (.inr hown)
        · simp only [lendM, if_neg hbb] at e; exact .inl e
      · by_cases hbb : b' = b
        · subst hbb
          simp only [lendM, if_true] at e
          split at e
          · simp [World.cell?, hh, e]
          · cases e
        · simp only [lendM, if_neg hbb] at e
          exact h.inv.mem _ _ _ e
      · rw [List.getElem?_set] at ho'
        split at ho'
        · split at ho'
          · rename_i e _; subst e
            simp at ho'; subst ho'
            rw [hb] at hb'; cases hb'
            refine .inr ⟨b, c, us, tt, rfl, hh, q2, q3, q5, q6, q7.mono (BLe.refl _) hle, fun i hi => ?_, ?_⟩
            · simp [lendM]; omega
            · simp only [if_true]
              intro i hi
              simp [lendM, hi]
          · cases ho'
        · rename_i hne
          refine (h.inv.obj o' bv ob hb' ho').congr (BLe.refl _) hle (fun b' i hk e => ?_) fun _ _ => rfl
          have : b' ≠ b := fun hh => by subst hh; exact h.inv.apart o o' _ bv b' hne hb hb' rfl hk
          simp only [lendM, if_neg this]
          exact e
    · obtain ⟨bv', hb', _, _, hq, _⟩ := hv.row_inv
      rw [hb] at hb'; cases hb'
      rw [hq rfl]
      by_cases he : es = []
      · subst he; exact .sl0 _ _ _ (fun h => by cases h)
      · have hpos : 0 < es.length := by cases es <;> simp_all
        have hfl := flatten_length es q6
        refine .sl b 0 _ c sz _ _ (fun i => us.getD i undef) rfl hpos q2 (fun h => by cases h) q6 (fun i x hx => ?_) (fun i x hx => ?_)
        · have hi : i < es.length * sz := by rw [← hfl]; exact (List.getElem?_eq_some_iff.1 hx).1
          have hi2 : i < us.size := by omega
          simp [lendM, hi, hi2]
        · have hi : i < es.length * sz := by rw [← hfl]; exact (List.getElem?_eq_some_iff.1 hx).1
          obtain ⟨u, hu, hr⟩ := q7.get i hx
          rw [List.getElem?_take, if_pos hi] at hu
          have : us.getD i undef = u := by simp at hu; simp [Array.getD_eq_getD_getElem?, hu]
          rw [this]
          exact hr.mono (BLe.refl _) hle
end Rm

namespace Rm
open Go
open Go.RowKit

mutual
/-- It names objects below 'n' alone. -/
def okA (n : Nat) : AV → Bool
  | .agg cs => okL n cs
  | .tup cs => okL n cs
  | .ptr o _ => decide (o < n)
  | .vptr cs => okL n cs
  | .sl _ es => okLL n es
  | .row o _ => decide (o < n)
  | .rptr o _ _ => decide (o < n)
  | .fn _ a b => okL n a && okL n b
  | .mp o => decide (o < n)
  | .ifc _ v => okA n v
  | .any => true
  | .one => true
  | .int _ _ => true
  | .bool _ => true
  | .str _ => true
  | .nilp => true
  | .nilfn => true
  | .nilm => true
  | .nilifc => true
def okL (n : Nat) : List AV → Bool
  | [] => true
  | x :: xs => okA n x && okL n xs
def okLL (n : Nat) : List (List AV) → Bool
  | [] => true
  | x :: xs => okL n x && okLL n xs
end
theorem okL_iff {n : Nat} : ∀ {l : List AV}, okL n l = true ↔ ∀ x ∈ l, okA n x = true
  | [] => by simp [okL]
  | x :: xs => by simp [okL, okL_iff (l := xs)]
theorem okLL_iff {n : Nat} : ∀ {l : List (List AV)}, okLL n l = true ↔ ∀ x ∈ l.flatten, okA n x = true
  | [] => by simp [okLL]
  | x :: xs => by
    simp only [okLL, Bool.and_eq_true, okL_iff, okLL_iff (l := xs), List.flatten_cons, List.mem_append]
    exact ⟨fun h y hy => hy.elim (h.1 y) (h.2 y), fun h => ⟨fun y hy => h y (.inl hy), fun y hy => h y (.inr hy)⟩⟩
theorem okLL_bs (n : Nat) (l : List UInt8) : okLL n (bs l) = true := by
  rw [okLL_iff, bs_flatten]
  intro x hx
  obtain ⟨_, _, rfl⟩ := List.mem_map.1 hx
  rfl
theorem okL_at {n : Nat} {l : List AV} (h : okL n l = true) {i : Nat} {c : AV} (hc : l[i]? = some c) : okA n c = true := okL_iff.1 h c (List.mem_of_getElem? hc)
theorem okLL_at {n : Nat} {l : List (List AV)} (h : okLL n l = true) {i : Nat} {c : AV} (hc : l.flatten[i]? = some c) : okA n c = true := okLL_iff.1 h c (List.mem_of_getElem? hc)
def okO (n : Nat) : Ob → Bool
  | .dead => true
  | .var cs => okL n cs
  | .row _ _ es _ => okLL n es
  | .map es => es.all fun y => okA n y.1 && okA n y.2
def okSt (n : Nat) (st : List Ob) : Bool := st.all (okO n)
theorem okSt_at {n : Nat} {st : List Ob} (h : okSt n st = true) {o : Nat} {ob : Ob} (ho : st[o]? = some ob) : okO n ob = true := by
  simp only [okSt, List.all_eq_true] at h
  exact h ob (List.mem_of_getElem? ho)

/-- Other objects may be there: those that are named are as they were. -/
theorem RelV.keepN {β β' : List BV} {m : Mem} {n : Nat} (hb : ∀ o bv, o < n → β[o]? = some bv → β'[o]? = some bv) {v : Value} {x : AV} (h : RelV β m v x) (hx : okA n x = true) : RelV β' m v x := by
  induction h with
  | any v => exact .any v
  | one v h => exact .one v h
  | int k n => exact .int k n
  | bool b => exact .bool b
  | str s l h => exact .str s l h
  | agg vs cs hl _ ih => exact .agg vs cs hl fun i u c hu hc => ih i u c hu hc (okL_at (by simpa [okA] using hx) hc)
  | tup vs cs hl _ ih => exact .tup vs cs hl fun i u c hu hc => ih i u c hu hc (okL_at (by simpa [okA] using hx) hc)
  | ptr o off b v k h => exact .ptr o off b v k (hb _ _ (by simpa [okA] using hx) h)
  | nilp => exact .nilp
  | vptr b off cs u hu _ ih => exact .vptr b off cs u hu fun i c hc => ih i c hc (okL_at (by simpa [okA] using hx) hc)
  | sl0 a c clip hc => exact .sl0 a c clip hc
  | sl b off n c sz clip es u hn h0 hc hcl hsz hu _ ih => exact .sl b off n c sz clip es u hn h0 hc hcl hsz hu fun i c hc => ih i c hc (okLL_at (by simpa [okA] using hx) hc)
  | row o ver v bv h hf hl hv hs => exact .row o ver v bv (hb _ _ (by simpa [okA] using hx) h) hf hl hv hs
  | rptr o ver off v bv h hf hl hv hs => exact .rptr o ver off v bv (hb _ _ (by simpa [okA] using hx) h) hf hl hv hs
  | fn f fs cs fa ca hf hc _ _ ih1 ih2 =>
    simp only [okA, Bool.and_eq_true] at hx
    exact .fn f fs cs fa ca hf hc (fun i u c hu hc => ih1 i u c hu hc (okL_at hx.1 hc)) (fun i u c hu hc => ih2 i u c hu hc (okL_at hx.2 hc))
  | nilfn => exact .nilfn
  | mp o b v k h => exact .mp o b v k (hb _ _ (by simpa [okA] using hx) h)
  | nilm => exact .nilm
  | ifc t v a _ ih => exact .ifc t v a (ih (by simpa [okA] using hx))
  | nilifc => exact .nilifc
/-- What is named is there. -/
theorem RelV.ok {β : List BV} {m : Mem} {v : Value} {x : AV} (h : RelV β m v x) : okA β.length x = true := by
  have lt : ∀ {o : Nat} {bv : BV}, β[o]? = some bv → o < β.length := fun h => (List.getElem?_eq_some_iff.1 h).1
  induction h with
  | agg vs cs hl _ ih =>
    simp only [okA]; rw [okL_iff]; intro c hc
    obtain ⟨i, hi⟩ := List.getElem?_of_mem hc
    have hlt := (List.getElem?_eq_some_iff.1 hi).1
    exact ih i _ c (Array.getElem?_eq_getElem (hl ▸ hlt)) hi
  | tup vs cs hl _ ih =>
    simp only [okA]; rw [okL_iff]; intro c hc
    obtain ⟨i, hi⟩ := List.getElem?_of_mem hc
    have hlt := (List.getElem?_eq_some_iff.1 hi).1
    exact ih i _ c (Array.getElem?_eq_getElem (hl ▸ hlt)) hi
  | ptr o off b v k h => simpa [okA] using lt h
  | vptr b off cs u hu _ ih =>
    simp only [okA]; rw [okL_iff]; intro c hc
    obtain ⟨i, hi⟩ := List.getElem?_of_mem hc
    exact ih i c hi
  | sl b off n c sz clip es u hn h0 hc hcl hsz hu _ ih =>
    simp only [okA]; rw [okLL_iff]; intro c hc
    obtain ⟨i, hi⟩ := List.getElem?_of_mem hc
    exact ih i c hi
  | row o ver v bv h hf hl hv hs => simpa [okA] using lt h
  | rptr o ver off v bv h hf hl hv hs => simpa [okA] using lt h
  | fn f fs cs fa ca hf hc _ _ ih1 ih2 =>
    simp only [okA, Bool.and_eq_true]
    constructor
    · rw [okL_iff]; intro c hc'
      obtain ⟨i, hi⟩ := List.getElem?_of_mem hc'
      have hlt := (List.getElem?_eq_some_iff.1 hi).1
      exact ih1 i _ c (Array.getElem?_eq_getElem (hf ▸ hlt)) hi
    · rw [okL_iff]; intro c hc'
      obtain ⟨i, hi⟩ := List.getElem?_of_mem hc'
      have hlt := (List.getElem?_eq_some_iff.1 hi).1
      exact ih2 i _ c (Array.getElem?_eq_getElem (hc ▸ hlt)) hi
  | mp o b v k h => simpa [okA] using lt h
  | ifc t v a _ ih => simpa [okA] using ih
  | _ => simp [okA, okLL]
theorem RelL.ok {β : List BV} {m : Mem} {vs : List Value} {cs : List AV} (h : RelL β m vs cs) : okL β.length cs = true := by
  rw [okL_iff]; intro c hc
  obtain ⟨i, hi⟩ := List.getElem?_of_mem hc
  obtain ⟨u, _, hr⟩ := h.get i hi
  exact hr.ok
theorem RelL.keepN {β β' : List BV} {m : Mem} {n : Nat} (hb : ∀ o bv, o < n → β[o]? = some bv → β'[o]? = some bv) {vs : List Value} {cs : List AV} (h : RelL β m vs cs) (hx : okL n cs = true) : RelL β' m vs cs :=
  ⟨h.1, fun i u c hu hc => (h.2 i u c hu hc).keepN hb (okL_at hx hc)⟩
theorem RelO.ok {β : List BV} {m : Mem} {w : World} {bv : BV} {ob : Ob} (h : RelO β m w bv ob) : okO β.length ob = true := by
  cases ob with
  | dead => rfl
  | var cs =>
    obtain ⟨b, vs, t, n, _, _, h2, _⟩ := h
    exact h2.ok
  | row ver sz es fz =>
    rcases h with ⟨rfl, _⟩ | ⟨b, c, vs, t, _, _, _, _, _, _, h7, _⟩
    · rfl
    · simp only [okO]; rw [okLL_iff]; exact okL_iff.1 h7.ok
  | map es =>
    obtain ⟨b, ents, ck, n, _, _, h2, _, h3, _⟩ := h
    simp only [okO, List.all_eq_true, Bool.and_eq_true]
    intro y hy
    obtain ⟨i, hi⟩ := List.getElem?_of_mem hy
    have hlt := (List.getElem?_eq_some_iff.1 hi).1
    have := h3 i _ y (Array.getElem?_eq_getElem (h2 ▸ hlt)) hi
    exact ⟨this.1.ok, this.2.ok⟩
theorem RelO.keepN {β β' : List BV} {m : Mem} {w : World} {n : Nat} {bv : BV} {ob : Ob} (hb : ∀ o bv, o < n → β[o]? = some bv → β'[o]? = some bv) (h : RelO β m w bv ob) (hx : okO n ob = true) : RelO β' m w bv ob := by
  cases ob with
  | dead => trivial
  | var cs =>
    obtain ⟨b, vs, t, k, e, h1, h2, h3⟩ := h
    exact ⟨b, vs, t, k, e, h1, h2.keepN hb hx, h3⟩
  | row ver sz es fz =>
    rcases h with h | ⟨b, c, vs, t, e, h1, h2, h3, h5, h6, h7, h8⟩
    · exact .inl h
    · exact .inr ⟨b, c, vs, t, e, h1, h2, h3, h5, h6, h7.keepN hb (by rw [okL_iff]; exact okLL_iff.1 hx), h8⟩
  | map es =>
    obtain ⟨b, ents, ck, k, e, h1, h2, hbn, h3, h4⟩ := h
    simp only [okO, List.all_eq_true, Bool.and_eq_true] at hx
    exact ⟨b, ents, ck, k, e, h1, h2, hbn, fun i x y hxx hy => ⟨(h3 i x y hxx hy).1.keepN hb (hx y (List.mem_of_getElem? hy)).1, (h3 i x y hxx hy).2.keepN hb (hx y (List.mem_of_getElem? hy)).2⟩, h4⟩
theorem Inv.okSt {β : List BV} {m : Mem} {w : World} {st : List Ob} (h : Inv β m w st) : okSt st.length st = true := by
  simp only [Rm.okSt, List.all_eq_true]
  intro ob hob
  obtain ⟨o, ho⟩ := List.getElem?_of_mem hob
  have hlt := (List.getElem?_eq_some_iff.1 ho).1
  rw [← h.len]
  exact (h.obj o _ ob (List.getElem?_eq_getElem (h.len ▸ hlt)) ho).ok

theorem take_get {α : Type} {l : List α} {n o : Nat} {x : α} (h : (l.take n)[o]? = some x) : o < n ∧ l[o]? = some x := by
  rw [List.getElem?_take] at h
  split at h
  · exact ⟨by assumption, h⟩
  · cases h
theorem keep_take (β : List BV) (n : Nat) : ∀ o bv, o < n → β[o]? = some bv → (β.take n)[o]? = some bv := fun o bv h e => by
  rw [List.getElem?_take, if_pos h]; exact e
theorem Inv.take {β : List BV} {m : Mem} {w : World} {st : List Ob} (n : Nat) (h : Inv β m w st) (hs : Rm.okSt n (st.take n) = true) : Inv (β.take n) m w (st.take n) :=
  ⟨by simp [h.len], h.mem, fun o bv ob hb ho => (h.obj o bv ob (take_get hb).2 (take_get ho).2).keepN (keep_take β n) (okSt_at hs ho),
    fun o o' bv bv' b hne hb hb' => h.apart o o' bv bv' b hne (take_get hb).2 (take_get hb').2, fun o bv b hb => h.lt o bv b (take_get hb).2⟩

/-- The same value, told with a new number for a slice of one's own, or told less. -/
inductive ReA (n idx ver : Nat) : AV → AV → Prop where
  | same (x : AV) (h : okA n x = true) : ReA n idx ver x x
  | row : ReA n idx ver (.row idx ver) (.row n 0)
  | one (x : AV) (h : oneA x = true) : ReA n idx ver x .one
  | tup (xs ys : List AV) (hl : xs.length = ys.length) (h : ∀ (i : Nat) a b, xs[i]? = some a → ys[i]? = some b → ReA n idx ver a b) : ReA n idx ver (.tup xs) (.tup ys)
  | agg (xs ys : List AV) (hl : xs.length = ys.length) (h : ∀ (i : Nat) a b, xs[i]? = some a → ys[i]? = some b → ReA n idx ver a b) : ReA n idx ver (.agg xs) (.agg ys)
theorem ReA.rel {n idx ver : Nat} {x y : AV} (h : ReA n idx ver x y) : ∀ {β : List BV} {m : Mem} {v : Value} {bv : BV}, n ≤ β.length → β[idx]? = some bv → bv.fix = false → bv.ver = ver → RelV β m v x → RelV (β.take n ++ [⟨bv.blk, bv.val, false, 0⟩]) m v y := by
  induction h with
  | same x h =>
    intro β m v bv hn hb hf hv hr
    refine hr.keepN (fun o b ho e => ?_) h
    rw [List.getElem?_append_left (by simp; omega)]
    exact keep_take β n o b ho e
  | row =>
    intro β m v bv hn hb hf hv hr
    obtain ⟨bv', hb', _, _, hq, hs⟩ := hr.row_inv
    rw [hb] at hb'; cases hb'
    exact .row _ _ _ ⟨bv.blk, bv.val, false, 0⟩ (by rw [List.getElem?_append_right (by simp; omega)]; simp [Nat.min_eq_left hn]) rfl (Nat.le_refl _) (fun _ => hq hv.symm) hs
  | one x h =>
    intro β m v bv hn hb hf hv hr
    exact .one _ (oneCell_of hr h)
  | tup xs ys hl h ih =>
    intro β m v bv hn hb hf hv hr
    obtain ⟨vs, rfl, hl2⟩ := RelV.tup_iff.1 hr
    refine RelV.tup_iff.2 ⟨vs, rfl, hl2.1.trans hl, fun i u c hu hc => ?_⟩
    have hlt := (List.getElem?_eq_some_iff.1 hc).1
    have hx : xs[i]? = some (xs[i]'(hl ▸ hlt)) := List.getElem?_eq_getElem _
    exact ih i _ c hx hc hn hb hf hv (hl2.2 i u _ hu hx)
  | agg xs ys hl h ih =>
    intro β m v bv hn hb hf hv hr
    obtain ⟨vs, rfl, hl2⟩ := RelV.agg_iff.1 hr
    refine RelV.agg_iff.2 ⟨vs, rfl, hl2.1.trans hl, fun i u c hu hc => ?_⟩
    have hlt := (List.getElem?_eq_some_iff.1 hc).1
    have hx : xs[i]? = some (xs[i]'(hl ▸ hlt)) := List.getElem?_eq_getElem _
    exact ih i _ c hx hc hn hb hf hv (hl2.2 i u _ hu hx)

/-- What is kept of the objects that a body leaves, and its result. -/
inductive Keeps (st0 st' : List Ob) (x : AV) : List Ob → AV → Prop where
  | drop (n : Nat) (h : st0.length ≤ n) (hx : okA n x = true) (hs : okSt st0.length st0 = true → okSt n (st'.take n) = true) : Keeps st0 st' x (st'.take n) x
  | row (y : AV) (idx ver sz : Nat) (es : List (List AV)) (fz : Bool) (h : st'[idx]? = some (.row ver sz es fz)) (hi : st0.length ≤ idx) (hs : okSt st0.length st0 = true → okSt st0.length (st'.take st0.length) = true) (he : okLL st0.length es = true)
      (hx : ReA st0.length idx ver x y) : Keeps st0 st' x (st'.take st0.length ++ [.row 0 sz es fz]) y

/-- A result variable's value. -/
inductive ResA (E : Env) (fr : List AV) (st : List Ob) : ResultVar → AV → Prop where
  | tmp (t : Tmp) : ResA E fr st (.tmp t) (fr.getD t .any)
  | cell (a : Tmp) (t : TypeId) (o off : Nat) (cs : List AV) (D : TD) (r : AV) (ha : fr.getD a .any = .ptr o off) (ho : st[o]? = some (.var cs)) (hT : E.tab t = some D) (hg : aggB D.u = false) (hr : cs[off]? = some r) : ResA E fr st (.cell a t) r
  | cells (a : Tmp) (t : TypeId) (o off : Nat) (cs r : List AV) (D : TD) (ha : fr.getD a .any = .ptr o off) (ho : st[o]? = some (.var cs)) (hT : E.tab t = some D) (hg : aggB D.u = true) (hn : off + D.size ≤ cs.length) (hr : (cs.drop off).take D.size = r) : ResA E fr st (.cell a t) (.agg r)

def resOne (tmps : Array Value) : ResultVar → Sem Value
  | .tmp t => pure (tmps.getD t undef)
  | .cell a t => do loadVar t (← asAddr (tmps.getD a undef))
theorem ResA.run {E : Env} {C : Cx} {β : List BV} {m : Mem} {fr : List AV} {st : List Ob} {a : Act} {w : World} {r : ResultVar} {x : AV} (hrel : Rel C β m fr st a w) (h : ResA E fr st r x) : ∃ v, (resOne a.tmps r).run E.P w = .ok v w ∧ RelV β m v x := by
  cases h with
  | tmp t => exact ⟨a.tmps.getD t undef, rfl, hrel.frm.getD t⟩
  | cell p t o off cs D r ha ho hT hg hr =>
    have h0 := hrel.frm.getD p
    rw [ha] at h0
    obtain ⟨b, v, n, hb, hx'⟩ := h0.ptr_inv
    obtain ⟨b', us, tt, n', e, hh, hl, hm⟩ := hrel.inv.obj o _ _ hb ho
    simp only [BV.mk.injEq, Option.some.injEq] at e
    obtain ⟨rfl, _⟩ := e
    obtain ⟨u, hu, hv⟩ := hl.get off hr
    refine ⟨u, ?_, hv⟩
    have := load_one (w := w) (b := b) (off := off) hT hg (v := u) (by simp at hu; simp [World.cell?, hh, hu])
    simp only [Instr.loadAt, Instr.sureAddr, Sem.run_bind, Sem.run_pure, Result.andThen_ok] at this
    simp only [resOne, hx', asAddr, Sem.run_bind, Sem.run_pure, Result.andThen_ok, this]
  | cells p t o off cs r D ha ho hT hg hn hr =>
    have h0 := hrel.frm.getD p
    rw [ha] at h0
    obtain ⟨b, v, n, hb, hx'⟩ := h0.ptr_inv
    obtain ⟨b', us, tt, n', e, hh, hl, hm⟩ := hrel.inv.obj o _ _ hb ho
    simp only [BV.mk.injEq, Option.some.injEq] at e
    obtain ⟨rfl, _⟩ := e
    have hlen : us.toList.length = cs.length := hl.1
    refine ⟨.agg ((us.toList.drop off).take D.size).toArray, ?_, RelV.agg_iff.2 ⟨_, rfl, by subst hr; exact (hl.drop off).take _⟩⟩
    have := load_agg (w := w) hT hg (by simp at hlen ⊢; omega) (range_of_heap hh off D.size)
    simp only [Instr.loadAt, Instr.sureAddr, Sem.run_bind, Sem.run_pure, Result.andThen_ok] at this
    simp only [resOne, hx', asAddr, Sem.run_bind, Sem.run_pure, Result.andThen_ok, this]

def packA : List AV → AV
  | [x] => x
  | xs => .tup xs
inductive ResL (E : Env) (fr : List AV) (st : List Ob) : List ResultVar → List AV → Prop where
  | nil : ResL E fr st [] []
  | cons {r : ResultVar} {x : AV} {rs : List ResultVar} {xs : List AV} (h : ResA E fr st r x) (k : ResL E fr st rs xs) : ResL E fr st (r :: rs) (x :: xs)
theorem ResL.run {E : Env} {C : Cx} {β : List BV} {m : Mem} {fr : List AV} {st : List Ob} {a : Act} {w : World} (hrel : Rel C β m fr st a w) : ∀ {rs : List ResultVar} {xs : List AV}, ResL E fr st rs xs → ∃ vs, (rs.mapM (resOne a.tmps)).run E.P w = .ok vs w ∧ RelL β m vs xs := by
  intro rs xs h
  induction h with
  | nil => exact ⟨[], rfl, RelL.nil⟩
  | cons h _ ih =>
    obtain ⟨v, e1, r1⟩ := h.run hrel
    obtain ⟨vs, e2, r2⟩ := ih
    exact ⟨v :: vs, by simp [List.mapM_cons, e1, e2], RelL.cons r1 r2⟩
theorem results_run {E : Env} {C : Cx} {β : List BV} {m : Mem} {fr : List AV} {st : List Ob} {a : Act} {w : World} {fn : Func} {xs : List AV} (hrel : Rel C β m fr st a w) (h : ResL E fr st fn.results.toList xs) : ∃ v, (results fn a.tmps).run E.P w = .ok v w ∧ RelV β m v (packA xs) := by
  obtain ⟨vs, e, r⟩ := h.run hrel
  have hm : (fn.results.mapM (resOne a.tmps)).run E.P w = .ok vs.toArray w := by
    rw [Array.mapM_eq_mapM_toList]
    simp [e]
  have hres : (results fn a.tmps).run E.P w = .ok (if h : vs.toArray.size = 1 then vs.toArray[0] else .tuple vs.toArray) w := by
    have : results fn a.tmps = (do let vs ← fn.results.mapM (resOne a.tmps); pure (if h : vs.size = 1 then vs[0] else .tuple vs)) := rfl
    rw [this]
    simp [hm]
  refine ⟨_, hres, ?_⟩
  match xs, vs, r with
  | [], vs, r =>
    have : vs = [] := List.eq_nil_of_length_eq_zero r.1
    subst this
    exact RelV.tup_iff.2 ⟨_, rfl, r⟩
  | [x], vs, r =>
    obtain ⟨u, rfl⟩ : ∃ u, vs = [u] := by have := r.1; match vs, this with | [u], _ => exact ⟨u, rfl⟩
    exact r.head
  | x :: y :: xs, vs, r =>
    have hne : ¬ vs.toArray.size = 1 := by have := r.1; simp at this ⊢; omega
    rw [dif_neg hne]
    exact RelV.tup_iff.2 ⟨_, rfl, r⟩

/-- A body's end. -/
def Fin (E : Env) (rs : List ResultVar) (st0 : List Ob) (Q : List Ob → AV → Prop) : List AV → List Ob → Prop :=
  fun fr st => ∃ xs stk y, ResL E fr st rs xs ∧ Keeps st0 st (packA xs) stk y ∧ Q stk y

theorem Ctr.of_body {E : Env} {f : FuncId} {fn : Func} {c : Code} {st : List Ob} {args : List AV} {Q : List Ob → AV → Prop} (hf : E.P.funcs[f]? = some fn) (hb : fn.body = some c)
    (h : AGo E st.length [.code c] (args ++ List.replicate (fn.ntmps - args.length) .any) st (Fin E fn.results.toList st Q)) : Ctr E.P E.mG f st args Q := by
  intro β m w vs hG hinv hargs cs
  have hsz : vs.size = args.length := by simpa using hargs.1
  let b : Frame := { (default : Frame) with fn := f, kind := .normal }
  have henter : Frame.enter E.P f vs .normal = b.at { tmps := vs ++ Array.replicate (fn.ntmps - vs.size) undef, defers := [] } [.code c] := by
    simp [Frame.enter, Frame.at, hf, hb, b]
  have hrel : Rel ⟨w, β, m⟩ β m (args ++ List.replicate (fn.ntmps - args.length) .any) st { tmps := vs ++ Array.replicate (fn.ntmps - vs.size) undef, defers := [] } w :=
    ⟨BLe.refl _, ⟨MemLe.refl _, fun _ _ _ e => .inl e⟩, hinv, Keep.refl _ _, fun o bv b hb hk => .inr ⟨o, bv, hb, hk⟩, by
      rw [Array.toList_append, Array.toList_replicate, hsz]
      exact hargs.append (RelL.replicate_any _ _), rfl⟩
  obtain ⟨a', w', fr', st', β', m', todo', ⟨xs, stk, y, hres, hkeep, hQ⟩, hrel', hsteps⟩ := h ⟨w, β, m⟩ β m _ w b cs hG (Nat.le_of_eq hinv.len) hrel
  obtain ⟨v, hv, hvr⟩ := results_run hrel' hres
  rw [← henter] at hsteps
  have hok := hinv.okSt
  have hlen : β.length = st.length := hinv.len
  have hlen' : β.length ≤ β'.length := hrel'.pre.len
  have main : ∃ β'' , Inv β'' m' w' stk ∧ RelV β'' m' v y ∧ BLe β β'' ∧ ∀ (o : Nat) bv b, β''[o]? = some bv → bv.blk = some b → w.heap.size ≤ b ∨ Own β b := by
    cases hkeep with
    | drop n hn hx hs =>
      refine ⟨β'.take n, hrel'.inv.take n (hs hok), hvr.keepN (keep_take β' n) hx, fun o bv hb => ?_, fun o bv b hb hk => hrel'.new o bv b (take_get hb).2 hk⟩
      obtain ⟨bv', h1, h2⟩ := hrel'.pre o bv hb
      have := (List.getElem?_eq_some_iff.1 hb).1
      exact ⟨bv', keep_take β' n o bv' (by omega) h1, h2⟩
    | row y idx ver sz es fz hidx hi hs he hx =>
      have hlt : idx < β'.length := by rw [hrel'.inv.len]; exact (List.getElem?_eq_some_iff.1 hidx).1
      obtain ⟨bv, hbv⟩ : ∃ bv, β'[idx]? = some bv := ⟨_, List.getElem?_eq_getElem hlt⟩
      have hro := hrel'.inv.obj idx bv _ hbv hidx
      have hfv : bv.fix = false ∧ bv.ver = ver := by
        rcases hro with ⟨_, _, a', rfl⟩ | ⟨b, c, us, tt, rfl, _⟩ <;> exact ⟨rfl, rfl⟩
      have hn : st.length ≤ β'.length := by omega
      have hkeepn : ∀ o b, o < st.length → β'[o]? = some b → (β'.take st.length ++ [⟨bv.blk, bv.val, false, 0⟩])[o]? = some b := fun o b ho e => by
        rw [List.getElem?_append_left (by simp; omega)]
        exact keep_take β' _ o b ho e
      have htl : (β'.take st.length).length = st.length := by simp; omega
      have htl2 : (st'.take st.length).length = st.length := by have := hrel'.inv.len; simp; omega
      have hcase : ∀ {o : Nat} {x : BV}, (β'.take st.length ++ [⟨bv.blk, bv.val, false, 0⟩])[o]? = some x → (o < st.length ∧ β'[o]? = some x) ∨ (o = st.length ∧ x = ⟨bv.blk, bv.val, false, 0⟩) := fun {o x} hx => by
        rcases getElem?_snoc hx with h1 | ⟨h1, h2⟩
        · exact .inl (take_get h1)
        · exact .inr ⟨h1.trans htl, h2⟩
      refine ⟨β'.take st.length ++ [⟨bv.blk, bv.val, false, 0⟩], ⟨by simp only [List.length_append, htl, htl2, List.length_singleton], hrel'.inv.mem, fun o x ob hx' ho => ?_, fun o o' x x' b hne hx1 hx2 hk hk' => ?_, fun o x b hx' hk => ?_⟩, hx.rel hn hbv hfv.1 hfv.2 hvr, fun o x hx' => ?_, fun o x b hx' hk => ?_⟩
      · rcases hcase hx' with ⟨h1, h2⟩ | ⟨h1, h2⟩
        · rw [List.getElem?_append_left (by omega)] at ho
          exact (hrel'.inv.obj o x ob h2 (take_get ho).2).keepN hkeepn (okSt_at (hs hok) ho)
        · subst h1; subst h2
          rw [List.getElem?_append_right (by omega), htl2] at ho
          simp at ho; subst ho
          rcases hro with ⟨rfl, h0, a'', rfl⟩ | ⟨b, c, us, tt, rfl, q1, q2, q3, q5, q6, q7, q8⟩
          · exact .inl ⟨rfl, h0, a'', rfl⟩
          · exact .inr ⟨b, c, us, tt, rfl, q1, q2, q3, q5, q6, q7.keepN hkeepn (by rw [okL_iff]; exact okLL_iff.1 he), q8⟩
      · rcases hcase hx1 with ⟨h1, h2⟩ | ⟨h1, h2⟩
        · rcases hcase hx2 with ⟨h3, h4⟩ | ⟨h3, h4⟩
          · exact hrel'.inv.apart o o' x x' b hne h2 h4 hk hk'
          · subst h4; exact hrel'.inv.apart o idx x bv b (by omega) h2 hbv hk hk'
        · rcases hcase hx2 with ⟨h3, h4⟩ | ⟨h3, h4⟩
          · subst h2; exact hrel'.inv.apart idx o' bv x' b (by omega) hbv h4 hk hk'
          · omega
      · rcases hcase hx' with ⟨h1, h2⟩ | ⟨h1, h2⟩
        · exact hrel'.inv.lt o x b h2 hk
        · subst h2; exact hrel'.inv.lt idx bv b hbv hk
      · obtain ⟨x', h1, h2⟩ := hrel'.pre o x hx'
        have := (List.getElem?_eq_some_iff.1 hx').1
        exact ⟨x', hkeepn o x' (by omega) h1, h2⟩
      · rcases hcase hx' with ⟨h1, h2⟩ | ⟨h1, h2⟩
        · exact hrel'.new o x b h2 hk
        · subst h2; exact hrel'.new idx bv b hbv hk
  obtain ⟨β'', hi'', hv'', hb'', hn''⟩ := main
  exact ⟨.returned v, w', _, ⟨β'', m', v, stk, y, hQ, rfl, hb'', hrel'.fresh, hi'', hrel'.keep, hn'', hv''⟩, hsteps, rfl, rfl, hrel'.dfr, rfl, fn, hf, hv⟩
end Rm

namespace Rm
open Go
open Go.RowKit

section go
variable {E : Env} {n0 : Nat} {k : List Item} {fr : List AV} {st : List Ob} {R : List AV → List Ob → Prop}

/-- A slice of one's own is only read from now on. -/
theorem AGo.lend {todo : List Item} {o ver sz : Nat} {es : List (List AV)} (ho : st[o]? = some (.row ver sz es false)) (g : AGo E n0 todo fr (st.set o (.row ver sz es true)) R) : AGo E n0 todo fr st R := by
  intro C β m a w b cs hG hn hr
  obtain ⟨m', hle, hrel, _⟩ := hr.lend ho
  exact g C β m' a w b cs hG hn hrel
theorem RelL.setA {β : List BV} {m : Mem} {vs : List Value} {cs : List AV} (h : RelL β m vs cs) (t : Nat) (y : AV) (hy : ∀ v, RelV β m v (cs.getD t .any) → RelV β m v y) : RelL β m vs (cs.set t y) := by
  refine ⟨by simp [h.1], fun i u c hu hc => ?_⟩
  rw [List.getElem?_set] at hc
  split at hc
  · rename_i e; subst e
    split at hc
    · rename_i hlt
      simp at hc; subst hc
      refine hy u ?_
      rw [List.getD_eq_getElem?_getD, List.getElem?_eq_getElem hlt]
      exact h.2 t u _ hu (List.getElem?_eq_getElem hlt)
    · cases hc
  · exact h.2 i u c hu hc
theorem view_rel {C : Cx} {β : List BV} {m : Mem} {a : Act} {w : World} {o ver sz : Nat} {es : List (List AV)} (hr : Rel C β m fr st a w) (ho : st[o]? = some (.row ver sz es true)) {v : Value} (hv : RelV β m v (.row o ver)) : RelV β m v (.sl false es) := by
  obtain ⟨bv, hb, hf, hl, hq, hs⟩ := hv.row_inv
  rcases hr.inv.obj o _ _ hb ho with ⟨rfl, h0, a', rfl⟩ | ⟨b, c, us, tt, rfl, hh, q2, q3, q5, q6, q7, q8, q9⟩
  · rw [hq rfl]; exact .sl0 _ _ _ (fun h => by cases h)
  · rw [hq rfl]
    have h9 : ∀ i, i < es.length * sz → m b i = us[i]? := by simpa using q9
    by_cases he : es = []
    · subst he; exact .sl0 _ _ _ (fun h => by cases h)
    · have hpos : 0 < es.length := by cases es <;> simp_all
      have hfl := flatten_length es q6
      have hus : es.length * sz ≤ us.size := Nat.le_trans (Nat.mul_le_mul_right _ q2) q3
      refine .sl b 0 _ c sz _ _ (fun i => us.getD i undef) rfl hpos q2 (fun h => by cases h) q6 (fun i x hx => ?_) (fun i x hx => ?_)
      · have hi : i < es.length * sz := by rw [← hfl]; exact (List.getElem?_eq_some_iff.1 hx).1
        have hi2 : i < us.size := by omega
        simp [h9 i hi, hi2]
      · have hi : i < es.length * sz := by rw [← hfl]; exact (List.getElem?_eq_some_iff.1 hx).1
        obtain ⟨u, hu, hrr⟩ := q7.get i hx
        rw [List.getElem?_take, if_pos hi] at hu
        have : us.getD i undef = u := by simp at hu; simp [Array.getD_eq_getD_getElem?, hu]
        rw [this]; exact hrr
theorem AGo.view {todo : List Item} {o ver sz : Nat} {es : List (List AV)} (t : Nat) (ht : fr.getD t .any = .row o ver) (ho : st[o]? = some (.row ver sz es true)) (g : AGo E n0 todo (fr.set t (.sl false es)) st R) : AGo E n0 todo fr st R := by
  intro C β m a w b cs hG hn hr
  exact g C β m a w b cs hG hn ⟨hr.pre, hr.fresh, hr.inv, hr.keep, hr.new, hr.frm.setA t _ (fun v hv => by rw [ht] at hv; exact view_rel hr ho hv), hr.dfr⟩
/-- Room for a slice of one's own. -/
theorem AGo.adopt {todo : List Item} (sz : Nat) (h0 : 0 < sz) (g : AGo E n0 todo fr (st ++ [.row 0 sz [] false]) R) : AGo E n0 todo fr st R := by
  intro C β m a w b cs hG hn hr
  exact g C (β ++ [⟨none, .slice none 0 0, false, 0⟩]) m a w b cs hG hn (hr.newObj (bv := ⟨none, .slice none 0 0, false, 0⟩) (ob := .row 0 sz [] false) (fun b h => by cases h) rfl rfl rfl (Nat.le_refl _) (fun _ _ => rfl) (.inl ⟨rfl, h0, none, rfl⟩))
/-- Nobody names the last objects any more. -/
theorem AGo.drop {todo : List Item} (n : Nat) (hn0 : n0 ≤ n) (hf : okL n fr = true) (hs : okSt n (st.take n) = true) (g : AGo E n0 todo fr (st.take n) R) : AGo E n0 todo fr st R := by
  intro C β m a w b cs hG hn hr
  refine g C (β.take n) m a w b cs hG hn ⟨fun o bv hb => ?_, hr.fresh, hr.inv.take n hs, hr.keep, fun o bv b hb hk => hr.new o bv b (take_get hb).2 hk, hr.frm.keepN (keep_take β n) hf, hr.dfr⟩
  obtain ⟨bv', h1, h2⟩ := hr.pre o bv hb
  have := (List.getElem?_eq_some_iff.1 hb).1
  exact ⟨bv', keep_take β n o bv' (by omega) h1, h2⟩
/-- Frames may be told less. -/
def leA : List AV → List AV → Bool
  | [], [] => true
  | _ :: xs, .any :: ys => leA xs ys
  | _, _ => false
theorem RelL.forget {β : List BV} {m : Mem} {vs : List Value} {cs : List AV} (h : RelL β m vs cs) (t : Nat) : RelL β m vs (cs.set t .any) := h.setA t .any fun v _ => .any v
theorem AGo.forget {todo : List Item} (t : Nat) (g : AGo E n0 todo (fr.set t .any) st R) : AGo E n0 todo fr st R :=
  .weaken (fun h => h.forget t) g
/-- Several places are forgotten: all whose number 'keep' does not hold. -/
def onlyA (keep : Nat → Bool) (l : List AV) : List AV := l.zipIdx.map fun x => if keep x.2 then x.1 else .any
theorem AGo.only {todo : List Item} (keep : Nat → Bool) (g : AGo E n0 todo (onlyA keep fr) st R) : AGo E n0 todo fr st R :=
  .weaken (fun {β m vs} h => ⟨by simp [onlyA, h.1], fun i u c hu hc => by
    simp only [onlyA, List.getElem?_map, List.getElem?_zipIdx, Option.map_map, Option.map_eq_some_iff] at hc
    obtain ⟨x, hx, rfl⟩ := hc
    simp only [Function.comp_apply]
    split
    · exact h.2 i u x hu hx
    · exact .any _⟩) g
/-- The same frame, told with more or less. -/
theorem AGo.frame {todo : List Item} {fr' : List AV} (hl : fr.length = fr'.length) (h : ∀ (i : Nat) x y, fr[i]? = some x → fr'[i]? = some y → y = x ∨ y = .any) (g : AGo E n0 todo fr' st R) : AGo E n0 todo fr st R :=
  .weaken (fun {β m vs} hr => ⟨hr.1.trans hl, fun i u c hu hc => by
    have hlt := (List.getElem?_eq_some_iff.1 hc).1
    have hx : fr[i]? = some (fr[i]'(hl ▸ hlt)) := List.getElem?_eq_getElem _
    rcases h i _ c hx hc with rfl | rfl
    · exact hr.2 i u _ hu hx
    · exact .any _⟩) g

theorem AOps.lend {ops : Array Oper} {l : List Oper} {o ver sz : Nat} {es : List (List AV)} (ho : st[o]? = some (.row ver sz es false)) (g : AOps E n0 ops l k fr (st.set o (.row ver sz es true)) R) : AOps E n0 ops l k fr st R :=
  fun js hj => .lend ho (g js hj)
theorem AOps.view {ops : Array Oper} {l : List Oper} {o ver sz : Nat} {es : List (List AV)} (t : Nat) (ht : fr.getD t .any = .row o ver) (ho : st[o]? = some (.row ver sz es true)) (g : AOps E n0 ops l k (fr.set t (.sl false es)) st R) : AOps E n0 ops l k fr st R :=
  fun js hj => .view t ht ho (g js hj)
theorem AOps.adopt {ops : Array Oper} {l : List Oper} (sz : Nat) (h0 : 0 < sz) (g : AOps E n0 ops l k fr (st ++ [.row 0 sz [] false]) R) : AOps E n0 ops l k fr st R :=
  fun js hj => .adopt sz h0 (g js hj)
end go

section calls
variable {E : Env} {g : Operand → AV} {st : List Ob} {d : Option Tmp} {t : TypeId} {p : String} {af : Array Edge} {gd : Option (Nat × Bool)}

theorem call_steps {P : Program} {x : Operand} {xs : Array Operand} {Ts : Array TypeId} {f : FuncId} {fn : Func} {fs cs0 : Array Value} {a : Act} {w : World} {X : Ending → World → Prop} (hfn : P.funcs[f]? = some fn) (hnm : (fn.name == "runtime.NumGoroutine") = false) (hbd : fn.body.isNone = false)
    (hx : a.eval x = .func (.func f) fs cs0) (h : Calls P f (fs ++ xs.map a.eval ++ cs0) w X) (hX : ∀ e w', X e w' → ∃ v, e = .returned v)
    (b : Frame) (k : List Item) (cs : List Frame) (ops : Array Oper) (i : Nat) (rest : List Nat) (ho : ops[i]? = some ⟨d, .call ⟨.value x, xs, Ts⟩, t, p, af, gd⟩) (hw : Region.wanted ⟨d, .call ⟨.value x, xs, Ts⟩, t, p, af, gd⟩ (yielded ops a.tmps) = true) :
    ∃ v w', X (.returned v) w' ∧ Steps P (lone (b.at a (.inRegion ops (i :: rest) :: k)) cs w) (lone (b.at (a.put d v) (.inRegion ops rest :: k)) cs w') := by
  have hrun : (execOp a.eval ⟨d, .call ⟨.value x, xs, Ts⟩, t, p, af, gd⟩).run P w = .ok (.enter f (fs ++ xs.map a.eval ++ cs0)) w := by
    have h1 : ¬ fn.name = "runtime.NumGoroutine" := fun e => by rw [e] at hnm; simp at hnm
    have h2 : ¬ fn.body = none := fun e => by rw [e] at hbd; simp at hbd
    simp [execOp, resolve, hx, Deferred.ofValue, invoke, callFunc, hfn]
    rw [if_neg h1, if_neg h2]
  obtain ⟨e, w'', fr, hR, hsteps, _, hleave⟩ := h (b.at a (.inRegion ops (i :: rest) :: k) :: cs)
  obtain ⟨v, rfl⟩ := hX e w'' hR
  have hg := stepG_op (P := P) (b := b) (k := k) (cs := cs) (w := w) (rest := rest) ho hw
  have henter : step P (lone (b.at a (.inRegion ops (i :: rest) :: k)) cs w) = .next (lone (Frame.enter P f (fs ++ xs.map a.eval ++ cs0) .normal) (b.at a (.inRegion ops (i :: rest) :: k) :: cs) w) :=
    step_lone_go (by rw [hg]; simp [stepG.apply, hrun, Frame.at])
  refine ⟨v, w'', hR, .head henter (Steps.trans hsteps (.one ?_))⟩
  have hfin : (b.at a (.inRegion ops (i :: rest) :: k)).finish v = b.at (a.put d v) (.inRegion ops rest :: k) := by rw [Frame.finish_at, ho]; rfl
  rw [← hfin]
  exact step_leave_returned hleave

theorem call_args {β : List BV} {m : Mem} {a : Act} {xs : Array Operand} {fs cs0 : Array Value} {fa ca : List AV} (h1 : RelL β m fs.toList fa) (h2 : RelL β m cs0.toList ca) (hg : ∀ y ∈ xs, RelV β m (a.eval y) (g y)) : RelL β m (fs ++ xs.map a.eval ++ cs0).toList (fa ++ xs.toList.map g ++ ca) := by
  rw [Array.toList_append, Array.toList_append, Array.toList_map]
  refine (h1.append ⟨by simp, fun i u c hu hc => ?_⟩).append h2
  simp only [List.getElem?_map, Option.map_eq_some_iff] at hu hc
  obtain ⟨y, hy, rfl⟩ := hu
  obtain ⟨y', hy', rfl⟩ := hc
  rw [hy] at hy'; cases hy'
  exact hg y (by simpa using List.mem_of_getElem? hy)

theorem op_call {x : Operand} {xs : Array Operand} {Ts : Array TypeId} {f : FuncId} {fn : Func} {fa ca args : List AV} {Q : List Ob → AV → Prop} (hfn : E.P.funcs[f]? = some fn) (hnm : (fn.name == "runtime.NumGoroutine") = false) (hbd : fn.body.isNone = false)
    (hx : g x = .fn (.func f) fa ca) (hargs : fa ++ xs.toList.map g ++ ca = args) (h : Ctr E.P E.mG f st args Q) : OpOk E ⟨d, .call ⟨.value x, xs, Ts⟩, t, p, af, gd⟩ g st (fun y st' => Q st' y) := by
  intro C β m fr a w hG hrel hg b k cs ops i rest ho hw
  have h0 := hg x (by simp [Op.operands, Call.operands])
  rw [hx] at h0
  obtain ⟨fs, cs0, e1, r1, r2⟩ := h0.fn_inv
  have har := call_args (xs := xs) r1 r2 (fun y hy => hg y (by simp [Op.operands, Call.operands, hy]))
  rw [hargs] at har
  obtain ⟨v, w', ⟨β', m', v', st', res, hQ, he, hle, hfr, hinv, hkeep, hnew, hrv⟩, hs⟩ := call_steps (d := d) (t := t) (p := p) (af := af) (gd := gd) (Ts := Ts) hfn hnm hbd e1 (h β m w _ hG hrel.inv har) (fun e w' hX => by
    obtain ⟨_, _, v, _, _, _, he, _⟩ := hX; exact ⟨v, he⟩) b k cs ops i rest ho hw
  cases he
  exact ⟨v, w', β', m', res, st', hs, hQ, hrel.after hle hfr hinv hkeep hnew, hrv⟩

mutual
/-- No memory, no objects. -/
def pureA : AV → Bool
  | .agg cs => pureL cs
  | .tup cs => pureL cs
  | .any => true
  | .one => true
  | .int _ _ => true
  | .bool _ => true
  | .str _ => true
  | .nilp => true
  | .nilfn => true
  | .nilm => true
  | .nilifc => true
  | _ => false
def pureL : List AV → Bool
  | [] => true
  | x :: xs => pureA x && pureL xs
end
theorem pureL_iff : ∀ {l : List AV}, pureL l = true ↔ ∀ x ∈ l, pureA x = true
  | [] => by simp [pureL]
  | x :: xs => by simp [pureL, pureL_iff (l := xs)]
theorem RelV.pure {β β' : List BV} {m m' : Mem} {v : Value} {x : AV} (h : RelV β m v x) (hx : pureA x = true) : RelV β' m' v x := by
  induction h with
  | any v => exact .any v
  | one v h => exact .one v h
  | int k n => exact .int k n
  | bool b => exact .bool b
  | str s l h => exact .str s l h
  | agg vs cs hl _ ih => exact .agg vs cs hl fun i u c hu hc => ih i u c hu hc (pureL_iff.1 (by simpa [pureA] using hx) c (List.mem_of_getElem? hc))
  | tup vs cs hl _ ih => exact .tup vs cs hl fun i u c hu hc => ih i u c hu hc (pureL_iff.1 (by simpa [pureA] using hx) c (List.mem_of_getElem? hc))
  | nilp => exact .nilp
  | nilfn => exact .nilfn
  | nilm => exact .nilm
  | nilifc => exact .nilifc
  | _ => simp [pureA] at hx
theorem pure_bs (l : List UInt8) : ∀ x ∈ (bs l).flatten, pureA x = true := fun x hx => by
  rw [bs_flatten] at hx
  obtain ⟨_, _, rfl⟩ := List.mem_map.1 hx
  rfl

/-- Arguments as a callee that knows no objects sees them: slices of one's own are lent. -/
inductive BorL (st : List Ob) : List AV → List AV → Prop where
  | nil : BorL st [] []
  | same {x : AV} {xs ys : List AV} (h : okA 0 x = true) (k : BorL st xs ys) : BorL st (x :: xs) (x :: ys)
  | row {o ver sz : Nat} {es : List (List AV)} {fz : Bool} {xs ys : List AV} (h : st[o]? = some (.row ver sz es fz)) (he : okLL 0 es = true) (k : BorL st xs ys) : BorL st (.row o ver :: xs) (.sl false es :: ys)
def lendN (m : Mem) (b : Nat) (vs : Array Value) (n : Nat) : Mem := fun b' o => if b' = b ∧ o < n then vs[o]? else m b' o
theorem BorL.rel {st : List Ob} {xs ys : List AV} (h : BorL st xs ys) : ∀ {C : Cx} {β : List BV} {m m1 : Mem} {fr : List AV} {a : Act} {w : World} {vs : List Value}, Rel C β m fr st a w → MemLe m m1 → MemOk m1 w → RelL β m vs xs → ∃ m2, MemLe m1 m2 ∧ MemOk m2 w ∧ RelL [] m2 vs ys := by
  induction h with
  | nil => intro C β m m1 fr a w vs hr hle hok hv; exact ⟨m1, MemLe.refl _, hok, ⟨hv.1, fun i u c hu hc => by simp at hc⟩⟩
  | @same x xs ys hx k ih =>
    intro C β m m1 fr a w vs hr hle hok hv
    obtain ⟨v, vs', rfl⟩ : ∃ v vs', vs = v :: vs' := by cases vs with | nil => have := hv.1; simp at this | cons v vs' => exact ⟨v, vs', rfl⟩
    obtain ⟨m2, h1, h2, h3⟩ := ih hr hle hok hv.tail
    exact ⟨m2, h1, h2, RelL.cons ((hv.head.mono (BLe.refl _) (hle.trans h1)).keepN (n := 0) (fun o b ho => by omega) hx) h3⟩
  | @row o ver sz es fz xs ys ho he k ih =>
    intro C β m m1 fr a w vs hr hle hok hv
    obtain ⟨v, vs', rfl⟩ : ∃ v vs', vs = v :: vs' := by cases vs with | nil => have := hv.1; simp at this | cons v vs' => exact ⟨v, vs', rfl⟩
    obtain ⟨bv, hb, hf, hl, hq, hs⟩ := hv.head.row_inv
    rcases hr.inv.obj o _ _ hb ho with ⟨rfl, h0, a', rfl⟩ | ⟨b, c, us, tt, rfl, hh, q2, q3, q5, q6, q7, q8, q9⟩
    · obtain ⟨m2, h1, h2, h3⟩ := ih hr hle hok hv.tail
      exact ⟨m2, h1, h2, RelL.cons (by rw [hq rfl]; exact .sl0 _ _ _ (fun h => by cases h)) h3⟩
    · have hle1 : MemLe m1 (lendN m1 b us (es.length * sz)) := fun b' i x e => by
        simp only [lendN]
        split
        · rename_i hc
          obtain ⟨rfl, hi⟩ := hc
          have := hok b' i x e
          simpa [World.cell?, hh] using this
        · exact e
      have hok1 : MemOk (lendN m1 b us (es.length * sz)) w := fun b' i x e => by
        simp only [lendN] at e
        split at e
        · rename_i hc
          obtain ⟨rfl, hi⟩ := hc
          simp [World.cell?, hh, e]
        · exact hok b' i x e
      obtain ⟨m2, h1, h2, h3⟩ := ih hr (hle.trans hle1) hok1 hv.tail
      refine ⟨m2, hle1.trans h1, h2, RelL.cons ?_ h3⟩
      rw [hq rfl]
      by_cases hne : es = []
      · subst hne; exact .sl0 _ _ _ (fun h => by cases h)
      · have hpos : 0 < es.length := by cases es <;> simp_all
        have hfl := flatten_length es q6
        have hus : es.length * sz ≤ us.size := Nat.le_trans (Nat.mul_le_mul_right _ q2) q3
        refine .sl b 0 _ c sz _ _ (fun i => us.getD i undef) rfl hpos q2 (fun h => by cases h) q6 (fun i x hx => h1 _ _ _ ?_) (fun i x hx => ?_)
        · have hi : i < es.length * sz := by rw [← hfl]; exact (List.getElem?_eq_some_iff.1 hx).1
          have hi2 : i < us.size := by omega
          simp [lendN, hi, hi2]
        · have hi : i < es.length * sz := by rw [← hfl]; exact (List.getElem?_eq_some_iff.1 hx).1
          obtain ⟨u, hu, hrr⟩ := q7.get i hx
          rw [List.getElem?_take, if_pos hi] at hu
          have : us.getD i undef = u := by simp at hu; simp [Array.getD_eq_getD_getElem?, hu]
          rw [this]
          exact (hrr.mono (BLe.refl _) (hle.trans (hle1.trans h1))).keepN (n := 0) (fun o b ho => by omega) (okLL_at he hx)

/-- What comes back from such a callee: its objects stand behind one's own. -/
inductive ShA (n : Nat) : AV → AV → Prop where
  | same (x : AV) (h : pureA x = true) : ShA n x x
  | row (o ver : Nat) : ShA n (.row o ver) (.row (n + o) ver)
  | sl0 (clip : Bool) : ShA n (.sl clip []) (.sl clip [])
  | tup (xs ys : List AV) (hl : xs.length = ys.length) (h : ∀ (i : Nat) a b, xs[i]? = some a → ys[i]? = some b → ShA n a b) : ShA n (.tup xs) (.tup ys)
  | agg (xs ys : List AV) (hl : xs.length = ys.length) (h : ∀ (i : Nat) a b, xs[i]? = some a → ys[i]? = some b → ShA n a b) : ShA n (.agg xs) (.agg ys)
theorem ShA.rel {n : Nat} {x y : AV} (h : ShA n x y) : ∀ {β β' : List BV} {m m' : Mem} {v : Value}, β.length = n → RelV β' m' v x → RelV (β ++ β') m v y := by
  induction h with
  | same x h => intro β β' m m' v _ hr; exact hr.pure h
  | sl0 clip =>
    intro β β' m m' v hn hr
    rcases hr.sl_inv with ⟨_, a, c, rfl, hc⟩ | ⟨_, _, _, _, _, _, hbad, _⟩
    · exact .sl0 _ _ _ hc
    · simp at hbad
  | row o ver =>
    intro β β' m m' v hn hr
    obtain ⟨bv, hb, hf, hl, hq, hs⟩ := hr.row_inv
    exact .row _ _ _ bv (by rw [List.getElem?_append_right (by omega)]; simpa [← hn] using hb) hf hl hq hs
  | tup xs ys hl h ih =>
    intro β β' m m' v hn hr
    obtain ⟨vs, rfl, hl2⟩ := RelV.tup_iff.1 hr
    refine RelV.tup_iff.2 ⟨vs, rfl, hl2.1.trans hl, fun i u c hu hc => ?_⟩
    have hlt := (List.getElem?_eq_some_iff.1 hc).1
    have hx : xs[i]? = some (xs[i]'(hl ▸ hlt)) := List.getElem?_eq_getElem _
    exact ih i _ c hx hc hn (hl2.2 i u _ hu hx)
  | agg xs ys hl h ih =>
    intro β β' m m' v hn hr
    obtain ⟨vs, rfl, hl2⟩ := RelV.agg_iff.1 hr
    refine RelV.agg_iff.2 ⟨vs, rfl, hl2.1.trans hl, fun i u c hu hc => ?_⟩
    have hlt := (List.getElem?_eq_some_iff.1 hc).1
    have hx : xs[i]? = some (xs[i]'(hl ▸ hlt)) := List.getElem?_eq_getElem _
    exact ih i _ c hx hc hn (hl2.2 i u _ hu hx)
def plainO : Ob → Prop
  | .row _ _ es fz => fz = false ∧ ∀ x ∈ es.flatten, pureA x = true
  | _ => False

theorem op_callB {x : Operand} {xs : Array Operand} {Ts : Array TypeId} {f : FuncId} {fn : Func} {fa ca args : List AV} {Q : List Ob → AV → Prop} {Q' : AV → List Ob → Prop} (hfn : E.P.funcs[f]? = some fn) (hnm : (fn.name == "runtime.NumGoroutine") = false) (hbd : fn.body.isNone = false)
    (hx : g x = .fn (.func f) fa ca) (hargs : BorL st (fa ++ xs.toList.map g ++ ca) args) (h : Ctr E.P E.mG f [] args Q)
    (hQ : ∀ st' res, Q st' res → (∀ ob ∈ st', plainO ob) ∧ ∃ y, ShA st.length res y ∧ Q' y (st ++ st')) : OpOk E ⟨d, .call ⟨.value x, xs, Ts⟩, t, p, af, gd⟩ g st Q' := by
  intro C β m fr a w hG hrel hg b k cs ops i rest ho hw
  have h0 := hg x (by simp [Op.operands, Call.operands])
  rw [hx] at h0
  obtain ⟨fs, cs0, e1, r1, r2⟩ := h0.fn_inv
  have har := call_args (xs := xs) r1 r2 (fun y hy => hg y (by simp [Op.operands, Call.operands, hy]))
  obtain ⟨m2, hm2, hok2, har2⟩ := hargs.rel hrel (MemLe.refl _) hrel.inv.mem har
  have hinv0 : Inv [] m2 w [] := ⟨rfl, hok2, fun o bv ob h => by simp at h, fun o o' bv bv' b _ h => by simp at h, fun o bv b h => by simp at h⟩
  obtain ⟨v, w', ⟨β', m', v', st', res, hQr, he, _, hfr, hinv, hkeep, hnew, hrv⟩, hs⟩ := call_steps (d := d) (t := t) (p := p) (af := af) (gd := gd) (Ts := Ts) hfn hnm hbd e1 (h [] m2 w _ (hG.trans hm2) hinv0 har2) (fun e w' hX => by
    obtain ⟨_, _, v, _, _, _, he, _⟩ := hX; exact ⟨v, he⟩) b k cs ops i rest ho hw
  cases he
  obtain ⟨hpl, y, hsh, hQ'⟩ := hQ st' res hQr
  have hnoown : ∀ b, ¬ Own [] b := fun b ⟨o, bv, h, _⟩ => by simp at h
  have hblk : ∀ r, r < w.heap.size → w'.heap[r]? = w.heap[r]? := fun r hr => hkeep.block r hr (hnoown r)
  have hnew' : ∀ (o : Nat) bv b, β'[o]? = some bv → bv.blk = some b → w.heap.size ≤ b := fun o bv b h h' => (hnew o bv b h h').resolve_right (hnoown b)
  have hlen := hrel.inv.len
  have hcase : ∀ {o : Nat} {x : BV}, (β ++ β')[o]? = some x → (o < β.length ∧ β[o]? = some x) ∨ (β.length ≤ o ∧ β'[o - β.length]? = some x) := fun {o x} hx => by
    rcases Nat.lt_or_ge o β.length with hlt | hge
    · rw [List.getElem?_append_left hlt] at hx; exact .inl ⟨hlt, hx⟩
    · rw [List.getElem?_append_right hge] at hx; exact .inr ⟨hge, hx⟩
  refine ⟨v, w', β ++ β', m, y, st ++ st', hs, hQ', hrel.after (BLe.append _ _) ⟨MemLe.refl _, fun _ _ _ e => .inl e⟩ ⟨by simp [hlen, hinv.len], fun b i x e => ?_, fun o bv ob hb ho' => ?_, fun o o' x x' b hne hx1 hx2 hk hk' => ?_, fun o x b hx' hk => ?_⟩
    ⟨hkeep.os, hkeep.tape, hkeep.output, hkeep.size, fun r hr _ => hblk r hr⟩ fun o x b hx' hk => ?_, hsh.rel hlen hrv⟩
  · have hl := hrel.inv.mem.lt e
    have := hrel.inv.mem b i x e
    simpa [World.cell?, hblk b hl] using this
  · rcases hcase hb with ⟨h1, h2⟩ | ⟨h1, h2⟩
    · rw [List.getElem?_append_left (by omega)] at ho'
      exact (hrel.inv.obj o bv ob h2 ho').congr (BLe.append _ _) (MemLe.refl _) (fun _ _ _ e => e) fun b hk => hblk b (hrel.inv.lt o bv b h2 hk)
    · rw [List.getElem?_append_right (by omega), ← hlen] at ho'
      have hp := hpl ob (List.mem_of_getElem? ho')
      have hro := hinv.obj _ bv ob h2 ho'
      cases ob with
      | row ver sz es fz =>
        obtain ⟨rfl, hp⟩ := hp
        rcases hro with hro | ⟨b, c, us, tt, rfl, q1, q2, q3, q5, q6, q7, q8, q9⟩
        · exact .inl hro
        · have hbs := hnew' _ _ b h2 rfl
          refine .inr ⟨b, c, us, tt, rfl, q1, q2, q3, q5, q6, ⟨q7.1, fun i u c hu hc => (q7.2 i u c hu hc).pure (hp c (List.mem_of_getElem? hc))⟩, fun i _ => hrel.inv.mem.none hbs i, by simpa using fun i => hrel.inv.mem.none hbs i⟩
      | _ => exact hp.elim
  · rcases hcase hx1 with ⟨h1, h2⟩ | ⟨h1, h2⟩
    · rcases hcase hx2 with ⟨h3, h4⟩ | ⟨h3, h4⟩
      · exact hrel.inv.apart o o' x x' b hne h2 h4 hk hk'
      · have e1 := hrel.inv.lt o x b h2 hk
        have := hnew' _ x' b h4 hk'
        omega
    · rcases hcase hx2 with ⟨h3, h4⟩ | ⟨h3, h4⟩
      · have := hnew' _ x b h2 hk
        have := hrel.inv.lt o' x' b h4 hk'
        omega
      · exact hinv.apart _ _ x x' b (by omega) h2 h4 hk hk'
  · rcases hcase hx' with ⟨h1, h2⟩ | ⟨h1, h2⟩
    · exact Nat.lt_of_lt_of_le (hrel.inv.lt o x b h2 hk) hkeep.size
    · exact hinv.lt _ x b h2 hk
  · rcases hcase hx' with ⟨h1, h2⟩ | ⟨h1, h2⟩
    · exact .inr ⟨o, x, h2, hk⟩
    · exact .inl (hnew' _ x b h2 hk)
theorem BorL.same0 {st : List Ob} : ∀ {xs : List AV}, okL 0 xs = true → BorL st xs xs
  | [], _ => .nil
  | x :: xs, h => by
    simp only [okL, Bool.and_eq_true] at h
    exact .same h.1 (BorL.same0 h.2)
/-- A callee that knows no objects, and leaves none. -/
theorem op_callP {x : Operand} {xs : Array Operand} {Ts : Array TypeId} {f : FuncId} {fn : Func} {fa ca args : List AV} {r : AV} (hfn : E.P.funcs[f]? = some fn) (hnm : (fn.name == "runtime.NumGoroutine") = false) (hbd : fn.body.isNone = false)
    (hx : g x = .fn (.func f) fa ca) (hargs : fa ++ xs.toList.map g ++ ca = args) (hp : okL 0 args = true) (h : Ctr E.P E.mG f [] args (fun st' y => st' = [] ∧ y = r)) (hr : pureA r = true) : OpOk E ⟨d, .call ⟨.value x, xs, Ts⟩, t, p, af, gd⟩ g st (Just r st) :=
  op_callB hfn hnm hbd hx (hargs ▸ BorL.same0 (hargs ▸ hp)) h fun st' res ⟨h1, h2⟩ => by
    subst h1; subst h2
    exact ⟨fun _ h => by simp at h, _, .same _ hr, rfl, by simp⟩
end calls
end Rm
