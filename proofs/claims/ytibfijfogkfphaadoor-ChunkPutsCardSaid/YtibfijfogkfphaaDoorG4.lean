/- The seat: what is known of its types and of the variable that it reads. The seat: small rules for its own types. Walks: the reader's small functions. Walks: slices.Clone. Walks: the checksum. Walks: slices.Clip, wire.Put, wire.PutFixed. Walks: wire.Put. Walks: wire.Put. Walks: slices.Clip of what is only read, wire.PutFixed. Walks: the checksum of what is put so far (chunk.Put's closure). Walks: the document's own answers: Fixed, Varint. Walks: the document's Varint. -/
import Derived.Test.YtibfijfogkfphaaDoorG3
import Derived.Test.YtibfijfogkfphaaDoorProg

namespace Rm
open Go Go.Proofs
open Go.RowKit

noncomputable def D3 : TD := ⟨(Go.TypeDesc.int Go.IntKind.i64), 1, 8, [.int .i64 0]⟩
noncomputable def D4 : TD := ⟨Go.TypeDesc.bool, 1, 1, [.bool false]⟩
noncomputable def D5 : TD := ⟨(Go.TypeDesc.int Go.IntKind.u8), 1, 1, [.int .u8 0]⟩
noncomputable def D9 : TD := ⟨Go.TypeDesc.string, 1, 16, [.str []]⟩
noncomputable def D22 : TD := ⟨(Go.TypeDesc.slice 5), 1, 24, [.sl true []]⟩
noncomputable def D27 : TD := ⟨(Go.TypeDesc.int Go.IntKind.i64), 1, 8, [.int .i64 0]⟩
noncomputable def D31 : TD := ⟨(Go.TypeDesc.struct #[{ name := "Kind", type := 5, offset := 0, embedded := Bool.false, tag := "", pkgPath := "", byteOffset := 0 }, { name := "Packed", type := 4, offset := 1, embedded := Bool.false, tag := "", pkgPath := "", byteOffset := 1 }, { name := "Size", type := 3, offset := 2, embedded := Bool.false, tag := "", pkgPath := "", byteOffset := 8 }, { name := "Body", type := 9, offset := 3, embedded := Bool.false, tag := "", pkgPath := "", byteOffset := 16 }, { name := "Next", type := 3, offset := 4, embedded := Bool.false, tag := "", pkgPath := "", byteOffset := 32 }]), 5, 40, [.int .u8 0, .bool false, .int .i64 0, .str [], .int .i64 0]⟩
noncomputable def D39 : TD := ⟨(Go.TypeDesc.int Go.IntKind.u16), 1, 2, [.int .u16 0]⟩
noncomputable def D42 : TD := ⟨(Go.TypeDesc.int Go.IntKind.u32), 1, 4, [.int .u32 0]⟩
noncomputable def D46 : TD := ⟨(Go.TypeDesc.int Go.IntKind.u64), 1, 8, [.int .u64 0]⟩
noncomputable def D51 : TD := ⟨(Go.TypeDesc.pointer 95), 1, 8, [.nilp]⟩
noncomputable def D53 : TD := ⟨(Go.TypeDesc.struct #[{ name := "Reader", type := 51, offset := 0, embedded := Bool.true, tag := "", pkgPath := "", byteOffset := 0 }, { name := "kind", type := 5, offset := 1, embedded := Bool.false, tag := "", pkgPath := "rematch/chunk", byteOffset := 8 }, { name := "how", type := 5, offset := 2, embedded := Bool.false, tag := "", pkgPath := "rematch/chunk", byteOffset := 9 }, { name := "size", type := 3, offset := 3, embedded := Bool.false, tag := "", pkgPath := "rematch/chunk", byteOffset := 16 }, { name := "body", type := 22, offset := 4, embedded := Bool.false, tag := "", pkgPath := "rematch/chunk", byteOffset := 24 }, { name := "next", type := 3, offset := 5, embedded := Bool.false, tag := "", pkgPath := "rematch/chunk", byteOffset := 48 }]), 6, 56, [.nilp, .int .u8 0, .int .u8 0, .int .i64 0, .sl true [], .int .i64 0]⟩
noncomputable def D57 : TD := ⟨(Go.TypeDesc.struct #[{ name := "S", type := 9, offset := 0, embedded := Bool.false, tag := "", pkgPath := "", byteOffset := 0 }, { name := "At", type := 3, offset := 1, embedded := Bool.false, tag := "", pkgPath := "", byteOffset := 16 }, { name := "E", type := 27, offset := 2, embedded := Bool.false, tag := "", pkgPath := "", byteOffset := 24 }]), 3, 32, [.str [], .int .i64 0, .int .i64 0]⟩
noncomputable def D66 : TD := ⟨(Go.TypeDesc.pointer 69), 1, 8, [.nilp]⟩
noncomputable def D67 : TD := ⟨(Go.TypeDesc.map 86 89), 1, 8, [.nilm]⟩
noncomputable def D69 : TD := ⟨(Go.TypeDesc.struct #[{ name := "b", type := 22, offset := 0, embedded := Bool.false, tag := "", pkgPath := "rematch/lz", byteOffset := 0 }, { name := "at", type := 3, offset := 1, embedded := Bool.false, tag := "", pkgPath := "rematch/lz", byteOffset := 24 }, { name := "seen", type := 67, offset := 2, embedded := Bool.false, tag := "", pkgPath := "rematch/lz", byteOffset := 32 }, { name := "out", type := 22, offset := 3, embedded := Bool.false, tag := "", pkgPath := "rematch/lz", byteOffset := 40 }, { name := "plain", type := 3, offset := 4, embedded := Bool.false, tag := "", pkgPath := "rematch/lz", byteOffset := 64 }]), 5, 72, [.sl true [], .int .i64 0, .nilm, .sl true [], .int .i64 0]⟩
noncomputable def D86 : TD := ⟨(Go.TypeDesc.array 3 5), 3, 3, [.int .u8 0, .int .u8 0, .int .u8 0]⟩
noncomputable def D89 : TD := ⟨(Go.TypeDesc.slice 3), 1, 24, [.sl true []]⟩
noncomputable def D92 : TD := ⟨(Go.TypeDesc.array 16 42), 16, 64, [.int .u32 0, .int .u32 0, .int .u32 0, .int .u32 0, .int .u32 0, .int .u32 0, .int .u32 0, .int .u32 0, .int .u32 0, .int .u32 0, .int .u32 0, .int .u32 0, .int .u32 0, .int .u32 0, .int .u32 0, .int .u32 0]⟩
noncomputable def D95 : TD := ⟨(Go.TypeDesc.struct #[{ name := "b", type := 22, offset := 0, embedded := Bool.false, tag := "", pkgPath := "rematch/wire", byteOffset := 0 }, { name := "at", type := 3, offset := 1, embedded := Bool.false, tag := "", pkgPath := "rematch/wire", byteOffset := 24 }, { name := "err", type := 27, offset := 2, embedded := Bool.false, tag := "", pkgPath := "rematch/wire", byteOffset := 32 }]), 3, 40, [.sl true [], .int .i64 0, .int .i64 0]⟩
noncomputable def D96 : TD := ⟨(Go.TypeDesc.pointer 53), 1, 8, [.nilp]⟩
noncomputable def tab (t : Nat) : Option TD :=
  match t with
  | 3 => some D3
  | 4 => some D4
  | 5 => some D5
  | 9 => some D9
  | 22 => some D22
  | 27 => some D27
  | 31 => some D31
  | 39 => some D39
  | 42 => some D42
  | 46 => some D46
  | 51 => some D51
  | 53 => some D53
  | 57 => some D57
  | 66 => some D66
  | 67 => some D67
  | 69 => some D69
  | 86 => some D86
  | 89 => some D89
  | 92 => some D92
  | 95 => some D95
  | 96 => some D96
  | _ => none
def halves : List Int := [0, 498536548, 997073096, 651767980, 1994146192, 1802195444, 1303535960, 1342533948, 3988292384, 4027552580, 3604390888, 3412177804, 2607071920, 2262029012, 2685067896, 3183342108]
def mG : Mem := fun b o => if b = 0 then (halves[o]?).map (Value.int .u32) else none
def gG (g : Nat) : List AV := if g = 0 then halves.map (AV.int .u32) else []
theorem info_of {P : Program} {t : Nat} {i : TypeInfo} (h : P.types[t]? = some i) : P.info? t = some i := by
  have hlt : t < P.types.size := (Array.getElem?_eq_some_iff.1 h).1
  unfold Tables.info?
  rw [if_pos hlt]
  exact h
theorem z_ok {P : Program} {t : Nat} {d : TD} {u : TypeDesc} {i : TypeInfo} {v : Value} (h1 : P.underlying t = some u) (h2 : P.info? t = some i) (h3 : i.zero = some v) (hu : d.u = u) (hs : i.size = d.size) (hb : i.bytes = d.bytes) (hz : v.cells.toList.map avLeaf = d.z) :
    P.underlying t = some d.u ∧ ∃ i, P.info? t = some i ∧ i.size = d.size ∧ i.bytes = d.bytes ∧ ∃ v, i.zero = some v ∧ v.cells.toList.length = d.z.length ∧ ∀ β m, RelL β m v.cells.toList d.z :=
  ⟨hu ▸ h1, i, h2, hs, hb, v, h3, by rw [← hz]; simp, fun β m => by rw [← hz]; exact map_rel β m _⟩
theorem tab_ok (t : Nat) (d : TD) (h : tab t = some d) : Tryd.prog.underlying t = some d.u ∧ ∃ i, Tryd.prog.info? t = some i ∧ i.size = d.size ∧ i.bytes = d.bytes ∧ ∃ v, i.zero = some v ∧ v.cells.toList.length = d.z.length ∧ ∀ β m, RelL β m v.cells.toList d.z := by
  unfold tab at h
  split at h
  · cases h; exact z_ok Tryd.underlying3 (info_of Tryd.type3) rfl rfl rfl rfl rfl
  · cases h; exact z_ok Tryd.underlying4 (info_of Tryd.type4) rfl rfl rfl rfl rfl
  · cases h; exact z_ok Tryd.underlying5 (info_of Tryd.type5) rfl rfl rfl rfl rfl
  · cases h; exact z_ok Tryd.underlying9 (info_of Tryd.type9) rfl rfl rfl rfl rfl
  · cases h; exact z_ok Tryd.underlying22 (info_of Tryd.type22) rfl rfl rfl rfl rfl
  · cases h; exact z_ok Tryd.underlying27 (info_of Tryd.type27) rfl rfl rfl rfl rfl
  · cases h; exact z_ok Tryd.underlying31 (info_of Tryd.type31) rfl rfl rfl rfl rfl
  · cases h; exact z_ok Tryd.underlying39 (info_of Tryd.type39) rfl rfl rfl rfl rfl
  · cases h; exact z_ok Tryd.underlying42 (info_of Tryd.type42) rfl rfl rfl rfl rfl
  · cases h; exact z_ok Tryd.underlying46 (info_of Tryd.type46) rfl rfl rfl rfl rfl
  · cases h; exact z_ok Tryd.underlying51 (info_of Tryd.type51) rfl rfl rfl rfl rfl
  · cases h; exact z_ok Tryd.underlying53 (info_of Tryd.type53) rfl rfl rfl rfl rfl
  · cases h; exact z_ok Tryd.underlying57 (info_of Tryd.type57) rfl rfl rfl rfl rfl
  · cases h; exact z_ok Tryd.underlying66 (info_of Tryd.type66) rfl rfl rfl rfl rfl
  · cases h; exact z_ok Tryd.underlying67 (info_of Tryd.type67) rfl rfl rfl rfl rfl
  · cases h; exact z_ok Tryd.underlying69 (info_of Tryd.type69) rfl rfl rfl rfl rfl
  · cases h; exact z_ok Tryd.underlying86 (info_of Tryd.type86) rfl rfl rfl rfl rfl
  · cases h; exact z_ok Tryd.underlying89 (info_of Tryd.type89) rfl rfl rfl rfl rfl
  · cases h; exact z_ok Tryd.underlying92 (info_of Tryd.type92) rfl rfl rfl rfl rfl
  · cases h; exact z_ok Tryd.underlying95 (info_of Tryd.type95) rfl rfl rfl rfl rfl
  · cases h; exact z_ok Tryd.underlying96 (info_of Tryd.type96) rfl rfl rfl rfl rfl
  · cases h
noncomputable def Ev : Env where
  P := Tryd.prog
  tab := tab
  mG := mG
  G := gG
  tab_ok := tab_ok
  G_ok := fun g i c h => by
    unfold gG at h
    split at h
    · rename_i hg
      subst hg
      simp only [List.getElem?_map, Option.map_eq_some_iff] at h
      obtain ⟨n, hn, rfl⟩ := h
      exact ⟨.int .u32 n, by simp [mG, hn], .int _ _⟩
    · simp at h
end Rm

namespace Rm
open Go Go.Proofs
open Go.RowKit

theorem at0 {α : Type} (st : List α) (a : α) (l : List α) : (st ++ a :: l)[st.length]? = some a := by simp
theorem at1 {α : Type} (st : List α) (a b : α) (l : List α) : (st ++ a :: b :: l)[st.length + 1]? = some b := by simp
theorem at_old {α : Type} {st : List α} {o : Nat} {a : α} (l : List α) (h : st[o]? = some a) : (st ++ l)[o]? = some a := by
  rw [List.getElem?_append_left (List.getElem?_eq_some_iff.1 h).1]; exact h
theorem set0 {α : Type} (st : List α) (a b : α) (l : List α) : (st ++ a :: l).set st.length b = st ++ b :: l := by simp
theorem set1 {α : Type} (st : List α) (a b c : α) (l : List α) : (st ++ a :: b :: l).set (st.length + 1) c = st ++ a :: c :: l := by
  rw [List.set_append_right _ _ (by omega)]; simp
theorem set_old {α : Type} {st : List α} {o : Nat} {a : α} (l : List α) (b : α) (h : st[o]? = some a) : (st ++ l).set o b = st.set o b ++ l := by
  rw [List.set_append_left _ _ (List.getElem?_eq_some_iff.1 h).1]

mutual
theorem okA_mono {n m : Nat} (h : n ≤ m) : ∀ x, okA n x = true → okA m x = true
  | .agg cs, e => okL_mono h cs e
  | .tup cs, e => okL_mono h cs e
  | .ptr o _, e => by simp only [okA, decide_eq_true_eq] at *; omega
  | .vptr cs, e => okL_mono h cs e
  | .sl _ es, e => okLL_mono h es e
  | .row o _, e => by simp only [okA, decide_eq_true_eq] at *; omega
  | .rptr o _ _, e => by simp only [okA, decide_eq_true_eq] at *; omega
  | .fn _ a b, e => by
    simp only [okA, Bool.and_eq_true] at *
    exact ⟨okL_mono h a e.1, okL_mono h b e.2⟩
  | .mp o, e => by simp only [okA, decide_eq_true_eq] at *; omega
  | .ifc _ v, e => okA_mono h v e
  | .any, _ => rfl
  | .one, _ => rfl
  | .int _ _, _ => rfl
  | .bool _, _ => rfl
  | .str _, _ => rfl
  | .nilp, _ => rfl
  | .nilfn, _ => rfl
  | .nilm, _ => rfl
  | .nilifc, _ => rfl
theorem okL_mono {n m : Nat} (h : n ≤ m) : ∀ x, okL n x = true → okL m x = true
  | [], _ => rfl
  | x :: xs, e => by
    simp only [okL, Bool.and_eq_true] at *
    exact ⟨okA_mono h x e.1, okL_mono h xs e.2⟩
theorem okLL_mono {n m : Nat} (h : n ≤ m) : ∀ x, okLL n x = true → okLL m x = true
  | [], _ => rfl
  | x :: xs, e => by
    simp only [okLL, Bool.and_eq_true] at *
    exact ⟨okL_mono h x e.1, okLL_mono h xs e.2⟩
end
theorem okO_mono {n m : Nat} (h : n ≤ m) {ob : Ob} (e : okO n ob = true) : okO m ob = true := by
  cases ob with
  | dead => rfl
  | var cs => exact okL_mono h cs e
  | row v sz es fz => exact okLL_mono h es e
  | map es =>
    simp only [okO, List.all_eq_true, Bool.and_eq_true] at *
    exact fun y hy => ⟨okA_mono h _ (e y hy).1, okA_mono h _ (e y hy).2⟩
theorem okSt_mono {n m : Nat} (h : n ≤ m) {st : List Ob} (e : okSt n st = true) : okSt m st = true := by
  simp only [okSt, List.all_eq_true] at *
  exact fun y hy => okO_mono h (e y hy)
theorem okSt_append {n : Nat} {st l : List Ob} (h : okSt n st = true) (k : okSt n l = true) : okSt n (st ++ l) = true := by
  simp only [okSt, List.all_append, Bool.and_eq_true] at *
  exact ⟨h, k⟩
theorem okSt_set {n : Nat} {st : List Ob} {o : Nat} {ob : Ob} (h : okSt n st = true) (k : okO n ob = true) : okSt n (st.set o ob) = true := by
  simp only [okSt, List.all_eq_true] at *
  intro x hx
  rcases List.mem_or_eq_of_mem_set hx with hx | rfl
  · exact h x hx
  · exact k

section ops
variable {E : Env} {g : Operand → AV} {st : List Ob} {d : Option Tmp} {t : TypeId} {p : String} {af : Array Edge} {gd : Option (Nat × Bool)}
theorem fillA_row {xs : List AV} : ∀ (parts : List (Nat × AV)) (pre : List AV) (k : Nat), parts.map (·.1) = List.range' pre.length parts.length → (∀ q ∈ parts, oneA q.2 = true) → k = parts.length →
    fillA (fun i => some (i * 1, 1)) (pre ++ List.replicate k .any) parts = some (pre ++ parts.map (·.2))
  | [], pre, k, _, _, hk => by subst hk; simp [fillA]
  | (i, x) :: parts, pre, k, hi, ho, hk => by
    subst hk
    simp only [List.map_cons, List.length_cons, List.range'_succ, List.cons.injEq] at hi
    obtain ⟨rfl, hi⟩ := hi
    have hx := ho (pre.length, x) (by simp)
    have hc : cellsA x = [x] := by cases x <;> first | rfl | cases hx
    have hp : partA x = true := by cases x <;> first | exact hx | cases hx
    simp only [fillA, List.length_cons]
    rw [if_pos ⟨by rw [hc]; rfl, by simp, hp⟩, hc]
    have hs : setR (pre ++ List.replicate (parts.length + 1) AV.any) (pre.length * 1) [x] = (pre ++ [x]) ++ List.replicate parts.length .any := by
      rw [Nat.mul_one, setR_one (by simp), List.set_append_right _ _ (Nat.le_refl _)]
      simp [List.replicate_succ]
    rw [hs, fillA_row (xs := xs) parts (pre ++ [x]) parts.length (by simpa using hi) (fun q hq => ho q (by simp [hq])) rfl]
    simp
theorem op_callJ {x : Operand} {xs : Array Operand} {Ts : Array TypeId} {f : FuncId} {fn : Func} {fa ca args : List AV} {st1 : List Ob} {r : AV} (hfn : E.P.funcs[f]? = some fn) (hnm : (fn.name == "runtime.NumGoroutine") = false) (hbd : fn.body.isNone = false)
    (hx : g x = .fn (.func f) fa ca) (hargs : fa ++ xs.toList.map g ++ ca = args) (h : Ctr E.P E.mG f st args (fun st' y => st' = st1 ∧ y = r)) : OpOk E ⟨d, .call ⟨.value x, xs, Ts⟩, t, p, af, gd⟩ g st (Just r st1) :=
  fun C β m fr a w hG hr hg b k cs ops i rest ho hw => by
    obtain ⟨v, w', β', m', y, st', h1, ⟨h2, h3⟩, h4⟩ := op_call (d := d) (t := t) (p := p) (af := af) (gd := gd) (Ts := Ts) hfn hnm hbd hx hargs h C β m fr a w hG hr hg b k cs ops i rest ho hw
    exact ⟨v, w', β', m', y, st', h1, ⟨h3, h2⟩, h4⟩
theorem op_mv {x : Operand} {r : AV} (hr : g x = r) : OpOk E ⟨d, .move x, t, p, af, gd⟩ g st (Just r st) := hr ▸ op_move
theorem op_as {x : Operand} {r : AV} (hr : g x = r) : OpOk E ⟨d, .assign x, t, p, af, gd⟩ g st (Just r st) := hr ▸ op_assign
theorem op_box1 {T : TypeId} {x : Operand} {dd : Tmp} {r : AV} (hr : g x = r) (hy : oneA r = true) : OpOk E ⟨some dd, .box T x, t, p, af, gd⟩ g st (Just (.ptr st.length 0) (st ++ [.var [r]])) := by
  subst hr
  have hc : cellsA (g x) = [g x] := by cases h : g x <;> first | rfl | (rw [h] at hy; cases hy)
  have := op_box (E := E) (g := g) (st := st) (t := t) (p := p) (af := af) (gd := gd) (T := T) (x := x) (dd := dd) (.inl hy)
  rw [hc] at this
  exact this
theorem op_boxA {T : TypeId} {x : Operand} {dd : Tmp} {cs : List AV} (hr : g x = .agg cs) : OpOk E ⟨some dd, .box T x, t, p, af, gd⟩ g st (Just (.ptr st.length 0) (st ++ [.var cs])) := by
  have := op_box (E := E) (g := g) (st := st) (t := t) (p := p) (af := af) (gd := gd) (T := T) (x := x) (dd := dd) (.inr ⟨cs, hr⟩)
  rw [hr] at this
  exact this
/-- A whole struct is stored. -/
theorem op_storeA {T : TypeId} {x y : Operand} {D : TD} {o : Nat} {cs ys : List AV} (hx : g x = .ptr o 0) (ho : st[o]? = some (.var cs)) (hT : E.tab T = some D) (hy : g y = .agg ys) (h1 : ys.all oneA = true) (hz : ys.length = D.size) (hn : cs.length = D.size) :
    OpOk E ⟨none, .store T x y, t, p, af, gd⟩ g st (Just .any (st.set o (.var ys))) := by
  refine op_store hx ho hT (by rw [hy]; exact h1) (by rw [hy]; exact hz) (by omega) ?_
  rw [hy]
  simp [setR, cellsA]
  omega
/-- A struct whose parts have one cell each. -/
def fill1 (pl : List (Nat × Nat)) (z : List AV) : List (Nat × AV) → Option (List AV)
  | [] => some z
  | (i, x) :: rest => match pl[i]? with
    | some (off, size) => if size = 1 ∧ off < z.length ∧ oneA x = true then fill1 pl (z.set off x) rest else none
    | none => none
theorem fill1_fillA {pl : List (Nat × Nat)} : ∀ (parts : List (Nat × AV)) (z r : List AV), fill1 pl z parts = some r → fillA (pl[·]?) z parts = some r
  | [], z, r, h => h
  | (i, x) :: rest, z, r, h => by
    simp only [fill1] at h
    cases hp : pl[i]? with
    | none => rw [hp] at h; cases h
    | some os =>
      obtain ⟨off, size⟩ := os
      rw [hp] at h
      simp only at h
      split at h
      · rename_i hc
        obtain ⟨rfl, h2, h3⟩ := hc
        have hc : cellsA x = [x] := by cases x <;> first | rfl | cases h3
        have hpa : partA x = true := by cases x <;> first | exact h3 | cases h3
        simp only [fillA, hp]
        rw [if_pos ⟨by rw [hc]; rfl, by omega, hpa⟩, hc, setR_one h2]
        exact fill1_fillA rest _ r h
      · cases h
theorem op_build1 {T : TypeId} {D : TD} {fs : Array Field} {parts : Array (Nat × Operand)} {pl : List (Nat × Nat)} {vs : List (Nat × AV)} {r : List AV} (hT : E.tab T = some D) (hu : D.u = .struct fs)
    (hpl : ∀ w, (fs.mapM (m := Sem) fun (f : Field) => do pure (f.offset, ← Go.sizeOf f.type)).run E.P w = .ok pl.toArray w) (hv : parts.toList.map (fun q => (q.1, g q.2)) = vs) (hr : fill1 pl D.z vs = some r) :
    OpOk E ⟨d, .build T parts, t, p, af, gd⟩ g st (Just (.agg r) st) :=
  op_build hT hu hpl (by rw [hv]; exact fill1_fillA _ _ _ hr)
/-- A literal whose elements have one cell each. -/
theorem op_lit {T e : TypeId} {S D : TD} {len : Nat} {parts : Array (Nat × Operand)} {vs : List AV} (hS : E.tab T = some S) (hu : S.u = .slice e) (hD : E.tab e = some D) (hz : D.z.length = D.size) (h1 : D.size = 1) (hlen : len ≤ 16777216)
    (hv : parts.toList.map (fun q => (q.1, g q.2)) = vs.zipIdx.map (fun q => (q.2, q.1))) (ho : vs.length = len ∧ vs.all oneA = true) :
    OpOk E ⟨d, .buildSlice T len parts, t, p, af, gd⟩ g st (Just (.sl true (vs.map fun v => [v])) st) := by
  obtain ⟨hl, ho⟩ := ho
  have hfl : (vs.map fun v => [v]).flatten = vs := by
    clear hv hl ho
    induction vs with
    | nil => rfl
    | cons v vs ih => simp [ih]
  refine op_buildSlice hS hu hD hz (by omega) (by rw [h1, Nat.mul_one]; exact hlen) (by simpa using hl) (fun e he => ?_) ?_
  · obtain ⟨v, _, rfl⟩ := List.mem_map.1 he
    rw [h1]; rfl
  · rw [h1, hv, hfl, Nat.mul_one]
    have := fillA_row (xs := vs) (vs.zipIdx.map fun q => (q.2, q.1)) [] len (by
      apply List.ext_getElem?
      intro i
      simp only [List.map_map, List.getElem?_map, List.getElem?_zipIdx, List.length_nil, List.length_map, List.length_zipIdx]
      rcases Nat.lt_or_ge i vs.length with h | h
      · simp [h]
      · simp [h]) (fun q hq => by
      obtain ⟨x, hx, rfl⟩ := List.mem_map.1 hq
      simp only [List.all_eq_true] at ho
      exact ho _ (by
        have := List.mem_zipIdx hx
        simp only at this ⊢
        rw [this.2.2]; exact List.getElem_mem _)) (by simpa using hl.symm)
    rw [List.nil_append, List.nil_append] at this
    rw [this]
    congr 1
    apply List.ext_getElem?
    intro i
    simp only [List.getElem?_map, List.getElem?_zipIdx]
    cases vs[i]? <;> rfl
end ops
/-- A slice that holds nothing, and has no room, is told as one's own. -/
theorem AGo.become {E : Env} {n0 : Nat} {todo : List Item} {fr : List AV} {st : List Ob} {R : List AV → List Ob → Prop} {ver sz : Nat} {es0 : List (List AV)} {fz : Bool} (t o : Nat) (ht : fr[t]? = some (.sl true [])) (ho : st[o]? = some (.row ver sz es0 fz)) (h0 : 0 < sz)
    (g : AGo E n0 todo (fr.set t (.row o (ver + 1))) (st.set o (.row (ver + 1) sz [] false)) R) : AGo E n0 todo fr st R := by
  intro C β m a w b cs hG hn hr
  obtain ⟨v, hv, hrv⟩ := hr.frm.get t ht
  rcases hrv.sl_inv with ⟨_, a', c, e1, hc⟩ | ⟨_, _, _, _, _, _, hbad, _⟩
  · have hc0 := hc rfl
    subst hc0
    have hlo : o < β.length := by rw [hr.inv.len]; exact (List.getElem?_eq_some_iff.1 ho).1
    obtain ⟨bv, hb⟩ : ∃ bv, β[o]? = some bv := ⟨_, List.getElem?_eq_getElem hlo⟩
    have hbv : bv.fix = false ∧ bv.ver = ver := by
      rcases hr.inv.obj o _ _ hb ho with ⟨_, _, a', rfl⟩ | ⟨b, c, us, tt, rfl, _⟩ <;> exact ⟨rfl, rfl⟩
    obtain ⟨hf, hver⟩ := hbv
    subst hver
    have hmv := hr.move (w' := w) (bv' := ⟨none, .slice a' 0 0, false, bv.ver + 1⟩) (ob := .row (bv.ver + 1) sz [] false) hb hf rfl (Nat.lt_succ_self _) (fun b h => by cases h) rfl rfl rfl (Nat.le_refl _) (fun _ _ _ => rfl) (fun b i v h hm => hr.inv.mem _ _ _ hm) (.inl ⟨rfl, h0, a', rfl⟩)
    refine g C _ m a w b cs hG hn ⟨hmv.pre, hmv.fresh, hmv.inv, hmv.keep, hmv.new, ⟨by simp [hmv.frm.1], fun i u x hu hx => ?_⟩, hmv.dfr⟩
    rw [List.getElem?_set] at hx
    split at hx
    · rename_i e; subst e
      split at hx
      · simp at hx; subst hx
        rw [hv] at hu; cases hu
        rw [e1]
        exact .row _ _ _ _ (set_get hlo) rfl (Nat.le_refl _) (fun _ => rfl) ⟨_, _, _, rfl⟩
      · cases hx
    · exact hmv.frm.2 i u x hu hx
  · simp at hbad
theorem pl31 (w : World) : ((#[{ name := "Kind", type := 5, offset := 0, embedded := Bool.false, tag := "", pkgPath := "", byteOffset := 0 }, { name := "Packed", type := 4, offset := 1, embedded := Bool.false, tag := "", pkgPath := "", byteOffset := 1 }, { name := "Size", type := 3, offset := 2, embedded := Bool.false, tag := "", pkgPath := "", byteOffset := 8 }, { name := "Body", type := 9, offset := 3, embedded := Bool.false, tag := "", pkgPath := "", byteOffset := 16 }, { name := "Next", type := 3, offset := 4, embedded := Bool.false, tag := "", pkgPath := "", byteOffset := 32 }] : Array Field).mapM (m := Sem) fun (f : Field) => do pure (f.offset, ← Go.sizeOf f.type)).run Tryd.prog w = .ok ([(0, 1), (1, 1), (2, 1), (3, 1), (4, 1)] : List (Nat × Nat)).toArray w := by
  simp [Tryd.sizeOf3, Tryd.sizeOf4, Tryd.sizeOf5, Tryd.sizeOf9]
theorem pl53 (w : World) : ((#[{ name := "Reader", type := 51, offset := 0, embedded := Bool.true, tag := "", pkgPath := "", byteOffset := 0 }, { name := "kind", type := 5, offset := 1, embedded := Bool.false, tag := "", pkgPath := "rematch/chunk", byteOffset := 8 }, { name := "how", type := 5, offset := 2, embedded := Bool.false, tag := "", pkgPath := "rematch/chunk", byteOffset := 9 }, { name := "size", type := 3, offset := 3, embedded := Bool.false, tag := "", pkgPath := "rematch/chunk", byteOffset := 16 }, { name := "body", type := 22, offset := 4, embedded := Bool.false, tag := "", pkgPath := "rematch/chunk", byteOffset := 24 }, { name := "next", type := 3, offset := 5, embedded := Bool.false, tag := "", pkgPath := "rematch/chunk", byteOffset := 48 }] : Array Field).mapM (m := Sem) fun (f : Field) => do pure (f.offset, ← Go.sizeOf f.type)).run Tryd.prog w = .ok ([(0, 1), (1, 1), (2, 1), (3, 1), (4, 1), (5, 1)] : List (Nat × Nat)).toArray w := by
  simp [Tryd.sizeOf3, Tryd.sizeOf5, Tryd.sizeOf22, Tryd.sizeOf51]
theorem pl57 (w : World) : ((#[{ name := "S", type := 9, offset := 0, embedded := Bool.false, tag := "", pkgPath := "", byteOffset := 0 }, { name := "At", type := 3, offset := 1, embedded := Bool.false, tag := "", pkgPath := "", byteOffset := 16 }, { name := "E", type := 27, offset := 2, embedded := Bool.false, tag := "", pkgPath := "", byteOffset := 24 }] : Array Field).mapM (m := Sem) fun (f : Field) => do pure (f.offset, ← Go.sizeOf f.type)).run Tryd.prog w = .ok ([(0, 1), (1, 1), (2, 1)] : List (Nat × Nat)).toArray w := by
  simp [Tryd.sizeOf3, Tryd.sizeOf9, Tryd.sizeOf27]
theorem pl69 (w : World) : ((#[{ name := "b", type := 22, offset := 0, embedded := Bool.false, tag := "", pkgPath := "rematch/lz", byteOffset := 0 }, { name := "at", type := 3, offset := 1, embedded := Bool.false, tag := "", pkgPath := "rematch/lz", byteOffset := 24 }, { name := "seen", type := 67, offset := 2, embedded := Bool.false, tag := "", pkgPath := "rematch/lz", byteOffset := 32 }, { name := "out", type := 22, offset := 3, embedded := Bool.false, tag := "", pkgPath := "rematch/lz", byteOffset := 40 }, { name := "plain", type := 3, offset := 4, embedded := Bool.false, tag := "", pkgPath := "rematch/lz", byteOffset := 64 }] : Array Field).mapM (m := Sem) fun (f : Field) => do pure (f.offset, ← Go.sizeOf f.type)).run Tryd.prog w = .ok ([(0, 1), (1, 1), (2, 1), (3, 1), (4, 1)] : List (Nat × Nat)).toArray w := by
  simp [Tryd.sizeOf3, Tryd.sizeOf22, Tryd.sizeOf67]
theorem pl95 (w : World) : ((#[{ name := "b", type := 22, offset := 0, embedded := Bool.false, tag := "", pkgPath := "rematch/wire", byteOffset := 0 }, { name := "at", type := 3, offset := 1, embedded := Bool.false, tag := "", pkgPath := "rematch/wire", byteOffset := 24 }, { name := "err", type := 27, offset := 2, embedded := Bool.false, tag := "", pkgPath := "rematch/wire", byteOffset := 32 }] : Array Field).mapM (m := Sem) fun (f : Field) => do pure (f.offset, ← Go.sizeOf f.type)).run Tryd.prog w = .ok ([(0, 1), (1, 1), (2, 1)] : List (Nat × Nat)).toArray w := by
  simp [Tryd.sizeOf3, Tryd.sizeOf22, Tryd.sizeOf27]
end Rm

namespace Rm
open Go Go.Proofs
open Go.RowKit

def rdV (x : AV) (a e : Int) : Ob := .var [x, .int .i64 a, .int .i64 e]

theorem c38 {st : List Ob} {o : Nat} {x : AV} {a e : Int} (ho : st[o]? = some (.var [x, .int .i64 a, .int .i64 e])) : Ctr Tryd.prog mG 38 st [.ptr o 0] (fun st' r => st' = st ∧ r = .int .i64 e) := by
  refine Ctr.of_body (E := Ev) Tryd.func38 rfl ?_
  show AGo Ev _ _ [.ptr o 0, .any, .any, .any, .any, .any, .any, .any, .any] _ _
  refine .seq ?_
  refine .region rfl ?_
  refine .op1 rfl (op_as (by first | exact (rfl : _ = AV.int _ _) | exact (rfl : _ = AV.bool _) | exact (rfl : _ = AV.str _) | exact (rfl : _ = AV.sl _ _) | exact (rfl : _ = AV.row _ _) | exact (rfl : _ = AV.ptr _ _) | exact (rfl : _ = AV.tup _) | exact (rfl : _ = AV.agg _) | exact (rfl : _ = AV.fn _ _ _) | exact (rfl : _ = AV.nilp) | exact (rfl : _ = AV.mp _) | exact (rfl : _ = AV.vptr _) | exact (rfl : _ = AV.any))) ?_
  refine .nil ?_
  dsimp only [putA, List.set, av, List.getD_cons_zero, List.getD_cons_succ, avOf, avLeaf, cellsA, setR, D31, D53, D57, D69, D86, D95, List.take_succ_cons, List.take_zero, List.drop_succ_cons, List.drop_zero, List.length_cons, List.length_nil, List.nil_append, List.cons_append, Nat.reduceAdd, Nat.zero_add]
  refine .seq ?_
  refine .seq ?_
  refine .region rfl ?_
  refine .op1 rfl (op_mv (by first | exact (rfl : _ = AV.int _ _) | exact (rfl : _ = AV.bool _) | exact (rfl : _ = AV.str _) | exact (rfl : _ = AV.sl _ _) | exact (rfl : _ = AV.row _ _) | exact (rfl : _ = AV.ptr _ _) | exact (rfl : _ = AV.tup _) | exact (rfl : _ = AV.agg _) | exact (rfl : _ = AV.fn _ _ _) | exact (rfl : _ = AV.nilp) | exact (rfl : _ = AV.mp _) | exact (rfl : _ = AV.vptr _) | exact (rfl : _ = AV.any))) ?_
  refine .op1 rfl (op_eqNil (.inl ⟨_, _, rfl⟩) (D := D51) rfl rfl) ?_
  refine .nil ?_
  dsimp only [putA, List.set, av, List.getD_cons_zero, List.getD_cons_succ, avOf, avLeaf, cellsA, setR, D31, D53, D57, D69, D86, D95, List.take_succ_cons, List.take_zero, List.drop_succ_cons, List.drop_zero, List.length_cons, List.length_nil, List.nil_append, List.cons_append, Nat.reduceAdd, Nat.zero_add]
  refine .cond (t := false) rfl (fun h => by cases h) (fun _ => ?_)
  refine .skip ?_
  refine .seq ?_
  refine .region rfl ?_
  refine .op1 rfl (op_mv (by first | exact (rfl : _ = AV.int _ _) | exact (rfl : _ = AV.bool _) | exact (rfl : _ = AV.str _) | exact (rfl : _ = AV.sl _ _) | exact (rfl : _ = AV.row _ _) | exact (rfl : _ = AV.ptr _ _) | exact (rfl : _ = AV.tup _) | exact (rfl : _ = AV.agg _) | exact (rfl : _ = AV.fn _ _ _) | exact (rfl : _ = AV.nilp) | exact (rfl : _ = AV.mp _) | exact (rfl : _ = AV.vptr _) | exact (rfl : _ = AV.any))) ?_
  refine .op1 rfl (op_nilCheck rfl (.inl ⟨_, _, rfl⟩)) ?_
  refine .op1 rfl (op_fieldAddr rfl (D := D95) rfl rfl rfl rfl (by decide)) ?_
  refine .op1 rfl (op_load rfl ho (D := D27) rfl rfl rfl) ?_
  refine .op1 rfl (op_as (by first | exact (rfl : _ = AV.int _ _) | exact (rfl : _ = AV.bool _) | exact (rfl : _ = AV.str _) | exact (rfl : _ = AV.sl _ _) | exact (rfl : _ = AV.row _ _) | exact (rfl : _ = AV.ptr _ _) | exact (rfl : _ = AV.tup _) | exact (rfl : _ = AV.agg _) | exact (rfl : _ = AV.fn _ _ _) | exact (rfl : _ = AV.nilp) | exact (rfl : _ = AV.mp _) | exact (rfl : _ = AV.vptr _) | exact (rfl : _ = AV.any))) ?_
  refine .nil ?_
  dsimp only [putA, List.set, av, List.getD_cons_zero, List.getD_cons_succ, avOf, avLeaf, cellsA, setR, D31, D53, D57, D69, D86, D95, List.take_succ_cons, List.take_zero, List.drop_succ_cons, List.drop_zero, List.length_cons, List.length_nil, List.nil_append, List.cons_append, Nat.reduceAdd, Nat.zero_add]
  refine .ret ?_
  exact ⟨_, _, _, .cons (.tmp _) .nil, .drop st.length (Nat.le_refl _) rfl (fun h => by simpa using h), by simp, rfl⟩

theorem c40 {st : List Ob} {o : Nat} {x : AV} {a e : Int} (ho : st[o]? = some (.var [x, .int .i64 a, .int .i64 e])) : Ctr Tryd.prog mG 40 st [.ptr o 0] (fun st' r => st' = st ∧ r = .int .i64 a) := by
  refine Ctr.of_body (E := Ev) Tryd.func40 rfl ?_
  show AGo Ev _ _ [.ptr o 0, .any, .any, .any, .any, .any, .any, .any, .any] _ _
  refine .seq ?_
  refine .region rfl ?_
  refine .op1 rfl (op_as (by first | exact (rfl : _ = AV.int _ _) | exact (rfl : _ = AV.bool _) | exact (rfl : _ = AV.str _) | exact (rfl : _ = AV.sl _ _) | exact (rfl : _ = AV.row _ _) | exact (rfl : _ = AV.ptr _ _) | exact (rfl : _ = AV.tup _) | exact (rfl : _ = AV.agg _) | exact (rfl : _ = AV.fn _ _ _) | exact (rfl : _ = AV.nilp) | exact (rfl : _ = AV.mp _) | exact (rfl : _ = AV.vptr _) | exact (rfl : _ = AV.any))) ?_
  refine .nil ?_
  dsimp only [putA, List.set, av, List.getD_cons_zero, List.getD_cons_succ, avOf, avLeaf, cellsA, setR, D31, D53, D57, D69, D86, D95, List.take_succ_cons, List.take_zero, List.drop_succ_cons, List.drop_zero, List.length_cons, List.length_nil, List.nil_append, List.cons_append, Nat.reduceAdd, Nat.zero_add]
  refine .seq ?_
  refine .seq ?_
  refine .region rfl ?_
  refine .op1 rfl (op_mv (by first | exact (rfl : _ = AV.int _ _) | exact (rfl : _ = AV.bool _) | exact (rfl : _ = AV.str _) | exact (rfl : _ = AV.sl _ _) | exact (rfl : _ = AV.row _ _) | exact (rfl : _ = AV.ptr _ _) | exact (rfl : _ = AV.tup _) | exact (rfl : _ = AV.agg _) | exact (rfl : _ = AV.fn _ _ _) | exact (rfl : _ = AV.nilp) | exact (rfl : _ = AV.mp _) | exact (rfl : _ = AV.vptr _) | exact (rfl : _ = AV.any))) ?_
  refine .op1 rfl (op_eqNil (.inl ⟨_, _, rfl⟩) (D := D51) rfl rfl) ?_
  refine .nil ?_
  dsimp only [putA, List.set, av, List.getD_cons_zero, List.getD_cons_succ, avOf, avLeaf, cellsA, setR, D31, D53, D57, D69, D86, D95, List.take_succ_cons, List.take_zero, List.drop_succ_cons, List.drop_zero, List.length_cons, List.length_nil, List.nil_append, List.cons_append, Nat.reduceAdd, Nat.zero_add]
  refine .cond (t := false) rfl (fun h => by cases h) (fun _ => ?_)
  refine .skip ?_
  refine .seq ?_
  refine .region rfl ?_
  refine .op1 rfl (op_mv (by first | exact (rfl : _ = AV.int _ _) | exact (rfl : _ = AV.bool _) | exact (rfl : _ = AV.str _) | exact (rfl : _ = AV.sl _ _) | exact (rfl : _ = AV.row _ _) | exact (rfl : _ = AV.ptr _ _) | exact (rfl : _ = AV.tup _) | exact (rfl : _ = AV.agg _) | exact (rfl : _ = AV.fn _ _ _) | exact (rfl : _ = AV.nilp) | exact (rfl : _ = AV.mp _) | exact (rfl : _ = AV.vptr _) | exact (rfl : _ = AV.any))) ?_
  refine .op1 rfl (op_nilCheck rfl (.inl ⟨_, _, rfl⟩)) ?_
  refine .op1 rfl (op_fieldAddr rfl (D := D95) rfl rfl rfl rfl (by decide)) ?_
  refine .op1 rfl (op_load rfl ho (D := D3) rfl rfl rfl) ?_
  refine .op1 rfl (op_as (by first | exact (rfl : _ = AV.int _ _) | exact (rfl : _ = AV.bool _) | exact (rfl : _ = AV.str _) | exact (rfl : _ = AV.sl _ _) | exact (rfl : _ = AV.row _ _) | exact (rfl : _ = AV.ptr _ _) | exact (rfl : _ = AV.tup _) | exact (rfl : _ = AV.agg _) | exact (rfl : _ = AV.fn _ _ _) | exact (rfl : _ = AV.nilp) | exact (rfl : _ = AV.mp _) | exact (rfl : _ = AV.vptr _) | exact (rfl : _ = AV.any))) ?_
  refine .nil ?_
  dsimp only [putA, List.set, av, List.getD_cons_zero, List.getD_cons_succ, avOf, avLeaf, cellsA, setR, D31, D53, D57, D69, D86, D95, List.take_succ_cons, List.take_zero, List.drop_succ_cons, List.drop_zero, List.length_cons, List.length_nil, List.nil_append, List.cons_append, Nat.reduceAdd, Nat.zero_add]
  refine .ret ?_
  exact ⟨_, _, _, .cons (.tmp _) .nil, .drop st.length (Nat.le_refl _) rfl (fun h => by simpa using h), by simp, rfl⟩

theorem c46 {st : List Ob} {o : Nat} {clip : Bool} {es : List (List AV)} {a e : Int} (ho : st[o]? = some (.var [.sl clip es, .int .i64 a, .int .i64 e])) (h0 : 0 ≤ a) (h1 : a ≤ es.length) (h2 : es.length < 2 ^ 62) : Ctr Tryd.prog mG 46 st [.ptr o 0] (fun st' r => st' = st ∧ r = .int .i64 (es.length - a)) := by
  refine Ctr.of_body (E := Ev) Tryd.func46 rfl ?_
  show AGo Ev _ _ [.ptr o 0, .any, .any, .any, .any, .any, .any, .any, .any, .any, .any, .any, .any, .any, .any] _ _
  refine .seq ?_
  refine .region rfl ?_
  refine .op1 rfl (op_as (by first | exact (rfl : _ = AV.int _ _) | exact (rfl : _ = AV.bool _) | exact (rfl : _ = AV.str _) | exact (rfl : _ = AV.sl _ _) | exact (rfl : _ = AV.row _ _) | exact (rfl : _ = AV.ptr _ _) | exact (rfl : _ = AV.tup _) | exact (rfl : _ = AV.agg _) | exact (rfl : _ = AV.fn _ _ _) | exact (rfl : _ = AV.nilp) | exact (rfl : _ = AV.mp _) | exact (rfl : _ = AV.vptr _) | exact (rfl : _ = AV.any))) ?_
  refine .nil ?_
  dsimp only [putA, List.set, av, List.getD_cons_zero, List.getD_cons_succ, avOf, avLeaf, cellsA, setR, D31, D53, D57, D69, D86, D95, List.take_succ_cons, List.take_zero, List.drop_succ_cons, List.drop_zero, List.length_cons, List.length_nil, List.nil_append, List.cons_append, Nat.reduceAdd, Nat.zero_add]
  refine .seq ?_
  refine .seq ?_
  refine .region rfl ?_
  refine .op1 rfl (op_mv (by first | exact (rfl : _ = AV.int _ _) | exact (rfl : _ = AV.bool _) | exact (rfl : _ = AV.str _) | exact (rfl : _ = AV.sl _ _) | exact (rfl : _ = AV.row _ _) | exact (rfl : _ = AV.ptr _ _) | exact (rfl : _ = AV.tup _) | exact (rfl : _ = AV.agg _) | exact (rfl : _ = AV.fn _ _ _) | exact (rfl : _ = AV.nilp) | exact (rfl : _ = AV.mp _) | exact (rfl : _ = AV.vptr _) | exact (rfl : _ = AV.any))) ?_
  refine .op1 rfl (op_eqNil (.inl ⟨_, _, rfl⟩) (D := D51) rfl rfl) ?_
  refine .nil ?_
  dsimp only [putA, List.set, av, List.getD_cons_zero, List.getD_cons_succ, avOf, avLeaf, cellsA, setR, D31, D53, D57, D69, D86, D95, List.take_succ_cons, List.take_zero, List.drop_succ_cons, List.drop_zero, List.length_cons, List.length_nil, List.nil_append, List.cons_append, Nat.reduceAdd, Nat.zero_add]
  refine .cond (t := false) rfl (fun h => by cases h) (fun _ => ?_)
  refine .skip ?_
  refine .seq ?_
  refine .drawn [] rfl (by decide) (by decide +kernel) ?_
  refine .pures rfl rfl (fun _ => (op_mv (by first | exact (rfl : _ = AV.int _ _) | exact (rfl : _ = AV.bool _) | exact (rfl : _ = AV.str _) | exact (rfl : _ = AV.sl _ _) | exact (rfl : _ = AV.row _ _) | exact (rfl : _ = AV.ptr _ _) | exact (rfl : _ = AV.tup _) | exact (rfl : _ = AV.agg _) | exact (rfl : _ = AV.fn _ _ _) | exact (rfl : _ = AV.nilp) | exact (rfl : _ = AV.mp _) | exact (rfl : _ = AV.vptr _) | exact (rfl : _ = AV.any)))) ?_
  refine .pures rfl rfl (fun _ => (op_nilCheck rfl (.inl ⟨_, _, rfl⟩))) ?_
  refine .pures rfl rfl (fun _ => (op_fieldAddr rfl (D := D95) rfl rfl rfl rfl (by decide))) ?_
  refine .pure rfl rfl (by decide) rfl (op_load rfl ho (D := D22) rfl rfl rfl) ?_
  refine .pures rfl rfl (fun _ => (op_lenSl rfl (S := D22) rfl rfl)) ?_
  refine .pures rfl rfl (fun _ => (op_mv (by first | exact (rfl : _ = AV.int _ _) | exact (rfl : _ = AV.bool _) | exact (rfl : _ = AV.str _) | exact (rfl : _ = AV.sl _ _) | exact (rfl : _ = AV.row _ _) | exact (rfl : _ = AV.ptr _ _) | exact (rfl : _ = AV.tup _) | exact (rfl : _ = AV.agg _) | exact (rfl : _ = AV.fn _ _ _) | exact (rfl : _ = AV.nilp) | exact (rfl : _ = AV.mp _) | exact (rfl : _ = AV.vptr _) | exact (rfl : _ = AV.any)))) ?_
  refine .pures rfl rfl (fun _ => (op_nilCheck rfl (.inl ⟨_, _, rfl⟩))) ?_
  refine .pures rfl rfl (fun _ => (op_fieldAddr rfl (D := D95) rfl rfl rfl rfl (by decide))) ?_
  refine .pure rfl rfl (by decide) rfl (op_load rfl ho (D := D3) rfl rfl rfl) ?_
  refine .pures rfl rfl (fun _ => (op_arith rfl rfl rfl (by simp only [lo]; omega) (by simp only [hi]; omega))) ?_
  refine .pures rfl rfl (fun _ => (op_as (by first | exact (rfl : _ = AV.int _ _) | exact (rfl : _ = AV.bool _) | exact (rfl : _ = AV.str _) | exact (rfl : _ = AV.sl _ _) | exact (rfl : _ = AV.row _ _) | exact (rfl : _ = AV.ptr _ _) | exact (rfl : _ = AV.tup _) | exact (rfl : _ = AV.agg _) | exact (rfl : _ = AV.fn _ _ _) | exact (rfl : _ = AV.nilp) | exact (rfl : _ = AV.mp _) | exact (rfl : _ = AV.vptr _) | exact (rfl : _ = AV.any)))) ?_
  refine .nil rfl rfl ?_
  dsimp only [putA, List.set, av, List.getD_cons_zero, List.getD_cons_succ, avOf, avLeaf, cellsA, setR, D31, D53, D57, D69, D86, D95, List.take_succ_cons, List.take_zero, List.drop_succ_cons, List.drop_zero, List.length_cons, List.length_nil, List.nil_append, List.cons_append, Nat.reduceAdd, Nat.zero_add]
  refine .ret ?_
  exact ⟨_, _, _, .cons (.tmp _) .nil, .drop st.length (Nat.le_refl _) rfl (fun h => by simpa using h), by simp, rfl⟩

theorem c35 {st : List Ob} {clip : Bool} {es : List (List AV)} (hes : okLL 0 es = true) : Ctr Tryd.prog mG 35 st [.sl clip es] (fun st' r => st' = st ++ [.var [.sl clip es, .int .i64 0, .int .i64 0]] ∧ r = .ptr st.length 0) := by
  refine Ctr.of_body (E := Ev) Tryd.func35 rfl ?_
  show AGo Ev _ _ [.sl clip es, .any, .any, .any, .any, .any] _ _
  refine .seq ?_
  refine .region rfl ?_
  refine .op1 rfl (op_as (by first | exact (rfl : _ = AV.int _ _) | exact (rfl : _ = AV.bool _) | exact (rfl : _ = AV.str _) | exact (rfl : _ = AV.sl _ _) | exact (rfl : _ = AV.row _ _) | exact (rfl : _ = AV.ptr _ _) | exact (rfl : _ = AV.tup _) | exact (rfl : _ = AV.agg _) | exact (rfl : _ = AV.fn _ _ _) | exact (rfl : _ = AV.nilp) | exact (rfl : _ = AV.mp _) | exact (rfl : _ = AV.vptr _) | exact (rfl : _ = AV.any))) ?_
  refine .nil ?_
  dsimp only [putA, List.set, av, List.getD_cons_zero, List.getD_cons_succ, avOf, avLeaf, cellsA, setR, D31, D53, D57, D69, D86, D95, List.take_succ_cons, List.take_zero, List.drop_succ_cons, List.drop_zero, List.length_cons, List.length_nil, List.nil_append, List.cons_append, Nat.reduceAdd, Nat.zero_add]
  refine .seq ?_
  refine .region rfl ?_
  refine .op1 rfl (op_mv (by first | exact (rfl : _ = AV.int _ _) | exact (rfl : _ = AV.bool _) | exact (rfl : _ = AV.str _) | exact (rfl : _ = AV.sl _ _) | exact (rfl : _ = AV.row _ _) | exact (rfl : _ = AV.ptr _ _) | exact (rfl : _ = AV.tup _) | exact (rfl : _ = AV.agg _) | exact (rfl : _ = AV.fn _ _ _) | exact (rfl : _ = AV.nilp) | exact (rfl : _ = AV.mp _) | exact (rfl : _ = AV.vptr _) | exact (rfl : _ = AV.any))) ?_
  refine .op1 rfl (op_build1 (D := D95) rfl rfl pl95 (vs := [(0, .sl clip es)]) rfl rfl) ?_
  refine .op1 rfl (op_boxA rfl) ?_
  refine .op1 rfl (op_as (by first | exact (rfl : _ = AV.int _ _) | exact (rfl : _ = AV.bool _) | exact (rfl : _ = AV.str _) | exact (rfl : _ = AV.sl _ _) | exact (rfl : _ = AV.row _ _) | exact (rfl : _ = AV.ptr _ _) | exact (rfl : _ = AV.tup _) | exact (rfl : _ = AV.agg _) | exact (rfl : _ = AV.fn _ _ _) | exact (rfl : _ = AV.nilp) | exact (rfl : _ = AV.mp _) | exact (rfl : _ = AV.vptr _) | exact (rfl : _ = AV.any))) ?_
  refine .nil ?_
  dsimp only [putA, List.set, av, List.getD_cons_zero, List.getD_cons_succ, avOf, avLeaf, cellsA, setR, D31, D53, D57, D69, D86, D95, List.take_succ_cons, List.take_zero, List.drop_succ_cons, List.drop_zero, List.length_cons, List.length_nil, List.nil_append, List.cons_append, Nat.reduceAdd, Nat.zero_add]
  refine .ret ?_
  have e : (st ++ [Ob.var [.sl clip es, .int .i64 0, .int .i64 0]]).take (st.length + 1) = st ++ [Ob.var [.sl clip es, .int .i64 0, .int .i64 0]] := List.take_of_length_le (by simp)
  exact ⟨_, _, _, .cons (.tmp _) .nil, .drop (st.length + 1) (by omega) (by simp [packA, okA]) (fun h => by
    rw [e]
    exact okSt_append (okSt_mono (by omega) h) (by simp [okSt, okO, okL, okA, okLL_mono (Nat.zero_le _) es hes])), e, rfl⟩
end Rm

namespace Rm
open Go Go.Proofs
open Go.RowKit

/-- slices.Clone: a slice of one's own. -/
theorem c14 {st : List Ob} {clip : Bool} {l : List UInt8} (hl : l.length ≤ 1000000) : Ctr Tryd.prog mG 14 st [.sl clip (bs l)] (fun st' r => st' = st ++ [.row 0 1 (bs l) false] ∧ r = .row st.length 0) := by
  refine Ctr.of_body (E := Ev) Tryd.func14 rfl ?_
  show AGo Ev _ _ [.sl clip (bs l), .any, .any, .any, .any, .any, .any, .any] _ _
  refine .adopt 1 (by decide) ?_
  have fin : ∀ (fr : List AV) v, fr[2]? = some (.row st.length v) → Fin Ev Tryd.f14.results.toList st (fun st' r => st' = st ++ [.row 0 1 (bs l) false] ∧ r = .row st.length 0) fr (st ++ [.row v 1 (bs l) false]) := fun fr v h => by
    have e : (st ++ [Ob.row v 1 (bs l) false]).take st.length = st := by simp
    have hg : fr.getD 2 .any = .row st.length v := by rw [List.getD_eq_getElem?_getD, h]; rfl
    refine ⟨_, _, _, .cons (.tmp _) .nil, .row (.row st.length 0) st.length v 1 (bs l) false (at0 _ _ _) (Nat.le_refl _) (fun h => by rw [e]; exact h) (okLL_bs _ _) ?_, by rw [e], rfl⟩
    show ReA _ _ _ (fr.getD 2 .any) _
    rw [hg]
    exact .row
  refine .seq ?_
  refine .region rfl ?_
  refine .op1 rfl (op_as (by first | exact (rfl : _ = AV.int _ _) | exact (rfl : _ = AV.bool _) | exact (rfl : _ = AV.str _) | exact (rfl : _ = AV.sl _ _) | exact (rfl : _ = AV.row _ _) | exact (rfl : _ = AV.ptr _ _) | exact (rfl : _ = AV.tup _) | exact (rfl : _ = AV.agg _) | exact (rfl : _ = AV.fn _ _ _) | exact (rfl : _ = AV.nilp) | exact (rfl : _ = AV.mp _) | exact (rfl : _ = AV.vptr _) | exact (rfl : _ = AV.any))) ?_
  refine .nil ?_
  dsimp only [putA, List.set, av, List.getD_cons_zero, List.getD_cons_succ, avOf, avLeaf, cellsA, setR, D31, D53, D57, D69, D86, D95, List.take_succ_cons, List.take_zero, List.drop_succ_cons, List.drop_zero, List.length_cons, List.length_nil, List.nil_append, List.cons_append, Nat.reduceAdd, Nat.zero_add]
  refine .seq ?_
  refine .seq ?_
  refine .region rfl ?_
  refine .op1 rfl (op_mv (by first | exact (rfl : _ = AV.int _ _) | exact (rfl : _ = AV.bool _) | exact (rfl : _ = AV.str _) | exact (rfl : _ = AV.sl _ _) | exact (rfl : _ = AV.row _ _) | exact (rfl : _ = AV.ptr _ _) | exact (rfl : _ = AV.tup _) | exact (rfl : _ = AV.agg _) | exact (rfl : _ = AV.fn _ _ _) | exact (rfl : _ = AV.nilp) | exact (rfl : _ = AV.mp _) | exact (rfl : _ = AV.vptr _) | exact (rfl : _ = AV.any))) ?_
  refine .op rfl (op_nilSlice rfl (D := D22) rfl rfl) ?_
  rintro _ _ ⟨rfl, b, rfl, hb⟩
  refine .nil ?_
  dsimp only [putA, List.set]
  refine .cond (t := b) rfl (fun h => ?_) (fun _ => ?_)
  · have he := hb h
    refine .seq ?_
    refine .region rfl ?_
    refine .op1 rfl (op_as (by first | exact (rfl : _ = AV.int _ _) | exact (rfl : _ = AV.bool _) | exact (rfl : _ = AV.str _) | exact (rfl : _ = AV.sl _ _) | exact (rfl : _ = AV.row _ _) | exact (rfl : _ = AV.ptr _ _) | exact (rfl : _ = AV.tup _) | exact (rfl : _ = AV.agg _) | exact (rfl : _ = AV.fn _ _ _) | exact (rfl : _ = AV.nilp) | exact (rfl : _ = AV.mp _) | exact (rfl : _ = AV.vptr _) | exact (rfl : _ = AV.any))) ?_
    refine .nil ?_
    dsimp only [putA, List.set, av, List.getD_cons_zero, List.getD_cons_succ, avOf, avLeaf, cellsA, setR, D31, D53, D57, D69, D86, D95, List.take_succ_cons, List.take_zero, List.drop_succ_cons, List.drop_zero, List.length_cons, List.length_nil, List.nil_append, List.cons_append, Nat.reduceAdd, Nat.zero_add]
    refine .become 2 st.length rfl (at0 _ _ _) (by decide) ?_
    rw [set0]
    refine .ret ?_
    rw [← he]
    exact fin _ _ rfl
  · refine .skip ?_
    refine .seq ?_
    refine .region rfl ?_
    refine .op1 rfl (op_lit (S := D22) (D := D5) (vs := []) rfl rfl rfl rfl rfl (by decide) rfl ⟨rfl, rfl⟩) ?_
    refine .op1 rfl (op_mv (by first | exact (rfl : _ = AV.int _ _) | exact (rfl : _ = AV.bool _) | exact (rfl : _ = AV.str _) | exact (rfl : _ = AV.sl _ _) | exact (rfl : _ = AV.row _ _) | exact (rfl : _ = AV.ptr _ _) | exact (rfl : _ = AV.tup _) | exact (rfl : _ = AV.agg _) | exact (rfl : _ = AV.fn _ _ _) | exact (rfl : _ = AV.nilp) | exact (rfl : _ = AV.mp _) | exact (rfl : _ = AV.vptr _) | exact (rfl : _ = AV.any))) ?_
    refine .op1 rfl (op_append_sl rfl (at0 _ _ _) (.sl _ _) (S := D22) rfl rfl (D := D5) rfl rfl rfl (by decide) (Sx := D22) rfl rfl (by simp) (bs_one l) (bs_oneA l) (.inl rfl) (by simp [bs_length, D5]; omega) (by simp [bs_length]; omega) rfl rfl) ?_
    rw [set0]
    refine .op1 rfl (op_as (by first | exact (rfl : _ = AV.int _ _) | exact (rfl : _ = AV.bool _) | exact (rfl : _ = AV.str _) | exact (rfl : _ = AV.sl _ _) | exact (rfl : _ = AV.row _ _) | exact (rfl : _ = AV.ptr _ _) | exact (rfl : _ = AV.tup _) | exact (rfl : _ = AV.agg _) | exact (rfl : _ = AV.fn _ _ _) | exact (rfl : _ = AV.nilp) | exact (rfl : _ = AV.mp _) | exact (rfl : _ = AV.vptr _) | exact (rfl : _ = AV.any))) ?_
    refine .nil ?_
    dsimp only [putA, List.set]
    refine .ret ?_
    exact fin _ _ rfl
end Rm

namespace Rm
open Go Go.Proofs
open Go.RowKit

def halfI (n : Int) : Int := bitsI .xor .u32 (n.fdiv (2 ^ 4)) (halves.getD (n % 16).toNat 0)
def byteI (n : Int) (c : UInt8) : Int := halfI (halfI (bitsI .xor .u32 n c.toNat))
def moreI (n : Int) (l : List UInt8) : Int := l.foldl byteI n
theorem bitsI_nonneg (op : BinOp) (a b : Int) : 0 ≤ bitsI op .u32 a b := by
  have := wrap_lo .u32 (match op with
    | .and => (BitVec.ofInt 32 a) &&& (BitVec.ofInt 32 b)
    | .or => (BitVec.ofInt 32 a) ||| (BitVec.ofInt 32 b)
    | .xor => (BitVec.ofInt 32 a) ^^^ (BitVec.ofInt 32 b)
    | _ => (BitVec.ofInt 32 a) &&& ~~~(BitVec.ofInt 32 b)).toNat
  exact this
theorem halfI_nonneg (n : Int) : 0 ≤ halfI n := bitsI_nonneg _ _ _
theorem halves_at (n : Int) (_h : 0 ≤ n) : ((gG 0).drop (n % 16).toNat)[0]? = some (.int .u32 (halves.getD (n % 16).toNat 0)) := by
  have hlt : (n % 16).toNat < 16 := by omega
  rw [List.getElem?_drop, Nat.add_zero]
  have : halves.length = 16 := rfl
  simp [gG, List.getD_eq_getElem?_getD, show (n % 16).toNat < halves.length by omega]

theorem c31 {st : List Ob} {clip : Bool} {l : List UInt8} {s : Int} (hl : l.length < 2 ^ 62) : Ctr Tryd.prog mG 31 st [.int .u32 s, .sl clip (bs l)] (fun st' r => st' = st ∧ r = .int .u32 (bitsI .xor .u32 4294967295 (moreI (bitsI .xor .u32 4294967295 s) l))) := by
  refine Ctr.of_body (E := Ev) Tryd.func31 rfl ?_
  show AGo Ev _ _ [.int .u32 s, .sl clip (bs l), .any, .any, .any, .any, .any, .any, .any, .any, .any, .any, .any, .any, .any, .any, .any, .any, .any, .any, .any, .any, .any, .any, .any, .any, .any, .any, .any, .any, .any, .any, .any] _ _
  refine .seq ?_
  refine .region rfl ?_
  refine .op1 rfl (op_as (by first | exact (rfl : _ = AV.int _ _) | exact (rfl : _ = AV.bool _) | exact (rfl : _ = AV.str _) | exact (rfl : _ = AV.sl _ _) | exact (rfl : _ = AV.row _ _) | exact (rfl : _ = AV.ptr _ _) | exact (rfl : _ = AV.tup _) | exact (rfl : _ = AV.agg _) | exact (rfl : _ = AV.fn _ _ _) | exact (rfl : _ = AV.nilp) | exact (rfl : _ = AV.mp _) | exact (rfl : _ = AV.vptr _) | exact (rfl : _ = AV.any))) ?_
  refine .nil ?_
  dsimp only [putA, List.set, av, List.getD_cons_zero, List.getD_cons_succ, avOf, avLeaf, cellsA, setR, D31, D53, D57, D69, D86, D95, List.take_succ_cons, List.take_zero, List.drop_succ_cons, List.drop_zero, List.length_cons, List.length_nil, List.nil_append, List.cons_append, Nat.reduceAdd, Nat.zero_add]
  refine .seq ?_
  refine .region rfl ?_
  refine .op1 rfl (op_mv (by first | exact (rfl : _ = AV.int _ _) | exact (rfl : _ = AV.bool _) | exact (rfl : _ = AV.str _) | exact (rfl : _ = AV.sl _ _) | exact (rfl : _ = AV.row _ _) | exact (rfl : _ = AV.ptr _ _) | exact (rfl : _ = AV.tup _) | exact (rfl : _ = AV.agg _) | exact (rfl : _ = AV.fn _ _ _) | exact (rfl : _ = AV.nilp) | exact (rfl : _ = AV.mp _) | exact (rfl : _ = AV.vptr _) | exact (rfl : _ = AV.any))) ?_
  refine .op1 rfl (op_xor1 rfl) ?_
  refine .op1 rfl (op_as (by first | exact (rfl : _ = AV.int _ _) | exact (rfl : _ = AV.bool _) | exact (rfl : _ = AV.str _) | exact (rfl : _ = AV.sl _ _) | exact (rfl : _ = AV.row _ _) | exact (rfl : _ = AV.ptr _ _) | exact (rfl : _ = AV.tup _) | exact (rfl : _ = AV.agg _) | exact (rfl : _ = AV.fn _ _ _) | exact (rfl : _ = AV.nilp) | exact (rfl : _ = AV.mp _) | exact (rfl : _ = AV.vptr _) | exact (rfl : _ = AV.any))) ?_
  refine .nil ?_
  dsimp only [putA, List.set, av, List.getD_cons_zero, List.getD_cons_succ, avOf, avLeaf, cellsA, setR, D31, D53, D57, D69, D86, D95, List.take_succ_cons, List.take_zero, List.drop_succ_cons, List.drop_zero, List.length_cons, List.length_nil, List.nil_append, List.cons_append, Nat.reduceAdd, Nat.zero_add]
  refine .seq ?_
  refine .seq ?_
  refine .region rfl ?_
  refine .op1 rfl (op_mv (by first | exact (rfl : _ = AV.int _ _) | exact (rfl : _ = AV.bool _) | exact (rfl : _ = AV.str _) | exact (rfl : _ = AV.sl _ _) | exact (rfl : _ = AV.row _ _) | exact (rfl : _ = AV.ptr _ _) | exact (rfl : _ = AV.tup _) | exact (rfl : _ = AV.agg _) | exact (rfl : _ = AV.fn _ _ _) | exact (rfl : _ = AV.nilp) | exact (rfl : _ = AV.mp _) | exact (rfl : _ = AV.vptr _) | exact (rfl : _ = AV.any))) ?_
  refine .op1 rfl (op_lenSl rfl (S := D22) rfl rfl) ?_
  refine .op1 rfl (op_mv (by first | exact (rfl : _ = AV.int _ _) | exact (rfl : _ = AV.bool _) | exact (rfl : _ = AV.str _) | exact (rfl : _ = AV.sl _ _) | exact (rfl : _ = AV.row _ _) | exact (rfl : _ = AV.ptr _ _) | exact (rfl : _ = AV.tup _) | exact (rfl : _ = AV.agg _) | exact (rfl : _ = AV.fn _ _ _) | exact (rfl : _ = AV.nilp) | exact (rfl : _ = AV.mp _) | exact (rfl : _ = AV.vptr _) | exact (rfl : _ = AV.any))) ?_
  refine .nil ?_
  dsimp only [putA, List.set, av, List.getD_cons_zero, List.getD_cons_succ, avOf, avLeaf, cellsA, setR, D31, D53, D57, D69, D86, D95, List.take_succ_cons, List.take_zero, List.drop_succ_cons, List.drop_zero, List.length_cons, List.length_nil, List.nil_append, List.cons_append, Nat.reduceAdd, Nat.zero_add]
  refine .block ?_
  refine .only (fun i => i == 5 || i == 10 || i == 11 || i == 12) ?_
  refine .loop (σ := Nat × Int) (0, bitsI .xor .u32 4294967295 s) (fun x => x.1 ≤ l.length ∧ 0 ≤ x.2 ∧ x.2 = moreI (bitsI .xor .u32 4294967295 s) (l.take x.1)) (fun x => l.length - x.1)
    (fun x => [.any, .any, .any, .any, .any, .int .u32 x.2, .any, .any, .any, .any, .sl clip (bs l), .int .i64 (bs l).length, .int .i64 x.1, .any, .any, .any, .any, .any, .any, .any, .any, .any, .any, .any, .any, .any, .any, .any, .any, .any, .any, .any, .any]) (fun _ => st) ?_ rfl rfl ?_
  · exact ⟨Nat.zero_le _, (bitsI_nonneg .xor 4294967295 s : (0 : Int) ≤ bitsI .xor .u32 4294967295 s), by simp [moreI]⟩
  · rintro ⟨i, n⟩ ⟨h1, h2, h3⟩ again
    dsimp only at h1 h2 h3 again ⊢
    refine .seq ?_
    refine .region rfl ?_
    refine .op1 rfl (op_bin rfl rfl rfl) ?_
    refine .nil ?_
    dsimp only [putA, List.set, av, List.getD_cons_zero, List.getD_cons_succ, avOf, avLeaf, cellsA, setR, D31, D53, D57, D69, D86, D95, List.take_succ_cons, List.take_zero, List.drop_succ_cons, List.drop_zero, List.length_cons, List.length_nil, List.nil_append, List.cons_append, Nat.reduceAdd, Nat.zero_add]
    refine .seq ?_
    refine .cond rfl (fun h => ?_) (fun h => ?_)
    · have hlt : i < l.length := by simp [bs_length] at h; omega
      obtain ⟨c, hc⟩ : ∃ c, l[i]? = some c := ⟨l[i], by simp [hlt]⟩
      have hcb := c.toNat_lt
      refine .skip ?_
      refine .seq ?_
      refine .block ?_
      refine .seq ?_
      refine .region rfl ?_
      refine .op1 rfl (op_indexAddr rfl rfl (S := D22) rfl rfl (D := D5) rfl (bs_one l) (by omega) (by simpa using bs_get l i c hc)) ?_
      refine .op1 rfl (op_load_v rfl (D := D5) rfl rfl rfl) ?_
      refine .op1 rfl (op_as (by first | exact (rfl : _ = AV.int _ _) | exact (rfl : _ = AV.bool _) | exact (rfl : _ = AV.str _) | exact (rfl : _ = AV.sl _ _) | exact (rfl : _ = AV.row _ _) | exact (rfl : _ = AV.ptr _ _) | exact (rfl : _ = AV.tup _) | exact (rfl : _ = AV.agg _) | exact (rfl : _ = AV.fn _ _ _) | exact (rfl : _ = AV.nilp) | exact (rfl : _ = AV.mp _) | exact (rfl : _ = AV.vptr _) | exact (rfl : _ = AV.any))) ?_
      refine .nil ?_
      dsimp only [putA, List.set, av, List.getD_cons_zero, List.getD_cons_succ, avOf, avLeaf, cellsA, setR, D31, D53, D57, D69, D86, D95, List.take_succ_cons, List.take_zero, List.drop_succ_cons, List.drop_zero, List.length_cons, List.length_nil, List.nil_append, List.cons_append, Nat.reduceAdd, Nat.zero_add]
      refine .seq ?_
      refine .region rfl ?_
      refine .op1 rfl (op_mv (by first | exact (rfl : _ = AV.int _ _) | exact (rfl : _ = AV.bool _) | exact (rfl : _ = AV.str _) | exact (rfl : _ = AV.sl _ _) | exact (rfl : _ = AV.row _ _) | exact (rfl : _ = AV.ptr _ _) | exact (rfl : _ = AV.tup _) | exact (rfl : _ = AV.agg _) | exact (rfl : _ = AV.fn _ _ _) | exact (rfl : _ = AV.nilp) | exact (rfl : _ = AV.mp _) | exact (rfl : _ = AV.vptr _) | exact (rfl : _ = AV.any))) ?_
      refine .op1 rfl (op_mv (by first | exact (rfl : _ = AV.int _ _) | exact (rfl : _ = AV.bool _) | exact (rfl : _ = AV.str _) | exact (rfl : _ = AV.sl _ _) | exact (rfl : _ = AV.row _ _) | exact (rfl : _ = AV.ptr _ _) | exact (rfl : _ = AV.tup _) | exact (rfl : _ = AV.agg _) | exact (rfl : _ = AV.fn _ _ _) | exact (rfl : _ = AV.nilp) | exact (rfl : _ = AV.mp _) | exact (rfl : _ = AV.vptr _) | exact (rfl : _ = AV.any))) ?_
      refine .op1 rfl (op_convInt (r := (c.toNat : Int)) rfl (S := D5) (D := D42) rfl rfl rfl (wrap_in (by simp only [lo]; omega) (by simp only [hi]; omega))) ?_
      refine .op1 rfl (op_bin rfl rfl rfl) ?_
      refine .op1 rfl (op_as (by first | exact (rfl : _ = AV.int _ _) | exact (rfl : _ = AV.bool _) | exact (rfl : _ = AV.str _) | exact (rfl : _ = AV.sl _ _) | exact (rfl : _ = AV.row _ _) | exact (rfl : _ = AV.ptr _ _) | exact (rfl : _ = AV.tup _) | exact (rfl : _ = AV.agg _) | exact (rfl : _ = AV.fn _ _ _) | exact (rfl : _ = AV.nilp) | exact (rfl : _ = AV.mp _) | exact (rfl : _ = AV.vptr _) | exact (rfl : _ = AV.any))) ?_
      refine .nil ?_
      dsimp only [putA, List.set, av, List.getD_cons_zero, List.getD_cons_succ, avOf, avLeaf, cellsA, setR, D31, D53, D57, D69, D86, D95, List.take_succ_cons, List.take_zero, List.drop_succ_cons, List.drop_zero, List.length_cons, List.length_nil, List.nil_append, List.cons_append, Nat.reduceAdd, Nat.zero_add]
      refine .seq ?_
      refine .region rfl ?_
      refine .op1 rfl (op_mv (by first | exact (rfl : _ = AV.int _ _) | exact (rfl : _ = AV.bool _) | exact (rfl : _ = AV.str _) | exact (rfl : _ = AV.sl _ _) | exact (rfl : _ = AV.row _ _) | exact (rfl : _ = AV.ptr _ _) | exact (rfl : _ = AV.tup _) | exact (rfl : _ = AV.agg _) | exact (rfl : _ = AV.fn _ _ _) | exact (rfl : _ = AV.nilp) | exact (rfl : _ = AV.mp _) | exact (rfl : _ = AV.vptr _) | exact (rfl : _ = AV.any))) ?_
      refine .nil ?_
      dsimp only [putA, List.set, av, List.getD_cons_zero, List.getD_cons_succ, avOf, avLeaf, cellsA, setR, D31, D53, D57, D69, D86, D95, List.take_succ_cons, List.take_zero, List.drop_succ_cons, List.drop_zero, List.length_cons, List.length_nil, List.nil_append, List.cons_append, Nat.reduceAdd, Nat.zero_add]
      refine .block ?_
      refine .loop0 ?_
      refine .seq ?_
      refine .region rfl ?_
      refine .op1 rfl (op_bin rfl rfl rfl) ?_
      refine .nil ?_
      dsimp only [putA, List.set, av, List.getD_cons_zero, List.getD_cons_succ, avOf, avLeaf, cellsA, setR, D31, D53, D57, D69, D86, D95, List.take_succ_cons, List.take_zero, List.drop_succ_cons, List.drop_zero, List.length_cons, List.length_nil, List.nil_append, List.cons_append, Nat.reduceAdd, Nat.zero_add]
      refine .seq ?_
      refine .cond (t := true) rfl (fun _ => ?_) (fun h => by cases h)
      refine .skip ?_
      refine .seq ?_
      refine .block ?_
      refine .region rfl ?_
      refine .op1 rfl (op_mv (by first | exact (rfl : _ = AV.int _ _) | exact (rfl : _ = AV.bool _) | exact (rfl : _ = AV.str _) | exact (rfl : _ = AV.sl _ _) | exact (rfl : _ = AV.row _ _) | exact (rfl : _ = AV.ptr _ _) | exact (rfl : _ = AV.tup _) | exact (rfl : _ = AV.agg _) | exact (rfl : _ = AV.fn _ _ _) | exact (rfl : _ = AV.nilp) | exact (rfl : _ = AV.mp _) | exact (rfl : _ = AV.vptr _) | exact (rfl : _ = AV.any))) ?_
      refine .op1 rfl (op_shr (q := 4) rfl rfl (by decide)) ?_
      refine .op1 rfl (op_mv (by first | exact (rfl : _ = AV.int _ _) | exact (rfl : _ = AV.bool _) | exact (rfl : _ = AV.str _) | exact (rfl : _ = AV.sl _ _) | exact (rfl : _ = AV.row _ _) | exact (rfl : _ = AV.ptr _ _) | exact (rfl : _ = AV.tup _) | exact (rfl : _ = AV.agg _) | exact (rfl : _ = AV.fn _ _ _) | exact (rfl : _ = AV.nilp) | exact (rfl : _ = AV.mp _) | exact (rfl : _ = AV.vptr _) | exact (rfl : _ = AV.any))) ?_
      refine .op1 rfl (op_rem rfl rfl (bitsI_nonneg _ _ _) (by decide)) ?_
      refine .op1 rfl (op_indexAddr_arr rfl rfl (S := D92) rfl rfl (D := D42) rfl rfl (by omega) (by omega) rfl) ?_
      refine .op1 rfl (op_load_v rfl (D := D42) rfl rfl (halves_at _ (bitsI_nonneg _ _ _))) ?_
      refine .op1 rfl (op_bin rfl rfl rfl) ?_
      refine .op1 rfl (op_as (by first | exact (rfl : _ = AV.int _ _) | exact (rfl : _ = AV.bool _) | exact (rfl : _ = AV.str _) | exact (rfl : _ = AV.sl _ _) | exact (rfl : _ = AV.row _ _) | exact (rfl : _ = AV.ptr _ _) | exact (rfl : _ = AV.tup _) | exact (rfl : _ = AV.agg _) | exact (rfl : _ = AV.fn _ _ _) | exact (rfl : _ = AV.nilp) | exact (rfl : _ = AV.mp _) | exact (rfl : _ = AV.vptr _) | exact (rfl : _ = AV.any))) ?_
      refine .nil ?_
      dsimp only [putA, List.set, av, List.getD_cons_zero, List.getD_cons_succ, avOf, avLeaf, cellsA, setR, D31, D53, D57, D69, D86, D95, List.take_succ_cons, List.take_zero, List.drop_succ_cons, List.drop_zero, List.length_cons, List.length_nil, List.nil_append, List.cons_append, Nat.reduceAdd, Nat.zero_add]
      refine .inBlock ?_
      refine .region rfl ?_
      refine .op1 rfl (op_arith rfl rfl rfl (by simp only [lo]; omega) (by simp only [hi]; omega)) ?_
      refine .op1 rfl (op_mv (by first | exact (rfl : _ = AV.int _ _) | exact (rfl : _ = AV.bool _) | exact (rfl : _ = AV.str _) | exact (rfl : _ = AV.sl _ _) | exact (rfl : _ = AV.row _ _) | exact (rfl : _ = AV.ptr _ _) | exact (rfl : _ = AV.tup _) | exact (rfl : _ = AV.agg _) | exact (rfl : _ = AV.fn _ _ _) | exact (rfl : _ = AV.nilp) | exact (rfl : _ = AV.mp _) | exact (rfl : _ = AV.vptr _) | exact (rfl : _ = AV.any))) ?_
      refine .nil ?_
      dsimp only [putA, List.set, av, List.getD_cons_zero, List.getD_cons_succ, avOf, avLeaf, cellsA, setR, D31, D53, D57, D69, D86, D95, List.take_succ_cons, List.take_zero, List.drop_succ_cons, List.drop_zero, List.length_cons, List.length_nil, List.nil_append, List.cons_append, Nat.reduceAdd, Nat.zero_add]
      refine .inLoop ?_
      refine .seq ?_
      refine .region rfl ?_
      refine .op1 rfl (op_bin rfl rfl rfl) ?_
      refine .nil ?_
      dsimp only [putA, List.set, av, List.getD_cons_zero, List.getD_cons_succ, avOf, avLeaf, cellsA, setR, D31, D53, D57, D69, D86, D95, List.take_succ_cons, List.take_zero, List.drop_succ_cons, List.drop_zero, List.length_cons, List.length_nil, List.nil_append, List.cons_append, Nat.reduceAdd, Nat.zero_add]
      refine .seq ?_
      refine .cond (t := true) rfl (fun _ => ?_) (fun h => by cases h)
      refine .skip ?_
      refine .seq ?_
      refine .block ?_
      refine .region rfl ?_
      refine .op1 rfl (op_mv (by first | exact (rfl : _ = AV.int _ _) | exact (rfl : _ = AV.bool _) | exact (rfl : _ = AV.str _) | exact (rfl : _ = AV.sl _ _) | exact (rfl : _ = AV.row _ _) | exact (rfl : _ = AV.ptr _ _) | exact (rfl : _ = AV.tup _) | exact (rfl : _ = AV.agg _) | exact (rfl : _ = AV.fn _ _ _) | exact (rfl : _ = AV.nilp) | exact (rfl : _ = AV.mp _) | exact (rfl : _ = AV.vptr _) | exact (rfl : _ = AV.any))) ?_
      refine .op1 rfl (op_shr (q := 4) rfl rfl (by decide)) ?_
      refine .op1 rfl (op_mv (by first | exact (rfl : _ = AV.int _ _) | exact (rfl : _ = AV.bool _) | exact (rfl : _ = AV.str _) | exact (rfl : _ = AV.sl _ _) | exact (rfl : _ = AV.row _ _) | exact (rfl : _ = AV.ptr _ _) | exact (rfl : _ = AV.tup _) | exact (rfl : _ = AV.agg _) | exact (rfl : _ = AV.fn _ _ _) | exact (rfl : _ = AV.nilp) | exact (rfl : _ = AV.mp _) | exact (rfl : _ = AV.vptr _) | exact (rfl : _ = AV.any))) ?_
      refine .op1 rfl (op_rem rfl rfl (bitsI_nonneg _ _ _) (by decide)) ?_
      refine .op1 rfl (op_indexAddr_arr rfl rfl (S := D92) rfl rfl (D := D42) rfl rfl (by omega) (by omega) rfl) ?_
      refine .op1 rfl (op_load_v rfl (D := D42) rfl rfl (halves_at _ (bitsI_nonneg _ _ _))) ?_
      refine .op1 rfl (op_bin rfl rfl rfl) ?_
      refine .op1 rfl (op_as (by first | exact (rfl : _ = AV.int _ _) | exact (rfl : _ = AV.bool _) | exact (rfl : _ = AV.str _) | exact (rfl : _ = AV.sl _ _) | exact (rfl : _ = AV.row _ _) | exact (rfl : _ = AV.ptr _ _) | exact (rfl : _ = AV.tup _) | exact (rfl : _ = AV.agg _) | exact (rfl : _ = AV.fn _ _ _) | exact (rfl : _ = AV.nilp) | exact (rfl : _ = AV.mp _) | exact (rfl : _ = AV.vptr _) | exact (rfl : _ = AV.any))) ?_
      refine .nil ?_
      dsimp only [putA, List.set, av, List.getD_cons_zero, List.getD_cons_succ, avOf, avLeaf, cellsA, setR, D31, D53, D57, D69, D86, D95, List.take_succ_cons, List.take_zero, List.drop_succ_cons, List.drop_zero, List.length_cons, List.length_nil, List.nil_append, List.cons_append, Nat.reduceAdd, Nat.zero_add]
      refine .inBlock ?_
      refine .region rfl ?_
      refine .op1 rfl (op_arith rfl rfl rfl (by simp only [lo]; omega) (by simp only [hi]; omega)) ?_
      refine .op1 rfl (op_mv (by first | exact (rfl : _ = AV.int _ _) | exact (rfl : _ = AV.bool _) | exact (rfl : _ = AV.str _) | exact (rfl : _ = AV.sl _ _) | exact (rfl : _ = AV.row _ _) | exact (rfl : _ = AV.ptr _ _) | exact (rfl : _ = AV.tup _) | exact (rfl : _ = AV.agg _) | exact (rfl : _ = AV.fn _ _ _) | exact (rfl : _ = AV.nilp) | exact (rfl : _ = AV.mp _) | exact (rfl : _ = AV.vptr _) | exact (rfl : _ = AV.any))) ?_
      refine .nil ?_
      dsimp only [putA, List.set, av, List.getD_cons_zero, List.getD_cons_succ, avOf, avLeaf, cellsA, setR, D31, D53, D57, D69, D86, D95, List.take_succ_cons, List.take_zero, List.drop_succ_cons, List.drop_zero, List.length_cons, List.length_nil, List.nil_append, List.cons_append, Nat.reduceAdd, Nat.zero_add]
      refine .inLoop ?_
      refine .seq ?_
      refine .region rfl ?_
      refine .op1 rfl (op_bin rfl rfl rfl) ?_
      refine .nil ?_
      dsimp only [putA, List.set, av, List.getD_cons_zero, List.getD_cons_succ, avOf, avLeaf, cellsA, setR, D31, D53, D57, D69, D86, D95, List.take_succ_cons, List.take_zero, List.drop_succ_cons, List.drop_zero, List.length_cons, List.length_nil, List.nil_append, List.cons_append, Nat.reduceAdd, Nat.zero_add]
      refine .seq ?_
      refine .cond (t := false) rfl (fun h => by cases h) (fun _ => ?_)
      refine .exit rfl ?_
      refine .inBlock ?_
      refine .region rfl ?_
      refine .op1 rfl (op_arith rfl rfl rfl (by simp only [lo]; omega) (by simp only [hi]; omega)) ?_
      refine .op1 rfl (op_mv (by first | exact (rfl : _ = AV.int _ _) | exact (rfl : _ = AV.bool _) | exact (rfl : _ = AV.str _) | exact (rfl : _ = AV.sl _ _) | exact (rfl : _ = AV.row _ _) | exact (rfl : _ = AV.ptr _ _) | exact (rfl : _ = AV.tup _) | exact (rfl : _ = AV.agg _) | exact (rfl : _ = AV.fn _ _ _) | exact (rfl : _ = AV.nilp) | exact (rfl : _ = AV.mp _) | exact (rfl : _ = AV.vptr _) | exact (rfl : _ = AV.any))) ?_
      refine .nil ?_
      dsimp only [putA, List.set, av, List.getD_cons_zero, List.getD_cons_succ, avOf, avLeaf, cellsA, setR, D31, D53, D57, D69, D86, D95, List.take_succ_cons, List.take_zero, List.drop_succ_cons, List.drop_zero, List.length_cons, List.length_nil, List.nil_append, List.cons_append, Nat.reduceAdd, Nat.zero_add]
      refine .only (fun i => i == 5 || i == 10 || i == 11 || i == 12) ?_
      refine again (i + 1, byteI n c) ⟨by simp only; omega, halfI_nonneg _, ?_⟩ (by simp only; omega)
      simp only [h3, moreI]
      rw [List.take_add_one, hc]
      simp
    · have hge : l.length ≤ i := by simp [bs_length] at h; omega
      refine .exit rfl ?_
      refine .seq ?_
      refine .region rfl ?_
      refine .op1 rfl (op_mv (by first | exact (rfl : _ = AV.int _ _) | exact (rfl : _ = AV.bool _) | exact (rfl : _ = AV.str _) | exact (rfl : _ = AV.sl _ _) | exact (rfl : _ = AV.row _ _) | exact (rfl : _ = AV.ptr _ _) | exact (rfl : _ = AV.tup _) | exact (rfl : _ = AV.agg _) | exact (rfl : _ = AV.fn _ _ _) | exact (rfl : _ = AV.nilp) | exact (rfl : _ = AV.mp _) | exact (rfl : _ = AV.vptr _) | exact (rfl : _ = AV.any))) ?_
      refine .op1 rfl (op_xor1 rfl) ?_
      refine .op1 rfl (op_as (by first | exact (rfl : _ = AV.int _ _) | exact (rfl : _ = AV.bool _) | exact (rfl : _ = AV.str _) | exact (rfl : _ = AV.sl _ _) | exact (rfl : _ = AV.row _ _) | exact (rfl : _ = AV.ptr _ _) | exact (rfl : _ = AV.tup _) | exact (rfl : _ = AV.agg _) | exact (rfl : _ = AV.fn _ _ _) | exact (rfl : _ = AV.nilp) | exact (rfl : _ = AV.mp _) | exact (rfl : _ = AV.vptr _) | exact (rfl : _ = AV.any))) ?_
      refine .nil ?_
      dsimp only [putA, List.set, av, List.getD_cons_zero, List.getD_cons_succ, avOf, avLeaf, cellsA, setR, D31, D53, D57, D69, D86, D95, List.take_succ_cons, List.take_zero, List.drop_succ_cons, List.drop_zero, List.length_cons, List.length_nil, List.nil_append, List.cons_append, Nat.reduceAdd, Nat.zero_add]
      refine .ret ?_
      refine ⟨_, _, _, .cons (.tmp _) .nil, .drop st.length (Nat.le_refl _) rfl (fun h => by simpa using h), by simp, ?_⟩
      rw [h3, List.take_of_length_le hge]
      rfl

/-- crc.Sum. -/
theorem c16 {st : List Ob} {clip : Bool} {l : List UInt8} (hl : l.length < 2 ^ 62) : Ctr Tryd.prog mG 16 st [.sl clip (bs l)] (fun st' r => st' = st ∧ r = .int .u32 (bitsI .xor .u32 4294967295 (moreI (bitsI .xor .u32 4294967295 0) l))) := by
  refine Ctr.of_body (E := Ev) Tryd.func16 rfl ?_
  show AGo Ev _ _ [.sl clip (bs l), .any, .any, .any, .any] _ _
  refine .seq ?_
  refine .region rfl ?_
  refine .op1 rfl (op_as (by first | exact (rfl : _ = AV.int _ _) | exact (rfl : _ = AV.bool _) | exact (rfl : _ = AV.str _) | exact (rfl : _ = AV.sl _ _) | exact (rfl : _ = AV.row _ _) | exact (rfl : _ = AV.ptr _ _) | exact (rfl : _ = AV.tup _) | exact (rfl : _ = AV.agg _) | exact (rfl : _ = AV.fn _ _ _) | exact (rfl : _ = AV.nilp) | exact (rfl : _ = AV.mp _) | exact (rfl : _ = AV.vptr _) | exact (rfl : _ = AV.any))) ?_
  refine .nil ?_
  dsimp only [putA, List.set, av, List.getD_cons_zero, List.getD_cons_succ, avOf, avLeaf, cellsA, setR, D31, D53, D57, D69, D86, D95, List.take_succ_cons, List.take_zero, List.drop_succ_cons, List.drop_zero, List.length_cons, List.length_nil, List.nil_append, List.cons_append, Nat.reduceAdd, Nat.zero_add]
  refine .seq ?_
  refine .region rfl ?_
  refine .op1 rfl (op_mv (by first | exact (rfl : _ = AV.int _ _) | exact (rfl : _ = AV.bool _) | exact (rfl : _ = AV.str _) | exact (rfl : _ = AV.sl _ _) | exact (rfl : _ = AV.row _ _) | exact (rfl : _ = AV.ptr _ _) | exact (rfl : _ = AV.tup _) | exact (rfl : _ = AV.agg _) | exact (rfl : _ = AV.fn _ _ _) | exact (rfl : _ = AV.nilp) | exact (rfl : _ = AV.mp _) | exact (rfl : _ = AV.vptr _) | exact (rfl : _ = AV.any))) ?_
  refine .op rfl (op_call Tryd.func31 rfl rfl rfl rfl (c31 hl)) ?_
  rintro _ _ ⟨hst, rfl⟩
  rw [hst]
  clear hst
  refine .op1 rfl (op_as (by first | exact (rfl : _ = AV.int _ _) | exact (rfl : _ = AV.bool _) | exact (rfl : _ = AV.str _) | exact (rfl : _ = AV.sl _ _) | exact (rfl : _ = AV.row _ _) | exact (rfl : _ = AV.ptr _ _) | exact (rfl : _ = AV.tup _) | exact (rfl : _ = AV.agg _) | exact (rfl : _ = AV.fn _ _ _) | exact (rfl : _ = AV.nilp) | exact (rfl : _ = AV.mp _) | exact (rfl : _ = AV.vptr _) | exact (rfl : _ = AV.any))) ?_
  refine .nil ?_
  dsimp only [putA, List.set, av, List.getD_cons_zero, List.getD_cons_succ, avOf, avLeaf, cellsA, setR, D31, D53, D57, D69, D86, D95, List.take_succ_cons, List.take_zero, List.drop_succ_cons, List.drop_zero, List.length_cons, List.length_nil, List.nil_append, List.cons_append, Nat.reduceAdd, Nat.zero_add]
  refine .ret ?_
  exact ⟨_, _, _, .cons (.tmp _) .nil, .drop st.length (Nat.le_refl _) rfl (fun h => by simpa using h), by simp, rfl⟩
end Rm

namespace Rm
open Go Go.Proofs
open Go.RowKit

theorem okA_row {n o ver : Nat} (h : o < n) : okA n (.row o ver) = true := by simp [okA, h]
theorem fin_set {rs : List ResultVar} {fr : List AV} {st : List Ob} {o : Nat} {ob : Ob} {r : AV} {Q : List Ob → AV → Prop} (hr : ResL Ev fr (st.set o ob) rs [r]) (hok : okA st.length r = true) (hob : okO st.length ob = true) (hQ : Q (st.set o ob) r) : Fin Ev rs st Q fr (st.set o ob) := by
  have e : (st.set o ob).take st.length = st.set o ob := List.take_of_length_le (by simp)
  exact ⟨_, _, _, hr, .drop st.length (Nat.le_refl _) hok (fun h => by rw [e]; exact okSt_set h hob), by rw [e]; exact hQ⟩

theorem c32 {st : List Ob} {o ver : Nat} {l : List UInt8} (ho : st[o]? = some (.row ver 1 (bs l) false)) : Ctr Tryd.prog mG 32 st [.row o ver] (fun st' r => st' = st.set o (.row (ver + 1) 1 (bs l) false) ∧ r = .row o (ver + 1)) := by
  refine Ctr.of_body (E := Ev) Tryd.func32 rfl ?_
  show AGo Ev _ _ [.row o ver, .any, .any, .any, .any, .any, .any, .any, .any] _ _
  refine .seq ?_
  refine .region rfl ?_
  refine .op1 rfl (op_as (by first | exact (rfl : _ = AV.int _ _) | exact (rfl : _ = AV.bool _) | exact (rfl : _ = AV.str _) | exact (rfl : _ = AV.sl _ _) | exact (rfl : _ = AV.row _ _) | exact (rfl : _ = AV.ptr _ _) | exact (rfl : _ = AV.tup _) | exact (rfl : _ = AV.agg _) | exact (rfl : _ = AV.fn _ _ _) | exact (rfl : _ = AV.nilp) | exact (rfl : _ = AV.mp _) | exact (rfl : _ = AV.vptr _) | exact (rfl : _ = AV.any))) ?_
  refine .nil ?_
  dsimp only [putA, List.set, av, List.getD_cons_zero, List.getD_cons_succ, avOf, avLeaf, cellsA, setR, D31, D53, D57, D69, D86, D95, List.take_succ_cons, List.take_zero, List.drop_succ_cons, List.drop_zero, List.length_cons, List.length_nil, List.nil_append, List.cons_append, Nat.reduceAdd, Nat.zero_add]
  refine .seq ?_
  refine .region rfl ?_
  refine .op1 rfl (op_mv (by first | exact (rfl : _ = AV.int _ _) | exact (rfl : _ = AV.bool _) | exact (rfl : _ = AV.str _) | exact (rfl : _ = AV.sl _ _) | exact (rfl : _ = AV.row _ _) | exact (rfl : _ = AV.ptr _ _) | exact (rfl : _ = AV.tup _) | exact (rfl : _ = AV.agg _) | exact (rfl : _ = AV.fn _ _ _) | exact (rfl : _ = AV.nilp) | exact (rfl : _ = AV.mp _) | exact (rfl : _ = AV.vptr _) | exact (rfl : _ = AV.any))) ?_
  refine .op1 rfl (op_mv (by first | exact (rfl : _ = AV.int _ _) | exact (rfl : _ = AV.bool _) | exact (rfl : _ = AV.str _) | exact (rfl : _ = AV.sl _ _) | exact (rfl : _ = AV.row _ _) | exact (rfl : _ = AV.ptr _ _) | exact (rfl : _ = AV.tup _) | exact (rfl : _ = AV.agg _) | exact (rfl : _ = AV.fn _ _ _) | exact (rfl : _ = AV.nilp) | exact (rfl : _ = AV.mp _) | exact (rfl : _ = AV.vptr _) | exact (rfl : _ = AV.any))) ?_
  refine .op1 rfl (op_lenRow rfl ho (S := D22) rfl rfl) ?_
  refine .op1 rfl (op_mv (by first | exact (rfl : _ = AV.int _ _) | exact (rfl : _ = AV.bool _) | exact (rfl : _ = AV.str _) | exact (rfl : _ = AV.sl _ _) | exact (rfl : _ = AV.row _ _) | exact (rfl : _ = AV.ptr _ _) | exact (rfl : _ = AV.tup _) | exact (rfl : _ = AV.agg _) | exact (rfl : _ = AV.fn _ _ _) | exact (rfl : _ = AV.nilp) | exact (rfl : _ = AV.mp _) | exact (rfl : _ = AV.vptr _) | exact (rfl : _ = AV.any))) ?_
  refine .op1 rfl (op_lenRow rfl ho (S := D22) rfl rfl) ?_
  refine .op1 rfl (op_clipRow rfl ho rfl rfl (S := D22) rfl rfl (D := D5) rfl rfl) ?_
  refine .op1 rfl (op_as (by first | exact (rfl : _ = AV.int _ _) | exact (rfl : _ = AV.bool _) | exact (rfl : _ = AV.str _) | exact (rfl : _ = AV.sl _ _) | exact (rfl : _ = AV.row _ _) | exact (rfl : _ = AV.ptr _ _) | exact (rfl : _ = AV.tup _) | exact (rfl : _ = AV.agg _) | exact (rfl : _ = AV.fn _ _ _) | exact (rfl : _ = AV.nilp) | exact (rfl : _ = AV.mp _) | exact (rfl : _ = AV.vptr _) | exact (rfl : _ = AV.any))) ?_
  refine .nil ?_
  dsimp only [putA, List.set, av, List.getD_cons_zero, List.getD_cons_succ, avOf, avLeaf, cellsA, setR, D31, D53, D57, D69, D86, D95, List.take_succ_cons, List.take_zero, List.drop_succ_cons, List.drop_zero, List.length_cons, List.length_nil, List.nil_append, List.cons_append, Nat.reduceAdd, Nat.zero_add]
  refine .ret ?_
  have hlt := (List.getElem?_eq_some_iff.1 ho).1
  exact fin_set (.cons (.tmp _) .nil) (okA_row hlt) (okLL_bs _ _) ⟨rfl, rfl⟩
end Rm

namespace Rm
open Go Go.Proofs
open Go.RowKit

def varB (n : Nat) : List UInt8 := if h : n < 128 then [UInt8.ofNat n] else UInt8.ofNat (n % 128 + 128) :: varB (n / 128)
  termination_by n
theorem or128 : ∀ a : _root_.Fin 256, bitsI .or .u8 (a.val : Int) 128 = ((a.val % 128 + 128 : Nat) : Int) := by decide +kernel
theorem wrap8 (n : Nat) : IntKind.u8.wrap (n : Int) = ((n % 256 : Nat) : Int) := by
  simp [IntKind.wrap, IntKind.bits, IntKind.signed]
theorem or_byte (n : Nat) : bitsI .or .u8 (IntKind.u8.wrap (n : Int)) 128 = ((UInt8.ofNat (n % 128 + 128)).toNat : Int) := by
  rw [wrap8]
  have := or128 ⟨n % 256, by omega⟩
  simp only at this
  rw [this]
  congr 1
  simp
  omega

theorem varB_lt {n : Nat} (h : n < 128) : varB n = [UInt8.ofNat n] := by rw [varB, dif_pos h]
theorem varB_ge {n : Nat} (h : ¬ n < 128) : varB n = UInt8.ofNat (n % 128 + 128) :: varB (n / 128) := by rw [varB, dif_neg h]
theorem varB_len (n : Nat) (h : n < 2 ^ 64) : (varB n).length ≤ 10 := by
  have key : ∀ k m : Nat, m < 128 ^ k → (varB m).length ≤ max k 1 := by
    intro k
    induction k with
    | zero => intro m hm; have : m = 0 := by simpa using hm
              subst this; rw [varB_lt (by decide)]; decide
    | succ k ih =>
      intro m hm
      by_cases h : m < 128
      · rw [varB_lt h]; simp
      · rw [varB_ge h, List.length_cons]
        have h1 := ih (m / 128) (by rw [Nat.pow_succ] at hm; omega)
        have hk : 0 < k := by
          rcases Nat.eq_zero_or_pos k with rfl | hk
          · simp at hm; omega
          · exact hk
        omega
  exact key 10 n (by omega)
end Rm

namespace Rm
open Go Go.Proofs
open Go.RowKit

theorem c17 {st : List Ob} {o ver n0 : Nat} {l : List UInt8} (ho : st[o]? = some (.row ver 1 (bs l) false)) (hn : n0 < 2 ^ 64) (hl : l.length ≤ 1000000) :
    Ctr Tryd.prog mG 17 st [.row o ver, .int .u64 n0] (fun st' r => st' = st.set o (.row (ver + 1 + (varB n0).length) 1 (bs (l ++ varB n0)) false) ∧ r = .row o (ver + 1 + (varB n0).length)) := by
  have hlt := (List.getElem?_eq_some_iff.1 ho).1
  have hb := varB_len n0 hn
  refine Ctr.of_body (E := Ev) Tryd.func17 rfl ?_
  show AGo Ev _ _ [.row o ver, .int .u64 n0, .any, .any, .any, .any, .any, .any, .any, .any, .any, .any, .any, .any, .any, .any, .any, .any, .any, .any, .any, .any, .any] _ _
  refine .seq ?_
  refine .region rfl ?_
  refine .op1 rfl (op_as (by first | exact (rfl : _ = AV.int _ _) | exact (rfl : _ = AV.bool _) | exact (rfl : _ = AV.str _) | exact (rfl : _ = AV.sl _ _) | exact (rfl : _ = AV.row _ _) | exact (rfl : _ = AV.ptr _ _) | exact (rfl : _ = AV.tup _) | exact (rfl : _ = AV.agg _) | exact (rfl : _ = AV.fn _ _ _) | exact (rfl : _ = AV.nilp) | exact (rfl : _ = AV.mp _) | exact (rfl : _ = AV.vptr _) | exact (rfl : _ = AV.any))) ?_
  refine .nil ?_
  dsimp only [putA, List.set, av, List.getD_cons_zero, List.getD_cons_succ, avOf, avLeaf, cellsA, setR, D31, D53, D57, D69, D86, D95, List.take_succ_cons, List.take_zero, List.drop_succ_cons, List.drop_zero, List.length_cons, List.length_nil, List.nil_append, List.cons_append, Nat.reduceAdd, Nat.zero_add]
  refine .seq ?_
  refine .region rfl ?_
  refine .op1 rfl (op_mv (by first | exact (rfl : _ = AV.int _ _) | exact (rfl : _ = AV.bool _) | exact (rfl : _ = AV.str _) | exact (rfl : _ = AV.sl _ _) | exact (rfl : _ = AV.row _ _) | exact (rfl : _ = AV.ptr _ _) | exact (rfl : _ = AV.tup _) | exact (rfl : _ = AV.agg _) | exact (rfl : _ = AV.fn _ _ _) | exact (rfl : _ = AV.nilp) | exact (rfl : _ = AV.mp _) | exact (rfl : _ = AV.vptr _) | exact (rfl : _ = AV.any))) ?_
  refine .op rfl (op_call Tryd.func32 rfl rfl rfl rfl (c32 ho)) ?_
  rintro _ _ ⟨hst, rfl⟩
  rw [hst]
  clear hst
  refine .op1 rfl (op_as (by first | exact (rfl : _ = AV.int _ _) | exact (rfl : _ = AV.bool _) | exact (rfl : _ = AV.str _) | exact (rfl : _ = AV.sl _ _) | exact (rfl : _ = AV.row _ _) | exact (rfl : _ = AV.ptr _ _) | exact (rfl : _ = AV.tup _) | exact (rfl : _ = AV.agg _) | exact (rfl : _ = AV.fn _ _ _) | exact (rfl : _ = AV.nilp) | exact (rfl : _ = AV.mp _) | exact (rfl : _ = AV.vptr _) | exact (rfl : _ = AV.any))) ?_
  refine .nil ?_
  dsimp only [putA, List.set, av, List.getD_cons_zero, List.getD_cons_succ, avOf, avLeaf, cellsA, setR, D31, D53, D57, D69, D86, D95, List.take_succ_cons, List.take_zero, List.drop_succ_cons, List.drop_zero, List.length_cons, List.length_nil, List.nil_append, List.cons_append, Nat.reduceAdd, Nat.zero_add]
  refine .seq ?_
  refine .block ?_
  refine .only (fun i => i == 1 || i == 5) ?_
  refine .loop (σ := Nat × List UInt8) (n0, []) (fun x => x.1 < 2 ^ 64 ∧ x.2 ++ varB x.1 = varB n0) (fun x => x.1)
    (fun x => [.any, .int .u64 x.1, .any, .any, .any, .row o (ver + 1 + x.2.length), .any, .any, .any, .any, .any, .any, .any, .any, .any, .any, .any, .any, .any, .any, .any, .any, .any])
    (fun x => st.set o (.row (ver + 1 + x.2.length) 1 (bs (l ++ x.2)) false)) ⟨hn, rfl⟩ rfl (by simp) ?_
  rintro ⟨n, pre⟩ ⟨h1, h2⟩ again
  dsimp only at h1 h2 again ⊢
  have hlen : pre.length + (varB n).length = (varB n0).length := by rw [← h2, List.length_append]
  have hpos : 0 < (varB n).length := by rw [varB]; split <;> simp
  have ho' : (st.set o (.row (ver + 1 + pre.length) 1 (bs (l ++ pre)) false))[o]? = some (.row (ver + 1 + pre.length) 1 (bs (l ++ pre)) false) := set_get hlt
  refine .seq ?_
  refine .seq ?_
  refine .region rfl ?_
  refine .op1 rfl (op_mv (by first | exact (rfl : _ = AV.int _ _) | exact (rfl : _ = AV.bool _) | exact (rfl : _ = AV.str _) | exact (rfl : _ = AV.sl _ _) | exact (rfl : _ = AV.row _ _) | exact (rfl : _ = AV.ptr _ _) | exact (rfl : _ = AV.tup _) | exact (rfl : _ = AV.agg _) | exact (rfl : _ = AV.fn _ _ _) | exact (rfl : _ = AV.nilp) | exact (rfl : _ = AV.mp _) | exact (rfl : _ = AV.vptr _) | exact (rfl : _ = AV.any))) ?_
  refine .op1 rfl (op_bin rfl rfl rfl) ?_
  refine .nil ?_
  dsimp only [putA, List.set, av, List.getD_cons_zero, List.getD_cons_succ, avOf, avLeaf, cellsA, setR, D31, D53, D57, D69, D86, D95, List.take_succ_cons, List.take_zero, List.drop_succ_cons, List.drop_zero, List.length_cons, List.length_nil, List.nil_append, List.cons_append, Nat.reduceAdd, Nat.zero_add]
  refine .cond rfl (fun h => ?_) (fun h => ?_)
  · have hge : ¬ n < 128 := by simp at h; omega
    refine .skip ?_
    refine .seq ?_
    refine .block ?_
    refine .region rfl ?_
    refine .op1 rfl (op_mv (by first | exact (rfl : _ = AV.int _ _) | exact (rfl : _ = AV.bool _) | exact (rfl : _ = AV.str _) | exact (rfl : _ = AV.sl _ _) | exact (rfl : _ = AV.row _ _) | exact (rfl : _ = AV.ptr _ _) | exact (rfl : _ = AV.tup _) | exact (rfl : _ = AV.agg _) | exact (rfl : _ = AV.fn _ _ _) | exact (rfl : _ = AV.nilp) | exact (rfl : _ = AV.mp _) | exact (rfl : _ = AV.vptr _) | exact (rfl : _ = AV.any))) ?_
    refine .op1 rfl (op_mv (by first | exact (rfl : _ = AV.int _ _) | exact (rfl : _ = AV.bool _) | exact (rfl : _ = AV.str _) | exact (rfl : _ = AV.sl _ _) | exact (rfl : _ = AV.row _ _) | exact (rfl : _ = AV.ptr _ _) | exact (rfl : _ = AV.tup _) | exact (rfl : _ = AV.agg _) | exact (rfl : _ = AV.fn _ _ _) | exact (rfl : _ = AV.nilp) | exact (rfl : _ = AV.mp _) | exact (rfl : _ = AV.vptr _) | exact (rfl : _ = AV.any))) ?_
    refine .op1 rfl (op_convInt rfl (S := D46) (D := D5) rfl rfl rfl rfl) ?_
    refine .op1 rfl (op_bin rfl rfl rfl) ?_
    refine .op1 rfl (op_lit (S := D22) (D := D5) (vs := [.int .u8 (bitsI .or .u8 (IntKind.u8.wrap n) 128)]) rfl rfl rfl rfl rfl (by decide) rfl ⟨rfl, rfl⟩) ?_
    refine .op1 rfl (op_append_row rfl ho' (.sl _ _) (S := D22) rfl rfl (D := D5) rfl rfl rfl (Sx := D22) rfl rfl (by simp) (by simp [oneA]) (by simp [bs_length, D5]; omega) (by simp [bs_length]; omega) rfl (r := bs (l ++ (pre ++ [UInt8.ofNat (n % 128 + 128)]))) (by simp [bs, or_byte])) ?_
    refine .op1 rfl (op_as (by first | exact (rfl : _ = AV.int _ _) | exact (rfl : _ = AV.bool _) | exact (rfl : _ = AV.str _) | exact (rfl : _ = AV.sl _ _) | exact (rfl : _ = AV.row _ _) | exact (rfl : _ = AV.ptr _ _) | exact (rfl : _ = AV.tup _) | exact (rfl : _ = AV.agg _) | exact (rfl : _ = AV.fn _ _ _) | exact (rfl : _ = AV.nilp) | exact (rfl : _ = AV.mp _) | exact (rfl : _ = AV.vptr _) | exact (rfl : _ = AV.any))) ?_
    refine .nil ?_
    dsimp only [putA, List.set, av, List.getD_cons_zero, List.getD_cons_succ, avOf, avLeaf, cellsA, setR, D31, D53, D57, D69, D86, D95, List.take_succ_cons, List.take_zero, List.drop_succ_cons, List.drop_zero, List.length_cons, List.length_nil, List.nil_append, List.cons_append, Nat.reduceAdd, Nat.zero_add]
    rw [List.set_set]
    refine .inBlock ?_
    refine .region rfl ?_
    refine .op1 rfl (op_mv (by first | exact (rfl : _ = AV.int _ _) | exact (rfl : _ = AV.bool _) | exact (rfl : _ = AV.str _) | exact (rfl : _ = AV.sl _ _) | exact (rfl : _ = AV.row _ _) | exact (rfl : _ = AV.ptr _ _) | exact (rfl : _ = AV.tup _) | exact (rfl : _ = AV.agg _) | exact (rfl : _ = AV.fn _ _ _) | exact (rfl : _ = AV.nilp) | exact (rfl : _ = AV.mp _) | exact (rfl : _ = AV.vptr _) | exact (rfl : _ = AV.any))) ?_
    refine .op1 rfl (op_shr rfl rfl (by decide)) ?_
    refine .op1 rfl (op_as (by first | exact (rfl : _ = AV.int _ _) | exact (rfl : _ = AV.bool _) | exact (rfl : _ = AV.str _) | exact (rfl : _ = AV.sl _ _) | exact (rfl : _ = AV.row _ _) | exact (rfl : _ = AV.ptr _ _) | exact (rfl : _ = AV.tup _) | exact (rfl : _ = AV.agg _) | exact (rfl : _ = AV.fn _ _ _) | exact (rfl : _ = AV.nilp) | exact (rfl : _ = AV.mp _) | exact (rfl : _ = AV.vptr _) | exact (rfl : _ = AV.any))) ?_
    refine .nil ?_
    dsimp only [putA, List.set, av, List.getD_cons_zero, List.getD_cons_succ, avOf, avLeaf, cellsA, setR, D31, D53, D57, D69, D86, D95, List.take_succ_cons, List.take_zero, List.drop_succ_cons, List.drop_zero, List.length_cons, List.length_nil, List.nil_append, List.cons_append, Nat.reduceAdd, Nat.zero_add]
    have e : ((n : Int).fdiv (2 ^ (min (7 : Int).toNat IntKind.u64.bits))) = ((n / 128 : Nat) : Int) := by
      show (n : Int).fdiv (2 ^ 7) = _
      rw [Int.fdiv_eq_ediv_of_nonneg _ (by decide)]
      omega
    rw [e]
    refine .only (fun i => i == 1 || i == 5) ?_
    have h3 : (pre ++ [UInt8.ofNat (n % 128 + 128)]).length = pre.length + 1 := by simp
    have := again (n / 128, pre ++ [UInt8.ofNat (n % 128 + 128)]) ⟨by simp only; omega, by simp only; rw [← h2, varB_ge hge]; simp⟩ (by simp only; omega)
    simp only [h3] at this
    exact this
  · have hls : n < 128 := by simp at h; omega
    have hw : IntKind.u8.wrap (n : Int) = ((UInt8.ofNat n).toNat : Int) := by
      rw [wrap8]
      congr 1
    have hv := varB_lt hls
    have hv1 : pre ++ [UInt8.ofNat n] = varB n0 := by rw [← h2, hv]
    have hv2 : (varB n0).length = pre.length + 1 := by rw [← hv1]; simp
    refine .exit rfl ?_
    refine .seq ?_
    refine .region rfl ?_
    refine .op1 rfl (op_mv (by first | exact (rfl : _ = AV.int _ _) | exact (rfl : _ = AV.bool _) | exact (rfl : _ = AV.str _) | exact (rfl : _ = AV.sl _ _) | exact (rfl : _ = AV.row _ _) | exact (rfl : _ = AV.ptr _ _) | exact (rfl : _ = AV.tup _) | exact (rfl : _ = AV.agg _) | exact (rfl : _ = AV.fn _ _ _) | exact (rfl : _ = AV.nilp) | exact (rfl : _ = AV.mp _) | exact (rfl : _ = AV.vptr _) | exact (rfl : _ = AV.any))) ?_
    refine .op1 rfl (op_mv (by first | exact (rfl : _ = AV.int _ _) | exact (rfl : _ = AV.bool _) | exact (rfl : _ = AV.str _) | exact (rfl : _ = AV.sl _ _) | exact (rfl : _ = AV.row _ _) | exact (rfl : _ = AV.ptr _ _) | exact (rfl : _ = AV.tup _) | exact (rfl : _ = AV.agg _) | exact (rfl : _ = AV.fn _ _ _) | exact (rfl : _ = AV.nilp) | exact (rfl : _ = AV.mp _) | exact (rfl : _ = AV.vptr _) | exact (rfl : _ = AV.any))) ?_
    refine .op1 rfl (op_convInt rfl (S := D46) (D := D5) rfl rfl rfl rfl) ?_
    refine .op1 rfl (op_lit (S := D22) (D := D5) (vs := [.int .u8 (IntKind.u8.wrap n)]) rfl rfl rfl rfl rfl (by decide) rfl ⟨rfl, rfl⟩) ?_
    refine .op1 rfl (op_append_row rfl ho' (.sl _ _) (S := D22) rfl rfl (D := D5) rfl rfl rfl (Sx := D22) rfl rfl (by simp) (by simp [oneA]) (by simp [bs_length, D5]; omega) (by simp [bs_length]; omega) rfl (r := bs (l ++ (pre ++ [UInt8.ofNat n]))) (by simp [bs, hw])) ?_
    refine .op1 rfl (op_as (by first | exact (rfl : _ = AV.int _ _) | exact (rfl : _ = AV.bool _) | exact (rfl : _ = AV.str _) | exact (rfl : _ = AV.sl _ _) | exact (rfl : _ = AV.row _ _) | exact (rfl : _ = AV.ptr _ _) | exact (rfl : _ = AV.tup _) | exact (rfl : _ = AV.agg _) | exact (rfl : _ = AV.fn _ _ _) | exact (rfl : _ = AV.nilp) | exact (rfl : _ = AV.mp _) | exact (rfl : _ = AV.vptr _) | exact (rfl : _ = AV.any))) ?_
    refine .nil ?_
    dsimp only [putA, List.set, av, List.getD_cons_zero, List.getD_cons_succ, avOf, avLeaf, cellsA, setR, D31, D53, D57, D69, D86, D95, List.take_succ_cons, List.take_zero, List.drop_succ_cons, List.drop_zero, List.length_cons, List.length_nil, List.nil_append, List.cons_append, Nat.reduceAdd, Nat.zero_add]
    rw [List.set_set]
    refine .ret ?_
    rw [hv1, hv2]
    exact fin_set (.cons (.tmp _) .nil) (okA_row hlt) (okLL_bs _ _) ⟨rfl, rfl⟩
end Rm

namespace Rm
open Go Go.Proofs
open Go.RowKit

theorem c32s {st : List Ob} {clip : Bool} {l : List UInt8} : Ctr Tryd.prog mG 32 st [.sl clip (bs l)] (fun st' r => st' = st ∧ r = .sl true (bs l)) := by
  refine Ctr.of_body (E := Ev) Tryd.func32 rfl ?_
  show AGo Ev _ _ [.sl clip (bs l), .any, .any, .any, .any, .any, .any, .any, .any] _ _
  refine .seq ?_
  refine .region rfl ?_
  refine .op1 rfl (op_as (by first | exact (rfl : _ = AV.int _ _) | exact (rfl : _ = AV.bool _) | exact (rfl : _ = AV.str _) | exact (rfl : _ = AV.sl _ _) | exact (rfl : _ = AV.row _ _) | exact (rfl : _ = AV.ptr _ _) | exact (rfl : _ = AV.tup _) | exact (rfl : _ = AV.agg _) | exact (rfl : _ = AV.fn _ _ _) | exact (rfl : _ = AV.nilp) | exact (rfl : _ = AV.mp _) | exact (rfl : _ = AV.vptr _) | exact (rfl : _ = AV.any))) ?_
  refine .nil ?_
  dsimp only [putA, List.set, av, List.getD_cons_zero, List.getD_cons_succ, avOf, avLeaf, cellsA, setR, D31, D53, D57, D69, D86, D95, List.take_succ_cons, List.take_zero, List.drop_succ_cons, List.drop_zero, List.length_cons, List.length_nil, List.nil_append, List.cons_append, Nat.reduceAdd, Nat.zero_add]
  refine .seq ?_
  refine .region rfl ?_
  refine .op1 rfl (op_mv (by first | exact (rfl : _ = AV.int _ _) | exact (rfl : _ = AV.bool _) | exact (rfl : _ = AV.str _) | exact (rfl : _ = AV.sl _ _) | exact (rfl : _ = AV.row _ _) | exact (rfl : _ = AV.ptr _ _) | exact (rfl : _ = AV.tup _) | exact (rfl : _ = AV.agg _) | exact (rfl : _ = AV.fn _ _ _) | exact (rfl : _ = AV.nilp) | exact (rfl : _ = AV.mp _) | exact (rfl : _ = AV.vptr _) | exact (rfl : _ = AV.any))) ?_
  refine .op1 rfl (op_mv (by first | exact (rfl : _ = AV.int _ _) | exact (rfl : _ = AV.bool _) | exact (rfl : _ = AV.str _) | exact (rfl : _ = AV.sl _ _) | exact (rfl : _ = AV.row _ _) | exact (rfl : _ = AV.ptr _ _) | exact (rfl : _ = AV.tup _) | exact (rfl : _ = AV.agg _) | exact (rfl : _ = AV.fn _ _ _) | exact (rfl : _ = AV.nilp) | exact (rfl : _ = AV.mp _) | exact (rfl : _ = AV.vptr _) | exact (rfl : _ = AV.any))) ?_
  refine .op1 rfl (op_lenSl rfl (S := D22) rfl rfl) ?_
  refine .op1 rfl (op_mv (by first | exact (rfl : _ = AV.int _ _) | exact (rfl : _ = AV.bool _) | exact (rfl : _ = AV.str _) | exact (rfl : _ = AV.sl _ _) | exact (rfl : _ = AV.row _ _) | exact (rfl : _ = AV.ptr _ _) | exact (rfl : _ = AV.tup _) | exact (rfl : _ = AV.agg _) | exact (rfl : _ = AV.fn _ _ _) | exact (rfl : _ = AV.nilp) | exact (rfl : _ = AV.mp _) | exact (rfl : _ = AV.vptr _) | exact (rfl : _ = AV.any))) ?_
  refine .op1 rfl (op_lenSl rfl (S := D22) rfl rfl) ?_
  refine .op1 rfl (op_sliceSl (clip' := true) (ln := 0) (hn := (bs l).length) rfl (S := D22) rfl rfl (D := D5) rfl (bs_one l) (.inl ⟨rfl, rfl⟩) (.inr ⟨_, _, _, rfl, rfl, by omega, by omega⟩) (.inr ⟨_, _, _, _, rfl, rfl, by omega, by omega, rfl⟩) (by omega) (Nat.le_refl _) (r := bs l) (by simp)) ?_
  refine .op1 rfl (op_as (by first | exact (rfl : _ = AV.int _ _) | exact (rfl : _ = AV.bool _) | exact (rfl : _ = AV.str _) | exact (rfl : _ = AV.sl _ _) | exact (rfl : _ = AV.row _ _) | exact (rfl : _ = AV.ptr _ _) | exact (rfl : _ = AV.tup _) | exact (rfl : _ = AV.agg _) | exact (rfl : _ = AV.fn _ _ _) | exact (rfl : _ = AV.nilp) | exact (rfl : _ = AV.mp _) | exact (rfl : _ = AV.vptr _) | exact (rfl : _ = AV.any))) ?_
  refine .nil ?_
  dsimp only [putA, List.set, av, List.getD_cons_zero, List.getD_cons_succ, avOf, avLeaf, cellsA, setR, D31, D53, D57, D69, D86, D95, List.take_succ_cons, List.take_zero, List.drop_succ_cons, List.drop_zero, List.length_cons, List.length_nil, List.nil_append, List.cons_append, Nat.reduceAdd, Nat.zero_add]
  refine .ret ?_
  exact ⟨_, _, _, .cons (.tmp _) .nil, .drop st.length (Nat.le_refl _) (okLL_bs _ _) (fun h => by simpa using h), by simp, rfl⟩

def fixB (n : Nat) : List UInt8 := [UInt8.ofNat (n / 2 ^ 24), UInt8.ofNat (n / 2 ^ 16), UInt8.ofNat (n / 2 ^ 8), UInt8.ofNat n]
theorem wrap_byte (n : Nat) : IntKind.u8.wrap (n : Int) = ((UInt8.ofNat n).toNat : Int) := by
  rw [wrap8]
  congr 1
theorem shr_nat (n k : Nat) (_h : k ≤ 64) (kk : IntKind) (hk : k ≤ kk.bits) : ((n : Int).fdiv (2 ^ (min ((k : Nat) : Int).toNat kk.bits))) = ((n / 2 ^ k : Nat) : Int) := by
  rw [Int.toNat_natCast, Nat.min_eq_left hk, Int.fdiv_eq_ediv_of_nonneg _ (by exact Int.le_of_lt (Int.pow_pos (by decide)))]
  simp

theorem c18 {st : List Ob} {o ver n : Nat} {l : List UInt8} (ho : st[o]? = some (.row ver 1 (bs l) true)) (hl : l.length ≤ 1000000) :
    Ctr Tryd.prog mG 18 st [.row o ver, .int .u32 n] (fun st' r => st' = st ++ [.row 0 1 (bs (l ++ fixB n)) false] ∧ r = .row st.length 0) := by
  refine Ctr.of_body (E := Ev) Tryd.func18 rfl ?_
  show AGo Ev _ _ [.row o ver, .int .u32 n, .any, .any, .any, .any, .any, .any, .any, .any, .any, .any, .any, .any, .any, .any, .any, .any, .any, .any] _ _
  refine .view 0 rfl ho ?_
  refine .adopt 1 (by decide) ?_
  dsimp only [List.set]
  have e8 : ∀ k : Nat, k ≤ 32 → ((n : Int).fdiv (2 ^ (min ((k : Nat) : Int).toNat IntKind.u32.bits))) = ((n / 2 ^ k : Nat) : Int) := fun k hk => shr_nat n k (by omega) .u32 hk
  refine .seq ?_
  refine .region rfl ?_
  refine .op1 rfl (op_as (by first | exact (rfl : _ = AV.int _ _) | exact (rfl : _ = AV.bool _) | exact (rfl : _ = AV.str _) | exact (rfl : _ = AV.sl _ _) | exact (rfl : _ = AV.row _ _) | exact (rfl : _ = AV.ptr _ _) | exact (rfl : _ = AV.tup _) | exact (rfl : _ = AV.agg _) | exact (rfl : _ = AV.fn _ _ _) | exact (rfl : _ = AV.nilp) | exact (rfl : _ = AV.mp _) | exact (rfl : _ = AV.vptr _) | exact (rfl : _ = AV.any))) ?_
  refine .nil ?_
  dsimp only [putA, List.set, av, List.getD_cons_zero, List.getD_cons_succ, avOf, avLeaf, cellsA, setR, D31, D53, D57, D69, D86, D95, List.take_succ_cons, List.take_zero, List.drop_succ_cons, List.drop_zero, List.length_cons, List.length_nil, List.nil_append, List.cons_append, Nat.reduceAdd, Nat.zero_add]
  have e24 : (n : Int).fdiv (2 ^ (min (24 : Int).toNat IntKind.u32.bits)) = ((n / 2 ^ 24 : Nat) : Int) := e8 24 (by decide)
  have e16 : (n : Int).fdiv (2 ^ (min (16 : Int).toNat IntKind.u32.bits)) = ((n / 2 ^ 16 : Nat) : Int) := e8 16 (by decide)
  have e08 : (n : Int).fdiv (2 ^ (min (8 : Int).toNat IntKind.u32.bits)) = ((n / 2 ^ 8 : Nat) : Int) := e8 8 (by decide)
  refine .seq ?_
  refine .region rfl ?_
  refine .op1 rfl (op_mv (by first | exact (rfl : _ = AV.int _ _) | exact (rfl : _ = AV.bool _) | exact (rfl : _ = AV.str _) | exact (rfl : _ = AV.sl _ _) | exact (rfl : _ = AV.row _ _) | exact (rfl : _ = AV.ptr _ _) | exact (rfl : _ = AV.tup _) | exact (rfl : _ = AV.agg _) | exact (rfl : _ = AV.fn _ _ _) | exact (rfl : _ = AV.nilp) | exact (rfl : _ = AV.mp _) | exact (rfl : _ = AV.vptr _) | exact (rfl : _ = AV.any))) ?_
  refine .op rfl (op_call Tryd.func32 rfl rfl rfl rfl (c32s)) ?_
  rintro _ _ ⟨hst, rfl⟩
  rw [hst]
  clear hst
  refine .op1 rfl (op_mv (by first | exact (rfl : _ = AV.int _ _) | exact (rfl : _ = AV.bool _) | exact (rfl : _ = AV.str _) | exact (rfl : _ = AV.sl _ _) | exact (rfl : _ = AV.row _ _) | exact (rfl : _ = AV.ptr _ _) | exact (rfl : _ = AV.tup _) | exact (rfl : _ = AV.agg _) | exact (rfl : _ = AV.fn _ _ _) | exact (rfl : _ = AV.nilp) | exact (rfl : _ = AV.mp _) | exact (rfl : _ = AV.vptr _) | exact (rfl : _ = AV.any))) ?_
  refine .op1 rfl (op_shr rfl rfl (by decide)) ?_
  refine .op1 rfl (op_convInt rfl (S := D42) (D := D5) rfl rfl rfl rfl) ?_
  refine .op1 rfl (op_mv (by first | exact (rfl : _ = AV.int _ _) | exact (rfl : _ = AV.bool _) | exact (rfl : _ = AV.str _) | exact (rfl : _ = AV.sl _ _) | exact (rfl : _ = AV.row _ _) | exact (rfl : _ = AV.ptr _ _) | exact (rfl : _ = AV.tup _) | exact (rfl : _ = AV.agg _) | exact (rfl : _ = AV.fn _ _ _) | exact (rfl : _ = AV.nilp) | exact (rfl : _ = AV.mp _) | exact (rfl : _ = AV.vptr _) | exact (rfl : _ = AV.any))) ?_
  refine .op1 rfl (op_shr rfl rfl (by decide)) ?_
  refine .op1 rfl (op_convInt rfl (S := D42) (D := D5) rfl rfl rfl rfl) ?_
  refine .op1 rfl (op_mv (by first | exact (rfl : _ = AV.int _ _) | exact (rfl : _ = AV.bool _) | exact (rfl : _ = AV.str _) | exact (rfl : _ = AV.sl _ _) | exact (rfl : _ = AV.row _ _) | exact (rfl : _ = AV.ptr _ _) | exact (rfl : _ = AV.tup _) | exact (rfl : _ = AV.agg _) | exact (rfl : _ = AV.fn _ _ _) | exact (rfl : _ = AV.nilp) | exact (rfl : _ = AV.mp _) | exact (rfl : _ = AV.vptr _) | exact (rfl : _ = AV.any))) ?_
  refine .op1 rfl (op_shr rfl rfl (by decide)) ?_
  refine .op1 rfl (op_convInt rfl (S := D42) (D := D5) rfl rfl rfl rfl) ?_
  refine .op1 rfl (op_mv (by first | exact (rfl : _ = AV.int _ _) | exact (rfl : _ = AV.bool _) | exact (rfl : _ = AV.str _) | exact (rfl : _ = AV.sl _ _) | exact (rfl : _ = AV.row _ _) | exact (rfl : _ = AV.ptr _ _) | exact (rfl : _ = AV.tup _) | exact (rfl : _ = AV.agg _) | exact (rfl : _ = AV.fn _ _ _) | exact (rfl : _ = AV.nilp) | exact (rfl : _ = AV.mp _) | exact (rfl : _ = AV.vptr _) | exact (rfl : _ = AV.any))) ?_
  refine .op1 rfl (op_convInt rfl (S := D42) (D := D5) rfl rfl rfl rfl) ?_
  dsimp only [putA, List.set]
  rw [e24, e16, e08, wrap_byte, wrap_byte, wrap_byte, wrap_byte]
  refine .op1 rfl (op_lit (S := D22) (D := D5) (vs := [.int .u8 (UInt8.ofNat (n / 2 ^ 24)).toNat, .int .u8 (UInt8.ofNat (n / 2 ^ 16)).toNat, .int .u8 (UInt8.ofNat (n / 2 ^ 8)).toNat, .int .u8 (UInt8.ofNat n).toNat]) rfl rfl rfl rfl rfl (by decide) rfl ⟨rfl, rfl⟩) ?_
  dsimp only [putA, List.set]
  refine .op1 rfl (op_append_sl rfl (at0 _ _ _) (.sl _ _) (S := D22) rfl rfl (D := D5) rfl rfl rfl (by decide) (Sx := D22) rfl rfl (bs_one l) (by simp) (by simp [oneA]) (.inr (by simp)) (by simp [bs_length, D5]; omega) (by simp [bs_length]; omega) rfl (r := bs (l ++ fixB n)) (by simp [bs, fixB])) ?_
  rw [set0]
  refine .op1 rfl (op_as (by first | exact (rfl : _ = AV.int _ _) | exact (rfl : _ = AV.bool _) | exact (rfl : _ = AV.str _) | exact (rfl : _ = AV.sl _ _) | exact (rfl : _ = AV.row _ _) | exact (rfl : _ = AV.ptr _ _) | exact (rfl : _ = AV.tup _) | exact (rfl : _ = AV.agg _) | exact (rfl : _ = AV.fn _ _ _) | exact (rfl : _ = AV.nilp) | exact (rfl : _ = AV.mp _) | exact (rfl : _ = AV.vptr _) | exact (rfl : _ = AV.any))) ?_
  refine .nil ?_
  dsimp only [putA, List.set]
  refine .ret ?_
  have e : ∀ x, (st ++ [x]).take st.length = st := fun x => by simp
  exact ⟨_, _, _, .cons (.tmp _) .nil, .row (.row st.length 0) st.length 1 1 (bs (l ++ fixB n)) false (at0 _ _ _) (Nat.le_refl _) (fun h => by rw [e]; exact h) (okLL_bs _ _) .row, by rw [e], rfl⟩
end Rm

namespace Rm
open Go Go.Proofs
open Go.RowKit

def crcI (l : List UInt8) : Int := bitsI .xor .u32 4294967295 (moreI (bitsI .xor .u32 4294967295 0) l)
theorem c15 {st : List Ob} {oT oF o v fromN : Nat} {l : List UInt8} (hT : st[oT]? = some (.var [.row o v])) (hF : st[oF]? = some (.var [.int .i64 fromN])) (ho : st[o]? = some (.row v 1 (bs l) false)) (hf : fromN ≤ l.length) (hl : l.length ≤ 1000000) :
    Ctr Tryd.prog mG 15 st [.ptr oT 0, .ptr oF 0] (fun st' r => st' = st.set o (.row v 1 (bs l) true) ∧ r = .int .u32 (crcI (l.drop fromN))) := by
  have hne : o ≠ oF := fun e => by subst e; rw [ho] at hF; cases hF
  have hlt := (List.getElem?_eq_some_iff.1 ho).1
  have hF' : (st.set o (.row v 1 (bs l) true))[oF]? = some (.var [.int .i64 fromN]) := by rw [List.getElem?_set_ne hne]; exact hF
  refine Ctr.of_body (E := Ev) Tryd.func15 rfl ?_
  show AGo Ev _ _ [.ptr oT 0, .ptr oF 0, .any, .any, .any, .any, .any] _ _
  refine .seq ?_
  refine .region rfl ?_
  refine .op1 rfl (op_as (by first | exact (rfl : _ = AV.int _ _) | exact (rfl : _ = AV.bool _) | exact (rfl : _ = AV.str _) | exact (rfl : _ = AV.sl _ _) | exact (rfl : _ = AV.row _ _) | exact (rfl : _ = AV.ptr _ _) | exact (rfl : _ = AV.tup _) | exact (rfl : _ = AV.agg _) | exact (rfl : _ = AV.fn _ _ _) | exact (rfl : _ = AV.nilp) | exact (rfl : _ = AV.mp _) | exact (rfl : _ = AV.vptr _) | exact (rfl : _ = AV.any))) ?_
  refine .nil ?_
  dsimp only [putA, List.set, av, List.getD_cons_zero, List.getD_cons_succ, avOf, avLeaf, cellsA, setR, D31, D53, D57, D69, D86, D95, List.take_succ_cons, List.take_zero, List.drop_succ_cons, List.drop_zero, List.length_cons, List.length_nil, List.nil_append, List.cons_append, Nat.reduceAdd, Nat.zero_add]
  refine .seq ?_
  refine .region rfl ?_
  refine .op1 rfl (op_load rfl hT (D := D22) rfl rfl rfl) ?_
  dsimp only [putA, List.set]
  refine .lend ho ?_
  refine .view 3 rfl (set_get hlt) ?_
  dsimp only [putA, List.set]
  refine .op1 rfl (op_load rfl hF' (D := D3) rfl rfl rfl) ?_
  refine .op1 rfl (op_sliceSl (clip' := false) (ln := fromN) (hn := (bs l).length) rfl (S := D22) rfl rfl (D := D5) rfl (bs_one l) (.inr ⟨_, _, _, rfl, rfl, by omega, by omega⟩) (.inl ⟨rfl, rfl⟩) (.inl ⟨rfl, fun h => by cases h⟩) (by rw [bs_length]; exact hf) (Nat.le_refl _) (r := bs (l.drop fromN)) (by rw [List.take_length, bs_drop])) ?_
  dsimp only [putA, List.set]
  refine .op rfl (op_call Tryd.func16 rfl rfl rfl rfl (c16 (l := l.drop fromN) (by simp; omega))) ?_
  rintro _ _ ⟨hst, rfl⟩
  rw [hst]
  clear hst
  refine .op1 rfl (op_as (by first | exact (rfl : _ = AV.int _ _) | exact (rfl : _ = AV.bool _) | exact (rfl : _ = AV.str _) | exact (rfl : _ = AV.sl _ _) | exact (rfl : _ = AV.row _ _) | exact (rfl : _ = AV.ptr _ _) | exact (rfl : _ = AV.tup _) | exact (rfl : _ = AV.agg _) | exact (rfl : _ = AV.fn _ _ _) | exact (rfl : _ = AV.nilp) | exact (rfl : _ = AV.mp _) | exact (rfl : _ = AV.vptr _) | exact (rfl : _ = AV.any))) ?_
  refine .nil ?_
  dsimp only [putA, List.set]
  refine .ret ?_
  exact fin_set (.cons (.tmp _) .nil) rfl (okLL_bs _ _) ⟨rfl, rfl⟩
end Rm

namespace Rm
open Go Go.Proofs
open Go.RowKit

theorem wrap_lt {n : Nat} (h : n < 256) : IntKind.u8.wrap (n : Int) = (n : Int) := wrap_in (by simp only [lo]; omega) (by simp only [hi]; omega)
theorem byte_mod (n : Nat) : ((n % 256 : Nat) : Int) = ((UInt8.ofNat n).toNat : Int) := by
  congr 1
theorem c21 {st : List Ob} {n : Nat} (hn : n < 2 ^ 32) : Ctr Tryd.prog mG 21 st [.int .u32 n] (fun st' r => st' = st ∧ r = .str (fixB n)) := by
  refine Ctr.of_body (E := Ev) Tryd.func21 rfl ?_
  show AGo Ev _ _ [.int .u32 n, .any, .any, .any, .any, .any, .any, .any, .any, .any, .any, .any, .any, .any, .any, .any, .any, .any, .any] _ _
  have q24 : (n : Int) / 16777216 = ((n / 2 ^ 24 : Nat) : Int) := by omega
  have q16 : (n : Int) / 65536 % 256 = ((n / 2 ^ 16 % 256 : Nat) : Int) := by omega
  have q8 : (n : Int) / 256 % 256 = ((n / 2 ^ 8 % 256 : Nat) : Int) := by omega
  have q0 : (n : Int) % 256 = ((n % 256 : Nat) : Int) := by omega
  have w24 : IntKind.u8.wrap ((n / 2 ^ 24 : Nat) : Int) = ((UInt8.ofNat (n / 2 ^ 24)).toNat : Int) := wrap_byte _
  have w16 : IntKind.u8.wrap ((n / 2 ^ 16 % 256 : Nat) : Int) = ((UInt8.ofNat (n / 2 ^ 16)).toNat : Int) := by rw [wrap_lt (by omega), byte_mod]
  have w8 : IntKind.u8.wrap ((n / 2 ^ 8 % 256 : Nat) : Int) = ((UInt8.ofNat (n / 2 ^ 8)).toNat : Int) := by rw [wrap_lt (by omega), byte_mod]
  have w0 : IntKind.u8.wrap ((n % 256 : Nat) : Int) = ((UInt8.ofNat n).toNat : Int) := by rw [wrap_lt (by omega), byte_mod]
  refine .seq ?_
  refine .region rfl ?_
  refine .op1 rfl (op_as (by first | exact (rfl : _ = AV.int _ _) | exact (rfl : _ = AV.bool _) | exact (rfl : _ = AV.str _) | exact (rfl : _ = AV.sl _ _) | exact (rfl : _ = AV.row _ _) | exact (rfl : _ = AV.ptr _ _) | exact (rfl : _ = AV.tup _) | exact (rfl : _ = AV.agg _) | exact (rfl : _ = AV.fn _ _ _) | exact (rfl : _ = AV.nilp) | exact (rfl : _ = AV.mp _) | exact (rfl : _ = AV.vptr _) | exact (rfl : _ = AV.any))) ?_
  refine .nil ?_
  dsimp only [putA, List.set, av, List.getD_cons_zero, List.getD_cons_succ, avOf, avLeaf, cellsA, setR, D31, D53, D57, D69, D86, D95, List.take_succ_cons, List.take_zero, List.drop_succ_cons, List.drop_zero, List.length_cons, List.length_nil, List.nil_append, List.cons_append, Nat.reduceAdd, Nat.zero_add]
  refine .seq ?_
  refine .region rfl ?_
  refine .op1 rfl (op_mv (by first | exact (rfl : _ = AV.int _ _) | exact (rfl : _ = AV.bool _) | exact (rfl : _ = AV.str _) | exact (rfl : _ = AV.sl _ _) | exact (rfl : _ = AV.row _ _) | exact (rfl : _ = AV.ptr _ _) | exact (rfl : _ = AV.tup _) | exact (rfl : _ = AV.agg _) | exact (rfl : _ = AV.fn _ _ _) | exact (rfl : _ = AV.nilp) | exact (rfl : _ = AV.mp _) | exact (rfl : _ = AV.vptr _) | exact (rfl : _ = AV.any))) ?_
  refine .op1 rfl (op_quo rfl rfl (by omega) (by omega) (by simp only [hi]; omega)) ?_
  refine .op1 rfl (op_convInt rfl (S := D42) (D := D5) rfl rfl rfl rfl) ?_
  refine .op1 rfl (op_mv (by first | exact (rfl : _ = AV.int _ _) | exact (rfl : _ = AV.bool _) | exact (rfl : _ = AV.str _) | exact (rfl : _ = AV.sl _ _) | exact (rfl : _ = AV.row _ _) | exact (rfl : _ = AV.ptr _ _) | exact (rfl : _ = AV.tup _) | exact (rfl : _ = AV.agg _) | exact (rfl : _ = AV.fn _ _ _) | exact (rfl : _ = AV.nilp) | exact (rfl : _ = AV.mp _) | exact (rfl : _ = AV.vptr _) | exact (rfl : _ = AV.any))) ?_
  refine .op1 rfl (op_quo rfl rfl (by omega) (by omega) (by simp only [hi]; omega)) ?_
  refine .op1 rfl (op_rem rfl rfl (by omega) (by omega)) ?_
  refine .op1 rfl (op_convInt rfl (S := D42) (D := D5) rfl rfl rfl rfl) ?_
  refine .op1 rfl (op_mv (by first | exact (rfl : _ = AV.int _ _) | exact (rfl : _ = AV.bool _) | exact (rfl : _ = AV.str _) | exact (rfl : _ = AV.sl _ _) | exact (rfl : _ = AV.row _ _) | exact (rfl : _ = AV.ptr _ _) | exact (rfl : _ = AV.tup _) | exact (rfl : _ = AV.agg _) | exact (rfl : _ = AV.fn _ _ _) | exact (rfl : _ = AV.nilp) | exact (rfl : _ = AV.mp _) | exact (rfl : _ = AV.vptr _) | exact (rfl : _ = AV.any))) ?_
  refine .op1 rfl (op_quo rfl rfl (by omega) (by omega) (by simp only [hi]; omega)) ?_
  refine .op1 rfl (op_rem rfl rfl (by omega) (by omega)) ?_
  refine .op1 rfl (op_convInt rfl (S := D42) (D := D5) rfl rfl rfl rfl) ?_
  refine .op1 rfl (op_mv (by first | exact (rfl : _ = AV.int _ _) | exact (rfl : _ = AV.bool _) | exact (rfl : _ = AV.str _) | exact (rfl : _ = AV.sl _ _) | exact (rfl : _ = AV.row _ _) | exact (rfl : _ = AV.ptr _ _) | exact (rfl : _ = AV.tup _) | exact (rfl : _ = AV.agg _) | exact (rfl : _ = AV.fn _ _ _) | exact (rfl : _ = AV.nilp) | exact (rfl : _ = AV.mp _) | exact (rfl : _ = AV.vptr _) | exact (rfl : _ = AV.any))) ?_
  refine .op1 rfl (op_rem rfl rfl (by omega) (by omega)) ?_
  refine .op1 rfl (op_convInt rfl (S := D42) (D := D5) rfl rfl rfl rfl) ?_
  dsimp only [putA, List.set]
  rw [q24, q16, q8, q0, w24, w16, w8, w0]
  refine .op1 rfl (op_lit (S := D22) (D := D5) (vs := [.int .u8 (UInt8.ofNat (n / 2 ^ 24)).toNat, .int .u8 (UInt8.ofNat (n / 2 ^ 16)).toNat, .int .u8 (UInt8.ofNat (n / 2 ^ 8)).toNat, .int .u8 (UInt8.ofNat n).toNat]) rfl rfl rfl rfl rfl (by decide) rfl ⟨rfl, rfl⟩) ?_
  dsimp only [putA, List.set]
  refine .op1 rfl (op_string (l := fixB n) (.sl _ _) (S := D22) rfl rfl (B := D5) rfl rfl (D := D9) rfl rfl) ?_
  refine .op1 rfl (op_as (by first | exact (rfl : _ = AV.int _ _) | exact (rfl : _ = AV.bool _) | exact (rfl : _ = AV.str _) | exact (rfl : _ = AV.sl _ _) | exact (rfl : _ = AV.row _ _) | exact (rfl : _ = AV.ptr _ _) | exact (rfl : _ = AV.tup _) | exact (rfl : _ = AV.agg _) | exact (rfl : _ = AV.fn _ _ _) | exact (rfl : _ = AV.nilp) | exact (rfl : _ = AV.mp _) | exact (rfl : _ = AV.vptr _) | exact (rfl : _ = AV.any))) ?_
  refine .nil ?_
  dsimp only [putA, List.set]
  refine .ret ?_
  exact ⟨_, _, _, .cons (.tmp _) .nil, .drop st.length (Nat.le_refl _) rfl (fun h => by simpa using h), by simp, rfl⟩
end Rm

namespace Rm
open Go Go.Proofs
open Go.RowKit

theorem c20 {st : List Ob} : ∀ n : Nat, n < 2 ^ 64 → Ctr Tryd.prog mG 20 st [.int .u64 n] (fun st' r => st' = st ∧ r = .str (varB n)) := by
  intro n
  induction n using Nat.strongRecOn with
  | _ n ih =>
  intro hn
  refine Ctr.of_body (E := Ev) Tryd.func20 rfl ?_
  show AGo Ev _ _ [.int .u64 n, .any, .any, .any, .any, .any, .any, .any, .any, .any, .any, .any, .any, .any, .any, .any, .any, .any, .any] _ _
  refine .seq ?_
  refine .region rfl ?_
  refine .op1 rfl (op_as (by first | exact (rfl : _ = AV.int _ _) | exact (rfl : _ = AV.bool _) | exact (rfl : _ = AV.str _) | exact (rfl : _ = AV.sl _ _) | exact (rfl : _ = AV.row _ _) | exact (rfl : _ = AV.ptr _ _) | exact (rfl : _ = AV.tup _) | exact (rfl : _ = AV.agg _) | exact (rfl : _ = AV.fn _ _ _) | exact (rfl : _ = AV.nilp) | exact (rfl : _ = AV.mp _) | exact (rfl : _ = AV.vptr _) | exact (rfl : _ = AV.any))) ?_
  refine .nil ?_
  dsimp only [putA, List.set, av, List.getD_cons_zero, List.getD_cons_succ, avOf, avLeaf, cellsA, setR, D31, D53, D57, D69, D86, D95, List.take_succ_cons, List.take_zero, List.drop_succ_cons, List.drop_zero, List.length_cons, List.length_nil, List.nil_append, List.cons_append, Nat.reduceAdd, Nat.zero_add]
  refine .seq ?_
  refine .seq ?_
  refine .region rfl ?_
  refine .op1 rfl (op_mv (by first | exact (rfl : _ = AV.int _ _) | exact (rfl : _ = AV.bool _) | exact (rfl : _ = AV.str _) | exact (rfl : _ = AV.sl _ _) | exact (rfl : _ = AV.row _ _) | exact (rfl : _ = AV.ptr _ _) | exact (rfl : _ = AV.tup _) | exact (rfl : _ = AV.agg _) | exact (rfl : _ = AV.fn _ _ _) | exact (rfl : _ = AV.nilp) | exact (rfl : _ = AV.mp _) | exact (rfl : _ = AV.vptr _) | exact (rfl : _ = AV.any))) ?_
  refine .op1 rfl (op_bin rfl rfl rfl) ?_
  refine .nil ?_
  dsimp only [putA, List.set, av, List.getD_cons_zero, List.getD_cons_succ, avOf, avLeaf, cellsA, setR, D31, D53, D57, D69, D86, D95, List.take_succ_cons, List.take_zero, List.drop_succ_cons, List.drop_zero, List.length_cons, List.length_nil, List.nil_append, List.cons_append, Nat.reduceAdd, Nat.zero_add]
  refine .cond rfl (fun h => ?_) (fun h => ?_)
  · have hls : n < 128 := by simp at h; omega
    refine .seq ?_
    refine .region rfl ?_
    refine .op1 rfl (op_mv (by first | exact (rfl : _ = AV.int _ _) | exact (rfl : _ = AV.bool _) | exact (rfl : _ = AV.str _) | exact (rfl : _ = AV.sl _ _) | exact (rfl : _ = AV.row _ _) | exact (rfl : _ = AV.ptr _ _) | exact (rfl : _ = AV.tup _) | exact (rfl : _ = AV.agg _) | exact (rfl : _ = AV.fn _ _ _) | exact (rfl : _ = AV.nilp) | exact (rfl : _ = AV.mp _) | exact (rfl : _ = AV.vptr _) | exact (rfl : _ = AV.any))) ?_
    refine .op1 rfl (op_convInt rfl (S := D46) (D := D5) rfl rfl rfl rfl) ?_
    dsimp only [putA, List.set]
    rw [wrap_byte]
    refine .op1 rfl (op_lit (S := D22) (D := D5) (vs := [.int .u8 (UInt8.ofNat n).toNat]) rfl rfl rfl rfl rfl (by decide) rfl ⟨rfl, rfl⟩) ?_
    dsimp only [putA, List.set]
    refine .op1 rfl (op_string (l := [UInt8.ofNat n]) (.sl _ _) (S := D22) rfl rfl (B := D5) rfl rfl (D := D9) rfl rfl) ?_
    refine .op1 rfl (op_as (by first | exact (rfl : _ = AV.int _ _) | exact (rfl : _ = AV.bool _) | exact (rfl : _ = AV.str _) | exact (rfl : _ = AV.sl _ _) | exact (rfl : _ = AV.row _ _) | exact (rfl : _ = AV.ptr _ _) | exact (rfl : _ = AV.tup _) | exact (rfl : _ = AV.agg _) | exact (rfl : _ = AV.fn _ _ _) | exact (rfl : _ = AV.nilp) | exact (rfl : _ = AV.mp _) | exact (rfl : _ = AV.vptr _) | exact (rfl : _ = AV.any))) ?_
    refine .nil ?_
    dsimp only [putA, List.set]
    refine .ret ?_
    exact ⟨_, _, _, .cons (.tmp _) .nil, .drop st.length (Nat.le_refl _) rfl (fun h => by simpa using h), by simp, by rw [varB_lt hls]; rfl⟩
  · have hge : ¬ n < 128 := by simp at h; omega
    have q1 : (n : Int) % 128 + 128 = ((n % 128 + 128 : Nat) : Int) := by omega
    have q2 : (n : Int) / 128 = ((n / 128 : Nat) : Int) := by omega
    have hb := varB_len (n / 128) (by omega)
    refine .skip ?_
    refine .seq ?_
    refine .drawn [] rfl (by decide) (by decide +kernel) ?_
    refine .pures rfl rfl (fun _ => (op_mv (by first | exact (rfl : _ = AV.int _ _) | exact (rfl : _ = AV.bool _) | exact (rfl : _ = AV.str _) | exact (rfl : _ = AV.sl _ _) | exact (rfl : _ = AV.row _ _) | exact (rfl : _ = AV.ptr _ _) | exact (rfl : _ = AV.tup _) | exact (rfl : _ = AV.agg _) | exact (rfl : _ = AV.fn _ _ _) | exact (rfl : _ = AV.nilp) | exact (rfl : _ = AV.mp _) | exact (rfl : _ = AV.vptr _) | exact (rfl : _ = AV.any)))) ?_
    refine .pures rfl rfl (fun _ => (op_rem rfl rfl (by omega) (by omega))) ?_
    refine .pures rfl rfl (fun _ => (op_arith rfl rfl rfl (by simp only [lo]; omega) (by simp only [hi]; omega))) ?_
    refine .pures rfl rfl (fun _ => (op_convInt rfl (S := D46) (D := D5) rfl rfl rfl rfl)) ?_
    dsimp only [putA, List.set]
    rw [q1, wrap_byte]
    refine .pure rfl rfl (by decide) rfl (op_lit (S := D22) (D := D5) (vs := [.int .u8 (UInt8.ofNat (n % 128 + 128)).toNat]) rfl rfl rfl rfl rfl (by decide) rfl ⟨rfl, rfl⟩) ?_
    dsimp only [putA, List.set]
    refine .pure rfl rfl (by decide) rfl (op_string (l := [UInt8.ofNat (n % 128 + 128)]) (.sl _ _) (S := D22) rfl rfl (B := D5) rfl rfl (D := D9) rfl rfl) ?_
    refine .pures rfl rfl (fun _ => (op_mv (by first | exact (rfl : _ = AV.int _ _) | exact (rfl : _ = AV.bool _) | exact (rfl : _ = AV.str _) | exact (rfl : _ = AV.sl _ _) | exact (rfl : _ = AV.row _ _) | exact (rfl : _ = AV.ptr _ _) | exact (rfl : _ = AV.tup _) | exact (rfl : _ = AV.agg _) | exact (rfl : _ = AV.fn _ _ _) | exact (rfl : _ = AV.nilp) | exact (rfl : _ = AV.mp _) | exact (rfl : _ = AV.vptr _) | exact (rfl : _ = AV.any)))) ?_
    refine .pures rfl rfl (fun _ => (op_quo rfl rfl (by omega) (by omega) (by simp only [hi]; omega))) ?_
    dsimp only [putA, List.set]
    rw [q2]
    refine .pure rfl rfl (by decide) rfl (op_callJ Tryd.func20 rfl rfl rfl rfl (ih (n / 128) (by omega) (by omega))) ?_
    refine .pure rfl rfl (by decide) rfl (op_strAdd rfl rfl (by simp; omega)) ?_
    refine .pures rfl rfl (fun _ => (op_as (by first | exact (rfl : _ = AV.int _ _) | exact (rfl : _ = AV.bool _) | exact (rfl : _ = AV.str _) | exact (rfl : _ = AV.sl _ _) | exact (rfl : _ = AV.row _ _) | exact (rfl : _ = AV.ptr _ _) | exact (rfl : _ = AV.tup _) | exact (rfl : _ = AV.agg _) | exact (rfl : _ = AV.fn _ _ _) | exact (rfl : _ = AV.nilp) | exact (rfl : _ = AV.mp _) | exact (rfl : _ = AV.vptr _) | exact (rfl : _ = AV.any)))) ?_
    refine .nil rfl rfl ?_
    dsimp only [putA, List.set]
    refine .ret ?_
    exact ⟨_, _, _, .cons (.tmp _) .nil, .drop st.length (Nat.le_refl _) rfl (fun h => by simpa using h), by simp, by rw [varB_ge hge]; rfl⟩
end Rm
