/- The engine, part 1: values told without memory (AV), how machine values and blocks relate to them, and the basic facts of that relation. The engine, part 2: frames told without memory, and the judgement that a frame comes to its end as told; its rules for the forms of code. The engine, part 3: operations on values. The engine, part 4: what turns the world: a block of one's own is written, a new one is laid. The engine, part 5: loads, stores, new variables, places. The engine, part 6: strings, slices that are read, structs built and taken apart. -/
import Derived.Below
import Derived.Calls
import Derived.Scope
import Derived.Laws.IdiomCopy
import Derived.WalkKit
import Derived.WideLaws
import Derived.ChangeKeysEq
import Derived.Laws.Rows
import Derived.Deep.MidRow

namespace Rm
open Go
open Go.RowKit

/-- A value told without memory. Slices that are only read are told by what their elements' cells hold. -/
inductive AV where
  | any
  | one
  | int (k : IntKind) (n : Int)
  | bool (b : Bool)
  | str (l : List UInt8)
  | agg (cs : List AV)
  | tup (vs : List AV)
  | ptr (o off : Nat)
  | nilp
  | vptr (cs : List AV)
  | sl (clip : Bool) (es : List (List AV))
  | row (o ver : Nat)
  | rptr (o ver off : Nat)
  | fn (f : Fn) (first caps : List AV)
  | nilfn
  | mp (o : Nat)
  | nilm
  | ifc (t : TypeId) (v : AV)
  | nilifc
  deriving Inhabited

abbrev Mem := Nat → Nat → Option Value

/-- Where an object of one's own lies: its block (none: there is none), the value that leads to it; whether it stays there; how often it was another one. -/
structure BV where
  blk : Option Nat
  val : Value
  fix : Bool
  ver : Nat
  deriving Inhabited

/-- Later on: what stays is where it was; what was moved is told by a higher number. -/
def BLe (β β' : List BV) : Prop := ∀ (o : Nat) bv, β[o]? = some bv → ∃ bv', β'[o]? = some bv' ∧ bv.ver ≤ bv'.ver ∧ bv'.fix = bv.fix ∧ (bv.fix = true ∨ bv'.ver = bv.ver → bv' = bv)
theorem BLe.refl (β : List BV) : BLe β β := fun _ bv h => ⟨bv, h, Nat.le_refl _, rfl, fun _ => rfl⟩
theorem BLe.trans {a b c : List BV} (h : BLe a b) (k : BLe b c) : BLe a c := fun o bv e => by
  obtain ⟨x, hx, l1, f1, e1⟩ := h o bv e
  obtain ⟨y, hy, l2, f2, e2⟩ := k o x hx
  refine ⟨y, hy, Nat.le_trans l1 l2, f2.trans f1, fun hh => ?_⟩
  rcases hh with hh | hh
  · rw [e2 (.inl (f1.trans hh)), e1 (.inl hh)]
  · rw [e2 (.inr (by omega)), e1 (.inr (by omega))]
theorem BLe.append (β : List BV) (l : List BV) : BLe β (β ++ l) := fun o bv h =>
  ⟨bv, by rw [List.getElem?_append_left (List.getElem?_eq_some_iff.1 h).1]; exact h, Nat.le_refl _, rfl, fun _ => rfl⟩
theorem BLe.nil (β : List BV) : BLe [] β := fun _ _ h => by simp at h
theorem BLe.len {β β' : List BV} (h : BLe β β') : β.length ≤ β'.length := by
  rcases Nat.lt_or_ge β'.length β.length with hlt | hge
  · obtain ⟨x, hx, _⟩ := h β'.length β[β'.length] (by simp [hlt])
    simp at hx
  · exact hge

inductive RelV (β : List BV) (m : Mem) : Value → AV → Prop where
  | any (v : Value) : RelV β m v .any
  | one (v : Value) (h : v.oneCell' = true) : RelV β m v .one
  | int (k : IntKind) (n : Int) : RelV β m (.int k n) (.int k n)
  | bool (b : Bool) : RelV β m (.bool b) (.bool b)
  | str (s : ByteArray) (l : List UInt8) (h : s.data.toList = l) : RelV β m (.string s) (.str l)
  | agg (vs : Array Value) (cs : List AV) (hl : vs.size = cs.length) (h : ∀ (i : Nat) u c, vs[i]? = some u → cs[i]? = some c → RelV β m u c) : RelV β m (.agg vs) (.agg cs)
  | tup (vs : Array Value) (cs : List AV) (hl : vs.size = cs.length) (h : ∀ (i : Nat) u c, vs[i]? = some u → cs[i]? = some c → RelV β m u c) : RelV β m (.tuple vs) (.tup cs)
  | ptr (o off b : Nat) (v : Value) (n : Nat) (h : β[o]? = some ⟨some b, v, true, n⟩) : RelV β m (.pointer (some ⟨b, off, none⟩)) (.ptr o off)
  | nilp : RelV β m (.pointer none) .nilp
  | vptr (b off : Nat) (cs : List AV) (u : Nat → Value) (hu : ∀ (i : Nat) c, cs[i]? = some c → m b (off + i) = some (u i)) (h : ∀ (i : Nat) c, cs[i]? = some c → RelV β m (u i) c) : RelV β m (.pointer (some ⟨b, off, none⟩)) (.vptr cs)
  | sl0 (a : Option Addr) (c : Nat) (clip : Bool) (hc : clip = true → c = 0) : RelV β m (.slice a 0 c) (.sl clip [])
  | sl (b off n c sz : Nat) (clip : Bool) (es : List (List AV)) (u : Nat → Value) (hn : n = es.length) (h0 : 0 < n) (hc : n ≤ c) (hcl : clip = true → c = n) (hsz : ∀ e ∈ es, e.length = sz)
      (hu : ∀ (i : Nat) c, es.flatten[i]? = some c → m b (off + i) = some (u i)) (h : ∀ (i : Nat) c, es.flatten[i]? = some c → RelV β m (u i) c) : RelV β m (.slice (some ⟨b, off, none⟩) n c) (.sl clip es)
  | row (o ver : Nat) (v : Value) (bv : BV) (h : β[o]? = some bv) (hf : bv.fix = false) (hl : ver ≤ bv.ver) (hv : ver = bv.ver → v = bv.val) (hs : ∃ a n c, v = .slice a n c) : RelV β m v (.row o ver)
  | rptr (o ver off : Nat) (v : Value) (bv : BV) (h : β[o]? = some bv) (hf : bv.fix = false) (hl : ver ≤ bv.ver) (hv : ver = bv.ver → ∃ b, bv.blk = some b ∧ v = .pointer (some ⟨b, off, none⟩)) (hs : ∃ a, v = .pointer a) : RelV β m v (.rptr o ver off)
  | fn (f : Fn) (fs cs : Array Value) (fa ca : List AV) (hf : fs.size = fa.length) (hc : cs.size = ca.length)
      (h1 : ∀ (i : Nat) u c, fs[i]? = some u → fa[i]? = some c → RelV β m u c) (h2 : ∀ (i : Nat) u c, cs[i]? = some u → ca[i]? = some c → RelV β m u c) : RelV β m (.func f fs cs) (.fn f fa ca)
  | nilfn : RelV β m .nilFunc .nilfn
  | mp (o b : Nat) (v : Value) (n : Nat) (h : β[o]? = some ⟨some b, v, true, n⟩) : RelV β m (.map (some b)) (.mp o)
  | nilm : RelV β m (.map none) .nilm
  | ifc (t : TypeId) (v : Value) (a : AV) (h : RelV β m v a) : RelV β m (.iface t v) (.ifc t a)
  | nilifc : RelV β m .nilIface .nilifc

/-- Cells, one by one. -/
def RelL (β : List BV) (m : Mem) (vs : List Value) (cs : List AV) : Prop :=
  vs.length = cs.length ∧ ∀ (i : Nat) u c, vs[i]? = some u → cs[i]? = some c → RelV β m u c

def MemLe (m m' : Mem) : Prop := ∀ b o v, m b o = some v → m' b o = some v
theorem MemLe.refl (m : Mem) : MemLe m m := fun _ _ _ h => h
theorem MemLe.trans {a b c : Mem} (h : MemLe a b) (k : MemLe b c) : MemLe a c := fun _ _ _ e => k _ _ _ (h _ _ _ e)

theorem RelV.mono {β β' : List BV} {m m' : Mem} (hb : BLe β β') (hm : MemLe m m') {v : Value} {a : AV} (h : RelV β m v a) : RelV β' m' v a := by
  induction h with
  | any v => exact .any v
  | one v h => exact .one v h
  | int k n => exact .int k n
  | bool b => exact .bool b
  | str s l h => exact .str s l h
  | agg vs cs hl _ ih => exact .agg vs cs hl ih
  | tup vs cs hl _ ih => exact .tup vs cs hl ih
  | ptr o off b v n h =>
    obtain ⟨x, hx, _, _, e⟩ := hb o _ h
    rw [e (.inl rfl)] at hx
    exact .ptr o off b v n hx
  | nilp => exact .nilp
  | vptr b off cs u hu _ ih => exact .vptr b off cs u (fun i c hc => hm _ _ _ (hu i c hc)) ih
  | sl0 a c clip hc => exact .sl0 a c clip hc
  | sl b off n c sz clip es u hn h0 hc hcl hsz hu _ ih => exact .sl b off n c sz clip es u hn h0 hc hcl hsz (fun i c hc => hm _ _ _ (hu i c hc)) ih
  | row o ver v bv h hf hl hv hs =>
    obtain ⟨x, hx, l, f, e⟩ := hb o _ h
    refine .row o ver v x hx (f.trans hf) (Nat.le_trans hl l) (fun hh => ?_) hs
    have : x.ver = bv.ver := by omega
    rw [e (.inr this)]
    exact hv (by omega)
  | rptr o ver off v bv h hf hl hv hs =>
    obtain ⟨x, hx, l, f, e⟩ := hb o _ h
    refine .rptr o ver off v x hx (f.trans hf) (Nat.le_trans hl l) (fun hh => ?_) hs
    have : x.ver = bv.ver := by omega
    rw [e (.inr this)]
    exact hv (by omega)
  | fn f fs cs fa ca hf hc _ _ ih1 ih2 => exact .fn f fs cs fa ca hf hc ih1 ih2
  | nilfn => exact .nilfn
  | mp o b v n h =>
    obtain ⟨x, hx, _, _, e⟩ := hb o _ h
    rw [e (.inl rfl)] at hx
    exact .mp o b v n hx
  | nilm => exact .nilm
  | ifc t v a _ ih => exact .ifc t v a ih
  | nilifc => exact .nilifc

theorem RelL.mono {β β' : List BV} {m m' : Mem} (hb : BLe β β') (hm : MemLe m m') {vs : List Value} {cs : List AV} (h : RelL β m vs cs) : RelL β' m' vs cs :=
  ⟨h.1, fun i u c hu hc => (h.2 i u c hu hc).mono hb hm⟩

section lists
variable {β : List BV} {m : Mem}
theorem RelL.nil : RelL β m [] [] := ⟨rfl, fun i u c h => by simp at h⟩
theorem RelL.cons {v : Value} {c : AV} {vs : List Value} {cs : List AV} (h : RelV β m v c) (k : RelL β m vs cs) : RelL β m (v :: vs) (c :: cs) :=
  ⟨by simp [k.1], fun i u d hu hd => by
    cases i with
    | zero => simp at hu hd; subst hu; subst hd; exact h
    | succ i => exact k.2 i u d (by simpa using hu) (by simpa using hd)⟩
theorem RelL.head {v : Value} {c : AV} {vs : List Value} {cs : List AV} (h : RelL β m (v :: vs) (c :: cs)) : RelV β m v c := h.2 0 v c rfl rfl
theorem RelL.tail {v : Value} {c : AV} {vs : List Value} {cs : List AV} (h : RelL β m (v :: vs) (c :: cs)) : RelL β m vs cs :=
  ⟨by simpa using h.1, fun i u d hu hd => h.2 (i + 1) u d (by simpa using hu) (by simpa using hd)⟩
theorem RelL.append {vs ws : List Value} {cs ds : List AV} (h : RelL β m vs cs) (k : RelL β m ws ds) : RelL β m (vs ++ ws) (cs ++ ds) := by
  refine ⟨by simp [h.1, k.1], fun i u d hu hd => ?_⟩
  by_cases hi : i < vs.length
  · rw [List.getElem?_append_left hi] at hu
    rw [List.getElem?_append_left (h.1 ▸ hi)] at hd
    exact h.2 i u d hu hd
  · rw [List.getElem?_append_right (by omega)] at hu
    rw [List.getElem?_append_right (by have := h.1; omega), ← h.1] at hd
    exact k.2 _ u d hu hd
theorem RelL.drop {vs : List Value} {cs : List AV} (h : RelL β m vs cs) (n : Nat) : RelL β m (vs.drop n) (cs.drop n) :=
  ⟨by simp [h.1], fun i u d hu hd => h.2 (n + i) u d (by simpa using hu) (by simpa using hd)⟩
theorem RelL.take {vs : List Value} {cs : List AV} (h : RelL β m vs cs) (n : Nat) : RelL β m (vs.take n) (cs.take n) := by
  refine ⟨by simp [h.1], fun i u d hu hd => ?_⟩
  rw [List.getElem?_take] at hu hd
  split at hu
  · rename_i hi
    rw [if_pos hi] at hd
    exact h.2 i u d hu hd
  · simp at hu
theorem RelL.set {vs : List Value} {cs : List AV} (h : RelL β m vs cs) (n : Nat) {v : Value} {c : AV} (hv : RelV β m v c) : RelL β m (vs.set n v) (cs.set n c) := by
  refine ⟨by simp [h.1], fun i u d hu hd => ?_⟩
  rw [List.getElem?_set] at hu hd
  by_cases hn : n = i
  · subst hn
    have hl := h.1
    by_cases hlt : n < vs.length
    · simp [hlt, hl ▸ hlt] at hu hd; subst hu; subst hd; exact hv
    · simp [hlt] at hu
  · simp [hn] at hu hd
    exact h.2 i u d hu hd
theorem RelL.replicate_any (n : Nat) (v : Value) : RelL β m (List.replicate n v) (List.replicate n .any) :=
  ⟨by simp, fun i u d hu hd => by
    rw [List.getElem?_replicate] at hd
    split at hd
    · simp at hd; subst hd; exact .any _
    · simp at hd⟩
/-- What stands at a place. -/
theorem RelL.get {vs : List Value} {cs : List AV} (h : RelL β m vs cs) (i : Nat) {c : AV} (hc : cs[i]? = some c) : ∃ u, vs[i]? = some u ∧ RelV β m u c := by
  have hi := (List.getElem?_eq_some_iff.1 hc).1
  exact ⟨vs[i]'(h.1 ▸ hi), by simp [h.1, hi], h.2 i _ c (by simp [h.1, hi]) hc⟩
theorem RelV.agg_iff {v : Value} {cs : List AV} : RelV β m v (.agg cs) ↔ ∃ vs : Array Value, v = .agg vs ∧ RelL β m vs.toList cs := by
  constructor
  · intro h
    cases h with
    | agg vs _ hl h => exact ⟨vs, rfl, by simpa using hl, fun i u c hu hc => h i u c (by simpa using hu) hc⟩
  · rintro ⟨vs, rfl, h⟩
    exact .agg vs cs (by simpa using h.1) fun i u c hu hc => h.2 i u c (by simpa using hu) hc
theorem RelV.tup_iff {v : Value} {cs : List AV} : RelV β m v (.tup cs) ↔ ∃ vs : Array Value, v = .tuple vs ∧ RelL β m vs.toList cs := by
  constructor
  · intro h
    cases h with
    | tup vs _ hl h => exact ⟨vs, rfl, by simpa using hl, fun i u c hu hc => h i u c (by simpa using hu) hc⟩
  · rintro ⟨vs, rfl, h⟩
    exact .tup vs cs (by simpa using h.1) fun i u c hu hc => h.2 i u c (by simpa using hu) hc
theorem RelV.int_iff {v : Value} {k : IntKind} {n : Int} : RelV β m v (.int k n) ↔ v = .int k n :=
  ⟨fun h => by cases h; rfl, fun h => h ▸ .int k n⟩
theorem RelV.bool_iff {v : Value} {b : Bool} : RelV β m v (.bool b) ↔ v = .bool b :=
  ⟨fun h => by cases h; rfl, fun h => h ▸ .bool b⟩
theorem RelV.str_iff {v : Value} {l : List UInt8} : RelV β m v (.str l) ↔ ∃ s : ByteArray, v = .string s ∧ s.data.toList = l :=
  ⟨fun h => by cases h with | str s _ h => exact ⟨s, rfl, h⟩, fun ⟨s, hv, h⟩ => hv ▸ .str s l h⟩
theorem RelV.ptr_inv {v : Value} {o off : Nat} (h : RelV β m v (.ptr o off)) : ∃ b x n, β[o]? = some ⟨some b, x, true, n⟩ ∧ v = .pointer (some ⟨b, off, none⟩) := by
  cases h with
  | ptr _ _ b x n hb => exact ⟨b, x, n, hb, rfl⟩
theorem RelV.vptr_inv {v : Value} {cs : List AV} (h : RelV β m v (.vptr cs)) : ∃ (b off : Nat) (u : Nat → Value), v = .pointer (some ⟨b, off, none⟩) ∧ (∀ (i : Nat) c, cs[i]? = some c → m b (off + i) = some (u i)) ∧ ∀ (i : Nat) c, cs[i]? = some c → RelV β m (u i) c := by
  cases h with
  | vptr b off _ u hu hc => exact ⟨b, off, u, rfl, hu, hc⟩
theorem RelV.rptr_inv {v : Value} {o ver off : Nat} (h : RelV β m v (.rptr o ver off)) : ∃ bv, β[o]? = some bv ∧ bv.fix = false ∧ ver ≤ bv.ver ∧ (ver = bv.ver → ∃ b, bv.blk = some b ∧ v = .pointer (some ⟨b, off, none⟩)) ∧ ∃ a, v = .pointer a := by
  cases h with
  | rptr _ _ _ _ bv hb hf hl hv hs => exact ⟨bv, hb, hf, hl, hv, hs⟩
theorem RelV.row_inv {v : Value} {o ver : Nat} (h : RelV β m v (.row o ver)) : ∃ bv, β[o]? = some bv ∧ bv.fix = false ∧ ver ≤ bv.ver ∧ (ver = bv.ver → v = bv.val) ∧ ∃ a n c, v = .slice a n c := by
  cases h with
  | row _ _ _ bv hb hf hl hv hs => exact ⟨bv, hb, hf, hl, hv, hs⟩
theorem RelV.nilp_inv {v : Value} (h : RelV β m v .nilp) : v = .pointer none := by cases h; rfl
theorem RelV.mp_inv {v : Value} {o : Nat} (h : RelV β m v (.mp o)) : ∃ b x n, β[o]? = some ⟨some b, x, true, n⟩ ∧ v = .map (some b) := by
  cases h with
  | mp _ b x n hb => exact ⟨b, x, n, hb, rfl⟩
theorem RelV.sl_inv {v : Value} {clip : Bool} {es : List (List AV)} (h : RelV β m v (.sl clip es)) :
    (es = [] ∧ ∃ a c, v = .slice a 0 c ∧ (clip = true → c = 0)) ∨
    ∃ (b off c sz : Nat) (u : Nat → Value), v = .slice (some ⟨b, off, none⟩) es.length c ∧ 0 < es.length ∧ es.length ≤ c ∧ (clip = true → c = es.length) ∧ (∀ e ∈ es, e.length = sz) ∧
      (∀ (i : Nat) c, es.flatten[i]? = some c → m b (off + i) = some (u i)) ∧ ∀ (i : Nat) c, es.flatten[i]? = some c → RelV β m (u i) c := by
  cases h with
  | sl0 a c _ hc => exact .inl ⟨rfl, a, c, rfl, hc⟩
  | sl b off n c sz _ _ u hn h0 hc hcl hsz hu h => subst hn; exact .inr ⟨b, off, c, sz, u, rfl, h0, hc, hcl, hsz, hu, h⟩
theorem RelV.fn_inv {v : Value} {f : Fn} {fa ca : List AV} (h : RelV β m v (.fn f fa ca)) : ∃ fs cs : Array Value, v = .func f fs cs ∧ RelL β m fs.toList fa ∧ RelL β m cs.toList ca := by
  cases h with
  | fn _ fs cs _ _ hf hc h1 h2 => exact ⟨fs, cs, rfl, ⟨by simpa using hf, fun i u c hu => h1 i u c (by simpa using hu)⟩, ⟨by simpa using hc, fun i u c hu => h2 i u c (by simpa using hu)⟩⟩
end lists

/-- An object of one's own: a variable's cells; a slice's array (its elements so far; fz: they are shared, and so stay); a map. -/
inductive Ob where
  | dead
  | var (cs : List AV)
  | row (ver sz : Nat) (es : List (List AV)) (fz : Bool)
  | map (es : List (AV × AV))
  deriving Inhabited

def RelO (β : List BV) (m : Mem) (w : World) (bv : BV) : Ob → Prop
  | .dead => True
  | .var cs => ∃ b vs t n, bv = ⟨some b, .pointer (some ⟨b, 0, none⟩), true, n⟩ ∧ w.heap[b]? = some (.cells vs t (0, 0)) ∧ RelL β m vs.toList cs ∧ (∀ i, m b i = none)
  | .row n sz es fz => (es = [] ∧ 0 < sz ∧ ∃ a, bv = ⟨none, .slice a 0 0, false, n⟩) ∨
      ∃ b c vs t, bv = ⟨some b, .slice (some ⟨b, 0, none⟩) es.length c, false, n⟩ ∧ w.heap[b]? = some (.cells vs t (0, 0)) ∧ es.length ≤ c ∧ c * sz ≤ vs.size ∧ 0 < sz ∧
        (∀ e ∈ es, e.length = sz) ∧ RelL β m (vs.toList.take (es.length * sz)) es.flatten ∧ (∀ i, es.length * sz ≤ i → m b i = none) ∧
        (if fz then ∀ i, i < es.length * sz → m b i = vs[i]? else ∀ i, m b i = none)
  | .map es => ∃ b ents ck n, bv = ⟨some b, .map (some b), true, n⟩ ∧ w.heap[b]? = some (.map ents ck) ∧ ents.size = es.length ∧ (ck = ents.size ∧ ∀ (i : Nat) x, ents[i]? = some x → x.born = i) ∧
      (∀ (i : Nat) x y, ents[i]? = some x → es[i]? = some y → RelV β m x.key y.1 ∧ RelV β m x.val y.2) ∧ (∀ i, m b i = none)

def MemOk (m : Mem) (w : World) : Prop := ∀ b o v, m b o = some v → w.cell? ⟨b, o, none⟩ = some v

structure Inv (β : List BV) (m : Mem) (w : World) (st : List Ob) : Prop where
  len : β.length = st.length
  mem : MemOk m w
  obj : ∀ (o : Nat) bv ob, β[o]? = some bv → st[o]? = some ob → RelO β m w bv ob
  apart : ∀ (o o' : Nat) bv bv' b, o ≠ o' → β[o]? = some bv → β[o']? = some bv' → bv.blk = some b → bv'.blk ≠ some b
  lt : ∀ (o : Nat) bv b, β[o]? = some bv → bv.blk = some b → b < w.heap.size

/-- What a call leaves as it was: all blocks but those of its objects. -/
structure Keep (own : Nat → Prop) (w w' : World) : Prop where
  os : w'.os = w.os
  tape : w'.tape = w.tape
  output : w'.output = w.output
  size : w.heap.size ≤ w'.heap.size
  block : ∀ k, k < w.heap.size → ¬ own k → w'.heap[k]? = w.heap[k]?

def Own (β : List BV) (b : Nat) : Prop := ∃ (o : Nat) (bv : BV), β[o]? = some bv ∧ bv.blk = some b

theorem Keep.refl (own : Nat → Prop) (w : World) : Keep own w w := ⟨rfl, rfl, rfl, Nat.le_refl _, fun _ _ _ => rfl⟩
theorem Keep.trans {own own' : Nat → Prop} {a b c : World} (h : Keep own a b) (k : Keep own' b c) (hs : ∀ i, i < a.heap.size → own' i → own i) : Keep own a c :=
  ⟨k.os.trans h.os, k.tape.trans h.tape, k.output.trans h.output, Nat.le_trans h.size k.size, fun i hi ho =>
    (k.block i (Nat.lt_of_lt_of_le hi h.size) (fun e => ho (hs i hi e))).trans (h.block i hi ho)⟩
theorem Keep.below {w w' : World} (h : Keep (fun _ => False) w w') : Below w.heap.size w w' :=
  ⟨h.os, h.tape, h.output, h.size, fun k hk => h.block k hk (by simp)⟩

/-- Persistent cells may come in new blocks alone, or in blocks of one's own. -/
def Fresh (own : Nat → Prop) (w : World) (m m' : Mem) : Prop := MemLe m m' ∧ ∀ b o v, m' b o = some v → m b o = some v ∨ w.heap.size ≤ b ∨ own b

/-- What a call comes to: with these objects and arguments it returns a value, and leaves objects, of which Q holds. -/
def Ctr (P : Program) (mG : Mem) (f : FuncId) (st : List Ob) (args : List AV) (Q : List Ob → AV → Prop) : Prop :=
  ∀ (β : List BV) (m : Mem) (w : World) (vs : Array Value), MemLe mG m → Inv β m w st → RelL β m vs.toList args →
    Calls P f vs w fun e w' => ∃ β' m' v st' res, Q st' res ∧ e = .returned v ∧ BLe β β' ∧ Fresh (Own β) w m m' ∧ Inv β' m' w' st' ∧ Keep (Own β) w w' ∧
      (∀ (o : Nat) bv b, β'[o]? = some bv → bv.blk = some b → w.heap.size ≤ b ∨ Own β b) ∧ RelV β' m' v res

end Rm

namespace Rm
open Go
open Go.RowKit

/-- What is known of a type. -/
structure TD where
  u : TypeDesc
  size : Nat
  bytes : Nat
  z : List AV

/-- What a seat knows: its program, its types, the variables that it reads. -/
structure Env where
  P : Program
  tab : Nat → Option TD
  mG : Mem
  G : Nat → List AV
  tab_ok : ∀ t d, tab t = some d → P.underlying t = some d.u ∧ ∃ i, P.info? t = some i ∧ i.size = d.size ∧ i.bytes = d.bytes ∧ ∃ v, i.zero = some v ∧ v.cells.toList.length = d.z.length ∧ ∀ β m, RelL β m v.cells.toList d.z
  G_ok : ∀ g (i : Nat) c, (G g)[i]? = some c → ∃ u, mG g i = some u ∧ RelV [] mG u c

/-- A constant's value. -/
def avLeaf : Value → AV
  | .int k n => .int k n
  | .bool b => .bool b
  | .string s => .str s.data.toList
  | .pointer none => .nilp
  | .slice none 0 0 => .sl true []
  | .nilFunc => .nilfn
  | .nilIface => .nilifc
  | .map none => .nilm
  | _ => .any
def avOf : Value → AV
  | .agg cs => .agg (cs.toList.map avLeaf)
  | v => avLeaf v
theorem avLeaf_rel (β : List BV) (m : Mem) (v : Value) : RelV β m v (avLeaf v) := by
  unfold avLeaf
  split
  · exact .int _ _
  · exact .bool _
  · exact .str _ _ rfl
  · exact .nilp
  · exact .sl0 _ _ _ fun _ => rfl
  · exact .nilfn
  · exact .nilifc
  · exact .nilm
  · exact .any _
theorem map_rel (β : List BV) (m : Mem) (vs : List Value) : RelL β m vs (vs.map avLeaf) := by
  refine ⟨by simp, fun i u c hu hc => ?_⟩
  rw [List.getElem?_map, hu] at hc
  simp at hc
  subst hc
  exact avLeaf_rel β m u
theorem avOf_rel (β : List BV) (m : Mem) (v : Value) : RelV β m v (avOf v) := by
  unfold avOf
  split
  · exact RelV.agg_iff.2 ⟨_, rfl, map_rel _ _ _⟩
  · exact avLeaf_rel _ _ _

def av (E : Env) (fr : List AV) : Operand → AV
  | .tmp t => fr.getD t .any
  | .const v => avOf v
  | .global g => .vptr (E.G g)
  | .func f => .fn (.func f) [] []

/-- Where a body began: its world, its objects, its shared cells. -/
structure Cx where
  w0 : World
  β0 : List BV
  m0 : Mem

structure Rel (C : Cx) (β : List BV) (m : Mem) (fr : List AV) (st : List Ob) (a : Act) (w : World) : Prop where
  pre : BLe C.β0 β
  fresh : Fresh (Own C.β0) C.w0 C.m0 m
  inv : Inv β m w st
  keep : Keep (Own C.β0) C.w0 w
  new : ∀ (o : Nat) bv b, β[o]? = some bv → bv.blk = some b → C.w0.heap.size ≤ b ∨ Own C.β0 b
  frm : RelL β m a.tmps.toList fr
  dfr : a.defers = []

theorem RelL.getD {β : List BV} {m : Mem} {vs : Array Value} {cs : List AV} (h : RelL β m vs.toList cs) (t : Nat) : RelV β m (vs.getD t undef) (cs.getD t .any) := by
  by_cases ht : t < cs.length
  · obtain ⟨u, hu, hr⟩ := h.get t (c := cs[t]) (by simp [ht])
    have e1 : vs.getD t undef = u := by simp only [Array.getElem?_toList] at hu; simp [Array.getD_eq_getD_getElem?, hu]
    have e2 : cs.getD t .any = cs[t] := by simp [List.getD_eq_getElem?_getD, ht]
    rw [e1, e2]; exact hr
  · have e2 : cs.getD t .any = .any := by simp [List.getD_eq_getElem?_getD, List.getElem?_eq_none (Nat.le_of_not_lt ht)]
    rw [e2]; exact .any _

theorem ev_rel {E : Env} {C : Cx} {β : List BV} {m : Mem} {fr : List AV} {st : List Ob} {a : Act} {w : World} (hG : MemLe E.mG m) (h : Rel C β m fr st a w) (x : Operand) : RelV β m (a.eval x) (av E fr x) := by
  cases x with
  | tmp t => exact h.frm.getD t
  | const v => exact avOf_rel _ _ v
  | global g =>
    refine .vptr g 0 _ (fun i => (E.mG g i).getD undef) (fun i c hc => ?_) (fun i c hc => ?_)
    · obtain ⟨u, hu, hr⟩ := E.G_ok g i c hc
      rw [Nat.zero_add]
      exact hG _ _ _ (by rw [hu]; rfl)
    · obtain ⟨u, hu, hr⟩ := E.G_ok g i c hc
      rw [hu]
      exact hr.mono (BLe.nil _) hG
  | func f => exact .fn _ _ _ _ _ rfl rfl (fun i u c h => by simp at h) (fun i u c h => by simp at h)

def putA (fr : List AV) (dst : Option Tmp) (x : AV) : List AV :=
  match dst with
  | some d => fr.set d x
  | none => fr

theorem Rel.put {C : Cx} {β : List BV} {m : Mem} {fr : List AV} {st : List Ob} {a : Act} {w : World} (h : Rel C β m fr st a w) (dst : Option Tmp) {v : Value} {x : AV} (hv : RelV β m v x) : Rel C β m (putA fr dst x) st (a.put dst v) w := by
  cases dst with
  | none => exact h
  | some d => exact ⟨h.pre, h.fresh, h.inv, h.keep, h.new, by simpa [Act.put, putA] using h.frm.set d hv, h.dfr⟩

/-- From here on the frame comes to its end, and R holds there. -/
def AGo (E : Env) (n0 : Nat) (todo : List Item) (fr : List AV) (st : List Ob) (R : List AV → List Ob → Prop) : Prop :=
  ∀ (C : Cx) β m a w (b : Frame) (cs : List Frame), MemLe E.mG C.m0 → C.β0.length ≤ n0 → Rel C β m fr st a w →
    ∃ a' w' fr' st' β' m' todo', R fr' st' ∧ Rel C β' m' fr' st' a' w' ∧ Steps E.P (lone (b.at a todo) cs w) (lone { b.at a' todo' with mode := .returning } cs w')

section rules
variable {E : Env} {n0 : Nat} {k : List Item} {fr : List AV} {st : List Ob} {R : List AV → List Ob → Prop}

theorem AGo.step1 {todo todo' : List Item} (h : ∀ (b : Frame) a cs w, step E.P (lone (b.at a todo) cs w) = .next (lone (b.at a todo') cs w)) (g : AGo E n0 todo' fr st R) : AGo E n0 todo fr st R := by
  intro C β m a w b cs hG hn hr
  obtain ⟨a', w', fr', st', β', m', todo'', hR, hrel, hs⟩ := g C β m a w b cs hG hn hr
  exact ⟨a', w', fr', st', β', m', todo'', hR, hrel, Steps.head (h b a cs w) hs⟩

theorem AGo.seq {x y : Code} (g : AGo E n0 (.code x :: .code y :: k) fr st R) : AGo E n0 (.code (.seq x y) :: k) fr st R := .step1 (fun _ _ _ _ => step_seq) g
theorem AGo.skip (g : AGo E n0 k fr st R) : AGo E n0 (.code .skip :: k) fr st R := .step1 (fun _ _ _ _ => step_skip) g
theorem AGo.label {l : Nat} (g : AGo E n0 k fr st R) : AGo E n0 (.code (.label l) :: k) fr st R := .step1 (fun _ _ _ _ => step_label) g
theorem AGo.block {id : Nat} {c : Code} (g : AGo E n0 (.code c :: .inBlock id :: k) fr st R) : AGo E n0 (.code (.block id c) :: k) fr st R := .step1 (fun _ _ _ _ => step_block) g
theorem AGo.inBlock {id : Nat} (g : AGo E n0 k fr st R) : AGo E n0 (.inBlock id :: k) fr st R := .step1 (fun _ _ _ _ => step_inBlock) g
theorem AGo.scope {c : Code} (g : AGo E n0 (.code c :: .inScope c :: k) fr st R) : AGo E n0 (.code (.scope c) :: k) fr st R := .step1 (fun _ _ _ _ => step_scope) g
theorem AGo.inScope {c : Code} (g : AGo E n0 k fr st R) : AGo E n0 (.inScope c :: k) fr st R := .step1 (fun _ _ _ _ => step_inScope) g
theorem AGo.exit {id : Nat} {k' : List Item} (h : exitTo id k = some k') (g : AGo E n0 k' fr st R) : AGo E n0 (.code (.exit id) :: k) fr st R := .step1 (fun _ _ _ _ => step_exit h) g
theorem AGo.goto {l : Nat} {k' : List Item} (h : gotoIn l k = some k') (g : AGo E n0 k' fr st R) : AGo E n0 (.code (.goto l) :: k) fr st R := .step1 (fun _ _ _ _ => step_goto h) g
theorem AGo.loop0 {c : Code} (g : AGo E n0 (.code c :: .inLoop c :: k) fr st R) : AGo E n0 (.code (.loop c) :: k) fr st R := .step1 (fun _ _ _ _ => step_loop) g
theorem AGo.inLoop {c : Code} (g : AGo E n0 (.code c :: .inLoop c :: k) fr st R) : AGo E n0 (.inLoop c :: k) fr st R := .step1 (fun _ _ _ _ => step_inLoop) g

theorem AGo.ret (h : R fr st) : AGo E n0 (.code .ret :: k) fr st R := fun _ β m a w _ _ _ _ hr => ⟨a, w, fr, st, β, m, _, h, hr, .one step_ret⟩
theorem AGo.fin (h : R fr st) : AGo E n0 [] fr st R := fun _ β m a w _ _ _ _ hr => ⟨a, w, fr, st, β, m, _, h, hr, .one step_end⟩

theorem AGo.cond {c : Operand} {x y : Code} {t : Bool} (hc : av E fr c = .bool t) (h1 : t = true → AGo E n0 (.code x :: k) fr st R) (h2 : t = false → AGo E n0 (.code y :: k) fr st R) : AGo E n0 (.code (.cond c x y) :: k) fr st R := by
  intro C β m a w b cs hG hn hr
  have e : a.eval c = .bool t := by
    have := ev_rel (hG.trans hr.fresh.1) hr c
    rw [hc] at this
    exact RelV.bool_iff.1 this
  have h : AGo E n0 (.code (if t then x else y) :: k) fr st R := by
    cases t
    · exact h2 rfl
    · exact h1 rfl
  obtain ⟨a', w', fr', st', β', m', todo', hR, hrel, hs⟩ := h C β m a w b cs hG hn hr
  exact ⟨a', w', fr', st', β', m', todo', hR, hrel, Steps.head (step_cond e) hs⟩

/-- A loop: 'σ' tells the states at a round's head, 'μ' falls. -/
theorem AGo.loop {σ : Type} {c : Code} (s0 : σ) (I : σ → Prop) (μ : σ → Nat) (F : σ → List AV) (S : σ → List Ob) (h0 : I s0) (hF : F s0 = fr) (hS : S s0 = st)
    (round : ∀ s, I s → (∀ s', I s' → μ s' < μ s → AGo E n0 (.inLoop c :: k) (F s') (S s') R) → AGo E n0 (.code c :: .inLoop c :: k) (F s) (S s) R) : AGo E n0 (.code (.loop c) :: k) fr st R := by
  subst hF; subst hS
  have key : ∀ n s, μ s = n → I s → AGo E n0 (.code c :: .inLoop c :: k) (F s) (S s) R := by
    intro n
    induction n using Nat.strongRecOn with
    | _ n ih =>
      intro s hn hI
      exact round s hI fun s' hI' hlt => .inLoop (ih (μ s') (hn ▸ hlt) s' rfl hI')
  exact .loop0 (key _ s0 rfl h0)

/-- Forgetting. -/
theorem AGo.weaken {todo : List Item} {fr' : List AV} (h : ∀ {β m} {vs : List Value}, RelL β m vs fr → RelL β m vs fr') (g : AGo E n0 todo fr' st R) : AGo E n0 todo fr st R :=
  fun C β m a w b cs hG hn hr => g C β m a w b cs hG hn ⟨hr.pre, hr.fresh, hr.inv, hr.keep, hr.new, h hr.frm, hr.dfr⟩

theorem AGo.mono {todo : List Item} {R' : List AV → List Ob → Prop} (g : AGo E n0 todo fr st R) (h : ∀ fr st, R fr st → R' fr st) : AGo E n0 todo fr st R' := by
  intro C β m a w b cs hG hn hr
  obtain ⟨a', w', fr', st', β', m', todo', hR, hrel, hs⟩ := g C β m a w b cs hG hn hr
  exact ⟨a', w', fr', st', β', m', todo', h _ _ hR, hrel, hs⟩

/-! ### Regions -/
def AOps (E : Env) (n0 : Nat) (ops : Array Oper) (l : List Oper) (k : List Item) (fr : List AV) (st : List Ob) (R : List AV → List Ob → Prop) : Prop :=
  ∀ js : List Nat, js.map (fun j => ops[j]?) = l.map some → AGo E n0 (.inRegion ops js :: k) fr st R

/-- An operation, carried out where its operands are as told, gives a value, and leaves objects, of which Q holds. -/
def OpOk (E : Env) (o : Oper) (g : Operand → AV) (st : List Ob) (Q : AV → List Ob → Prop) : Prop :=
  ∀ (C : Cx) β m fr a w, MemLe E.mG m → Rel C β m fr st a w → (∀ y ∈ o.op.operands, RelV β m (a.eval y) (g y)) →
    ∀ (b : Frame) (k : List Item) (cs : List Frame) (ops : Array Oper) (i : Nat) (rest : List Nat), ops[i]? = some o → Region.wanted o (yielded ops a.tmps) = true →
    ∃ v w' β' m' x st', Steps E.P (lone (b.at a (.inRegion ops (i :: rest) :: k)) cs w) (lone (b.at (a.put o.dst v) (.inRegion ops rest :: k)) cs w') ∧
      Q x st' ∧ Rel C β' m' fr st' a w' ∧ RelV β' m' v x

theorem AGo.region {id : Nat} {ops : Array Oper} {l : List Oper} (hl : ops.toList = l) (g : AOps E n0 ops l k fr st R) : AGo E n0 (.code (.region id ops false) :: k) fr st R := by
  refine .step1 (todo' := .inRegion ops (List.range ops.size) :: k) (fun _ _ _ _ => step_region) (g _ ?_)
  subst hl
  apply List.ext_getElem?
  intro i
  simp only [List.getElem?_map]
  by_cases hi : i < ops.size
  · simp [hi]
  · simp [hi]

theorem AOps.nil {ops : Array Oper} (g : AGo E n0 k fr st R) : AOps E n0 ops [] k fr st R := by
  intro js hj
  have : js = [] := by cases js <;> simp_all
  subst this
  exact .step1 (fun _ _ _ _ => step_region_end) g

theorem AOps.op {ops : Array Oper} {o : Oper} {l : List Oper} {Q : AV → List Ob → Prop} (hg : o.guard = none) (h : OpOk E o (av E fr) st Q) (g : ∀ x st', Q x st' → AOps E n0 ops l k (putA fr o.dst x) st' R) : AOps E n0 ops (o :: l) k fr st R := by
  intro js hj
  cases js with
  | nil => simp at hj
  | cons i js =>
    simp at hj
    intro C β m a w b cs hG hn hr
    obtain ⟨v, w1, β1, m1, x, st1, hs1, hQ, hrel, hv⟩ := h C β m fr a w (hG.trans hr.fresh.1) hr (fun y _ => ev_rel (hG.trans hr.fresh.1) hr y) b k cs ops i js hj.1 (by simp [Region.wanted, hg])
    obtain ⟨a', w', fr', st', β', m', todo', hR, hrel', hs⟩ := g x st1 hQ js (by simpa using hj.2) C β1 m1 (a.put o.dst v) w1 b cs hG hn (hrel.put o.dst hv)
    exact ⟨a', w', fr', st', β', m', todo', hR, hrel', hs1.trans hs⟩

theorem wanted_iff {C : Cx} {β : List BV} {m : Mem} {a : Act} {w : World} {ops : Array Oper} {o : Oper} {j d : Nat} {want t : Bool} (hr : Rel C β m fr st a w) (hg : o.guard = some (j, want)) (hd : (ops[j]?).bind (·.dst) = some d) (hv : fr.getD d .any = .bool t) :
    Region.wanted o (yielded ops a.tmps) = (t == want) := by
  have e : a.tmps.getD d undef = .bool t := by
    have := hr.frm.getD d
    rw [hv] at this
    exact RelV.bool_iff.1 this
  have hy : yielded ops a.tmps j = some t := by
    have hin : a.tmps[d]? = some (.bool t) := by
      rw [Array.getD_eq_getD_getElem?] at e
      cases hq : a.tmps[d]? with
      | none => rw [hq] at e; simp [undef] at e
      | some x => rw [hq] at e; simp at e; rw [e]
    simp [yielded, hd, hin]
  simp [Region.wanted, hg, hy]

theorem AOps.yes {ops : Array Oper} {o : Oper} {l : List Oper} {j d : Nat} {want : Bool} {Q : AV → List Ob → Prop} (hg : o.guard = some (j, want)) (hd : (ops[j]?).bind (·.dst) = some d) (hv : fr.getD d .any = .bool want)
    (h : OpOk E o (av E fr) st Q) (g : ∀ x st', Q x st' → AOps E n0 ops l k (putA fr o.dst x) st' R) : AOps E n0 ops (o :: l) k fr st R := by
  intro js hj
  cases js with
  | nil => simp at hj
  | cons i js =>
    simp at hj
    intro C β m a w b cs hG hn hr
    obtain ⟨v, w1, β1, m1, x, st1, hs1, hQ, hrel, hv1⟩ := h C β m fr a w (hG.trans hr.fresh.1) hr (fun y _ => ev_rel (hG.trans hr.fresh.1) hr y) b k cs ops i js hj.1 (by rw [wanted_iff hr hg hd hv]; simp)
    obtain ⟨a', w', fr', st', β', m', todo', hR, hrel', hs⟩ := g x st1 hQ js (by simpa using hj.2) C β1 m1 (a.put o.dst v) w1 b cs hG hn (hrel.put o.dst hv1)
    exact ⟨a', w', fr', st', β', m', todo', hR, hrel', hs1.trans hs⟩

/-- A guard that is off, or was not looked at. -/
def offA (want : Bool) : AV → Bool
  | .bool b => b == !want
  | .tup [] => true
  | _ => false
theorem rel_undef (β : List BV) (m : Mem) : RelV β m undef (.tup []) := .tup #[] [] rfl (fun i u c h => by simp at h)
theorem not_wanted {C : Cx} {β : List BV} {m : Mem} {a : Act} {w : World} {ops : Array Oper} {o : Oper} {j d : Nat} {want : Bool} (hr : Rel C β m fr st a w) (hg : o.guard = some (j, want)) (hd : (ops[j]?).bind (·.dst) = some d) (hv : offA want (fr.getD d .any) = true) :
    Region.wanted o (yielded ops a.tmps) = false := by
  have h0 := hr.frm.getD d
  cases hx : fr.getD d .any with
  | bool t =>
    rw [hx] at hv
    rw [wanted_iff hr hg hd hx]
    cases t <;> cases want <;> simp_all [offA]
  | tup vs =>
    rw [hx] at hv h0
    cases vs with
    | cons x xs => simp [offA] at hv
    | nil =>
      obtain ⟨us, e, hl⟩ := RelV.tup_iff.1 h0
      have hy : yielded ops a.tmps j = none := by
        unfold yielded
        rw [hd]
        rw [Array.getD_eq_getD_getElem?] at e
        show (match a.tmps[d]? with | some (.bool b) => some b | _ => none) = none
        cases hq : a.tmps[d]? with
        | none => rfl
        | some x => rw [hq] at e; simp at e; rw [e]
      simp [Region.wanted, hg, hy]
  | _ => rw [hx] at hv; simp [offA] at hv
theorem AOps.no {ops : Array Oper} {o : Oper} {l : List Oper} {j d : Nat} {want : Bool} (hg : o.guard = some (j, want)) (hd : (ops[j]?).bind (·.dst) = some d) (hv : offA want (fr.getD d .any) = true)
    (g : AOps E n0 ops l k (putA fr o.dst (.tup [])) st R) : AOps E n0 ops (o :: l) k fr st R := by
  intro js hj
  cases js with
  | nil => simp at hj
  | cons i js =>
    simp at hj
    intro C β m a w b cs hG hn hr
    obtain ⟨a', w', fr', st', β', m', todo', hR, hrel, hs⟩ := g js (by simpa using hj.2) C β m (a.put o.dst undef) w b cs hG hn (hr.put o.dst (rel_undef β m))
    refine ⟨a', w', fr', st', β', m', todo', hR, hrel, Steps.head ?_ hs⟩
    have hw := not_wanted hr hg hd hv
    have hs := step_op_skip (P := E.P) (b := b) (a := a) (k := k) (cs := cs) (w := w) (ops := ops) (i := i) (rest := js) (by simp [hj.1, hw])
    simpa [hj.1] using hs

/-- Where the guard's value isn't known: both ways. -/
theorem AOps.split {ops : Array Oper} {l : List Oper} {d : Nat} {t : Bool} (hv : fr.getD d .any = .bool t) (h1 : t = true → AOps E n0 ops l k (fr.set d (.bool true)) st R) (h2 : t = false → AOps E n0 ops l k (fr.set d (.bool false)) st R) : AOps E n0 ops l k fr st R := by
  have e : fr.set d (.bool t) = fr := by
    apply List.ext_getElem?
    intro i
    rw [List.getElem?_set]
    split
    · rename_i h; subst h
      rw [List.getD_eq_getElem?_getD] at hv
      split
      · rename_i hlt
        rw [List.getElem?_eq_getElem hlt] at hv ⊢
        simp at hv; simp [hv]
      · rename_i hlt
        rw [List.getElem?_eq_none (Nat.le_of_not_lt hlt)]
    · rfl
  cases t
  · have := h2 rfl; rw [e] at this; exact this
  · have := h1 rfl; rw [e] at this; exact this

theorem step_val {P : Program} {b : Frame} {a : Act} {cs : List Frame} {w w' : World} {ops : Array Oper} {i : Nat} {rest : List Nat} {o : Oper} {v : Value} (ho : ops[i]? = some o) (hw : Region.wanted o (yielded ops a.tmps) = true)
    (hr : (execOp a.eval o).run P w = .ok (.value v) w') : step P (lone (b.at a (.inRegion ops (i :: rest) :: k)) cs w) = .next (lone (b.at (a.put o.dst v) (.inRegion ops rest :: k)) cs w') := by
  have hg := stepG_op (P := P) (b := b) (k := k) (cs := cs) (w := w) (rest := rest) ho hw
  have hfin : (b.at a (.inRegion ops (i :: rest) :: k)).finish v = b.at (a.put o.dst v) (.inRegion ops rest :: k) := by rw [Frame.finish_at, ho]; rfl
  exact step_lone_go (by rw [hg, ← hfin]; simp [stepG.apply, hr])
theorem step_skp {P : Program} {b : Frame} {a : Act} {cs : List Frame} {w w' : World} {ops : Array Oper} {i : Nat} {rest : List Nat} {o : Oper} (ho : ops[i]? = some o) (hw : Region.wanted o (yielded ops a.tmps) = true)
    (hr : (execOp a.eval o).run P w = .ok .skip w') : step P (lone (b.at a (.inRegion ops (i :: rest) :: k)) cs w) = .next (lone (b.at (a.put o.dst undef) (.inRegion ops rest :: k)) cs w') := by
  have hg := stepG_op (P := P) (b := b) (k := k) (cs := cs) (w := w) (rest := rest) ho hw
  have hfin : (b.at a (.inRegion ops (i :: rest) :: k)).finish undef = b.at (a.put o.dst undef) (.inRegion ops rest :: k) := by rw [Frame.finish_at, ho]; rfl
  exact step_lone_go (by rw [hg, ← hfin]; simp [stepG.apply, hr])

/-- That value, those objects. -/
def Just (x : AV) (st : List Ob) : AV → List Ob → Prop := fun y t => y = x ∧ t = st
/-- An operation that gives a value, and may turn the world. -/
theorem OpOk.run {o : Oper} {g : Operand → AV} {Q : AV → List Ob → Prop}
    (h : ∀ (C : Cx) β m fr a w, MemLe E.mG m → Rel C β m fr st a w → (∀ y ∈ o.op.operands, RelV β m (a.eval y) (g y)) → ∃ v w' β' m' x st', (execOp a.eval o).run E.P w = .ok (.value v) w' ∧ Q x st' ∧ Rel C β' m' fr st' a w' ∧ RelV β' m' v x) : OpOk E o g st Q := by
  intro C β m fr a w hG hr hg b k cs ops i rest ho hw
  obtain ⟨v, w1, β1, m1, x, st1, hrun, hQ, hrel, hv⟩ := h C β m fr a w hG hr hg
  exact ⟨v, w1, β1, m1, x, st1, .one (step_val ho hw hrun), hQ, hrel, hv⟩
theorem OpOk.runSkip {o : Oper} {g : Operand → AV} {st' : List Ob}
    (h : ∀ (C : Cx) β m fr a w, MemLe E.mG m → Rel C β m fr st a w → (∀ y ∈ o.op.operands, RelV β m (a.eval y) (g y)) → ∃ w' β' m', (execOp a.eval o).run E.P w = .ok .skip w' ∧ Rel C β' m' fr st' a w') : OpOk E o g st (Just .any st') := by
  intro C β m fr a w hG hr hg b k cs ops i rest ho hw
  obtain ⟨w1, β1, m1, hrun, hrel⟩ := h C β m fr a w hG hr hg
  exact ⟨undef, w1, β1, m1, .any, st', .one (step_skp ho hw hrun), ⟨rfl, rfl⟩, hrel, .any _⟩
/-- An operation that gives a value, and leaves the world. -/
theorem OpOk.val {o : Oper} {g : Operand → AV} {x : AV}
    (h : ∀ β m (a : Act) w, (∀ y ∈ o.op.operands, RelV β m (a.eval y) (g y)) → ∃ v, (execOp a.eval o).run E.P w = .ok (.value v) w ∧ RelV β m v x) : OpOk E o g st (Just x st) :=
  .run (fun _ β m _ a w _ hr hg => let ⟨v, h1, h2⟩ := h β m a w hg; ⟨v, w, β, m, x, st, h1, ⟨rfl, rfl⟩, hr, h2⟩)
theorem AOps.op1 {ops : Array Oper} {o : Oper} {l : List Oper} {x : AV} {st' : List Ob} (hg : o.guard = none) (h : OpOk E o (av E fr) st (Just x st')) (g : AOps E n0 ops l k (putA fr o.dst x) st' R) : AOps E n0 ops (o :: l) k fr st R :=
  .op hg h fun y t ⟨e1, e2⟩ => by subst e1; subst e2; exact g
theorem AOps.yes1 {ops : Array Oper} {o : Oper} {l : List Oper} {j d : Nat} {want : Bool} {x : AV} {st' : List Ob} (hg : o.guard = some (j, want)) (hd : (ops[j]?).bind (·.dst) = some d) (hv : fr.getD d .any = .bool want)
    (h : OpOk E o (av E fr) st (Just x st')) (g : AOps E n0 ops l k (putA fr o.dst x) st' R) : AOps E n0 ops (o :: l) k fr st R :=
  .yes hg hd hv h fun y t ⟨e1, e2⟩ => by subst e1; subst e2; exact g

/-! ### Calls -/
theorem Rel.after {C : Cx} {β β' : List BV} {m m' : Mem} {fr : List AV} {st st' : List Ob} {a : Act} {w w' : World} (hr : Rel C β m fr st a w)
    (hp : BLe β β') (hf : Fresh (Own β) w m m') (hi : Inv β' m' w' st') (hk : Keep (Own β) w w') (hn : ∀ (o : Nat) bv b, β'[o]? = some bv → bv.blk = some b → w.heap.size ≤ b ∨ Own β b) : Rel C β' m' fr st' a w' := by
  have hown : ∀ b, Own β b → C.w0.heap.size ≤ b ∨ Own C.β0 b := fun b ⟨o, v, h, e⟩ => hr.new o v b h e
  refine ⟨hr.pre.trans hp, ⟨hr.fresh.1.trans hf.1, fun b o v h => ?_⟩, hi, hr.keep.trans hk fun i hlt ho => ?_, fun o b v h e => ?_, hr.frm.mono hp hf.1, hr.dfr⟩
  · rcases hf.2 b o v h with h | h | h
    · exact hr.fresh.2 b o v h
    · exact .inr (.inl (Nat.le_trans hr.keep.size h))
    · rcases hown b h with h | h
      · exact .inr (.inl h)
      · exact .inr (.inr h)
  · rcases hown i ho with h | h
    · omega
    · exact h
  · rcases hn o b v h e with h | h
    · exact .inl (Nat.le_trans hr.keep.size h)
    · exact hown v h
end rules
end Rm

namespace Rm
open Go
open Go.RowKit

def lo : IntKind → Int
  | .i8 => -128 | .i16 => -32768 | .i32 => -2147483648 | .i64 => -9223372036854775808 | _ => 0
def hi : IntKind → Int
  | .i8 => 127 | .i16 => 32767 | .i32 => 2147483647 | .i64 => 9223372036854775807 | .u8 => 255 | .u16 => 65535 | .u32 => 4294967295 | .u64 => 18446744073709551615
theorem wrap_in {k : IntKind} {n : Int} (h1 : lo k ≤ n) (h2 : n ≤ hi k) : k.wrap n = n := by
  cases k <;> simp only [lo, hi] at h1 h2 <;> simp [IntKind.wrap, IntKind.bits, IntKind.signed] <;> omega
theorem wrap_lo (k : IntKind) (n : Int) : lo k ≤ k.wrap n := by
  cases k <;> simp [IntKind.wrap, IntKind.bits, IntKind.signed, lo] <;> omega
theorem wrap_hi (k : IntKind) (n : Int) : k.wrap n ≤ hi k := by
  cases k <;> simp [IntKind.wrap, IntKind.bits, IntKind.signed, hi] <;> omega
def inK (k : IntKind) (n : Int) : Prop := lo k ≤ n ∧ n ≤ hi k

/-- '&', '|', '^', '&^' of two numbers. -/
def bitsI (op : BinOp) (k : IntKind) (a b : Int) : Int :=
  let x := BitVec.ofInt k.bits a
  let y := BitVec.ofInt k.bits b
  k.wrap (match op with
  | .and => x &&& y
  | .or => x ||| y
  | .xor => x ^^^ y
  | _ => x &&& ~~~y).toNat

def binI (op : BinOp) (k : IntKind) (a b : Int) : Option AV :=
  match op with
  | .add => some (.int k (k.wrap (a + b)))
  | .sub => some (.int k (k.wrap (a - b)))
  | .mul => some (.int k (k.wrap (a * b)))
  | .and => some (.int k (bitsI .and k a b))
  | .or => some (.int k (bitsI .or k a b))
  | .xor => some (.int k (bitsI .xor k a b))
  | .eql => some (.bool (a == b))
  | .neq => some (.bool (a != b))
  | .lss => some (.bool (decide (a < b)))
  | .leq => some (.bool (decide (a ≤ b)))
  | .gtr => some (.bool (decide (b < a)))
  | .geq => some (.bool (decide (b ≤ a)))
  | _ => none

section vals
variable {E : Env} {g : Operand → AV} {st : List Ob} {d : Option Tmp} {t : TypeId} {p : String} {af : Array Edge} {gd : Option (Nat × Bool)}

theorem op_move {x : Operand} : OpOk E ⟨d, .move x, t, p, af, gd⟩ g st (Just (g x) st) :=
  .val fun β m a w hg => ⟨a.eval x, rfl, hg x (by simp [Op.operands])⟩
theorem op_assign {x : Operand} : OpOk E ⟨d, .assign x, t, p, af, gd⟩ g st (Just (g x) st) :=
  .val fun β m a w hg => ⟨a.eval x, rfl, hg x (by simp [Op.operands])⟩
theorem op_pick {c x y : Operand} {b : Bool} {r : AV} (hc : g c = .bool b) (hr : (match b with | true => g x | false => g y) = r) : OpOk E ⟨d, .pick c x y, t, p, af, gd⟩ g st (Just r st) :=
  .val fun β m a w hg => by
    have h0 := hg c (by simp [Op.operands])
    rw [hc] at h0
    have h0 := RelV.bool_iff.1 h0
    subst hr
    cases b
    · exact ⟨a.eval y, by simp [execOp, h0, asBool], hg y (by simp [Op.operands])⟩
    · exact ⟨a.eval x, by simp [execOp, h0, asBool], hg x (by simp [Op.operands])⟩
theorem op_extract {x : Operand} {i : Nat} {vs : List AV} {r : AV} (hx : g x = .tup vs) (hr : vs[i]? = some r) : OpOk E ⟨d, .extract x i, t, p, af, gd⟩ g st (Just r st) :=
  .val fun β m a w hg => by
    have h0 := hg x (by simp [Op.operands])
    rw [hx] at h0
    obtain ⟨us, e, hl⟩ := RelV.tup_iff.1 h0
    obtain ⟨u, hu, hr⟩ := hl.get i hr
    refine ⟨u, ?_, hr⟩
    have : us[i]? = some u := by simpa using hu
    simp [execOp, e, Instr.extract, this]
theorem op_makeFunc {f : Fn} {xs ys : Array Operand} : OpOk E ⟨d, .makeFunc f xs ys, t, p, af, gd⟩ g st (Just (.fn f (xs.toList.map g) (ys.toList.map g)) st) :=
  .val fun β m a w hg => by
    refine ⟨_, rfl, .fn f _ _ _ _ (by simp) (by simp) (fun i u c hu hc => ?_) (fun i u c hu hc => ?_)⟩
    · simp only [Array.getElem?_map, Option.map_eq_some_iff] at hu
      obtain ⟨y, hy, rfl⟩ := hu
      simp only [List.getElem?_map, Array.getElem?_toList, hy, Option.map_some, Option.some.injEq] at hc
      subst hc
      exact hg y (by simp only [Op.operands, Array.mem_append]; exact .inl (Array.mem_of_getElem? hy))
    · simp only [Array.getElem?_map, Option.map_eq_some_iff] at hu
      obtain ⟨y, hy, rfl⟩ := hu
      simp only [List.getElem?_map, Array.getElem?_toList, hy, Option.map_some, Option.some.injEq] at hc
      subst hc
      exact hg y (by simp only [Op.operands, Array.mem_append]; exact .inr (Array.mem_of_getElem? hy))

theorem eval_int {β : List BV} {m : Mem} {a : Act} {x : Operand} {k : IntKind} {n : Int} (h : RelV β m (a.eval x) (g x)) (hx : g x = .int k n) : a.eval x = .int k n := by
  rw [hx] at h; exact RelV.int_iff.1 h
theorem eval_bool {β : List BV} {m : Mem} {a : Act} {x : Operand} {b : Bool} (h : RelV β m (a.eval x) (g x)) (hx : g x = .bool b) : a.eval x = .bool b := by
  rw [hx] at h; exact RelV.bool_iff.1 h
theorem eval_str {β : List BV} {m : Mem} {a : Act} {x : Operand} {l : List UInt8} (h : RelV β m (a.eval x) (g x)) (hx : g x = .str l) : ∃ s : ByteArray, a.eval x = .string s ∧ s.data.toList = l := by
  rw [hx] at h; exact RelV.str_iff.1 h

theorem op_bin {op : BinOp} {xt yt : TypeId} {x y : Operand} {k : IntKind} {n q : Int} {r : AV} (hx : g x = .int k n) (hy : g y = .int k q) (hr : binI op k n q = some r) : OpOk E ⟨d, .binOp op xt x y yt, t, p, af, gd⟩ g st (Just r st) :=
  .val fun β m a w hg => by
    have e1 := eval_int (hg x (by simp [Op.operands])) hx
    have e2 := eval_int (hg y (by simp [Op.operands])) hy
    cases op <;> simp only [binI, Option.some.injEq, reduceCtorEq] at hr <;> subst hr <;>
      exact ⟨_, by simp [execOp, eqGuard, binOp, e1, e2, Op.intArith, Op.intBits, Op.intCmp]; rfl, by first | exact .int _ _ | exact .bool _⟩
theorem op_arith {op : BinOp} {xt yt : TypeId} {x y : Operand} {k : IntKind} {n q r : Int} (hx : g x = .int k n) (hy : g y = .int k q) (hr : (match op with | .add => n + q | .sub => n - q | .mul => n * q | _ => hi k + 1) = r) (h1 : lo k ≤ r) (h2 : r ≤ hi k) : OpOk E ⟨d, .binOp op xt x y yt, t, p, af, gd⟩ g st (Just (.int k r) st) := by
  refine op_bin hx hy ?_
  cases op <;> simp only at hr <;> first | (subst hr; simp [binI, wrap_in h1 h2]; done) | (exfalso; omega)
theorem op_quo {xt yt : TypeId} {x y : Operand} {k : IntKind} {n q : Int} (hx : g x = .int k n) (hy : g y = .int k q) (h0 : 0 ≤ n) (h1 : 0 < q) (h2 : n ≤ hi k) : OpOk E ⟨d, .binOp .quo xt x y yt, t, p, af, gd⟩ g st (Just (.int k (n / q)) st) :=
  .val fun β m a w hg => by
    have e1 := eval_int (hg x (by simp [Op.operands])) hx
    have e2 := eval_int (hg y (by simp [Op.operands])) hy
    have hq : q ≠ 0 := by omega
    have hd : 0 ≤ n / q := Int.ediv_nonneg h0 (by omega)
    have hle : n / q ≤ n := Int.ediv_le_self _ h0
    have hl : lo k ≤ 0 := by cases k <;> simp [lo]
    refine ⟨_, ?_, .int _ _⟩
    simp [execOp, eqGuard, binOp, e1, e2, Op.intDiv, hq, Int.tdiv_eq_ediv_of_nonneg h0, wrap_in (k := k) (n := n / q) (by omega) (by omega)]
theorem op_rem {xt yt : TypeId} {x y : Operand} {k : IntKind} {n q : Int} (hx : g x = .int k n) (hy : g y = .int k q) (h0 : 0 ≤ n) (h1 : 0 < q) : OpOk E ⟨d, .binOp .rem xt x y yt, t, p, af, gd⟩ g st (Just (.int k (n % q)) st) :=
  .val fun β m a w hg => by
    have e1 := eval_int (hg x (by simp [Op.operands])) hx
    have e2 := eval_int (hg y (by simp [Op.operands])) hy
    have hq : q ≠ 0 := by omega
    refine ⟨_, ?_, .int _ _⟩
    simp [execOp, eqGuard, binOp, e1, e2, Op.intDiv, hq, Int.tmod_eq_emod_of_nonneg h0]
theorem op_shl {xt yt : TypeId} {x y : Operand} {k k' : IntKind} {n q : Int} (hx : g x = .int k n) (hy : g y = .int k' q) (h0 : 0 ≤ q) : OpOk E ⟨d, .binOp .shl xt x y yt, t, p, af, gd⟩ g st (Just (.int k (k.wrap (n * 2 ^ (min q.toNat k.bits)))) st) :=
  .val fun β m a w hg => by
    have e1 := eval_int (hg x (by simp [Op.operands])) hx
    have e2 := eval_int (hg y (by simp [Op.operands])) hy
    have hq : ¬ q < 0 := by omega
    refine ⟨_, ?_, .int _ _⟩
    simp [execOp, eqGuard, binOp, e1, e2, Op.shift, hq]
theorem op_shr {xt yt : TypeId} {x y : Operand} {k k' : IntKind} {n q : Int} (hx : g x = .int k n) (hy : g y = .int k' q) (h0 : 0 ≤ q) : OpOk E ⟨d, .binOp .shr xt x y yt, t, p, af, gd⟩ g st (Just (.int k (n.fdiv (2 ^ (min q.toNat k.bits)))) st) :=
  .val fun β m a w hg => by
    have e1 := eval_int (hg x (by simp [Op.operands])) hx
    have e2 := eval_int (hg y (by simp [Op.operands])) hy
    have hq : ¬ q < 0 := by omega
    refine ⟨_, ?_, .int _ _⟩
    simp [execOp, eqGuard, binOp, e1, e2, Op.shift, hq]

theorem bytes_eq (s s' : ByteArray) : (s.toList == s'.toList) = (s.data.toList == s'.data.toList) := by
  rw [ByteArray.toList_eq, ByteArray.toList_eq]
theorem size_toList (s : ByteArray) : s.size = s.data.toList.length := by simp
/-- Strings. -/
theorem op_strEq {xt yt : TypeId} {x y : Operand} {l l' : List UInt8} (hx : g x = .str l) (hy : g y = .str l') : OpOk E ⟨d, .binOp .eql xt x y yt, t, p, af, gd⟩ g st (Just (.bool (l == l')) st) :=
  .val fun β m a w hg => by
    obtain ⟨s, e1, h1⟩ := eval_str (hg x (by simp [Op.operands])) hx
    obtain ⟨s', e2, h2⟩ := eval_str (hg y (by simp [Op.operands])) hy
    refine ⟨.bool (l == l'), ?_, .bool _⟩
    subst h1; subst h2
    simp only [execOp, eqGuard, binOp, e1, e2, Op.stringOp, bytes_eq]
    rfl
theorem op_strNe {xt yt : TypeId} {x y : Operand} {l l' : List UInt8} (hx : g x = .str l) (hy : g y = .str l') : OpOk E ⟨d, .binOp .neq xt x y yt, t, p, af, gd⟩ g st (Just (.bool (l != l')) st) :=
  .val fun β m a w hg => by
    obtain ⟨s, e1, h1⟩ := eval_str (hg x (by simp [Op.operands])) hx
    obtain ⟨s', e2, h2⟩ := eval_str (hg y (by simp [Op.operands])) hy
    refine ⟨.bool (l != l'), ?_, .bool _⟩
    subst h1; subst h2
    simp only [execOp, eqGuard, binOp, e1, e2, Op.stringOp, bytes_eq]
    rfl
theorem op_strAdd {xt yt : TypeId} {x y : Operand} {l l' : List UInt8} (hx : g x = .str l) (hy : g y = .str l') (hs : l.length + l'.length ≤ 9223372036854775807) : OpOk E ⟨d, .binOp .add xt x y yt, t, p, af, gd⟩ g st (Just (.str (l ++ l')) st) :=
  .val fun β m a w hg => by
    obtain ⟨s, e1, h1⟩ := eval_str (hg x (by simp [Op.operands])) hx
    obtain ⟨s', e2, h2⟩ := eval_str (hg y (by simp [Op.operands])) hy
    have z1 : s.size = l.length := by rw [← h1]; exact size_toList _
    have z2 : s'.size = l'.length := by rw [← h2]; exact size_toList _
    refine ⟨.string (s ++ s'), ?_, .str _ _ (by simp [h1, h2])⟩
    simp only [execOp, eqGuard, binOp, e1, e2, Op.stringOp]
    simp
    omega
theorem op_not {xt : TypeId} {x : Operand} {b : Bool} (hx : g x = .bool b) : OpOk E ⟨d, .unOp .not xt x, t, p, af, gd⟩ g st (Just (.bool (!b)) st) :=
  .val fun β m a w hg => ⟨.bool (!b), by simp [execOp, eval_bool (hg x (by simp [Op.operands])) hx, Op.unary], .bool _⟩
theorem op_xor1 {xt : TypeId} {x : Operand} {k : IntKind} {n : Int} (hx : g x = .int k n) : OpOk E ⟨d, .unOp .xor xt x, t, p, af, gd⟩ g st (Just (.int k (bitsI .xor k (if k.signed then -1 else k.max) n)) st) :=
  .val fun β m a w hg => ⟨_, by simp [execOp, eval_int (hg x (by simp [Op.operands])) hx, Op.unary, Op.intBits]; rfl, .int _ _⟩
/-- From one kind of whole numbers to another one. -/
theorem op_convInt {s e : TypeId} {x : Operand} {k k' : IntKind} {n : Int} {S D : TD} {r : Int} (hx : g x = .int k n) (hS : E.tab s = some S) (hD : E.tab e = some D) (hu : D.u = .int k') (hr : k'.wrap n = r) : OpOk E ⟨d, .convert s e x, t, p, af, gd⟩ g st (Just (.int k' r) st) :=
  .val fun β m a w hg => by
    subst hr
    have e1 := eval_int (hg x (by simp [Op.operands])) hx
    have h1 := (E.tab_ok s S hS).1
    have h2 := (E.tab_ok e D hD).1
    rw [hu] at h2
    refine ⟨.int k' (k'.wrap n), ?_, .int _ _⟩
    simp only [execOp, convert, Sem.run_bind, run_underlying h1, run_underlying h2, Result.andThen, e1]
    cases S.u <;> simp [Conv.intToInt]
theorem op_lenStr {x : Operand} {l : List UInt8} {T : TypeId} {S : TD} (hx : g x = .str l) (hS : E.tab T = some S) (hu : S.u = .string) : OpOk E ⟨d, .call ⟨.builtin .len, #[x], #[T]⟩, t, p, af, gd⟩ g st (Just (.int .i64 l.length) st) :=
  .val fun β m a w hg => by
    obtain ⟨s, e1, h1⟩ := eval_str (hg x (by simp [Op.operands, Call.operands])) hx
    have h2 := (E.tab_ok T S hS).1
    rw [hu] at h2
    have z1 : s.size = l.length := by rw [← h1]; exact size_toList _
    refine ⟨.int .i64 l.length, ?_, .int _ _⟩
    simp [execOp, resolve, invoke, builtin, Builtin.len_, e1, run_underlying h2, goInt, z1]
theorem op_min {x y : Operand} {T T' : TypeId} {k : IntKind} {n q : Int} (hx : g x = .int k n) (hy : g y = .int k q) : OpOk E ⟨d, .call ⟨.builtin .min, #[x, y], #[T, T']⟩, t, p, af, gd⟩ g st (Just (.int k (if q < n then q else n)) st) :=
  .val fun β m a w hg => by
    have e1 := eval_int (hg x (by simp [Op.operands, Call.operands])) hx
    have e2 := eval_int (hg y (by simp [Op.operands, Call.operands])) hy
    refine ⟨_, ?_, .int _ _⟩
    simp [execOp, resolve, invoke, builtin, Builtin.min_, Builtin.min2, e1, e2]
theorem op_max {x y : Operand} {T T' : TypeId} {k : IntKind} {n q : Int} (hx : g x = .int k n) (hy : g y = .int k q) : OpOk E ⟨d, .call ⟨.builtin .max, #[x, y], #[T, T']⟩, t, p, af, gd⟩ g st (Just (.int k (if n < q then q else n)) st) :=
  .val fun β m a w hg => by
    have e1 := eval_int (hg x (by simp [Op.operands, Call.operands])) hx
    have e2 := eval_int (hg y (by simp [Op.operands, Call.operands])) hy
    refine ⟨_, ?_, .int _ _⟩
    simp [execOp, resolve, invoke, builtin, Builtin.max_, Builtin.max2, e1, e2]
end vals
end Rm

namespace Rm
open Go
open Go.RowKit

theorem cell_none_of_heap {w : World} {b i : Nat} (h : w.heap.size ≤ b) : w.cell? ⟨b, i, none⟩ = none := by
  simp [World.cell?, Array.getElem?_eq_none h]
theorem MemOk.lt {m : Mem} {w : World} (h : MemOk m w) {b o : Nat} {v : Value} (e : m b o = some v) : b < w.heap.size := by
  rcases Nat.lt_or_ge b w.heap.size with hl | hl
  · exact hl
  · have := h b o v e
    rw [cell_none_of_heap hl] at this
    cases this
theorem MemOk.none {m : Mem} {w : World} (h : MemOk m w) {b : Nat} (hb : w.heap.size ≤ b) (o : Nat) : m b o = none := by
  cases e : m b o with
  | none => rfl
  | some v => have := h.lt e; omega

theorem RelO.congr {β β' : List BV} {m m' : Mem} {w w' : World} {bv : BV} {ob : Ob} (hb : BLe β β') (hm : MemLe m m') (h : RelO β m w bv ob)
    (hs : ∀ b i, bv.blk = some b → m b i = none → m' b i = none) (hh : ∀ b, bv.blk = some b → w'.heap[b]? = w.heap[b]?) : RelO β' m' w' bv ob := by
  cases ob with
  | dead => trivial
  | var cs =>
    obtain ⟨b, vs, t, n, rfl, h1, h2, h3⟩ := h
    exact ⟨b, vs, t, n, rfl, (hh b rfl).trans h1, h2.mono hb hm, fun i => hs b i rfl (h3 i)⟩
  | row ver sz es fz =>
    rcases h with ⟨rfl, h0, a, rfl⟩ | ⟨b, c, vs, t, rfl, h1, h2, h3, h5, h6, h7, h8, h9⟩
    · exact .inl ⟨rfl, h0, a, rfl⟩
    · refine .inr ⟨b, c, vs, t, rfl, (hh b rfl).trans h1, h2, h3, h5, h6, h7.mono hb hm, fun i hi => hs b i rfl (h8 i hi), ?_⟩
      cases fz with
      | false => exact fun i => hs b i rfl (h9 i)
      | true =>
        intro i hi
        have := h9 i hi
        cases e : vs[i]? with
        | none => rw [e] at this; rw [hs b i rfl this]
        | some v => rw [e] at this; exact hm _ _ _ this
  | map es =>
    obtain ⟨b, ents, ck, n, rfl, h1, h2, hbn, h3, h4⟩ := h
    exact ⟨b, ents, ck, n, rfl, (hh b rfl).trans h1, h2, hbn, fun i x y hx hy => ⟨(h3 i x y hx hy).1.mono hb hm, (h3 i x y hx hy).2.mono hb hm⟩, fun i => hs b i rfl (h4 i)⟩

/-- A block of one's own is another one. -/
theorem Inv.update {β : List BV} {m : Mem} {w w' : World} {st : List Ob} {o b : Nat} {bv : BV} {ob : Ob} (h : Inv β m w st) (hb : β[o]? = some bv) (hk : bv.blk = some b)
    (hm : ∀ i v, m b i = some v → w'.cell? ⟨b, i, none⟩ = some v) (hw : ∀ r, r ≠ b → w'.heap[r]? = w.heap[r]?) (hs : w.heap.size ≤ w'.heap.size) (hO : RelO β m w' bv ob) : Inv β m w' (st.set o ob) := by
  refine ⟨by simp [h.len], fun b' i v e => ?_, fun o' bv' ob' hb' ho' => ?_, h.apart, fun o' bv' b' hb' hk' => Nat.lt_of_lt_of_le (h.lt o' bv' b' hb' hk') hs⟩
  · by_cases hbb : b' = b
    · subst hbb; exact hm i v e
    · have := h.mem b' i v e
      simpa [World.cell?, hw b' hbb] using this
  · rw [List.getElem?_set] at ho'
    by_cases ho : o = o'
    · subst ho
      rw [hb] at hb'; cases hb'
      split at ho'
      · split at ho' <;> simp at ho'; subst ho'; exact hO
      · contradiction
    · simp [ho] at ho'
      refine (h.obj o' bv' ob' hb' ho').congr (BLe.refl _) (MemLe.refl _) (fun _ _ _ e => e) fun b' hk' => hw b' fun e => ?_
      subst e
      exact h.apart o o' bv bv' b' ho hb hb' hk hk'

theorem Rel.update {C : Cx} {β : List BV} {m : Mem} {fr : List AV} {st : List Ob} {a : Act} {w w' : World} {o b : Nat} {bv : BV} {ob : Ob} (h : Rel C β m fr st a w) (hb : β[o]? = some bv) (hk : bv.blk = some b)
    (hos : w'.os = w.os) (htp : w'.tape = w.tape) (hou : w'.output = w.output)
    (hm : ∀ i v, m b i = some v → w'.cell? ⟨b, i, none⟩ = some v) (hw : ∀ r, r ≠ b → w'.heap[r]? = w.heap[r]?) (hs : w.heap.size ≤ w'.heap.size) (hO : RelO β m w' bv ob) : Rel C β m fr (st.set o ob) a w' :=
  h.after (BLe.refl _) ⟨MemLe.refl _, fun _ _ _ e => .inl e⟩ (h.inv.update hb hk hm hw hs hO) ⟨hos, htp, hou, hs, fun r _ ho => hw r fun e => ho ⟨o, bv, hb, e ▸ hk⟩⟩ fun o' bv' _ hb' hk' => .inr ⟨o', bv', hb', hk'⟩

theorem getElem?_snoc {α : Type} {l : List α} {x y : α} {i : Nat} (h : (l ++ [x])[i]? = some y) : l[i]? = some y ∨ (i = l.length ∧ y = x) := by
  rcases Nat.lt_trichotomy i l.length with hl | hl | hl
  · rw [List.getElem?_append_left hl] at h; exact .inl h
  · subst hl; simp at h; exact .inr ⟨rfl, h.symm⟩
  · rw [List.getElem?_eq_none (by simp; omega)] at h; cases h

theorem heap_alloc_ne {w : World} {o : Obj} {r : Nat} (h : r ≠ w.heap.size) : (w.alloc o).heap[r]? = w.heap[r]? := by
  show (w.heap.push o)[r]? = _
  rw [Array.getElem?_push, if_neg (by omega)]
theorem heap_alloc_eq {w : World} {o : Obj} : (w.alloc o).heap[w.heap.size]? = some o := by
  show (w.heap.push o)[w.heap.size]? = _
  rw [Array.getElem?_push, if_pos rfl]
theorem size_alloc {w : World} {o : Obj} : (w.alloc o).heap.size = w.heap.size + 1 := by
  show (w.heap.push o).size = _
  simp

/-- A new object. -/
theorem Rel.newObj {C : Cx} {β : List BV} {m : Mem} {fr : List AV} {st : List Ob} {a : Act} {w w' : World} {bv : BV} {ob : Ob} (h : Rel C β m fr st a w) (hk : ∀ b, bv.blk = some b → b = w.heap.size ∧ w.heap.size < w'.heap.size)
    (hos : w'.os = w.os) (htp : w'.tape = w.tape) (hou : w'.output = w.output) (hs : w.heap.size ≤ w'.heap.size) (hw : ∀ r, r < w.heap.size → w'.heap[r]? = w.heap[r]?) (hO : RelO (β ++ [bv]) m w' bv ob) :
    Rel C (β ++ [bv]) m fr (st ++ [ob]) a w' := by
  refine h.after (BLe.append _ _) ⟨MemLe.refl _, fun _ _ _ e => .inl e⟩ ⟨by simp [h.inv.len], fun b i v e => ?_, fun o bv' ob' hb' ho' => ?_, fun o o' x y b hne hx hy hbx hby => ?_, fun o x b hx hb => ?_⟩
    ⟨hos, htp, hou, hs, fun r hr _ => hw r hr⟩ fun o x b hx hb => ?_
  · have hl := h.inv.mem.lt e
    have := h.inv.mem b i v e
    simpa [World.cell?, hw b hl] using this
  · rcases getElem?_snoc hb' with h1 | ⟨h1, rfl⟩
    · have hlt : o < st.length := h.inv.len ▸ (List.getElem?_eq_some_iff.1 h1).1
      rw [List.getElem?_append_left hlt] at ho'
      exact (h.inv.obj o bv' ob' h1 ho').congr (BLe.append _ _) (MemLe.refl _) (fun _ _ _ e => e) fun b hb => hw b (h.inv.lt o bv' b h1 hb)
    · subst h1
      rw [h.inv.len] at ho'
      simp at ho'
      subst ho'
      exact hO
  · rcases getElem?_snoc hx with h1 | ⟨h1, rfl⟩
    · rcases getElem?_snoc hy with h2 | ⟨h2, rfl⟩
      · exact h.inv.apart o o' x y b hne h1 h2 hbx hby
      · have := h.inv.lt o x b h1 hbx
        have := (hk b hby).1
        omega
    · rcases getElem?_snoc hy with h2 | ⟨h2, rfl⟩
      · have := h.inv.lt o' y b h2 hby
        have := (hk b hbx).1
        omega
      · omega
  · rcases getElem?_snoc hx with h1 | ⟨h1, rfl⟩
    · exact Nat.lt_of_lt_of_le (h.inv.lt o x b h1 hb) hs
    · have := hk b hb; omega
  · rcases getElem?_snoc hx with h1 | ⟨h1, rfl⟩
    · exact .inr ⟨o, x, h1, hb⟩
    · exact .inl (by have := hk b hb; omega)

/-- A new variable. -/
theorem Rel.newVar {C : Cx} {β : List BV} {m : Mem} {fr : List AV} {st : List Ob} {a : Act} {w : World} {vs : Array Value} {cs : List AV} {t : TypeId} (h : Rel C β m fr st a w) (hl : RelL β m vs.toList cs) :
    Rel C (β ++ [⟨some w.heap.size, .pointer (some ⟨w.heap.size, 0, none⟩), true, 0⟩]) m fr (st ++ [.var cs]) a (w.alloc (.cells vs t)) :=
  h.newObj (fun b hb => by simp at hb; subst hb; exact ⟨rfl, by rw [size_alloc]; omega⟩) rfl rfl rfl (by rw [size_alloc]; omega) (fun r hr => heap_alloc_ne (by omega))
    ⟨w.heap.size, vs, t, 0, rfl, heap_alloc_eq, hl.mono (BLe.append _ _) (MemLe.refl _), fun i => h.inv.mem.none (Nat.le_refl _) i⟩

/-- Cells that are shared from now on, in a new block. -/
def share (m : Mem) (b : Nat) (vs : List Value) : Mem := fun b' o => if b' = b then (if o < vs.length then vs[o]? else none) else m b' o
theorem Rel.share {C : Cx} {β : List BV} {m : Mem} {fr : List AV} {st : List Ob} {a : Act} {w w' : World} {vs : List Value} {us : Array Value} {t : TypeId} {f : Nat × Nat} (h : Rel C β m fr st a w) (hu : us.toList.take vs.length = vs)
    (hos : w'.os = w.os) (htp : w'.tape = w.tape) (hou : w'.output = w.output) (hz : w'.heap.size = w.heap.size + 1) (hw : ∀ r, r < w.heap.size → w'.heap[r]? = w.heap[r]?) (hn : w'.heap[w.heap.size]? = some (.cells us t f)) :
    Rel C β (Rm.share m w.heap.size vs) fr st a w' ∧ MemLe m (Rm.share m w.heap.size vs) := by
  have hle : MemLe m (Rm.share m w.heap.size vs) := fun b o v e => by
    have := h.inv.mem.lt e
    simp only [Rm.share, if_neg (show b ≠ w.heap.size by omega)]
    exact e
  refine ⟨?_, hle⟩
  refine h.after (BLe.refl _) ⟨hle, fun b o v e => ?_⟩ ⟨h.inv.len, fun b i v e => ?_, fun o bv' ob' hb' ho' => ?_, h.inv.apart, fun o x b hx hb => by have := h.inv.lt o x b hx hb; omega⟩
    ⟨hos, htp, hou, by omega, fun r hr _ => hw r hr⟩ fun o x b hx hb => .inr ⟨o, x, hx, hb⟩
  · by_cases hb : b = w.heap.size
    · exact .inr (.inl (by omega))
    · simp only [Rm.share, if_neg hb] at e; exact .inl e
  · by_cases hb : b = w.heap.size
    · subst hb
      simp only [Rm.share, if_true] at e
      split at e
      · rename_i hi
        have : us[i]? = some v := by
          rw [← hu, List.getElem?_take, if_pos hi] at e
          simpa using e
        simp [World.cell?, hn, this]
      · cases e
    · simp only [Rm.share, if_neg hb] at e
      have hl := h.inv.mem.lt e
      have := h.inv.mem b i v e
      simpa [World.cell?, hw b hl] using this
  · refine (h.inv.obj o bv' ob' hb' ho').congr (BLe.refl _) hle (fun b i hb e => ?_) fun b hb => hw b (h.inv.lt o bv' b hb' hb)
    have := h.inv.lt o bv' b hb' hb
    simp only [Rm.share, if_neg (show b ≠ w.heap.size by omega)]
    exact e

/-! ### Facts on types -/
def aggB : TypeDesc → Bool
  | .struct _ => true
  | .array _ _ => true
  | _ => false
section types
variable {E : Env} {w : World}
theorem run_isAgg_tab {T : TypeId} {D : TD} (h : E.tab T = some D) : (isAgg T).run E.P w = .ok (aggB D.u) w := by
  have h1 := (E.tab_ok T D h).1
  simp only [isAgg, Sem.run_bind, run_underlying h1, Result.andThen]
  cases D.u <;> simp [aggB]
theorem run_sizeOf_tab {T : TypeId} {D : TD} (h : E.tab T = some D) : (Go.sizeOf T).run E.P w = .ok D.size w := by
  obtain ⟨_, i, hi, hs, _⟩ := E.tab_ok T D h
  rw [Go.run_sizeOf _ hi]
  simp [Program.cellsOf, hi, hs]
theorem run_under_tab {T : TypeId} {D : TD} (h : E.tab T = some D) : (underlying T).run E.P w = .ok D.u w := run_underlying (E.tab_ok T D h).1 w
theorem run_zero_tab {T : TypeId} {D : TD} (h : E.tab T = some D) : ∃ v, (zeroValue T).run E.P w = .ok v w ∧ v.cells.toList.length = D.z.length ∧ ∀ β m, RelL β m v.cells.toList D.z := by
  obtain ⟨_, i, hi, _, _, v, hv, hl, hz⟩ := E.tab_ok T D h
  refine ⟨v, ?_, hl, hz⟩
  simp [zeroValue, Go.run_typeInfo _ hi, hv]
end types

/-- A value's cells. -/
def cellsA : AV → List AV
  | .agg cs => cs
  | y => [y]
/-- One cell, and known. -/
def oneA : AV → Bool
  | .any => false
  | .agg _ => false
  | .tup _ => false
  | _ => true
theorem cells_rel {β : List BV} {m : Mem} {v : Value} {y : AV} (h : RelV β m v y) (hy : oneA y = true ∨ ∃ cs, y = .agg cs) : RelL β m v.cells.toList (cellsA y) := by
  rcases hy with hy | ⟨cs, rfl⟩
  · have e1 : cellsA y = [y] := by cases y <;> first | rfl | cases hy
    have e2 : v.cells.toList = [v] := by
      cases h with
      | row o ver v bv h hf hl hv hs => obtain ⟨a, n, c, rfl⟩ := hs; rfl
      | rptr o ver off v bv h hf hl hv hs => obtain ⟨a, rfl⟩ := hs; rfl
      | one v h => revert h; cases v <;> simp [Value.cells, Value.oneCell']
      | _ => first | rfl | cases hy
    rw [e1, e2]
    exact RelL.cons h RelL.nil
  · obtain ⟨vs, rfl, hl⟩ := RelV.agg_iff.1 h
    exact hl
end Rm

namespace Rm
open Go
open Go.RowKit

/-- Cells from a place on are others. -/
def setR {α : Type} (cs : List α) (off : Nat) (ys : List α) : List α := cs.take off ++ ys ++ cs.drop (off + ys.length)
theorem setR_length {α : Type} {cs ys : List α} {off : Nat} (h : off + ys.length ≤ cs.length) : (setR cs off ys).length = cs.length := by
  simp [setR]; omega
theorem setR_one {α : Type} {cs : List α} {off : Nat} {y : α} (h : off < cs.length) : setR cs off [y] = cs.set off y := by
  simp [setR, List.set_eq_take_append_cons_drop, h]
theorem RelL.setR {β : List BV} {m : Mem} {vs ws : List Value} {cs ds : List AV} (h : RelL β m vs cs) (k : RelL β m ws ds) (off : Nat) : RelL β m (setR vs off ws) (setR cs off ds) := by
  unfold Rm.setR
  rw [k.1]
  exact ((h.take off).append k).append (h.drop _)

theorem heap_setCells_ne (b : Nat) : ∀ (vs : List Value) (o : Nat) (w : World) (r : Nat), r ≠ b → (w.setCells b o vs).heap[r]? = w.heap[r]?
  | [], _, _, _, _ => rfl
  | v :: vs, o, w, r, h => by rw [World.setCells, heap_setCells_ne b vs (o + 1) _ r h, Below.heap_setCell _ _ _ _ h]
theorem heap_setCells_eq (b : Nat) : ∀ (vs : List Value) (o : Nat) (w : World) (us : Array Value) (t : TypeId) (f : Nat × Nat), w.heap[b]? = some (.cells us t f) → o + vs.length ≤ us.size → (w.setCells b o vs).heap[b]? = some (.cells (setR us.toList o vs).toArray t f)
  | [], o, w, us, t, f, h, _ => by simp [World.setCells, h, setR]
  | v :: vs, o, w, us, t, f, h, hl => by
    have h1 : (w.setCell ⟨b, o, none⟩ v).heap[b]? = some (.cells (us.setIfInBounds o v) t f) := by
      simp only [World.setCell, Array.getElem?_modify, if_true, h, Option.map_some, Option.isSome_none, Bool.false_eq_true, if_false]
    rw [World.setCells, heap_setCells_eq b vs (o + 1) _ _ t f h1 (by simp at hl ⊢; omega)]
    congr 3
    simp only [setR, Array.toList_setIfInBounds, List.length_cons]
    have hlt : o < us.toList.length := by simp at hl ⊢; omega
    have e1 : (us.toList.set o v).take (o + 1) = us.toList.take o ++ [v] := by
      have h3 : o ≤ us.size := by simp at hlt; omega
      rw [List.set_eq_take_append_cons_drop, if_pos hlt, List.take_append, List.take_take]
      simp [Nat.min_eq_left h3, show o + 1 - o = 1 by omega]
    have e2 : (us.toList.set o v).drop (o + 1 + vs.length) = us.toList.drop (o + (vs.length + 1)) := by
      rw [List.drop_set_of_lt (by omega)]
      congr 1; omega
    rw [e1, e2]
    simp
theorem size_setCells (b : Nat) : ∀ (vs : List Value) (o : Nat) (w : World), (w.setCells b o vs).heap.size = w.heap.size
  | [], _, _ => rfl
  | v :: vs, o, w => by rw [World.setCells, size_setCells b vs]; simp [World.setCell]
theorem os_setCells (b : Nat) : ∀ (vs : List Value) (o : Nat) (w : World), (w.setCells b o vs).os = w.os ∧ (w.setCells b o vs).tape = w.tape ∧ (w.setCells b o vs).output = w.output
  | [], _, _ => ⟨rfl, rfl, rfl⟩
  | v :: vs, o, w => os_setCells b vs (o + 1) (w.setCell ⟨b, o, none⟩ v)

theorem info_size {E : Env} {T : TypeId} {D : TD} (h : E.tab T = some D) : (E.P.info? T).map (·.size) = some D.size := by
  obtain ⟨_, i, hi, hs, _⟩ := E.tab_ok T D h
  simp [hi, hs]

section mem
variable {E : Env} {g : Operand → AV} {st : List Ob} {d : Option Tmp} {t : TypeId} {p : String} {af : Array Edge} {gd : Option (Nat × Bool)}

/-- A whole struct or array is read. -/
theorem load_agg {w : World} {b off : Nat} {T : TypeId} {D : TD} {vs : List Value} (hT : E.tab T = some D) (ha : aggB D.u = true) (hl : vs.length = D.size) (hc : w.rangeAt b off vs) :
    (Instr.loadAt T (.pointer (some ⟨b, off, none⟩))).run E.P w = .ok (.agg vs.toArray) w :=
  run_loadAt_mid w b off T vs D.u hc (E.tab_ok T D hT).1 (by cases h : D.u <;> simp_all [aggB]) (by rw [info_size hT, hl])
theorem load_one {w : World} {b off : Nat} {T : TypeId} {D : TD} {v : Value} (hT : E.tab T = some D) (ha : aggB D.u = false) (hc : w.cell? ⟨b, off, none⟩ = some v) :
    (Instr.loadAt T (.pointer (some ⟨b, off, none⟩))).run E.P w = .ok v w := by
  simp only [Instr.loadAt, Instr.sureAddr, Sem.run_bind, Sem.run_pure, Result.andThen_ok, loadVar, run_isAgg_tab hT, ha, Bool.false_eq_true, if_false, run_load, hc]

theorem range_of_heap {w : World} {b : Nat} {us : Array Value} {t : TypeId} {f : Nat × Nat} (h : w.heap[b]? = some (.cells us t f)) (off n : Nat) : w.rangeAt b off ((us.toList.drop off).take n) := by
  intro j v hj
  rw [List.getElem?_take] at hj
  split at hj
  · simp at hj
    simp [World.cell?, h, hj]
  · cases hj

theorem op_load_agg {T : TypeId} {x : Operand} {D : TD} {o off : Nat} {cs r : List AV} (hx : g x = .ptr o off) (ho : st[o]? = some (.var cs)) (hT : E.tab T = some D) (ha : aggB D.u = true) (hn : off + D.size ≤ cs.length) (hr : (cs.drop off).take D.size = r) :
    OpOk E ⟨d, .load T x, t, p, af, gd⟩ g st (Just (.agg r) st) :=
  .run fun C β m fr a w hG hrel hg => by
    have h0 := hg x (by simp [Op.operands])
    rw [hx] at h0
    obtain ⟨b, v, n, hb, hx'⟩ := h0.ptr_inv
    obtain ⟨b', us, tt, n', e, hh, hl, hm⟩ := hrel.inv.obj o _ _ hb ho
    simp only [BV.mk.injEq, Option.some.injEq] at e
    obtain ⟨rfl, _⟩ := e
    have hlen : us.toList.length = cs.length := hl.1
    refine ⟨.agg ((us.toList.drop off).take D.size).toArray, w, β, m, _, _, ?_, ⟨rfl, rfl⟩, hrel, ?_⟩
    · simp only [execOp, Sem.run_bind]
      rw [hx', load_agg hT ha (by simp at hlen ⊢; omega) (range_of_heap hh off D.size)]
      rfl
    · exact RelV.agg_iff.2 ⟨_, rfl, by subst hr; exact (hl.drop off).take _⟩
theorem op_load {T : TypeId} {x : Operand} {D : TD} {o off : Nat} {cs : List AV} {r : AV} (hx : g x = .ptr o off) (ho : st[o]? = some (.var cs)) (hT : E.tab T = some D) (ha : aggB D.u = false) (hr : cs[off]? = some r) :
    OpOk E ⟨d, .load T x, t, p, af, gd⟩ g st (Just r st) :=
  .run fun C β m fr a w hG hrel hg => by
    have h0 := hg x (by simp [Op.operands])
    rw [hx] at h0
    obtain ⟨b, v, n, hb, hx'⟩ := h0.ptr_inv
    obtain ⟨b', us, tt, n', e, hh, hl, hm⟩ := hrel.inv.obj o _ _ hb ho
    simp only [BV.mk.injEq, Option.some.injEq] at e
    obtain ⟨rfl, _⟩ := e
    obtain ⟨u, hu, hv⟩ := hl.get off hr
    refine ⟨u, w, β, m, _, _, ?_, ⟨rfl, rfl⟩, hrel, hv⟩
    simp only [execOp, Sem.run_bind]
    rw [hx', load_one hT ha (v := u) (by simp at hu; simp [World.cell?, hh, hu])]
    rfl
/-- Through a pointer to shared cells. -/
theorem op_load_v {T : TypeId} {x : Operand} {D : TD} {cs : List AV} {r : AV} (hx : g x = .vptr cs) (hT : E.tab T = some D) (ha : aggB D.u = false) (hr : cs[0]? = some r) :
    OpOk E ⟨d, .load T x, t, p, af, gd⟩ g st (Just r st) :=
  .run fun C β m fr a w hG hrel hg => by
    have h0 := hg x (by simp [Op.operands])
    rw [hx] at h0
    obtain ⟨b, off, u, hx', hu, hc⟩ := h0.vptr_inv
    refine ⟨u 0, w, β, m, _, _, ?_, ⟨rfl, rfl⟩, hrel, hc 0 r hr⟩
    simp only [execOp, Sem.run_bind]
    rw [hx', load_one hT ha (v := u 0) (hrel.inv.mem _ _ _ (by simpa using hu 0 r hr))]
    rfl
theorem op_load_vagg {T : TypeId} {x : Operand} {D : TD} {cs r : List AV} (hx : g x = .vptr cs) (hT : E.tab T = some D) (ha : aggB D.u = true) (hn : D.size ≤ cs.length) (hr : cs.take D.size = r) :
    OpOk E ⟨d, .load T x, t, p, af, gd⟩ g st (Just (.agg r) st) :=
  .run fun C β m fr a w hG hrel hg => by
    have h0 := hg x (by simp [Op.operands])
    rw [hx] at h0
    obtain ⟨b, off, u, hx', hu, hc⟩ := h0.vptr_inv
    refine ⟨.agg ((List.range D.size).map u).toArray, w, β, m, _, _, ?_, ⟨rfl, rfl⟩, hrel, ?_⟩
    · simp only [execOp, Sem.run_bind]
      rw [hx', load_agg hT ha (vs := (List.range D.size).map u) (by simp) ?_]
      · rfl
      · intro j v hj
        simp only [List.getElem?_map, Option.map_eq_some_iff] at hj
        obtain ⟨i, hi, rfl⟩ := hj
        have hlt : j < D.size := by have := (List.getElem?_eq_some_iff.1 hi).1; simpa using this
        rw [List.getElem?_range hlt] at hi
        cases hi
        exact hrel.inv.mem _ _ _ (hu j cs[j] (by simp [show j < cs.length by omega]))
    · refine RelV.agg_iff.2 ⟨_, rfl, ?_⟩
      subst hr
      refine ⟨by simp; omega, fun i v c hv hcc => ?_⟩
      simp only [List.getElem?_map, Option.map_eq_some_iff] at hv
      obtain ⟨j, hj, rfl⟩ := hv
      rw [List.getElem?_take] at hcc
      split at hcc
      · rename_i hi
        rw [List.getElem?_range hi] at hj
        cases hj
        exact hc _ _ hcc
      · cases hcc
/-- Out of a slice of one's own, elements of one cell. -/
theorem op_load_r {T : TypeId} {x : Operand} {D : TD} {o ver off : Nat} {es : List (List AV)} {fz : Bool} {r : AV} (hx : g x = .rptr o ver off) (ho : st[o]? = some (.row ver 1 es fz)) (hT : E.tab T = some D) (ha : aggB D.u = false) (hr : es[off]? = some [r]) :
    OpOk E ⟨d, .load T x, t, p, af, gd⟩ g st (Just r st) :=
  .run fun C β m fr a w hG hrel hg => by
    have h0 := hg x (by simp [Op.operands])
    rw [hx] at h0
    obtain ⟨bv, hb, hf, hl, hv, hs⟩ := h0.rptr_inv
    have hlt := (List.getElem?_eq_some_iff.1 hr).1
    rcases hrel.inv.obj o _ _ hb ho with ⟨rfl, _⟩ | ⟨b, c, us, tt, rfl, hh, h2, h3, h5, h6, h7, h8, h9⟩
    · simp at hlt
    · obtain ⟨b', hb', e⟩ := hv rfl
      simp only [Option.some.injEq] at hb'
      subst hb'
      have hfl : es.flatten[off]? = some r := by
        have hflat : ∀ (l : List (List AV)), (∀ e ∈ l, e.length = 1) → ∀ (i : Nat) x, l[i]? = some [x] → l.flatten[i]? = some x := by
          intro l
          induction l with
          | nil => intro _ i x h; simp at h
          | cons e l ih =>
            intro hl i x h
            obtain ⟨y, rfl⟩ : ∃ y, e = [y] := by have := hl e (by simp); match e, this with | [y], _ => exact ⟨y, rfl⟩
            cases i with
            | zero => simp at h; simp [h]
            | succ i => simpa using ih (fun e he => hl e (by simp [he])) i x (by simpa using h)
        exact hflat es h6 off r hr
      obtain ⟨u, hu, hvr⟩ := h7.get off hfl
      refine ⟨u, w, β, m, _, _, ?_, ⟨rfl, rfl⟩, hrel, hvr⟩
      simp only [execOp, Sem.run_bind]
      rw [e, load_one hT ha (v := u) ?_]
      · rfl
      · rw [List.getElem?_take] at hu
        split at hu
        · simp at hu; simp [World.cell?, hh, hu]
        · cases hu

/-! ### Stores -/
theorem oneCell_of {β : List BV} {m : Mem} {v : Value} {y : AV} (h : RelV β m v y) (hy : oneA y = true) : v.oneCell' = true := by
  cases h with
  | row o ver v bv h hf hl hv hs => obtain ⟨a, n, c, rfl⟩ := hs; rfl
  | rptr o ver off v bv h hf hl hv hs => obtain ⟨a, rfl⟩ := hs; rfl
  | one v h => exact h
  | _ => first | rfl | cases hy
theorem storeAt_run {w : World} {b off : Nat} {T : TypeId} {D : TD} {v : Value} {us : Array Value} {tt : TypeId} (hT : E.tab T = some D) (hh : w.heap[b]? = some (.cells us tt (0, 0))) (hs : v.cells.size = D.size) (hn : off + D.size ≤ us.size) (h1 : ∀ x ∈ v.cells.toList, x.oneCell' = true) :
    (Instr.storeAt T (.pointer (some ⟨b, off, none⟩)) v).run E.P w = .ok () (w.setCells b off v.cells.toList) := by
  have hst := run_storeCells_cells (P := E.P) b off v.cells.toList 0 w (fun j hj => by simp at hj; simp [World.cell?, hh]; omega) (fun j hj => by simp [World.frozen?, hh]) h1
  simp only [Instr.storeAt, Instr.sureAddr, Sem.run_bind, Sem.run_pure, Result.andThen_ok, storeVar, run_sizeOf_tab hT, hs, ne_eq, not_true_eq_false, if_false]
  simpa using hst
theorem op_store {T : TypeId} {x y : Operand} {D : TD} {o off : Nat} {cs cs' : List AV} (hx : g x = .ptr o off) (ho : st[o]? = some (.var cs)) (hT : E.tab T = some D) (hy : (cellsA (g y)).all oneA = true) (hz : (cellsA (g y)).length = D.size) (hn : off + D.size ≤ cs.length) (hr : setR cs off (cellsA (g y)) = cs') :
    OpOk E ⟨none, .store T x y, t, p, af, gd⟩ g st (Just .any (st.set o (.var cs'))) :=
  .runSkip fun C β m fr a w hG hrel hg => by
    have h0 := hg x (by simp [Op.operands])
    have hv := hg y (by simp [Op.operands])
    rw [hx] at h0
    obtain ⟨b, v, n, hb, hx'⟩ := h0.ptr_inv
    obtain ⟨b', us, tt, n', e, hh, hl, hm⟩ := hrel.inv.obj o _ _ hb ho
    simp only [BV.mk.injEq, Option.some.injEq, true_and] at e
    obtain ⟨rfl, rfl, rfl⟩ := e
    have hcells : RelL β m (a.eval y).cells.toList (cellsA (g y)) := cells_rel hv (by
      cases e : g y <;> simp_all [cellsA, oneA])
    have hlen : us.size = cs.length := by simpa using hl.1
    have hlv : (a.eval y).cells.toList.length = D.size := by rw [hcells.1, hz]
    have hone : ∀ x ∈ (a.eval y).cells.toList, x.oneCell' = true := by
      intro x hx
      obtain ⟨i, hi⟩ := List.getElem?_of_mem hx
      have hlt := (List.getElem?_eq_some_iff.1 hi).1
      rw [hcells.1] at hlt
      have hc := hcells.2 i x (cellsA (g y))[i] hi (by simp [hlt])
      exact oneCell_of hc (by simp only [List.all_eq_true] at hy; exact hy _ (List.getElem_mem hlt))
    refine ⟨w.setCells b off (a.eval y).cells.toList, β, m, ?_, ?_⟩
    · simp only [execOp, Sem.run_bind]
      rw [hx', storeAt_run hT hh (by simpa using hlv) (by omega) hone]
      rfl
    · have hos := os_setCells b (a.eval y).cells.toList off w
      refine hrel.update hb rfl hos.1 hos.2.1 hos.2.2 (fun i v e => by rw [hm] at e; cases e) (fun r hr => heap_setCells_ne b _ _ _ r hr) (by rw [size_setCells]; exact Nat.le_refl _) ⟨b, _, tt, n, rfl, heap_setCells_eq b _ off w us tt _ hh (by rw [hlv]; omega), ?_, hm⟩
      subst hr
      simpa using hl.setR hcells off
/-- The same of one cell. -/
theorem op_store1 {T : TypeId} {x y : Operand} {D : TD} {o off : Nat} {cs cs' : List AV} {v : AV} (hx : g x = .ptr o off) (ho : st[o]? = some (.var cs)) (hT : E.tab T = some D) (hv : g y = v) (hy : oneA v = true) (hz : D.size = 1) (hn : off < cs.length) (hr : cs.set off v = cs') :
    OpOk E ⟨none, .store T x y, t, p, af, gd⟩ g st (Just .any (st.set o (.var cs'))) := by
  have hc : cellsA (g y) = [v] := by rw [hv]; cases v <;> first | rfl | cases hy
  exact op_store hx ho hT (by rw [hc]; simp [hy]) (by rw [hc, hz]; rfl) (by omega) (by rw [hc, setR_one hn]; exact hr)
/-- Into a slice of one's own, elements of one cell. -/
theorem op_store_r {T : TypeId} {x y : Operand} {D : TD} {o ver off : Nat} {es : List (List AV)} {v : AV} (hx : g x = .rptr o ver off) (ho : st[o]? = some (.row ver 1 es false)) (hT : E.tab T = some D) (hv : g y = v) (hy : oneA v = true) (hz : D.size = 1) (hn : off < es.length) :
    OpOk E ⟨none, .store T x y, t, p, af, gd⟩ g st (Just .any (st.set o (.row ver 1 (es.set off [v]) false))) :=
  .runSkip fun C β m fr a w hG hrel hg => by
    have h0 := hg x (by simp [Op.operands])
    have hvv := hg y (by simp [Op.operands])
    rw [hx] at h0
    rw [hv] at hvv
    obtain ⟨bv, hb, hf, hl, hq, hs⟩ := h0.rptr_inv
    rcases hrel.inv.obj o _ _ hb ho with ⟨rfl, _⟩ | ⟨b, c, us, tt, rfl, hh, h2, h3, h5, h6, h7, h8, h9⟩
    · simp at hn
    · obtain ⟨b', hb', e⟩ := hq rfl
      simp only [Option.some.injEq] at hb'
      subst hb'
      simp only [Bool.false_eq_true, if_false] at h9
      have hone := oneCell_of hvv hy
      have hcell : (a.eval y).cells = #[a.eval y] := by
        revert hone
        cases a.eval y <;> simp [Value.cells, Value.oneCell']
      have hfz : w.frozen? ⟨b, off, none⟩ = false := by
        simp [World.frozen?, hh]
      have hstore : (store ⟨b, off, none⟩ (a.eval y)).run E.P w = .ok () (w.setCell ⟨b, off, none⟩ (a.eval y)) := by
        rw [run_store E.P w _ _ _ hone]
        have : (w.cell? ⟨b, off, none⟩).isSome = true := by simp [World.cell?, hh]; omega
        obtain ⟨u, hu⟩ := Option.isSome_iff_exists.1 this
        simp [hu, hfz]
      have hheap : (w.setCell ⟨b, off, none⟩ (a.eval y)).heap[b]? = some (.cells (us.setIfInBounds off (a.eval y)) tt (0, 0)) := by
        simp only [World.setCell, Array.getElem?_modify, if_true, hh, Option.map_some, Option.isSome_none, Bool.false_eq_true, if_false]
      refine ⟨w.setCell ⟨b, off, none⟩ (a.eval y), β, m, ?_, ?_⟩
      · simp only [execOp, Sem.run_bind]
        rw [e]
        have hadd : (⟨b, off, none⟩ : Addr).add 0 = ⟨b, off, none⟩ := by simp [Addr.add]
        simp [Instr.storeAt, Instr.sureAddr, storeVar, run_sizeOf_tab hT, hz, hcell, storeCells, hadd, hstore]
      · have hfl : ∀ (l : List (List AV)), (∀ e ∈ l, e.length = 1) → ∀ i, (l.set i [v]).flatten = l.flatten.set i v := by
          intro l
          induction l with
          | nil => intro _ i; simp
          | cons e l ih =>
            intro hl i
            obtain ⟨z, rfl⟩ : ∃ z, e = [z] := by have := hl e (by simp); match e, this with | [z], _ => exact ⟨z, rfl⟩
            cases i with
            | zero => simp
            | succ i => simp [ih (fun e he => hl e (by simp [he])) i]
        have hmem : ∀ e ∈ es.set off [v], e.length = 1 := fun e he => by
          rcases List.mem_or_eq_of_mem_set he with h | h
          · exact h6 e h
          · simp [h]
        refine hrel.update hb rfl rfl rfl rfl (fun i v e => by rw [h9] at e; cases e) (fun r hr => Below.heap_setCell _ _ _ _ hr) (by simp [World.setCell]) (.inr ⟨b, c, us.setIfInBounds off (a.eval y), tt, by simp, hheap, by simpa using h2, by simpa using h3, h5, hmem, ?_, fun i _ => h9 i, by simpa using h9⟩)
        rw [hfl es h6 off]
        have := h7.set off hvv
        rw [List.length_set]
        simpa [List.take_set] using this

/-! ### New variables -/
theorem op_alloc {T : TypeId} {D : TD} {dd : Tmp} (hT : E.tab T = some D) : OpOk E ⟨some dd, .alloc T, t, p, af, gd⟩ g st (Just (.ptr st.length 0) (st ++ [.var D.z])) :=
  .run fun C β m fr a w hG hrel hg => by
    obtain ⟨v, hz, _, hr⟩ := run_zero_tab (w := w) hT
    refine ⟨.pointer (some ⟨w.heap.size, 0, none⟩), w.alloc (.cells v.cells T), β ++ [⟨some w.heap.size, .pointer (some ⟨w.heap.size, 0, none⟩), true, 0⟩], m, _, _, ?_, ⟨rfl, rfl⟩, hrel.newVar (hr β m), .ptr _ _ w.heap.size (.pointer (some ⟨w.heap.size, 0, none⟩)) 0 (by rw [← hrel.inv.len]; simp)⟩
    simp [execOp, Instr.alloc, hz, newVar, newRow, newObj, Sem.run]
theorem op_box {T : TypeId} {x : Operand} {dd : Tmp} (hy : oneA (g x) = true ∨ ∃ cs, g x = .agg cs) : OpOk E ⟨some dd, .box T x, t, p, af, gd⟩ g st (Just (.ptr st.length 0) (st ++ [.var (cellsA (g x))])) :=
  .run fun C β m fr a w hG hrel hg => by
    have hv := hg x (by simp [Op.operands])
    refine ⟨.pointer (some ⟨w.heap.size, 0, none⟩), w.alloc (.cells (a.eval x).cells T), β ++ [⟨some w.heap.size, .pointer (some ⟨w.heap.size, 0, none⟩), true, 0⟩], m, _, _, ?_, ⟨rfl, rfl⟩, hrel.newVar (cells_rel hv hy), .ptr _ _ w.heap.size (.pointer (some ⟨w.heap.size, 0, none⟩)) 0 (by rw [← hrel.inv.len]; simp)⟩
    simp [execOp, Instr.box, newVar, newRow, newObj, Sem.run]

/-! ### Places -/
theorem op_nilCheck {x : Operand} {r : AV} (hx : g x = r) (hr : (∃ o off, r = .ptr o off) ∨ (∃ cs, r = .vptr cs)) : OpOk E ⟨d, .nilCheck x, t, p, af, gd⟩ g st (Just r st) :=
  .val fun β m a w hg => by
    have h0 := hg x (by simp [Op.operands])
    rw [hx] at h0
    refine ⟨a.eval x, ?_, h0⟩
    rcases hr with ⟨o, off, rfl⟩ | ⟨cs, rfl⟩
    · obtain ⟨b, v, n, hb, hx'⟩ := h0.ptr_inv
      simp [execOp, hx']
    · obtain ⟨b, off, u, hx', _⟩ := h0.vptr_inv
      simp [execOp, hx']
theorem add_plain (b off n : Nat) : (⟨b, off, none⟩ : Addr).add n = ⟨b, off + n, none⟩ := by unfold Addr.add; split <;> simp_all
theorem fieldAt_run {w : World} {T : TypeId} {D F : TD} {fs : Array Field} {i b off : Nat} {f : Field} (hT : E.tab T = some D) (hu : D.u = .struct fs) (hf : fs[i]? = some f) (hF : E.tab f.type = some F) (hz : F.size ≠ 0) :
    (Instr.fieldAt T (.pointer (some ⟨b, off, none⟩)) i).run E.P w = .ok (.pointer (some ⟨b, off + f.offset, none⟩)) w := by
  have h1 := run_under_tab (w := w) hT
  rw [hu] at h1
  simp [Instr.fieldAt, h1, hf, Instr.sureAddr, fieldPlace, run_sizeOf_tab hF, hz, add_plain]
theorem op_fieldAddr {T : TypeId} {x : Operand} {i o off : Nat} {D F : TD} {fs : Array Field} {f : Field} (hx : g x = .ptr o off) (hT : E.tab T = some D) (hu : D.u = .struct fs) (hf : fs[i]? = some f) (hF : E.tab f.type = some F) (hz : F.size ≠ 0) :
    OpOk E ⟨d, .fieldAddr T x i, t, p, af, gd⟩ g st (Just (.ptr o (off + f.offset)) st) :=
  .val fun β m a w hg => by
    have h0 := hg x (by simp [Op.operands])
    rw [hx] at h0
    obtain ⟨b, v, n, hb, hx'⟩ := h0.ptr_inv
    refine ⟨.pointer (some ⟨b, off + f.offset, none⟩), ?_, .ptr _ _ _ _ _ hb⟩
    simp only [execOp, Sem.run_bind, hx', fieldAt_run hT hu hf hF hz]
    rfl
theorem op_fieldAddr_v {T : TypeId} {x : Operand} {i : Nat} {cs r : List AV} {D F : TD} {fs : Array Field} {f : Field} (hx : g x = .vptr cs) (hT : E.tab T = some D) (hu : D.u = .struct fs) (hf : fs[i]? = some f) (hF : E.tab f.type = some F) (hz : F.size ≠ 0) (hr : cs.drop f.offset = r) :
    OpOk E ⟨d, .fieldAddr T x i, t, p, af, gd⟩ g st (Just (.vptr r) st) :=
  .val fun β m a w hg => by
    have h0 := hg x (by simp [Op.operands])
    rw [hx] at h0
    obtain ⟨b, off, u, hx', hu', hc⟩ := h0.vptr_inv
    subst hr
    refine ⟨.pointer (some ⟨b, off + f.offset, none⟩), ?_, .vptr _ _ _ (fun j => u (f.offset + j)) (fun j c hj => ?_) (fun j c hj => ?_)⟩
    · simp only [execOp, Sem.run_bind, hx', fieldAt_run hT hu hf hF hz]
      rfl
    · rw [List.getElem?_drop] at hj
      rw [Nat.add_assoc]
      exact hu' _ c hj
    · rw [List.getElem?_drop] at hj
      exact hc _ c hj
end mem
end Rm

namespace Rm
open Go
open Go.RowKit

theorem flatten_drop {α : Type} {sz : Nat} : ∀ (es : List (List α)) (l : Nat), (∀ e ∈ es, e.length = sz) → (es.drop l).flatten = es.flatten.drop (l * sz)
  | [], l, _ => by simp
  | e :: es, 0, _ => by simp
  | e :: es, l + 1, h => by
    have he := h e (by simp)
    have h0 : e.drop ((l + 1) * sz) = [] := List.drop_eq_nil_of_le (by rw [he, Nat.succ_mul]; omega)
    have h1 : (l + 1) * sz - e.length = l * sz := by rw [he, Nat.succ_mul]; omega
    rw [List.drop_succ_cons, flatten_drop es l (fun x hx => h x (by simp [hx])), List.flatten_cons, List.drop_append, h0, h1]
    simp
theorem flatten_take {α : Type} {sz : Nat} : ∀ (es : List (List α)) (l : Nat), (∀ e ∈ es, e.length = sz) → (es.take l).flatten = es.flatten.take (l * sz)
  | [], l, _ => by simp
  | e :: es, 0, _ => by simp
  | e :: es, l + 1, h => by
    have he := h e (by simp)
    have h0 : e.take ((l + 1) * sz) = e := List.take_of_length_le (by rw [he, Nat.succ_mul]; omega)
    have h1 : (l + 1) * sz - e.length = l * sz := by rw [he, Nat.succ_mul]; omega
    rw [List.take_succ_cons, List.flatten_cons, flatten_take es l (fun x hx => h x (by simp [hx])), List.flatten_cons, List.take_append, h0, h1]
theorem flatten_length {α : Type} {sz : Nat} : ∀ (es : List (List α)), (∀ e ∈ es, e.length = sz) → es.flatten.length = es.length * sz
  | [], _ => by simp
  | e :: es, h => by
    rw [List.flatten_cons, List.length_append, flatten_length es (fun x hx => h x (by simp [hx])), h e (by simp), List.length_cons, Nat.succ_mul]
    omega
theorem flatten_get {α : Type} {sz : Nat} (es : List (List α)) (h : ∀ e ∈ es, e.length = sz) (i : Nat) (e : List α) (hi : es[i]? = some e) : (es.flatten.drop (i * sz)).take sz = e := by
  rw [← flatten_drop es i h]
  have hlt := (List.getElem?_eq_some_iff.1 hi).1
  have he : es[i] = e := (List.getElem?_eq_some_iff.1 hi).2
  rw [List.drop_eq_getElem_cons hlt, he, List.flatten_cons, List.take_append, List.take_of_length_le (by rw [h e (he ▸ List.getElem_mem hlt)]; exact Nat.le_refl _)]
  simp [h e (he ▸ List.getElem_mem hlt)]

section sl
variable {E : Env} {g : Operand → AV} {st : List Ob} {d : Option Tmp} {t : TypeId} {p : String} {af : Array Edge} {gd : Option (Nat × Bool)}

theorem op_lenSl {x : Operand} {clip : Bool} {es : List (List AV)} {T e : TypeId} {S : TD} (hx : g x = .sl clip es) (hS : E.tab T = some S) (hu : S.u = .slice e) : OpOk E ⟨d, .call ⟨.builtin .len, #[x], #[T]⟩, t, p, af, gd⟩ g st (Just (.int .i64 es.length) st) :=
  .val fun β m a w hg => by
    have h0 := hg x (by simp [Op.operands, Call.operands])
    rw [hx] at h0
    have h2 := run_under_tab (w := w) hS
    rw [hu] at h2
    obtain ⟨a', n, c, e1, hn⟩ : ∃ a' n c, a.eval x = .slice a' n c ∧ n = es.length := by
      rcases h0.sl_inv with ⟨rfl, a', c, e1, _⟩ | ⟨b, off, c, sz, u, e1, _⟩
      · exact ⟨a', 0, c, e1, rfl⟩
      · exact ⟨_, _, c, e1, rfl⟩
    subst hn
    exact ⟨.int .i64 es.length, by simp [execOp, resolve, invoke, builtin, Builtin.len_, e1, h2, goInt], .int _ _⟩
/-- A slice of one's own: where it lies. -/
theorem row_val {C : Cx} {β : List BV} {m : Mem} {fr : List AV} {a : Act} {w : World} {v : Value} {o ver sz : Nat} {es : List (List AV)} {fz : Bool} (hrel : Rel C β m fr st a w) (hv : RelV β m v (.row o ver)) (ho : st[o]? = some (.row ver sz es fz)) :
    ∃ a' c, v = .slice a' es.length c ∧ ∃ cs : List Value, RelL β m cs es.flatten ∧ (es.flatten ≠ [] → ∃ b, a' = some ⟨b, 0, none⟩ ∧ ∀ (i : Nat) x, cs[i]? = some x → w.cell? ⟨b, i, none⟩ = some x) := by
  obtain ⟨bv, hb, hf, hl, hq, hs⟩ := hv.row_inv
  rcases hrel.inv.obj o _ _ hb ho with ⟨rfl, h0, a', rfl⟩ | ⟨b, c, us, tt, rfl, hh, h2, h3, h5, h6, h7, h8, h9⟩
  · exact ⟨a', 0, hq rfl, [], RelL.nil, fun h => absurd rfl h⟩
  · refine ⟨_, c, hq rfl, _, h7, fun _ => ⟨b, rfl, fun i x hx => ?_⟩⟩
    rw [List.getElem?_take] at hx
    split at hx
    · simp at hx; simp [World.cell?, hh, hx]
    · cases hx
theorem op_lenRow {x : Operand} {o ver sz : Nat} {es : List (List AV)} {fz : Bool} {T e : TypeId} {S : TD} (hx : g x = .row o ver) (ho : st[o]? = some (.row ver sz es fz)) (hS : E.tab T = some S) (hu : S.u = .slice e) : OpOk E ⟨d, .call ⟨.builtin .len, #[x], #[T]⟩, t, p, af, gd⟩ g st (Just (.int .i64 es.length) st) :=
  .run fun C β m fr a w hG hrel hg => by
    have h0 := hg x (by simp [Op.operands, Call.operands])
    rw [hx] at h0
    have h2 := run_under_tab (w := w) hS
    rw [hu] at h2
    obtain ⟨a', c, e1, _⟩ := row_val hrel h0 ho
    exact ⟨.int .i64 es.length, w, β, m, _, _, by simp [execOp, resolve, invoke, builtin, Builtin.len_, e1, h2, goInt], ⟨rfl, rfl⟩, hrel, .int _ _⟩

/-! ### Strings -/
theorem op_indexStr {T : TypeId} {S : TD} {x y : Operand} {l : List UInt8} {k : IntKind} {i : Int} {c : UInt8} (hx : g x = .str l) (hy : g y = .int k i) (hS : E.tab T = some S) (hu : S.u = .string) (h0 : 0 ≤ i) (hc : l[i.toNat]? = some c) : OpOk E ⟨d, .index T x y, t, p, af, gd⟩ g st (Just (.int .u8 c.toNat) st) :=
  .val fun β m a w hg => by
    obtain ⟨s, e1, h1⟩ := eval_str (hg x (by simp [Op.operands])) hx
    have e2 := eval_int (hg y (by simp [Op.operands])) hy
    have h2 := run_under_tab (w := w) hS
    rw [hu] at h2
    have hlt := (List.getElem?_eq_some_iff.1 hc).1
    have hz : s.size = l.length := by rw [← h1]; exact size_toList _
    have hg : s[i.toNat]? = some c := by
      subst h1
      rw [getElem?_pos s i.toNat (by rw [hz]; exact hlt)]
      rw [← hc]
      simp only [Array.getElem?_toList]
      rw [getElem?_pos s.data i.toNat (by simpa using hlt)]
      rfl
    refine ⟨.int .u8 c.toNat, ?_, .int _ _⟩
    simp [execOp, Instr.index, e1, e2, asIntOf, h2, h0, hg]
theorem run_sliceBound {P : Program} {w : World} {k : IntKind} {i : Int} {y : Nat} {code : BoundsCode} (h0 : 0 ≤ i) (h1 : i ≤ y) : (Instr.sliceBound (.int k i) y code).run P w = .ok i.toNat w := by
  simp [Instr.sliceBound, asIntOf, h0, h1]
theorem op_sliceStr {T : TypeId} {S : TD} {x : Operand} {lo hi : Option Operand} {l r : List UInt8} {ln hn : Nat} (hx : g x = .str l) (hS : E.tab T = some S) (hu : S.u = .string)
    (hlo : (lo = none ∧ ln = 0) ∨ ∃ y k i, lo = some y ∧ g y = .int k i ∧ 0 ≤ i ∧ i.toNat = ln) (hhi : (hi = none ∧ hn = l.length) ∨ ∃ y k i, hi = some y ∧ g y = .int k i ∧ 0 ≤ i ∧ i.toNat = hn) (h1 : ln ≤ hn) (h2 : hn ≤ l.length) (hr : (l.take hn).drop ln = r) :
    OpOk E ⟨d, .slice T x lo hi none, t, p, af, gd⟩ g st (Just (.str r) st) :=
  .val fun β m a w hg => by
    obtain ⟨s, e1, hs⟩ := eval_str (hg x (by simp [Op.operands])) hx
    have hun := run_under_tab (w := w) hS
    rw [hu] at hun
    have hz : s.size = l.length := by rw [← hs]; exact size_toList _
    have hb : (Instr.sliceBounds false l.length l.length (lo.map a.eval) (hi.map a.eval) none).run E.P w = .ok (ln, hn, l.length) w := by
      unfold Instr.sliceBounds
      rcases hlo with ⟨rfl, rfl⟩ | ⟨y, k, i, rfl, hy, hi0, hiv⟩
      · rcases hhi with ⟨rfl, rfl⟩ | ⟨y', k', i', rfl, hy', hi0', hiv'⟩
        · simp
        · have e2 := eval_int (hg y' (by simp [Op.operands])) hy'
          simp [e2, run_sliceBound hi0' (show i' ≤ ((l.length : Nat) : Int) by omega), hiv']
      · have e3 := eval_int (hg y (by simp [Op.operands])) hy
        rcases hhi with ⟨rfl, rfl⟩ | ⟨y', k', i', rfl, hy', hi0', hiv'⟩
        · simp [e3, run_sliceBound hi0 (show i ≤ ((l.length : Nat) : Int) by omega), hiv]
        · have e2 := eval_int (hg y' (by simp [Op.operands])) hy'
          simp [e2, e3, run_sliceBound hi0' (show i' ≤ ((l.length : Nat) : Int) by omega), hiv', run_sliceBound hi0 (show i ≤ ((hn : Nat) : Int) by omega), hiv]
    refine ⟨.string (s.extract ln hn), ?_, .str _ _ ?_⟩
    · simp only [execOp, Instr.sliceAt, Instr.slice, Sem.run_bind, hun, Result.andThen_ok, e1, Option.map_none, Option.isSome_none, Bool.false_eq_true, if_false, Sem.run_pure, hz, hb]
    · subst hr; subst hs
      rw [ByteArray.data_extract, Array.toList_extract, List.extract_eq_take_drop, List.drop_take]

/-! ### Slices that are read -/
theorem slAt {β : List BV} {m : Mem} {v : Value} {clip : Bool} {es : List (List AV)} {sz i : Nat} {e : List AV} (h : RelV β m v (.sl clip es)) (hsz : ∀ e ∈ es, e.length = sz) (hi : es[i]? = some e) :
    ∃ b off c, v = .slice (some ⟨b, off, none⟩) es.length c ∧ RelV β m (.pointer (some ⟨b, off + i * sz, none⟩)) (.vptr e) := by
  have hlt := (List.getElem?_eq_some_iff.1 hi).1
  rcases h.sl_inv with ⟨rfl, _⟩ | ⟨b, off, c, sz', u, e1, h0, hc, hcl, hsz', hu, hr⟩
  · simp at hlt
  · have hzz : sz' = sz := by
      have h1 := hsz' es[0] (List.getElem_mem h0)
      have h2 := hsz es[0] (List.getElem_mem h0)
      omega
    subst hzz
    have hfl := flatten_get es hsz i e hi
    refine ⟨b, off, c, e1, .vptr _ _ _ (fun j => u (i * sz' + j)) (fun j x hj => ?_) (fun j x hj => ?_)⟩
    · rw [← hfl, List.getElem?_take] at hj
      split at hj
      · rw [List.getElem?_drop] at hj
        rw [Nat.add_assoc]; exact hu _ x hj
      · cases hj
    · rw [← hfl, List.getElem?_take] at hj
      split at hj
      · rw [List.getElem?_drop] at hj
        exact hr _ x hj
      · cases hj
theorem op_indexAddr {T et : TypeId} {S D : TD} {x y : Operand} {clip : Bool} {es : List (List AV)} {k : IntKind} {i : Int} {e : List AV} (hx : g x = .sl clip es) (hy : g y = .int k i) (hS : E.tab T = some S) (hu : S.u = .slice et) (hD : E.tab et = some D) (hsz : ∀ e ∈ es, e.length = D.size) (h0 : 0 ≤ i) (hi : es[i.toNat]? = some e) :
    OpOk E ⟨d, .indexAddr T x y, t, p, af, gd⟩ g st (Just (.vptr e) st) :=
  .val fun β m a w hg => by
    have hv := hg x (by simp [Op.operands])
    rw [hx] at hv
    have e2 := eval_int (hg y (by simp [Op.operands])) hy
    have h2 := run_under_tab (w := w) hS
    rw [hu] at h2
    have hlt := (List.getElem?_eq_some_iff.1 hi).1
    obtain ⟨b, off, c, e1, hr⟩ := slAt hv hsz hi
    refine ⟨_, ?_, hr⟩
    have hi' : i < (es.length : Int) := by omega
    simp [execOp, Instr.indexAt, e1, e2, asIntOf, h2, h0, hi', run_sizeOf_tab hD, add_plain]
theorem op_indexAddr_row {T et : TypeId} {S D : TD} {x y : Operand} {o ver : Nat} {es : List (List AV)} {fz : Bool} {k : IntKind} {i : Int} (hx : g x = .row o ver) (ho : st[o]? = some (.row ver 1 es fz)) (hy : g y = .int k i) (hS : E.tab T = some S) (hu : S.u = .slice et) (hD : E.tab et = some D) (hsz : D.size = 1) (h0 : 0 ≤ i) (hi : i < es.length) :
    OpOk E ⟨d, .indexAddr T x y, t, p, af, gd⟩ g st (Just (.rptr o ver i.toNat) st) :=
  .run fun C β m fr a w hG hrel hg => by
    have hv := hg x (by simp [Op.operands])
    rw [hx] at hv
    have e2 := eval_int (hg y (by simp [Op.operands])) hy
    have h2 := run_under_tab (w := w) hS
    rw [hu] at h2
    obtain ⟨bv, hb, hf, hl, hq, hs⟩ := hv.row_inv
    rcases hrel.inv.obj o _ _ hb ho with ⟨rfl, _⟩ | ⟨b, c, us, tt, rfl, hh, q2, q3, q5, q6, q7, q8, q9⟩
    · simp at hi; omega
    · have e1 := hq rfl
      refine ⟨.pointer (some ⟨b, i.toNat, none⟩), w, β, m, _, _, ?_, ⟨rfl, rfl⟩, hrel, .rptr _ _ _ _ _ hb rfl (Nat.le_refl _) (fun _ => ⟨b, rfl, rfl⟩) ⟨_, rfl⟩⟩
      simp [execOp, Instr.indexAt, e1, e2, asIntOf, h2, h0, hi, run_sizeOf_tab hD, add_plain, hsz]
/-- Into a shared array, elements of one cell. -/
theorem op_indexAddr_arr {T et : TypeId} {S D : TD} {x y : Operand} {cs : List AV} {n : Nat} {k : IntKind} {i : Int} {r : List AV} (hx : g x = .vptr cs) (hy : g y = .int k i) (hS : E.tab T = some S) (hu : S.u = .array n et) (hD : E.tab et = some D) (hsz : D.size = 1) (h0 : 0 ≤ i) (hi : i < n) (hr : cs.drop i.toNat = r) :
    OpOk E ⟨d, .indexAddr T x y, t, p, af, gd⟩ g st (Just (.vptr r) st) :=
  .val fun β m a w hg => by
    have hv := hg x (by simp [Op.operands])
    rw [hx] at hv
    have e2 := eval_int (hg y (by simp [Op.operands])) hy
    have h2 := run_under_tab (w := w) hS
    rw [hu] at h2
    obtain ⟨b, off, u, hx', hu', hc⟩ := hv.vptr_inv
    subst hr
    refine ⟨.pointer (some ⟨b, off + i.toNat, none⟩), ?_, .vptr _ _ _ (fun j => u (i.toNat + j)) (fun j c hj => ?_) (fun j c hj => ?_)⟩
    · simp [execOp, Instr.indexAt, hx', e2, asIntOf, h2, Instr.sureAddr, h0, hi, run_sizeOf_tab hD, add_plain, hsz]
    · rw [List.getElem?_drop] at hj
      rw [Nat.add_assoc]; exact hu' _ c hj
    · rw [List.getElem?_drop] at hj
      exact hc _ c hj

theorem op_sliceSl {T et : TypeId} {S D : TD} {x : Operand} {lo hi mx : Option Operand} {clip clip' : Bool} {es r : List (List AV)} {ln hn : Nat} (hx : g x = .sl clip es) (hS : E.tab T = some S) (hu : S.u = .slice et) (hD : E.tab et = some D) (hsz : ∀ e ∈ es, e.length = D.size)
    (hlo : (lo = none ∧ ln = 0) ∨ ∃ y k i, lo = some y ∧ g y = .int k i ∧ 0 ≤ i ∧ i.toNat = ln) (hhi : (hi = none ∧ hn = es.length) ∨ ∃ y k i, hi = some y ∧ g y = .int k i ∧ 0 ≤ i ∧ i.toNat = hn)
    (hmx : mx = none ∧ (clip' = true → clip = true ∧ hn = es.length) ∨ ∃ y k i z, mx = some y ∧ g y = .int k i ∧ 0 ≤ i ∧ i.toNat = hn ∧ hi = some z) (h1 : ln ≤ hn) (h2 : hn ≤ es.length) (hr : (es.take hn).drop ln = r) :
    OpOk E ⟨d, .slice T x lo hi mx, t, p, af, gd⟩ g st (Just (.sl clip' r) st) :=
  .val fun β m a w hg => by
    have hv := hg x (by simp [Op.operands])
    rw [hx] at hv
    have hun := run_under_tab (w := w) hS
    rw [hu] at hun
    obtain ⟨a', c, e1, hc⟩ : ∃ a' c, a.eval x = .slice a' es.length c ∧ es.length ≤ c := by
      rcases hv.sl_inv with ⟨rfl, a', c, e1, _⟩ | ⟨b, off, c, sz, u, e1, _, hc, _⟩
      · exact ⟨a', c, e1, by simp⟩
      · exact ⟨_, c, e1, hc⟩
    obtain ⟨mm, hb, hmm, hcl⟩ : ∃ mm, (Instr.sliceBounds true es.length c (lo.map a.eval) (hi.map a.eval) (mx.map a.eval)).run E.P w = .ok (ln, hn, mm) w ∧ hn ≤ mm ∧ (clip' = true → mm = c ∧ clip = true ∧ hn = es.length ∨ mm = hn) := by
      unfold Instr.sliceBounds
      rcases hmx with ⟨rfl, hcl⟩ | ⟨ym, km, im, zz, rfl, hym, him0, himv, hz⟩
      · refine ⟨c, ?_, by omega, fun h => .inl ⟨rfl, hcl h⟩⟩
        rcases hlo with ⟨rfl, rfl⟩ | ⟨y, k, i, rfl, hy, hi0, hiv⟩
        · rcases hhi with ⟨rfl, rfl⟩ | ⟨y', k', i', rfl, hy', hi0', hiv'⟩
          · simp
          · have e2 := eval_int (hg y' (by simp [Op.operands])) hy'
            simp [e2, run_sliceBound hi0' (show i' ≤ ((c : Nat) : Int) by omega), hiv']
        · have e3 := eval_int (hg y (by simp [Op.operands])) hy
          rcases hhi with ⟨rfl, rfl⟩ | ⟨y', k', i', rfl, hy', hi0', hiv'⟩
          · simp [e3, run_sliceBound hi0 (show i ≤ ((es.length : Nat) : Int) by omega), hiv]
          · have e2 := eval_int (hg y' (by simp [Op.operands])) hy'
            simp [e2, e3, run_sliceBound hi0' (show i' ≤ ((c : Nat) : Int) by omega), hiv', run_sliceBound hi0 (show i ≤ ((hn : Nat) : Int) by omega), hiv]
      · refine ⟨hn, ?_, Nat.le_refl _, fun h => .inr rfl⟩
        have e4 := eval_int (hg ym (by simp [Op.operands])) hym
        rcases hhi with ⟨rfl, _⟩ | ⟨y', k', i', rfl, hy', hi0', hiv'⟩
        · cases hz
        · have e2 := eval_int (hg y' (by simp [Op.operands])) hy'
          rcases hlo with ⟨rfl, rfl⟩ | ⟨y, k, i, rfl, hy, hi0, hiv⟩
          · simp [e2, e4, run_sliceBound him0 (show im ≤ ((c : Nat) : Int) by omega), himv, run_sliceBound hi0' (show i' ≤ ((hn : Nat) : Int) by omega), hiv']
          · have e3 := eval_int (hg y (by simp [Op.operands])) hy
            simp [e2, e3, e4, run_sliceBound him0 (show im ≤ ((c : Nat) : Int) by omega), himv, run_sliceBound hi0' (show i' ≤ ((hn : Nat) : Int) by omega), hiv', run_sliceBound hi0 (show i ≤ ((hn : Nat) : Int) by omega), hiv]
    refine ⟨.slice (if mm = ln then a' else a'.map (·.add (ln * D.size))) (hn - ln) (mm - ln), ?_, ?_⟩
    · simp only [execOp, Instr.sliceAt, Sem.run_bind, hun, Result.andThen_ok, e1, Instr.slice, hb, run_sizeOf_tab hD, Sem.run_pure]
    · subst hr
      have hlen : ((es.take hn).drop ln).length = hn - ln := by simp [Nat.min_eq_left h2]
      by_cases hz : hn - ln = 0
      · have : (es.take hn).drop ln = [] := List.eq_nil_of_length_eq_zero (by omega)
        rw [this, hz]
        refine .sl0 _ _ _ fun h => ?_
        rcases hcl h with ⟨e2, e3, e4⟩ | e2
        · subst e3
          rcases hv.sl_inv with ⟨rfl, a'', c', e5, h5⟩ | ⟨b, off, c', sz, u, e5, _, _, h5, _⟩
          · rw [e5] at e1; cases e1; have := h5 rfl; omega
          · rw [e5] at e1; cases e1; have := h5 rfl; omega
        · omega
      · rcases hv.sl_inv with ⟨rfl, _⟩ | ⟨b, off, c', sz, u, e5, h0, hc', hcl', hsz', hu', hr'⟩
        · have h2' : hn = 0 := by simpa using h2
          subst h2'
          exact absurd (Nat.zero_sub ln) hz
        · rw [e5] at e1; cases e1
          have hzz : sz = D.size := by
            have h1 := hsz' es[0] (List.getElem_mem h0)
            have h2 := hsz es[0] (List.getElem_mem h0)
            omega
          subst hzz
          rw [if_neg (by omega)]
          simp only [Option.map_some, add_plain]
          have hfl : ((es.take hn).drop ln).flatten = (es.flatten.take (hn * D.size)).drop (ln * D.size) := by
            rw [flatten_drop _ _ (fun e he => hsz e (List.mem_of_mem_take he)), flatten_take _ _ hsz]
          have hmem : ∀ e ∈ (es.take hn).drop ln, e.length = D.size := fun e he => hsz e (List.mem_of_mem_take (List.mem_of_mem_drop he))
          have hget : ∀ (i : Nat) x, ((es.take hn).drop ln).flatten[i]? = some x → es.flatten[ln * D.size + i]? = some x := by
            intro i x hx
            rw [hfl, List.getElem?_drop, List.getElem?_take] at hx
            split at hx
            · exact hx
            · cases hx
          refine .sl _ _ _ _ D.size _ _ (fun i => u (ln * D.size + i)) hlen.symm (by omega) (by omega) (fun h => ?_) hmem (fun i x hx => ?_) (fun i x hx => hr' _ x (hget i x hx))
          · rcases hcl h with ⟨e2, e3, e4⟩ | e2
            · have := hcl' e3; omega
            · omega
          · rw [Nat.add_assoc]; exact hu' _ x (hget i x hx)
end sl
end Rm
