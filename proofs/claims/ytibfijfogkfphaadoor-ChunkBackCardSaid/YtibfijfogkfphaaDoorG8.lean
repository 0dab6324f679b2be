/- Walks: chunk's read. Walks: chunk.Skip; Unpack's closure. Walks: lz.Unpack. Walks: chunk.Take. -/
import Derived.Test.YtibfijfogkfphaaDoorG7

namespace Rm
open Go Go.Proofs
open Go.RowKit
set_option maxHeartbeats 8000000

theorem c36r {st : List Ob} {clip : Bool} {b x : List UInt8} {o op a e a' e' : Nat} {rest : List AV} {v : UInt8} (h : rB b 1 (a, e) = (x, a', e')) (hx : x.getD 0 0 = v) (hp : st[op]? = some (.var (.ptr o 0 :: rest))) (ho : st[o]? = some (rdO clip b a e)) (ha : a ≤ b.length) (hb : b.length ≤ 1000000) :
    Ctr Tryd.prog mG 36 st [.ptr op 0] (fun st' r => st' = st.set o (rdO clip b a' e') ∧ r = .int .u8 v.toNat) := by
  have := c36 hp ho ha hb
  rw [h, hx] at this
  exact this
theorem c37r {st : List Ob} {clip : Bool} {b : List UInt8} {o a e n a' e' : Nat} (h : rI b (a, e) = (n, a', e')) (ho : st[o]? = some (rdO clip b a e)) (ha : a ≤ b.length) (hb : b.length ≤ 1000000) :
    Ctr Tryd.prog mG 37 st [.ptr o 0] (fun st' r => st' = st.set o (rdO clip b a' e') ∧ r = .int .i64 n) := by
  have := c37 ho ha hb
  rw [h] at this
  exact this
theorem c39r {st : List Ob} {clip : Bool} {b x : List UInt8} {o a e a' e' : Nat} {k : Int} (h : rB b k (a, e) = (x, a', e')) (ho : st[o]? = some (rdO clip b a e)) (ha : a ≤ b.length) (hb : b.length ≤ 1000000) :
    Ctr Tryd.prog mG 39 st [.ptr o 0, .int .i64 k] (fun st' r => st' = st.set o (rdO clip b a' e') ++ [.row 0 1 (bs x) false] ∧ r = .row st.length 0) := by
  have := c39 (k := k) ho ha hb
  rw [h] at this
  exact this
theorem c41r {st : List Ob} {clip : Bool} {b x : List UInt8} {o a e a' e' : Nat} (h : rB b 4 (a, e) = (x, a', e')) (ho : st[o]? = some (rdO clip b a e)) (ha : a ≤ b.length) (hb : b.length ≤ 1000000) :
    Ctr Tryd.prog mG 41 st [.ptr o 0] (fun st' r => st' = st.set o (rdO clip b a' e') ∧ r = .int .u32 (fixV x)) := by
  have := c41 ho ha hb
  rw [h] at this
  exact this
theorem c16n {st : List Ob} {clip : Bool} {l : List UInt8} (hl : l.length < 2 ^ 62) : Ctr Tryd.prog mG 16 st [.sl clip (bs l)] (fun st' r => st' = st ∧ r = .int .u32 (crcN l)) := by
  have := c16 (st := st) (clip := clip) hl
  rw [show bitsI .xor .u32 4294967295 (moreI (bitsI .xor .u32 4294967295 0) l) = ((crcN l : Nat) : Int) from crcI_nat l] at this
  exact this

inductive ReLs (n idx ver : Nat) : List AV → List AV → Prop where
  | nil : ReLs n idx ver [] []
  | cons {a b : AV} {xs ys : List AV} (h : ReA n idx ver a b) (k : ReLs n idx ver xs ys) : ReLs n idx ver (a :: xs) (b :: ys)
theorem ReLs.spec {n idx ver : Nat} {xs ys : List AV} (h : ReLs n idx ver xs ys) : xs.length = ys.length ∧ ∀ (i : Nat) a b, xs[i]? = some a → ys[i]? = some b → ReA n idx ver a b := by
  induction h with
  | nil => exact ⟨rfl, fun i a b h => by simp at h⟩
  | cons h k ih =>
    refine ⟨by simp [ih.1], fun i a b ha hb => ?_⟩
    cases i with
    | zero => simp at ha hb; subst ha; subst hb; exact h
    | succ i => exact ih.2 i a b (by simpa using ha) (by simpa using hb)
theorem ReA.tupL {n idx ver : Nat} {xs ys : List AV} (h : ReLs n idx ver xs ys) : ReA n idx ver (.tup xs) (.tup ys) := .tup _ _ h.spec.1 h.spec.2
theorem ReA.aggL {n idx ver : Nat} {xs ys : List AV} (h : ReLs n idx ver xs ys) : ReA n idx ver (.agg xs) (.agg ys) := .agg _ _ h.spec.1 h.spec.2

def pkN (p : Bool) : Nat := if p then 1 else 0
/-- What reading leaves. -/
def rdRes (x : Rd × Nat) : List Ob × AV :=
  if x.2 = 0 then ([.row 0 1 (bs x.1.body) false], .tup [.agg [.one, .int .u8 x.1.kind.toNat, .int .u8 (pkN x.1.packed), .int .i64 x.1.size, .row 0 0, .int .i64 x.1.next], .int .i64 0])
  else ([], .tup [.agg [.nilp, .int .u8 0, .int .u8 0, .int .i64 0, .sl true [], .int .i64 0], .int .i64 x.2])
theorem rdRes_bad {x : Rd × Nat} {e : Nat} (he : e ≠ 0) (h : x = ({}, e)) : rdRes x = ([], .tup [.agg [.nilp, .int .u8 0, .int .u8 0, .int .i64 0, .sl true [], .int .i64 0], .int .i64 e]) := by
  subst h
  unfold rdRes
  rw [if_neg he]

theorem c23 {clip : Bool} {b : List UInt8} {at_ : Int} (hb : b.length ≤ 100000) : Ctr Tryd.prog mG 23 [] [.sl clip (bs b), .int .i64 at_] (fun st' r => st' = (rdRes (readS b at_)).1 ∧ r = (rdRes (readS b at_)).2) := by
  refine Ctr.of_bodyO (E := Ev) (n := 102) Tryd.func23 rfl rfl (Nat.le_of_ble_eq_true rfl) ?_
  show AGo Ev _ _ (lst 102 [(0, .sl clip (bs b)), (1, .int .i64 at_)]) _ _
  refine .seq ?_
  refine .region rfl ?_
  refine .o1 rfl rfl (op_alloc (D := D53) rfl) ?_
  refine .o1 rfl rfl (op_as (rfl : _ = AV.int _ _)) ?_
  refine .nil ?_
  try dsimp only [List.set, setR, D31, D53, D57, D69, D86, D95, D22, D3, D9, List.take_succ_cons, List.take_zero, List.drop_succ_cons, List.drop_zero, List.length_cons, List.length_nil, List.nil_append, List.cons_append, Nat.reduceAdd, Nat.zero_add]
  refine .seq ?_
  refine .seq ?_
  refine .cut (σ := Bool) (fun t => t = true ↔ (at_ < 0 ∨ (b.length : Int) < at_)) (fun t => lst 102 [(0, .sl clip (bs b)), (1, .int .i64 at_), (4, .ptr 0 0), (18, .bool t)]) (fun _ => [.var D53.z]) (fun t ht => ?_) (fun cont => ?_)
  · refine .condO rfl (fun h => ?_) (fun h => ?_)   -- t18
    · subst h
      have hr : readS b at_ = ({}, 2) := by unfold readS; rw [if_pos (ht.1 rfl)]
      rw [rdRes_bad (by decide) hr]
      refine .seq ?_
      refine .region rfl ?_
      refine .o1 rfl rfl (op_build1 (D := D53) rfl rfl pl53 (vs := []) rfl rfl) ?_
      refine .o0 rfl rfl (op_storeA rfl rfl (D := D53) rfl rfl rfl rfl rfl) ?_
      refine .o1 rfl rfl (op_as (rfl : _ = AV.int _ _)) ?_
      refine .nil ?_
      try dsimp only [List.set, setR, D31, D53, D57, D69, D86, D95, D22, D3, D9, List.take_succ_cons, List.take_zero, List.drop_succ_cons, List.drop_zero, List.length_cons, List.length_nil, List.nil_append, List.cons_append, Nat.reduceAdd, Nat.zero_add]
      refine .ret ?_
      exact ⟨_, _, _, .cons (.cellsO _ _ 0 0 _ _ D53 rfl rfl rfl rfl (Nat.le_of_ble_eq_true rfl) rfl) (.cons (.tmpO _ rfl) .nil), .drop 0 (Nat.le_refl _) rfl (fun _ => rfl), rfl, rfl⟩
    · subst h
      have hin : ¬ (at_ < 0 ∨ (b.length : Int) < at_) := fun q => by have := ht.2 q; cases this
      obtain ⟨n, rfl⟩ : ∃ n : Nat, at_ = n := ⟨at_.toNat, by omega⟩
      have hn : n ≤ b.length := by omega
      have hr : readS b (n : Int) = readK (b.drop n) n := by unfold readS; rw [if_neg hin, readK_eq]; rfl
      rw [hr]
      obtain ⟨c, hc⟩ : ∃ c, b.drop n = c := ⟨_, rfl⟩
      rw [hc]
      have hcl : c.length ≤ 100000 := by rw [← hc]; simp; omega
      have hcn : c.length = b.length - n := by rw [← hc]; simp
      have hcb : c.length ≤ 1000000 := by omega
      unfold readK
      obtain ⟨s, a1, e1, hs⟩ : ∃ s a e, rB c 1 (0, 0) = (s, a, e) := ⟨_, _, _, rfl⟩
      have l1 : a1 ≤ c.length := by have := (rB_le (b := c) (k := 1) (s := (0, 0)) (Nat.zero_le _)).1; rw [hs] at this; exact this
      obtain ⟨t, a2, e2, ht⟩ : ∃ t a e, rB c 1 (a1, e1) = (t, a, e) := ⟨_, _, _, rfl⟩
      have l2 : a2 ≤ c.length := by have := (rB_le (b := c) (k := 1) (s := (a1, e1)) l1).1; rw [ht] at this; exact this
      obtain ⟨kd, hkd⟩ : ∃ kd, s.getD 0 0 = kd := ⟨_, rfl⟩
      obtain ⟨hw, hhw⟩ : ∃ hw, t.getD 0 0 = hw := ⟨_, rfl⟩
      have hkb := kd.toNat_lt
      have hwb := hw.toNat_lt
      simp only [hs, ht, hkd, hhw]
      refine .skip ?_
      refine .seq ?_
      refine .region rfl ?_
      refine .o1 rfl rfl (op_mv (by first | exact (rfl : _ = AV.sl _ _) | exact (rfl : _ = AV.row _ _))) ?_
      refine .o1 rfl rfl (op_mv (rfl : _ = AV.int _ _)) ?_
      refine .o1 rfl rfl (op_sliceSl (clip' := false) (ln := n) (hn := (bs b).length) rfl (S := D22) rfl rfl (D := D5) rfl (bs_one b) (.inr ⟨_, _, _, rfl, rfl, by omega, by omega⟩) (.inl ⟨rfl, rfl⟩) (.inl ⟨rfl, fun h => by cases h⟩) (by rw [bs_length]; exact hn) (Nat.le_refl _) (r := bs c) (by rw [List.take_length, bs_drop, hc])) ?_
      refine .o1 rfl rfl (op_callJ Tryd.func35 rfl rfl rfl rfl (c35 (okLL_bs _ _))) ?_
      refine .o1 rfl rfl (op_build1 (D := D53) rfl rfl pl53 (vs := [(0, .ptr 1 0)]) rfl rfl) ?_
      refine .o1 rfl rfl (op_alloc (D := D53) rfl) ?_
      refine .o0 rfl rfl (op_storeA rfl rfl (D := D53) rfl rfl rfl rfl rfl) ?_
      refine .nil ?_
      try dsimp only [List.set, setR, D31, D53, D57, D69, D86, D95, D22, D3, D9, List.take_succ_cons, List.take_zero, List.drop_succ_cons, List.drop_zero, List.length_cons, List.length_nil, List.nil_append, List.cons_append, Nat.reduceAdd, Nat.zero_add]
      show AGo _ _ _ _ [.var D53.z, rdO false c 0 0, .var [.ptr 1 0, .int .u8 0, .int .u8 0, .int .i64 0, .sl true [], .int .i64 0]] _
      refine .seq ?_
      refine .region rfl ?_
      refine .o1 rfl rfl (op_callJ Tryd.func36 rfl rfl rfl rfl (c36r (o := 1) (op := 2) hs hkd rfl rfl (Nat.zero_le _) hcb)) ?_
      refine .o1 rfl rfl (op_callJ Tryd.func36 rfl rfl rfl rfl (c36r (o := 1) (op := 2) ht hhw rfl rfl l1 hcb)) ?_
      refine .o1 rfl rfl (op_fieldAddr rfl (D := D53) rfl rfl rfl rfl (by decide)) ?_
      refine .o0 rfl rfl (op_store1 rfl rfl (D := D5) rfl (by first | exact (rfl : _ = AV.int _ _) | exact (rfl : _ = AV.bool _) | exact (rfl : _ = AV.str _) | exact (rfl : _ = AV.sl _ _) | exact (rfl : _ = AV.row _ _) | exact (rfl : _ = AV.ptr _ _) | exact (rfl : _ = AV.tup _) | exact (rfl : _ = AV.agg _) | exact (rfl : _ = AV.fn _ _ _) | exact (rfl : _ = AV.nilp) | exact (rfl : _ = AV.mp _) | exact (rfl : _ = AV.vptr _) | exact (rfl : _ = AV.any)) rfl rfl (Nat.le_of_ble_eq_true rfl) rfl) ?_
      refine .o1 rfl rfl (op_fieldAddr rfl (D := D53) rfl rfl rfl rfl (by decide)) ?_
      refine .o0 rfl rfl (op_store1 rfl rfl (D := D5) rfl (by first | exact (rfl : _ = AV.int _ _) | exact (rfl : _ = AV.bool _) | exact (rfl : _ = AV.str _) | exact (rfl : _ = AV.sl _ _) | exact (rfl : _ = AV.row _ _) | exact (rfl : _ = AV.ptr _ _) | exact (rfl : _ = AV.tup _) | exact (rfl : _ = AV.agg _) | exact (rfl : _ = AV.fn _ _ _) | exact (rfl : _ = AV.nilp) | exact (rfl : _ = AV.mp _) | exact (rfl : _ = AV.vptr _) | exact (rfl : _ = AV.any)) rfl rfl (Nat.le_of_ble_eq_true rfl) rfl) ?_
      refine .nil ?_
      try dsimp only [List.set, setR, D31, D53, D57, D69, D86, D95, D22, D3, D9, List.take_succ_cons, List.take_zero, List.drop_succ_cons, List.drop_zero, List.length_cons, List.length_nil, List.nil_append, List.cons_append, Nat.reduceAdd, Nat.zero_add]
      refine .seq ?_
      refine .seq ?_
      refine .region rfl ?_
      refine .o1 rfl rfl (op_fieldAddr rfl (D := D53) rfl rfl rfl rfl (by decide)) ?_
      refine .o1 rfl rfl (op_load rfl rfl (D := D5) rfl rfl rfl) ?_
      refine .o1 rfl rfl (op_bin rfl rfl rfl) ?_
      refine .nil ?_
      refine .condO rfl (fun h => ?_) (fun h => ?_)   -- t31
      · have h1 : 1 < hw.toNat := by simp at h; omega
        rw [if_pos h1, rdRes_bad (by decide) rfl]
        refine .seq ?_
        refine .region rfl ?_
        refine .o1 rfl rfl (op_build1 (D := D53) rfl rfl pl53 (vs := []) rfl rfl) ?_
        refine .o0 rfl rfl (op_storeA rfl rfl (D := D53) rfl rfl rfl rfl rfl) ?_
        refine .o1 rfl rfl (op_as (rfl : _ = AV.int _ _)) ?_
        refine .nil ?_
        try dsimp only [List.set, setR, D31, D53, D57, D69, D86, D95, D22, D3, D9, List.take_succ_cons, List.take_zero, List.drop_succ_cons, List.drop_zero, List.length_cons, List.length_nil, List.nil_append, List.cons_append, Nat.reduceAdd, Nat.zero_add]
        refine .ret ?_
        exact ⟨_, _, _, .cons (.cellsO _ _ 0 0 _ _ D53 rfl rfl rfl rfl (Nat.le_of_ble_eq_true rfl) rfl) (.cons (.tmpO _ rfl) .nil), .drop 0 (Nat.le_refl _) rfl (fun _ => rfl), rfl, rfl⟩
      · have h1 : ¬ 1 < hw.toNat := by simp at h; omega
        rw [if_neg h1]
        obtain ⟨z, a3, e3, hz⟩ : ∃ n a e, rI c (a2, e2) = (n, a, e) := ⟨_, _, _, rfl⟩
        have l3 : a3 ≤ c.length := by have := (rI_le (b := c) (s := (a2, e2)) l2).1; rw [hz] at this; exact this
        obtain ⟨m, a4, e4, hm⟩ : ∃ n a e, rI c (a3, e3) = (n, a, e) := ⟨_, _, _, rfl⟩
        have l4 : a4 ≤ c.length := by have := (rI_le (b := c) (s := (a3, e3)) l3).1; rw [hm] at this; exact this
        have zb : z ≤ 2147483647 := by have := rI_num (b := c) (s := (a2, e2)); rw [hz] at this; exact this
        have mb : m ≤ 2147483647 := by have := rI_num (b := c) (s := (a3, e3)); rw [hm] at this; exact this
        simp only [hz, hm]
        obtain ⟨pk, hpk⟩ : ∃ pk, decide (hw.toNat = 1) = pk := ⟨_, rfl⟩
        have hpk2 : hw.toNat = pkN pk := by
          rw [← hpk]
          by_cases q : hw.toNat = 1
          · simp [q, pkN]
          · simp [q, pkN]; omega
        rw [hpk]
        rw [hpk2]
        refine .skip ?_
        refine .seq ?_
        refine .region rfl ?_
        refine .o1 rfl rfl (op_fieldAddr rfl (D := D53) rfl rfl rfl rfl (by decide)) ?_
        refine .o1 rfl rfl (op_load rfl rfl (D := D51) rfl rfl rfl) ?_
        refine .o1 rfl rfl (op_callJ Tryd.func37 rfl rfl rfl rfl (c37r (o := 1) hz rfl l2 hcb)) ?_
        refine .o1 rfl rfl (op_fieldAddr rfl (D := D53) rfl rfl rfl rfl (by decide)) ?_
        refine .o0 rfl rfl (op_store1 rfl rfl (D := D3) rfl (by first | exact (rfl : _ = AV.int _ _) | exact (rfl : _ = AV.bool _) | exact (rfl : _ = AV.str _) | exact (rfl : _ = AV.sl _ _) | exact (rfl : _ = AV.row _ _) | exact (rfl : _ = AV.ptr _ _) | exact (rfl : _ = AV.tup _) | exact (rfl : _ = AV.agg _) | exact (rfl : _ = AV.fn _ _ _) | exact (rfl : _ = AV.nilp) | exact (rfl : _ = AV.mp _) | exact (rfl : _ = AV.vptr _) | exact (rfl : _ = AV.any)) rfl rfl (Nat.le_of_ble_eq_true rfl) rfl) ?_
        refine .nil ?_
        try dsimp only [List.set, setR, D31, D53, D57, D69, D86, D95, D22, D3, D9, List.take_succ_cons, List.take_zero, List.drop_succ_cons, List.drop_zero, List.length_cons, List.length_nil, List.nil_append, List.cons_append, Nat.reduceAdd, Nat.zero_add]
        refine .seq ?_
        refine .region rfl ?_
        refine .o1 rfl rfl (op_fieldAddr rfl (D := D53) rfl rfl rfl rfl (by decide)) ?_
        refine .o1 rfl rfl (op_load rfl rfl (D := D51) rfl rfl rfl) ?_
        refine .o1 rfl rfl (op_callJ Tryd.func37 rfl rfl rfl rfl (c37r (o := 1) hm rfl l3 hcb)) ?_
        refine .o1 rfl rfl (op_as (rfl : _ = AV.int _ _)) ?_
        refine .nil ?_
        try dsimp only [List.set, setR, D31, D53, D57, D69, D86, D95, D22, D3, D9, List.take_succ_cons, List.take_zero, List.drop_succ_cons, List.drop_zero, List.length_cons, List.length_nil, List.nil_append, List.cons_append, Nat.reduceAdd, Nat.zero_add]
        refine .seq ?_
        refine .seq ?_
        refine .cut (σ := Bool) (fun t => t = true ↔ (e4 = 0 ∧ badN pk m z)) (fun t => lst 102 [(0, .sl clip (bs b)), (1, .int .i64 n), (4, .ptr 0 0), (6, .ptr 2 0), (7, .int .i64 m), (65, .bool t)]) (fun _ => [.var D53.z, rdO false c a4 e4, .var [.ptr 1 0, .int .u8 kd.toNat, .int .u8 (pkN pk), .int .i64 z, .sl true [], .int .i64 0]]) (fun t ht => ?_) (fun cont => ?_)
        · refine .condO rfl (fun h => ?_) (fun h => ?_)   -- t65
          · subst h
            rw [if_pos (ht.1 rfl), rdRes_bad (by decide) rfl]
            refine .seq ?_
            refine .region rfl ?_
            refine .o1 rfl rfl (op_build1 (D := D53) rfl rfl pl53 (vs := []) rfl rfl) ?_
            refine .o0 rfl rfl (op_storeA rfl rfl (D := D53) rfl rfl rfl rfl rfl) ?_
            refine .o1 rfl rfl (op_as (rfl : _ = AV.int _ _)) ?_
            refine .nil ?_
            try dsimp only [List.set, setR, D31, D53, D57, D69, D86, D95, D22, D3, D9, List.take_succ_cons, List.take_zero, List.drop_succ_cons, List.drop_zero, List.length_cons, List.length_nil, List.nil_append, List.cons_append, Nat.reduceAdd, Nat.zero_add]
            refine .ret ?_
            exact ⟨_, _, _, .cons (.cellsO _ _ 0 0 _ _ D53 rfl rfl rfl rfl (Nat.le_of_ble_eq_true rfl) rfl) (.cons (.tmpO _ rfl) .nil), .drop 0 (Nat.le_refl _) rfl (fun _ => rfl), rfl, rfl⟩
          · subst h
            rw [if_neg (fun q => by have := ht.2 q; cases this)]
            obtain ⟨bd, a5, e5, hbd⟩ : ∃ n a e, rB c m (a4, e4) = (n, a, e) := ⟨_, _, _, rfl⟩
            have l5 : a5 ≤ c.length := by have := (rB_le (b := c) (k := m) (s := (a4, e4)) l4).1; rw [hbd] at this; exact this
            obtain ⟨f, a6, e6, hf⟩ : ∃ n a e, rB c 4 (a5, e5) = (n, a, e) := ⟨_, _, _, rfl⟩
            have l6 : a6 ≤ c.length := by have := (rB_le (b := c) (k := 4) (s := (a5, e5)) l5).1; rw [hf] at this; exact this
            simp only [hbd, hf]
            refine .skip ?_
            refine .seq ?_
            refine .region rfl ?_
            refine .o1 rfl rfl (op_fieldAddr rfl (D := D53) rfl rfl rfl rfl (by decide)) ?_
            refine .o1 rfl rfl (op_load rfl rfl (D := D51) rfl rfl rfl) ?_
            refine .o1 rfl rfl (op_mv (rfl : _ = AV.int _ _)) ?_
            refine .o1 rfl rfl (op_callJ Tryd.func39 rfl rfl rfl rfl (c39r (o := 1) hbd rfl l4 hcb)) ?_
            refine .o1 rfl rfl (op_fieldAddr rfl (D := D53) rfl rfl rfl rfl (by decide)) ?_
            refine .o0 rfl rfl (op_store1 rfl rfl (D := D22) rfl (rfl : _ = AV.row _ _) rfl rfl (Nat.le_of_ble_eq_true rfl) rfl) ?_
            refine .nil ?_
            try dsimp only [List.set, setR, D31, D53, D57, D69, D86, D95, D22, D3, D9, List.take_succ_cons, List.take_zero, List.drop_succ_cons, List.drop_zero, List.length_cons, List.length_nil, List.nil_append, List.cons_append, Nat.reduceAdd, Nat.zero_add]
            refine .seq ?_
            refine .region rfl ?_
            refine .o1 rfl rfl (op_mv (rfl : _ = AV.int _ _)) ?_
            refine .o1 rfl rfl (op_fieldAddr rfl (D := D53) rfl rfl rfl rfl (by decide)) ?_
            refine .o1 rfl rfl (op_load rfl rfl (D := D51) rfl rfl rfl) ?_
            refine .o1 rfl rfl (op_callJ Tryd.func40 rfl rfl rfl rfl (c40 (o := 1) (x := .sl false (bs c)) (a := a5) (e := e5) rfl)) ?_
            refine .o1 rfl rfl (op_add rfl rfl (by simp only [Rm.lo]; omega) (by simp only [Rm.hi]; omega)) ?_
            refine .o1 rfl rfl (op_as (rfl : _ = AV.int _ _)) ?_
            refine .nil ?_
            try dsimp only [List.set, setR, D31, D53, D57, D69, D86, D95, D22, D3, D9, List.take_succ_cons, List.take_zero, List.drop_succ_cons, List.drop_zero, List.length_cons, List.length_nil, List.nil_append, List.cons_append, Nat.reduceAdd, Nat.zero_add]
            refine .seq ?_
            refine .region rfl ?_
            refine .o1 rfl rfl (op_fieldAddr rfl (D := D53) rfl rfl rfl rfl (by decide)) ?_
            refine .o1 rfl rfl (op_load rfl rfl (D := D51) rfl rfl rfl) ?_
            refine .o1 rfl rfl (op_callJ Tryd.func41 rfl rfl rfl rfl (c41r (o := 1) hf rfl l5 hcb)) ?_
            refine .o1 rfl rfl (op_as (rfl : _ = AV.int _ _)) ?_
            refine .nil ?_
            try dsimp only [List.set, setR, D31, D53, D57, D69, D86, D95, D22, D3, D9, List.take_succ_cons, List.take_zero, List.drop_succ_cons, List.drop_zero, List.length_cons, List.length_nil, List.nil_append, List.cons_append, Nat.reduceAdd, Nat.zero_add]
            refine .seq ?_
            refine .seq ?_
            refine .region rfl ?_
            refine .o1 rfl rfl (op_fieldAddr rfl (D := D53) rfl rfl rfl rfl (by decide)) ?_
            refine .o1 rfl rfl (op_load rfl rfl (D := D51) rfl rfl rfl) ?_
            refine .o1 rfl rfl (op_callJ Tryd.func38 rfl rfl rfl rfl (c38 (o := 1) (x := .sl false (bs c)) (a := a6) (e := e6) rfl)) ?_
            refine .o1 rfl rfl (op_as (rfl : _ = AV.int _ _)) ?_
            refine .nil ?_
            try dsimp only [List.set, setR, D31, D53, D57, D69, D86, D95, D22, D3, D9, List.take_succ_cons, List.take_zero, List.drop_succ_cons, List.drop_zero, List.length_cons, List.length_nil, List.nil_append, List.cons_append, Nat.reduceAdd, Nat.zero_add]
            refine .seq ?_
            refine .region rfl ?_
            refine .o1 rfl rfl (op_mv (rfl : _ = AV.int _ _)) ?_
            refine .o1 rfl rfl (op_bin rfl rfl rfl) ?_
            refine .nil ?_
            refine .condO rfl (fun h => ?_) (fun h => ?_)   -- t84
            · have he : e6 ≠ 0 := by simp at h; omega
              rw [if_pos he, rdRes_bad he rfl]
              refine .seq ?_
              refine .region rfl ?_
              refine .o1 rfl rfl (op_build1 (D := D53) rfl rfl pl53 (vs := []) rfl rfl) ?_
              refine .o1 rfl rfl (op_mv (rfl : _ = AV.int _ _)) ?_
              refine .o0 rfl rfl (op_storeA rfl rfl (D := D53) rfl rfl rfl rfl rfl) ?_
              refine .o1 rfl rfl (op_as (rfl : _ = AV.int _ _)) ?_
              refine .nil ?_
              try dsimp only [List.set, setR, D31, D53, D57, D69, D86, D95, D22, D3, D9, List.take_succ_cons, List.take_zero, List.drop_succ_cons, List.drop_zero, List.length_cons, List.length_nil, List.nil_append, List.cons_append, Nat.reduceAdd, Nat.zero_add]
              refine .ret ?_
              exact ⟨_, _, _, .cons (.cellsO _ _ 0 0 _ _ D53 rfl rfl rfl rfl (Nat.le_of_ble_eq_true rfl) rfl) (.cons (.tmpO _ rfl) .nil), .drop 0 (Nat.le_refl _) rfl (fun _ => rfl), rfl, rfl⟩
            · have he : e6 = 0 := by simp at h; omega
              subst he
              rw [if_neg (by decide)]
              have hcut : bs (c.take a5) = ((bs b).take (n + a5)).drop n := by rw [bs_take, bs_drop, List.drop_take, hc, Nat.add_sub_cancel_left]
              refine .skip ?_
              refine .seq ?_
              refine .seq ?_
              refine .region rfl ?_
              refine .o1 rfl rfl (op_mv (by first | exact (rfl : _ = AV.sl _ _) | exact (rfl : _ = AV.row _ _))) ?_
              refine .o1 rfl rfl (op_mv (rfl : _ = AV.int _ _)) ?_
              refine .o1 rfl rfl (op_mv (rfl : _ = AV.int _ _)) ?_
              refine .o1 rfl rfl (op_sliceSl (clip' := false) (ln := n) (hn := n + a5) rfl (S := D22) rfl rfl (D := D5) rfl (bs_one b) (.inr ⟨_, _, _, rfl, rfl, by omega, by omega⟩) (.inr ⟨_, _, _, rfl, rfl, by omega, by omega⟩) (.inl ⟨rfl, fun h => by cases h⟩) (by omega) (by rw [bs_length]; omega) (r := bs (c.take a5)) hcut.symm) ?_
              refine .o1 rfl rfl (op_callJ Tryd.func16 rfl rfl rfl rfl (c16n (l := c.take a5) (by simp; omega))) ?_
              refine .o1 rfl rfl (op_mv (rfl : _ = AV.int _ _)) ?_
              refine .o1 rfl rfl (op_bin rfl rfl rfl) ?_
              refine .nil ?_
              try dsimp only [List.set, setR, D31, D53, D57, D69, D86, D95, D22, D3, D9, List.take_succ_cons, List.take_zero, List.drop_succ_cons, List.drop_zero, List.length_cons, List.length_nil, List.nil_append, List.cons_append, Nat.reduceAdd, Nat.zero_add]
              refine .condO rfl (fun h => ?_) (fun h => ?_)   -- t93
              · have h5 : crcN (c.take a5) ≠ fixV f := by simp at h; omega
                rw [if_pos h5, rdRes_bad (by decide) rfl]
                refine .seq ?_
                refine .region rfl ?_
                refine .o1 rfl rfl (op_build1 (D := D53) rfl rfl pl53 (vs := []) rfl rfl) ?_
                refine .o0 rfl rfl (op_storeA rfl rfl (D := D53) rfl rfl rfl rfl rfl) ?_
                refine .o1 rfl rfl (op_as (rfl : _ = AV.int _ _)) ?_
                refine .nil ?_
                try dsimp only [List.set, setR, D31, D53, D57, D69, D86, D95, D22, D3, D9, List.take_succ_cons, List.take_zero, List.drop_succ_cons, List.drop_zero, List.length_cons, List.length_nil, List.nil_append, List.cons_append, Nat.reduceAdd, Nat.zero_add]
                refine .ret ?_
                exact ⟨_, _, _, .cons (.cellsO _ _ 0 0 _ _ D53 rfl rfl rfl rfl (Nat.le_of_ble_eq_true rfl) rfl) (.cons (.tmpO _ rfl) .nil), .drop 0 (Nat.le_refl _) rfl (fun _ => rfl), rfl, rfl⟩
              · have h5 : ¬ crcN (c.take a5) ≠ fixV f := by simp at h; omega
                rw [if_neg h5]
                refine .skip ?_
                refine .seq ?_
                refine .region rfl ?_
                refine .o1 rfl rfl (op_mv (rfl : _ = AV.int _ _)) ?_
                refine .o1 rfl rfl (op_fieldAddr rfl (D := D53) rfl rfl rfl rfl (by decide)) ?_
                refine .o1 rfl rfl (op_load rfl rfl (D := D51) rfl rfl rfl) ?_
                refine .o1 rfl rfl (op_callJ Tryd.func40 rfl rfl rfl rfl (c40 (o := 1) (x := .sl false (bs c)) (a := a6) (e := ((0 : Nat) : Int)) rfl)) ?_
                refine .o1 rfl rfl (op_add rfl rfl (by simp only [Rm.lo]; omega) (by simp only [Rm.hi]; omega)) ?_
                refine .o1 rfl rfl (op_fieldAddr rfl (D := D53) rfl rfl rfl rfl (by decide)) ?_
                refine .o0 rfl rfl (op_store1 rfl rfl (D := D3) rfl (by first | exact (rfl : _ = AV.int _ _) | exact (rfl : _ = AV.bool _) | exact (rfl : _ = AV.str _) | exact (rfl : _ = AV.sl _ _) | exact (rfl : _ = AV.row _ _) | exact (rfl : _ = AV.ptr _ _) | exact (rfl : _ = AV.tup _) | exact (rfl : _ = AV.agg _) | exact (rfl : _ = AV.fn _ _ _) | exact (rfl : _ = AV.nilp) | exact (rfl : _ = AV.mp _) | exact (rfl : _ = AV.vptr _) | exact (rfl : _ = AV.any)) rfl rfl (Nat.le_of_ble_eq_true rfl) rfl) ?_
                refine .nil ?_
                try dsimp only [List.set, setR, D31, D53, D57, D69, D86, D95, D22, D3, D9, List.take_succ_cons, List.take_zero, List.drop_succ_cons, List.drop_zero, List.length_cons, List.length_nil, List.nil_append, List.cons_append, Nat.reduceAdd, Nat.zero_add]
                refine .seq ?_
                refine .region rfl ?_
                refine .o1 rfl rfl (op_load_agg rfl rfl (D := D53) rfl rfl (Nat.le_of_ble_eq_true rfl) rfl) ?_
                refine .o0 rfl rfl (op_storeA rfl rfl (D := D53) rfl rfl rfl rfl rfl) ?_
                refine .o1 rfl rfl (op_as (rfl : _ = AV.int _ _)) ?_
                refine .nil ?_
                try dsimp only [List.set, setR, D31, D53, D57, D69, D86, D95, D22, D3, D9, List.take_succ_cons, List.take_zero, List.drop_succ_cons, List.drop_zero, List.length_cons, List.length_nil, List.nil_append, List.cons_append, Nat.reduceAdd, Nat.zero_add]
                refine .ret ?_
                refine ⟨_, _, _, .cons (.cellsO _ _ 0 0 _ _ D53 rfl rfl rfl rfl (Nat.le_of_ble_eq_true rfl) rfl) (.cons (.tmpO _ rfl) .nil), .row (.tup [.agg [.one, .int .u8 kd.toNat, .int .u8 (pkN pk), .int .i64 z, .row 0 0, .int .i64 ((n + a6 : Nat) : Int)], .int .i64 0]) 3 0 1 (bs bd) false rfl (Nat.zero_le _) (fun _ => rfl) (okLL_bs _ _) ?_, rfl, rfl⟩
                exact .tupL (.cons (.aggL (.cons (.one _ rfl) (.cons (.same _ rfl) (.cons (.same _ rfl) (.cons (.same _ rfl) (.cons .row (.cons (.same _ rfl) .nil))))))) (.cons (.same _ rfl) .nil))
        · refine .region rfl ?_
          refine .o1 rfl rfl (op_fieldAddr rfl (D := D53) rfl rfl rfl rfl (by decide)) ?_
          refine .o1 rfl rfl (op_load rfl rfl (D := D51) rfl rfl rfl) ?_
          refine .o1 rfl rfl (op_callJ Tryd.func38 rfl rfl rfl rfl (c38 (o := 1) (x := .sl false (bs c)) (a := a4) (e := e4) rfl)) ?_
          refine .o1 rfl rfl (op_bin rfl rfl rfl) ?_
          try dsimp only [List.set, setR, D31, D53, D57, D69, D86, D95, D22, D3, D9, List.take_succ_cons, List.take_zero, List.drop_succ_cons, List.drop_zero, List.length_cons, List.length_nil, List.nil_append, List.cons_append, Nat.reduceAdd, Nat.zero_add]
          by_cases h4 : e4 = 0
          · rw [show ((e4 : Int) == 0) = true by simp [h4]]
            cases pk
            · refine .o1 rfl rfl (op_mv (rfl : _ = AV.bool _)) ?_
              refine .oy rfl rfl rfl rfl (op_fieldAddr rfl (D := D53) rfl rfl rfl rfl (by decide)) ?_
              refine .oy rfl rfl rfl rfl (op_load rfl rfl (D := D5) rfl rfl rfl) ?_
              refine .oy rfl rfl rfl rfl (op_bin rfl rfl rfl) ?_
              refine .oy rfl rfl rfl rfl (op_mv (rfl : _ = AV.bool _)) ?_
              refine .oy rfl rfl rfl rfl (op_mv (rfl : _ = AV.int _ _)) ?_
              refine .oy rfl rfl rfl rfl (op_fieldAddr rfl (D := D53) rfl rfl rfl rfl (by decide)) ?_
              refine .oy rfl rfl rfl rfl (op_load rfl rfl (D := D3) rfl rfl rfl) ?_
              refine .oy rfl rfl rfl rfl (op_bin rfl rfl rfl) ?_
              by_cases hmz : m = z
              · rw [show ((m : Int) != z) = false by simp [hmz]]
                refine .oy rfl rfl rfl rfl (op_pick rfl (rfl : _ = AV.bool _)) ?_
                refine .oy rfl rfl rfl rfl (op_mv (rfl : _ = AV.bool _)) ?_
                refine .oy rfl rfl rfl rfl (op_fieldAddr rfl (D := D53) rfl rfl rfl rfl (by decide)) ?_
                refine .oy rfl rfl rfl rfl (op_load rfl rfl (D := D5) rfl rfl rfl) ?_
                refine .oy rfl rfl rfl rfl (op_bin rfl rfl rfl) ?_
                refine .oy rfl rfl rfl rfl (op_mv (rfl : _ = AV.bool _)) ?_
                refine .on rfl rfl rfl rfl ?_
                refine .on rfl rfl rfl rfl ?_
                refine .on rfl rfl rfl rfl ?_
                refine .on rfl rfl rfl rfl ?_
                refine .oy rfl rfl rfl rfl (op_pick rfl (rfl : _ = AV.bool _)) ?_
                refine .oy rfl rfl rfl rfl (op_pick rfl (rfl : _ = AV.bool _)) ?_
                refine .o1 rfl rfl (op_pick rfl (rfl : _ = AV.bool _)) ?_
                refine .nil ?_
                refine .keep [0, 1, 4, 6, 7, 65] ?_
                exact cont false (by simp [badN, hmz])
              · rw [show ((m : Int) != z) = true by simp; omega]
                refine .oy rfl rfl rfl rfl (op_pick rfl (rfl : _ = AV.bool _)) ?_
                refine .oy rfl rfl rfl rfl (op_mv (rfl : _ = AV.bool _)) ?_
                refine .on rfl rfl rfl rfl ?_
                refine .on rfl rfl rfl rfl ?_
                refine .on rfl rfl rfl rfl ?_
                refine .on rfl rfl rfl rfl ?_
                refine .on rfl rfl rfl rfl ?_
                refine .on rfl rfl rfl rfl ?_
                refine .on rfl rfl rfl rfl ?_
                refine .on rfl rfl rfl rfl ?_
                refine .on rfl rfl rfl rfl ?_
                refine .oy rfl rfl rfl rfl (op_pick rfl (rfl : _ = AV.bool _)) ?_
                refine .o1 rfl rfl (op_pick rfl (rfl : _ = AV.bool _)) ?_
                refine .nil ?_
                refine .keep [0, 1, 4, 6, 7, 65] ?_
                exact cont true (by simp [badN, hmz, h4])
            · refine .o1 rfl rfl (op_mv (rfl : _ = AV.bool _)) ?_
              refine .oy rfl rfl rfl rfl (op_fieldAddr rfl (D := D53) rfl rfl rfl rfl (by decide)) ?_
              refine .oy rfl rfl rfl rfl (op_load rfl rfl (D := D5) rfl rfl rfl) ?_
              refine .oy rfl rfl rfl rfl (op_bin rfl rfl rfl) ?_
              refine .oy rfl rfl rfl rfl (op_mv (rfl : _ = AV.bool _)) ?_
              refine .on rfl rfl rfl rfl ?_
              refine .on rfl rfl rfl rfl ?_
              refine .on rfl rfl rfl rfl ?_
              refine .on rfl rfl rfl rfl ?_
              refine .oy rfl rfl rfl rfl (op_pick rfl (rfl : _ = AV.bool _)) ?_
              refine .oy rfl rfl rfl rfl (op_mv (rfl : _ = AV.bool _)) ?_
              refine .oy rfl rfl rfl rfl (op_fieldAddr rfl (D := D53) rfl rfl rfl rfl (by decide)) ?_
              refine .oy rfl rfl rfl rfl (op_load rfl rfl (D := D5) rfl rfl rfl) ?_
              refine .oy rfl rfl rfl rfl (op_bin rfl rfl rfl) ?_
              refine .oy rfl rfl rfl rfl (op_mv (rfl : _ = AV.bool _)) ?_
              refine .oy rfl rfl rfl rfl (op_mv (rfl : _ = AV.int _ _)) ?_
              refine .oy rfl rfl rfl rfl (op_fieldAddr rfl (D := D53) rfl rfl rfl rfl (by decide)) ?_
              refine .oy rfl rfl rfl rfl (op_load rfl rfl (D := D3) rfl rfl rfl) ?_
              refine .oy rfl rfl rfl rfl (op_bin rfl rfl rfl) ?_
              refine .oy rfl rfl rfl rfl (op_pick rfl (rfl : _ = AV.bool _)) ?_
              refine .oy rfl rfl rfl rfl (op_pick rfl (rfl : _ = AV.bool _)) ?_
              refine .o1 rfl rfl (op_pick rfl (rfl : _ = AV.bool _)) ?_
              refine .nil ?_
              refine .keep [0, 1, 4, 6, 7, 65] ?_
              exact cont (decide ((z : Int) ≤ m)) (by simp [badN, h4])
          · rw [show ((e4 : Int) == 0) = false by simp [h4]]
            refine .o1 rfl rfl (op_mv (rfl : _ = AV.bool _)) ?_
            refine .on rfl rfl rfl rfl ?_
            refine .on rfl rfl rfl rfl ?_
            refine .on rfl rfl rfl rfl ?_
            refine .on rfl rfl rfl rfl ?_
            refine .on rfl rfl rfl rfl ?_
            refine .on rfl rfl rfl rfl ?_
            refine .on rfl rfl rfl rfl ?_
            refine .on rfl rfl rfl rfl ?_
            refine .on rfl rfl rfl rfl ?_
            refine .on rfl rfl rfl rfl ?_
            refine .on rfl rfl rfl rfl ?_
            refine .on rfl rfl rfl rfl ?_
            refine .on rfl rfl rfl rfl ?_
            refine .on rfl rfl rfl rfl ?_
            refine .on rfl rfl rfl rfl ?_
            refine .on rfl rfl rfl rfl ?_
            refine .on rfl rfl rfl rfl ?_
            refine .on rfl rfl rfl rfl ?_
            refine .on rfl rfl rfl rfl ?_
            refine .on rfl rfl rfl rfl ?_
            refine .o1 rfl rfl (op_pick rfl (rfl : _ = AV.bool _)) ?_
            refine .nil ?_
            refine .keep [0, 1, 4, 6, 7, 65] ?_
            exact cont false (by simp [h4])
  · refine .region rfl ?_
    by_cases h0 : at_ < 0
    · refine .o1 rfl rfl (op_mv (rfl : _ = AV.int _ _)) ?_
      refine .o1 rfl rfl (op_bin rfl rfl rfl) ?_
      rw [show decide (at_ < 0) = true by simp [h0]]
      refine .o1 rfl rfl (op_mv (rfl : _ = AV.bool _)) ?_
      refine .on rfl rfl rfl rfl ?_
      refine .on rfl rfl rfl rfl ?_
      refine .on rfl rfl rfl rfl ?_
      refine .on rfl rfl rfl rfl ?_
      refine .o1 rfl rfl (op_pick rfl (rfl : _ = AV.bool _)) ?_
      refine .nil ?_
      refine .keep [0, 1, 4, 18] ?_
      exact cont true (by simp [h0])
    · refine .o1 rfl rfl (op_mv (rfl : _ = AV.int _ _)) ?_
      refine .o1 rfl rfl (op_bin rfl rfl rfl) ?_
      rw [show decide (at_ < 0) = false by simp [h0]]
      refine .o1 rfl rfl (op_mv (rfl : _ = AV.bool _)) ?_
      refine .oy rfl rfl rfl rfl (op_mv (rfl : _ = AV.int _ _)) ?_
      refine .oy rfl rfl rfl rfl (op_mv (by first | exact (rfl : _ = AV.sl _ _) | exact (rfl : _ = AV.row _ _))) ?_
      refine .oy rfl rfl rfl rfl (op_lenSl rfl (S := D22) rfl rfl) ?_
      refine .oy rfl rfl rfl rfl (op_bin rfl rfl rfl) ?_
      refine .o1 rfl rfl (op_pick rfl (rfl : _ = AV.bool _)) ?_
      refine .nil ?_
      refine .keep [0, 1, 4, 18] ?_
      exact cont (decide (((bs b).length : Int) < at_)) (by simp [h0, bs_length])
end Rm

namespace Rm
open Go Go.Proofs
open Go.RowKit
set_option maxHeartbeats 4000000

theorem readS_zero {b : List UInt8} {at_ : Int} (h : (readS b at_).2 ≠ 0) : (readS b at_).1 = {} := by
  have key : ∀ c n, (readC c n).2 ≠ 0 → (readC c n).1 = {} := fun c n h => by
    unfold readC at h ⊢
    simp only at h ⊢
    split
    · rfl
    · rename_i q; rw [if_neg q] at h
      split
      · rfl
      · rename_i q; rw [if_neg q] at h
        split
        · rfl
        · rename_i q; rw [if_neg q] at h
          split
          · rfl
          · rename_i q; rw [if_neg q] at h
            split
            · rfl
            · rename_i q; rw [if_neg q] at h
              split
              · rfl
              · rename_i q; rw [if_neg q] at h; exact absurd rfl h
  unfold readS at h ⊢
  split
  · rfl
  · rename_i q
    rw [if_neg q] at h
    exact key _ _ h

theorem c9 {clip : Bool} {b : List UInt8} {at_ : Int} (hb : b.length ≤ 100000) : Ctr Tryd.prog mG 9 [] [.sl clip (bs b), .int .i64 at_] (fun st' r => st' = [] ∧ r = .tup [.int .u8 (readS b at_).1.kind.toNat, .int .i64 (readS b at_).1.next, .int .i64 (readS b at_).2]) := by
  have hc := c23 (clip := clip) (at_ := at_) hb
  by_cases he : (readS b at_).2 = 0
  · obtain ⟨⟨kd, pk, sz, bd, nx⟩, er, hr⟩ : ∃ x e, readS b at_ = (x, e) := ⟨_, _, rfl⟩
    rw [hr] at hc he ⊢
    simp only at he
    subst he
    refine Ctr.of_bodyO (E := Ev) (n := 20) Tryd.func9 rfl rfl (Nat.le_of_ble_eq_true rfl) ?_
    show AGo Ev _ _ (lst 20 [(0, .sl clip (bs b)), (1, .int .i64 at_)]) _ _
    refine .seq ?_
    refine .region rfl ?_
    refine .o1 rfl rfl (op_as (rfl : _ = AV.int _ _)) ?_
    refine .o1 rfl rfl (op_as (rfl : _ = AV.int _ _)) ?_
    refine .o1 rfl rfl (op_as (rfl : _ = AV.int _ _)) ?_
    refine .nil ?_
    refine .seq ?_
    refine .region rfl ?_
    refine .o1 rfl rfl (op_mv (by first | exact (rfl : _ = AV.sl _ _) | exact (rfl : _ = AV.row _ _))) ?_
    refine .o1 rfl rfl (op_mv (rfl : _ = AV.int _ _)) ?_
    refine .o1 rfl rfl (op_callJ Tryd.func23 rfl rfl rfl rfl hc) ?_
    refine .o1 rfl rfl (op_mv (by first | exact (rfl : _ = AV.int _ _) | exact (rfl : _ = AV.bool _) | exact (rfl : _ = AV.str _) | exact (rfl : _ = AV.sl _ _) | exact (rfl : _ = AV.row _ _) | exact (rfl : _ = AV.ptr _ _) | exact (rfl : _ = AV.tup _) | exact (rfl : _ = AV.agg _) | exact (rfl : _ = AV.fn _ _ _) | exact (rfl : _ = AV.nilp) | exact (rfl : _ = AV.mp _) | exact (rfl : _ = AV.vptr _) | exact (rfl : _ = AV.any))) ?_
    refine .o1 rfl rfl (op_extract rfl rfl) ?_
    refine .o1 rfl rfl (op_extract rfl rfl) ?_
    refine .o1 rfl rfl (op_alloc (D := D53) rfl) ?_
    refine .o0 rfl rfl (op_storeA rfl rfl (D := D53) rfl rfl rfl rfl rfl) ?_
    refine .o1 rfl rfl (op_as (rfl : _ = AV.int _ _)) ?_
    refine .nil ?_
    try dsimp only [List.set, setR, D31, D53, D57, D69, D86, D95, D22, D3, D9, List.take_succ_cons, List.take_zero, List.drop_succ_cons, List.drop_zero, List.length_cons, List.length_nil, List.nil_append, List.cons_append, Nat.reduceAdd, Nat.zero_add]
    refine .seq ?_
    refine .drawn [] rfl (by decide) (by decide +kernel) ?_
    refine .ds rfl rfl rfl (fun _ => (op_fieldAddr rfl (D := D53) rfl rfl rfl rfl (by decide))) ?_
    refine .dp 0 rfl rfl rfl (by decide +kernel) rfl (op_load rfl rfl (D := D5) rfl rfl rfl) ?_
    refine .ds rfl rfl rfl (fun _ => (op_fieldAddr rfl (D := D53) rfl rfl rfl rfl (by decide))) ?_
    refine .dp 0 rfl rfl rfl (by decide +kernel) rfl (op_load rfl rfl (D := D3) rfl rfl rfl) ?_
    refine .ds rfl rfl rfl (fun _ => (op_mv (rfl : _ = AV.int _ _))) ?_
    refine .ds rfl rfl rfl (fun _ => (op_as (rfl : _ = AV.int _ _))) ?_
    refine .ds rfl rfl rfl (fun _ => (op_as (rfl : _ = AV.int _ _))) ?_
    refine .ds rfl rfl rfl (fun _ => (op_as (rfl : _ = AV.int _ _))) ?_
    refine .nil rfl rfl ?_
    refine .ret ?_
    exact ⟨_, _, _, .cons (.tmpO _ rfl) (.cons (.tmpO _ rfl) (.cons (.tmpO _ rfl) .nil)), .drop 0 (Nat.le_refl _) rfl (fun _ => rfl), rfl, rfl⟩
  · have hz := readS_zero he
    obtain ⟨er, hr⟩ : ∃ e, (readS b at_).2 = e := ⟨_, rfl⟩
    rw [hz, hr]
    rw [hr] at he
    rw [rdRes_bad he (Prod.ext hz hr)] at hc
    refine Ctr.of_bodyO (E := Ev) (n := 20) Tryd.func9 rfl rfl (Nat.le_of_ble_eq_true rfl) ?_
    show AGo Ev _ _ (lst 20 [(0, .sl clip (bs b)), (1, .int .i64 at_)]) _ _
    refine .seq ?_
    refine .region rfl ?_
    refine .o1 rfl rfl (op_as (rfl : _ = AV.int _ _)) ?_
    refine .o1 rfl rfl (op_as (rfl : _ = AV.int _ _)) ?_
    refine .o1 rfl rfl (op_as (rfl : _ = AV.int _ _)) ?_
    refine .nil ?_
    refine .seq ?_
    refine .region rfl ?_
    refine .o1 rfl rfl (op_mv (by first | exact (rfl : _ = AV.sl _ _) | exact (rfl : _ = AV.row _ _))) ?_
    refine .o1 rfl rfl (op_mv (rfl : _ = AV.int _ _)) ?_
    refine .o1 rfl rfl (op_callJ Tryd.func23 rfl rfl rfl rfl hc) ?_
    refine .o1 rfl rfl (op_mv (by first | exact (rfl : _ = AV.int _ _) | exact (rfl : _ = AV.bool _) | exact (rfl : _ = AV.str _) | exact (rfl : _ = AV.sl _ _) | exact (rfl : _ = AV.row _ _) | exact (rfl : _ = AV.ptr _ _) | exact (rfl : _ = AV.tup _) | exact (rfl : _ = AV.agg _) | exact (rfl : _ = AV.fn _ _ _) | exact (rfl : _ = AV.nilp) | exact (rfl : _ = AV.mp _) | exact (rfl : _ = AV.vptr _) | exact (rfl : _ = AV.any))) ?_
    refine .o1 rfl rfl (op_extract rfl rfl) ?_
    refine .o1 rfl rfl (op_extract rfl rfl) ?_
    refine .o1 rfl rfl (op_alloc (D := D53) rfl) ?_
    refine .o0 rfl rfl (op_storeA rfl rfl (D := D53) rfl rfl rfl rfl rfl) ?_
    refine .o1 rfl rfl (op_as (rfl : _ = AV.int _ _)) ?_
    refine .nil ?_
    try dsimp only [List.set, setR, D31, D53, D57, D69, D86, D95, D22, D3, D9, List.take_succ_cons, List.take_zero, List.drop_succ_cons, List.drop_zero, List.length_cons, List.length_nil, List.nil_append, List.cons_append, Nat.reduceAdd, Nat.zero_add]
    refine .seq ?_
    refine .drawn [] rfl (by decide) (by decide +kernel) ?_
    refine .ds rfl rfl rfl (fun _ => (op_fieldAddr rfl (D := D53) rfl rfl rfl rfl (by decide))) ?_
    refine .dp 0 rfl rfl rfl (by decide +kernel) rfl (op_load rfl rfl (D := D5) rfl rfl rfl) ?_
    refine .ds rfl rfl rfl (fun _ => (op_fieldAddr rfl (D := D53) rfl rfl rfl rfl (by decide))) ?_
    refine .dp 0 rfl rfl rfl (by decide +kernel) rfl (op_load rfl rfl (D := D3) rfl rfl rfl) ?_
    refine .ds rfl rfl rfl (fun _ => (op_mv (rfl : _ = AV.int _ _))) ?_
    refine .ds rfl rfl rfl (fun _ => (op_as (rfl : _ = AV.int _ _))) ?_
    refine .ds rfl rfl rfl (fun _ => (op_as (rfl : _ = AV.int _ _))) ?_
    refine .ds rfl rfl rfl (fun _ => (op_as (rfl : _ = AV.int _ _))) ?_
    refine .nil rfl rfl ?_
    refine .ret ?_
    exact ⟨_, _, _, .cons (.tmpO _ rfl) (.cons (.tmpO _ rfl) (.cons (.tmpO _ rfl) .nil)), .drop 0 (Nat.le_refl _) rfl (fun _ => rfl), rfl, rfl⟩

/-- Room. -/
theorem c45 {st : List Ob} {om oo o v n m : Nat} {most : Int} {l : List UInt8} (hm : st[om]? = some (.var [.int .i64 most])) (hoo : st[oo]? = some (.var [.row o v])) (ho : st[o]? = some (.row v 1 (bs l) false)) (hmo : most.toNat = m) (hb : most ≤ 2147483647) (_hn : n ≤ 1000) (hl : l.length ≤ 1000000000) :
    Ctr Tryd.prog mG 45 st [.int .i64 n, .ptr om 0, .ptr oo 0] (fun st' r => st' = st ∧ r = .bool (decide (l.length + n ≤ m))) := by
  refine Ctr.of_bodyO (E := Ev) (n := 12) Tryd.func45 rfl rfl (Nat.le_of_ble_eq_true rfl) ?_
  show AGo Ev _ _ (lst 12 [(0, .int .i64 n), (1, .ptr om 0), (2, .ptr oo 0)]) _ _
  refine .seq ?_
  refine .region rfl ?_
  refine .o1 rfl rfl (op_as (rfl : _ = AV.bool _)) ?_
  refine .nil ?_
  refine .seq ?_
  refine .region rfl ?_
  refine .o1 rfl rfl (op_mv (rfl : _ = AV.int _ _)) ?_
  refine .o1 rfl rfl (op_load rfl hm (D := D3) rfl rfl rfl) ?_
  refine .o1 rfl rfl (op_max rfl rfl) ?_
  have e1 : (if (0 : Int) < most then most else 0) = (m : Int) := by split <;> omega
  rw [e1]
  refine .o1 rfl rfl (op_load rfl hoo (D := D22) rfl rfl rfl) ?_
  refine .o1 rfl rfl (op_lenRow rfl ho (S := D22) rfl rfl) ?_
  refine .o1 rfl rfl (op_sub rfl rfl (by simp only [lo, bs_length]; omega) (by simp only [hi, bs_length]; omega)) ?_
  refine .o1 rfl rfl (op_bin rfl rfl rfl) ?_
  have e2 : decide ((n : Int) ≤ (m : Int) - ((bs l).length : Int)) = decide (l.length + n ≤ m) := by rw [bs_length, Bool.eq_iff_iff]; simp; omega
  rw [e2]
  refine .o1 rfl rfl (op_as (rfl : _ = AV.bool _)) ?_
  refine .nil ?_
  refine .ret ?_
  exact ⟨_, _, _, .cons (.tmpO _ rfl) .nil, .drop st.length (Nat.le_refl _) rfl (fun h => by simpa using h), by rw [List.take_length], rfl⟩
end Rm

namespace Rm
open Go Go.Proofs
open Go.RowKit
set_option maxHeartbeats 8000000

section
variable {g : Operand → AV} {st : List Ob} {d : Option Tmp} {t : TypeId} {p : String} {af : Array Edge} {gd : Option (Nat × Bool)}
/-- Bytes behind bytes of one's own. -/
theorem op_appB {x y : Operand} {o ver : Nat} {l l2 : List UInt8} (hx : g x = .row o ver) (ho : st[o]? = some (.row ver 1 (bs l) false)) (hy : SrcA st (g y) (bs l2)) (hl : l.length + l2.length ≤ 1000000000) :
    OpOk Ev ⟨d, .call ⟨.builtin .append, #[x, y], #[22, 22]⟩, t, p, af, gd⟩ g st (Just (.row o (ver + 1)) (st.set o (.row (ver + 1) 1 (bs (l ++ l2)) false))) :=
  op_append_row hx ho hy (S := D22) rfl rfl (D := D5) rfl rfl rfl (Sx := D22) rfl rfl (bs_one l2) (bs_oneA l2) (by rw [bs_length, bs_length]; simp only [D5]; omega) (by rw [bs_length, bs_length]; omega) rfl (bs_append l l2)
end
theorem lit1 (c : UInt8) : ([AV.int .u8 c.toNat].map fun v => [v]) = bs [c] := rfl

def unRes (x : List UInt8 × Nat) : List Ob × AV := if x.2 = 0 then ([.row 0 1 (bs x.1) false], .tup [.row 0 0, .int .i64 0]) else ([], .tup [.sl true [], .int .i64 x.2])
theorem unRes_bad {x : List UInt8 × Nat} {l : List UInt8} {e : Nat} (he : e ≠ 0) (h : x = (l, e)) : unRes x = ([], .tup [.sl true [], .int .i64 e]) := by
  subst h; unfold unRes; rw [if_neg he]
theorem unRes_good {x : List UInt8 × Nat} {l : List UInt8} (h : x = (l, 0)) : unRes x = ([.row 0 1 (bs l) false], .tup [.row 0 0, .int .i64 0]) := by
  subst h; rfl
theorem fin26 {x : List UInt8 × Nat} {l : List UInt8} {e : Nat} {fr : List AV} {st : List Ob} (he : e ≠ 0) (h : x = (l, e)) (h4 : fr.getD 4 .any = .sl true []) (h5 : fr.getD 5 .any = .int .i64 e) : Fin Ev Tryd.f26.results.toList [] (fun st' r => st' = (unRes x).1 ∧ r = (unRes x).2) fr st := by
  rw [unRes_bad he h]
  refine ⟨_, _, _, .cons (.tmp _) (.cons (.tmp _) .nil), .drop 0 (Nat.le_refl _) ?_ (fun _ => rfl), rfl, ?_⟩
  · show okA 0 (.tup [fr.getD 4 .any, fr.getD 5 .any]) = true
    rw [h4, h5]; rfl
  · show AV.tup [fr.getD 4 .any, fr.getD 5 .any] = _
    rw [h4, h5]

theorem c26 {clip : Bool} {c : List UInt8} {most : Int} (hc : c.length ≤ 100000) (hm : most ≤ 2147483647) (hm0 : -2147483648 ≤ most) : Ctr Tryd.prog mG 26 [] [.sl clip (bs c), .int .i64 most] (fun st' r => st' = (unRes (unpackS c most.toNat)).1 ∧ r = (unRes (unpackS c most.toNat)).2) := by
  have hcb : c.length ≤ 1000000 := by omega
  obtain ⟨mo, hmo⟩ : ∃ mo, most.toNat = mo := ⟨_, rfl⟩
  rw [hmo]
  have hmob : mo ≤ 2147483647 := by omega
  refine Ctr.of_bodyO (E := Ev) (n := 103) Tryd.func26 rfl rfl (Nat.le_of_ble_eq_true rfl) ?_
  show AGo Ev _ _ (lst 103 [(0, .sl clip (bs c)), (1, .int .i64 most)]) _ _
  refine .seq ?_
  refine .region rfl ?_
  refine .o1 rfl rfl (op_box1 (by first | exact (rfl : _ = AV.int _ _) | exact (rfl : _ = AV.bool _) | exact (rfl : _ = AV.str _) | exact (rfl : _ = AV.sl _ _) | exact (rfl : _ = AV.row _ _) | exact (rfl : _ = AV.ptr _ _) | exact (rfl : _ = AV.tup _) | exact (rfl : _ = AV.agg _) | exact (rfl : _ = AV.fn _ _ _) | exact (rfl : _ = AV.nilp) | exact (rfl : _ = AV.mp _) | exact (rfl : _ = AV.vptr _) | exact (rfl : _ = AV.any)) rfl) ?_
  refine .o1 rfl rfl (op_as (by first | exact (rfl : _ = AV.sl _ _) | exact (rfl : _ = AV.row _ _))) ?_
  refine .o1 rfl rfl (op_as (rfl : _ = AV.int _ _)) ?_
  refine .nil ?_
  try dsimp only [List.set, setR, D31, D53, D57, D69, D86, D95, D22, D3, D9, List.take_succ_cons, List.take_zero, List.drop_succ_cons, List.drop_zero, List.length_cons, List.length_nil, List.nil_append, List.cons_append, Nat.reduceAdd, Nat.zero_add]
  refine .seq ?_
  refine .region rfl ?_
  refine .o1 rfl rfl (op_mv (by first | exact (rfl : _ = AV.sl _ _) | exact (rfl : _ = AV.row _ _))) ?_
  refine .o1 rfl rfl (op_callJ Tryd.func35 rfl rfl rfl rfl (c35 (okLL_bs _ _))) ?_
  refine .o1 rfl rfl (op_as (by first | exact (rfl : _ = AV.ptr _ _) | exact (rfl : _ = AV.nilp))) ?_
  refine .nil ?_
  try dsimp only [List.set, setR, D31, D53, D57, D69, D86, D95, D22, D3, D9, List.take_succ_cons, List.take_zero, List.drop_succ_cons, List.drop_zero, List.length_cons, List.length_nil, List.nil_append, List.cons_append, Nat.reduceAdd, Nat.zero_add]
  refine .seq ?_
  refine .region rfl ?_
  refine .o1 rfl rfl (op_alloc (D := D22) rfl) ?_
  refine .nil ?_
  try dsimp only [List.set, setR, D31, D53, D57, D69, D86, D95, D22, D3, D9, List.take_succ_cons, List.take_zero, List.drop_succ_cons, List.drop_zero, List.length_cons, List.length_nil, List.nil_append, List.cons_append, Nat.reduceAdd, Nat.zero_add]
  refine .adopt 1 (by decide) ?_
  refine .becomeCell 2 0 3 (ver := 0) (sz := 1) (es0 := []) (fz := false) (cs := D22.z) rfl rfl rfl (by decide) ?_
  refine .seq ?_
  refine .region rfl ?_
  refine .o1 rfl rfl op_makeFunc ?_
  refine .o1 rfl rfl (op_as (by first | exact (rfl : _ = AV.int _ _) | exact (rfl : _ = AV.bool _) | exact (rfl : _ = AV.str _) | exact (rfl : _ = AV.sl _ _) | exact (rfl : _ = AV.row _ _) | exact (rfl : _ = AV.ptr _ _) | exact (rfl : _ = AV.tup _) | exact (rfl : _ = AV.agg _) | exact (rfl : _ = AV.fn _ _ _) | exact (rfl : _ = AV.nilp) | exact (rfl : _ = AV.mp _) | exact (rfl : _ = AV.vptr _) | exact (rfl : _ = AV.any))) ?_
  refine .nil ?_
  refine .seq ?_
  refine .block ?_
  refine .keep [6, 7, 8] ?_
  refine .loop (σ := Nat × Nat × List UInt8 × Nat) (c.length + 1, 0, [], 1) (fun s => s.2.1 ≤ c.length ∧ c.length < s.2.1 + s.1 ∧ unS c mo s.1 s.2.1 s.2.2.1 = unpackS c mo ∧ s.2.2.1.length ≤ 66 * s.2.1) (fun s => s.1) (fun s => lst 103 [(6, .ptr 1 0), (7, .ptr 2 0), (8, .fn (.func 45) [] [.ptr 0 0, .ptr 2 0])]) (fun s => [.var [.int .i64 most], rdO clip c s.2.1 0, .var [.row 3 s.2.2.2], .row s.2.2.2 1 (bs s.2.2.1) false]) ⟨Nat.zero_le _, by simp only; omega, rfl, Nat.le_refl _⟩ rfl rfl ?_
  rintro ⟨f, a, out, v⟩ ⟨h1, h2, h3, h4⟩ again
  dsimp only at h1 h2 h3 h4 again ⊢
  obtain ⟨f, rfl⟩ : ∃ f', f = f' + 1 := ⟨f - 1, by omega⟩
  rw [unS_succ] at h3
  have hlo : out.length ≤ 6600000 := by omega
  refine .seq ?_
  refine .seq ?_
  refine .region rfl ?_
  refine .o1 rfl rfl (op_mv (by first | exact (rfl : _ = AV.ptr _ _) | exact (rfl : _ = AV.nilp))) ?_
  refine .o1 rfl rfl (op_callJ Tryd.func46 rfl rfl rfl rfl (c46 (o := 1) (clip := clip) (es := bs c) (a := a) (e := ((0 : Nat) : Int)) rfl (by omega) (by rw [bs_length]; omega) (by rw [bs_length]; omega))) ?_
  refine .o1 rfl rfl (op_bin rfl rfl rfl) ?_
  refine .nil ?_
  refine .condO rfl (fun h => ?_) (fun h => ?_)   -- t17
  · have hlt : a < c.length := by simp [bs_length] at h; omega
    obtain ⟨k, hk⟩ : ∃ k, c[a]? = some k := ⟨c[a], by simp [hlt]⟩
    have hkb := k.toNat_lt
    rw [hk] at h3
    simp only at h3
    refine .skip ?_
    refine .block ?_
    refine .seq ?_
    refine .region rfl ?_
    refine .o1 rfl rfl (op_mv (by first | exact (rfl : _ = AV.ptr _ _) | exact (rfl : _ = AV.nilp))) ?_
    refine .o1 rfl rfl (op_callJ Tryd.func39 rfl rfl rfl rfl (c39r (o := 1) (k := 1) (rB_at hk) rfl h1 hcb)) ?_
    refine .o1 rfl rfl (op_indexAddr_row rfl rfl rfl (S := D22) rfl rfl (D := D5) rfl rfl (by decide) (by simp [bs_length])) ?_
    refine .o1 rfl rfl (op_load_r rfl rfl (D := D5) rfl rfl rfl) ?_
    refine .o1 rfl rfl (op_convInt (r := (k.toNat : Int)) rfl (S := D5) (D := D3) rfl rfl rfl (wrap_in (by simp only [lo]; omega) (by simp only [hi]; omega))) ?_
    refine .o1 rfl rfl (op_as (rfl : _ = AV.int _ _)) ?_
    refine .nil ?_
    try dsimp only [List.set, setR, D31, D53, D57, D69, D86, D95, D22, D3, D9, List.take_succ_cons, List.take_zero, List.drop_succ_cons, List.drop_zero, List.length_cons, List.length_nil, List.nil_append, List.cons_append, Nat.reduceAdd, Nat.zero_add]
    refine .keep [6, 7, 8, 9] ?_
    refine .drop 4 (Nat.zero_le _) rfl ?_ ?_
    · simp [okSt, okO, okL, okA, okLL_bs, rdO]
    show AGo _ _ _ (lst 103 [(6, .ptr 1 0), (7, .ptr 2 0), (8, .fn (.func 45) [] [.ptr 0 0, .ptr 2 0]), (9, .int .i64 k.toNat)]) [.var [.int .i64 most], rdO clip c (a + 1) 0, .var [.row 3 v], .row v 1 (bs out) false] _
    refine .seq ?_
    refine .block ?_
    refine .seq ?_
    refine .region rfl ?_
    refine .o1 rfl rfl (op_mv (rfl : _ = AV.int _ _)) ?_
    refine .o1 rfl rfl (op_bin rfl rfl rfl) ?_
    refine .o1 rfl rfl (op_as (rfl : _ = AV.bool _)) ?_
    refine .nil ?_
    refine .condO rfl (fun h => ?_) (fun h => ?_)   -- t71
    · have h128 : 128 ≤ k.toNat := by simp at h; omega
      rw [if_pos h128] at h3
      refine .seq ?_
      refine .region rfl ?_
      refine .o1 rfl rfl (op_as (by first | exact (rfl : _ = AV.sl _ _) | exact (rfl : _ = AV.row _ _))) ?_
      refine .o1 rfl rfl (op_as (rfl : _ = AV.int _ _)) ?_
      refine .nil ?_
      refine .ret ?_
      exact fin26 (by decide) h3.symm (by rw [getD_lst]; rfl) (by rw [getD_lst]; rfl)
    · have h128 : ¬ 128 ≤ k.toNat := by simp at h; omega
      rw [if_neg h128] at h3
      refine .seq ?_
      refine .region rfl ?_
      refine .o1 rfl rfl (op_mv (rfl : _ = AV.int _ _)) ?_
      refine .o1 rfl rfl (op_rem rfl rfl (by omega) (by omega)) ?_
      refine .o1 rfl rfl (op_bin rfl rfl rfl) ?_
      by_cases h20 : k.toNat % 2 = 0
      · rw [if_pos h20] at h3
        rw [show ((k.toNat : Int) % 2 == 0) = true by simp; omega]
        have en : (k.toNat : Int) / 2 + 1 = ((k.toNat / 2 + 1 : Nat) : Int) := by omega
        refine .o1 rfl rfl (op_mv (rfl : _ = AV.bool _)) ?_
        refine .oy rfl rfl rfl rfl (op_mv (rfl : _ = AV.fn _ _ _)) ?_
        refine .oy rfl rfl rfl rfl (op_mv (rfl : _ = AV.int _ _)) ?_
        refine .oy rfl rfl rfl rfl (op_quo rfl rfl (by omega) (by omega) (by simp only [Rm.hi]; omega)) ?_
        refine .oy rfl rfl rfl rfl (op_add rfl rfl (by simp only [Rm.lo]; omega) (by simp only [Rm.hi]; omega)) ?_
        rw [en]
        refine .oy rfl rfl rfl rfl (op_callJ Tryd.func45 rfl rfl rfl rfl (c45 (om := 0) (oo := 2) (o := 3) rfl rfl rfl hmo (by omega) (by omega) (by omega))) ?_
        refine .oy rfl rfl rfl rfl (op_not rfl) ?_
        refine .o1 rfl rfl (op_pick rfl (rfl : _ = AV.bool _)) ?_
        refine .o1 rfl rfl (op_as (rfl : _ = AV.bool _)) ?_
        refine .nil ?_
        refine .condO rfl (fun h => ?_) (fun h => ?_)   -- t74
        · have hl : mo < out.length + (k.toNat / 2 + 1) := by simp at h; omega
          rw [if_pos hl] at h3
          refine .seq ?_
          refine .region rfl ?_
          refine .o1 rfl rfl (op_as (by first | exact (rfl : _ = AV.sl _ _) | exact (rfl : _ = AV.row _ _))) ?_
          refine .o1 rfl rfl (op_as (rfl : _ = AV.int _ _)) ?_
          refine .nil ?_
          refine .ret ?_
          exact fin26 (by decide) h3.symm (by rw [getD_lst]; rfl) (by rw [getD_lst]; rfl)
        · have hl : ¬ mo < out.length + (k.toNat / 2 + 1) := by simp at h; omega
          rw [if_neg hl] at h3
          obtain ⟨t, a2, e2, ht⟩ : ∃ t x e, rB c ((k.toNat / 2 + 1 : Nat) : Int) (a + 1, 0) = (t, x, e) := ⟨_, _, _, rfl⟩
          have l2 := rB_le (b := c) (k := ((k.toNat / 2 + 1 : Nat) : Int)) (s := (a + 1, 0)) hlt
          have l3 := rB_len (b := c) (k := ((k.toNat / 2 + 1 : Nat) : Int)) (s := (a + 1, 0))
          rw [ht] at l2 l3 h3
          simp only at l2 l3 h3
          refine .seq ?_
          refine .region rfl ?_
          refine .o1 rfl rfl (op_mv (rfl : _ = AV.int _ _)) ?_
          refine .o1 rfl rfl (op_rem rfl rfl (by omega) (by omega)) ?_
          refine .o1 rfl rfl (op_bin rfl rfl rfl) ?_
          rw [show ((k.toNat : Int) % 2 == 0) = true by simp; omega]
          refine .o1 rfl rfl (op_as (rfl : _ = AV.bool _)) ?_
          refine .nil ?_
          refine .condO rfl (fun _ => ?_) (fun h => by cases h)   -- t86
          refine .keep [6, 7, 8, 9] ?_
          refine .drawnJ 1 (fun s => s[2]? = some (.var [.row 3 v])) [5, 6, 7] rfl (by decide) (by decide +kernel) rfl ?_
          refine .dJ rfl rfl rfl (by decide +kernel) (fun _ hJ => (op_load rfl hJ (D := D22) rfl rfl rfl)) ?_
          refine .ds rfl rfl rfl (fun _ => (op_mv (by first | exact (rfl : _ = AV.ptr _ _) | exact (rfl : _ = AV.nilp)))) ?_
          refine .ds rfl rfl rfl (fun _ => (op_mv (rfl : _ = AV.int _ _))) ?_
          refine .ds rfl rfl rfl (fun _ => (op_quo rfl rfl (by omega) (by omega) (by simp only [Rm.hi]; omega))) ?_
          refine .ds rfl rfl rfl (fun _ => (op_add rfl rfl (by simp only [Rm.lo]; omega) (by simp only [Rm.hi]; omega))) ?_
          rw [en]
          refine .deJ 0 rfl rfl rfl rfl rfl (op_callJ Tryd.func39 rfl rfl rfl rfl (c39r (o := 1) (k := ((k.toNat / 2 + 1 : Nat) : Int)) ht rfl hlt hcb)) (fun _ => rfl) ?_
          refine .deJ 1 rfl rfl rfl rfl rfl (op_appB rfl rfl (.row _ _ _ _ _ rfl) (by omega)) (fun h => absurd h (by decide)) ?_
          refine .deJ0 2 rfl rfl rfl rfl rfl (op_store1 rfl rfl (D := D22) rfl (rfl : _ = AV.row _ _) rfl rfl (Nat.le_of_ble_eq_true rfl) rfl) (fun h => absurd h (by decide)) ?_
          try dsimp only [List.set, setR, D31, D53, D57, D69, D86, D95, D22, D3, D9, List.take_succ_cons, List.take_zero, List.drop_succ_cons, List.drop_zero, List.length_cons, List.length_nil, List.nil_append, List.cons_append, Nat.reduceAdd, Nat.zero_add]
          refine .nil rfl rfl ?_
          show AGo _ _ _ _ [.var [.int .i64 most], rdO clip c a2 e2, .var [.row 3 (v + 1)], .row (v + 1) 1 (bs (out ++ t)) false, .row 0 1 (bs t) false] _
          refine .inBlock ?_
          refine .seq ?_
          refine .region rfl ?_
          refine .o1 rfl rfl (op_mv (by first | exact (rfl : _ = AV.ptr _ _) | exact (rfl : _ = AV.nilp))) ?_
          refine .o1 rfl rfl (op_callJ Tryd.func38 rfl rfl rfl rfl (c38 (o := 1) (x := .sl clip (bs c)) (a := a2) (e := e2) rfl)) ?_
          refine .o1 rfl rfl (op_bin rfl rfl rfl) ?_
          refine .nil ?_
          refine .condO rfl (fun h => ?_) (fun h => ?_)   -- t99
          · have he : e2 ≠ 0 := by simp at h; omega
            rw [if_pos he] at h3
            refine .seq ?_
            refine .region rfl ?_
            refine .o1 rfl rfl (op_mv (by first | exact (rfl : _ = AV.ptr _ _) | exact (rfl : _ = AV.nilp))) ?_
            refine .o1 rfl rfl (op_callJ Tryd.func38 rfl rfl rfl rfl (c38 (o := 1) (x := .sl clip (bs c)) (a := a2) (e := e2) rfl)) ?_
            refine .o1 rfl rfl (op_as (by first | exact (rfl : _ = AV.sl _ _) | exact (rfl : _ = AV.row _ _))) ?_
            refine .o1 rfl rfl (op_as (rfl : _ = AV.int _ _)) ?_
            refine .nil ?_
            refine .ret ?_
            exact fin26 he h3.symm (by rw [getD_lst]; rfl) (by rw [getD_lst]; rfl)
          · have he : e2 = 0 := by simp at h; omega
            subst he
            rw [if_neg (by decide)] at h3
            obtain ⟨_, q1, q2, _⟩ := rB_lit ht (by omega)
            simp only at q1
            refine .skip ?_
            refine .inBlock ?_
            refine .keep [6, 7, 8] ?_
            refine .drop 4 (Nat.zero_le _) rfl ?_ ?_
            · simp [okSt, okO, okL, okA, okLL_bs, rdO]
            exact again (f, a2, out ++ t, v + 1) ⟨l2.1, by simp only; omega, h3, by simp only [List.length_append]; omega⟩ (by simp only; omega)
      · rw [if_neg h20] at h3
        rw [show ((k.toNat : Int) % 2 == 0) = false by simp; omega]
        obtain ⟨far, a2, e2, ht⟩ : ∃ t x e, rI c (a + 1, 0) = (t, x, e) := ⟨_, _, _, rfl⟩
        have l2 := rI_le (b := c) (s := (a + 1, 0)) hlt
        have l3 := rI_num (b := c) (s := (a + 1, 0))
        rw [ht] at l2 l3 h3
        simp only at l2 l3 h3
        refine .o1 rfl rfl (op_mv (rfl : _ = AV.bool _)) ?_
        refine .on rfl rfl rfl rfl ?_
        refine .on rfl rfl rfl rfl ?_
        refine .on rfl rfl rfl rfl ?_
        refine .on rfl rfl rfl rfl ?_
        refine .on rfl rfl rfl rfl ?_
        refine .on rfl rfl rfl rfl ?_
        refine .o1 rfl rfl (op_pick rfl (rfl : _ = AV.bool _)) ?_
        refine .o1 rfl rfl (op_as (rfl : _ = AV.bool _)) ?_
        try dsimp only [List.set, setR, D31, D53, D57, D69, D86, D95, D22, D3, D9, List.take_succ_cons, List.take_zero, List.drop_succ_cons, List.drop_zero, List.length_cons, List.length_nil, List.nil_append, List.cons_append, Nat.reduceAdd, Nat.zero_add]
        refine .nil ?_
        refine .condO rfl (fun h => by cases h) (fun _ => ?_)   -- t74
        refine .seq ?_
        refine .region rfl ?_
        refine .o1 rfl rfl (op_mv (rfl : _ = AV.int _ _)) ?_
        refine .o1 rfl rfl (op_rem rfl rfl (by omega) (by omega)) ?_
        refine .o1 rfl rfl (op_bin rfl rfl rfl) ?_
        rw [show ((k.toNat : Int) % 2 == 0) = false by simp; omega]
        refine .o1 rfl rfl (op_as (rfl : _ = AV.bool _)) ?_
        refine .nil ?_
        refine .condO rfl (fun h => by cases h) (fun _ => ?_)   -- t86
        refine .keep [6, 7, 8, 9] ?_
        refine .seq ?_
        have en : (k.toNat : Int) / 2 + 3 = ((k.toNat / 2 + 3 : Nat) : Int) := by omega
        refine .region rfl ?_
        refine .o1 rfl rfl (op_mv (rfl : _ = AV.int _ _)) ?_
        refine .o1 rfl rfl (op_quo rfl rfl (by omega) (by omega) (by simp only [Rm.hi]; omega)) ?_
        refine .o1 rfl rfl (op_add rfl rfl (by simp only [Rm.lo]; omega) (by simp only [Rm.hi]; omega)) ?_
        refine .o1 rfl rfl (op_mv (by first | exact (rfl : _ = AV.ptr _ _) | exact (rfl : _ = AV.nilp))) ?_
        refine .o1 rfl rfl (op_callJ Tryd.func37 rfl rfl rfl rfl (c37r (o := 1) ht rfl hlt hcb)) ?_
        refine .o1 rfl rfl (op_as (rfl : _ = AV.int _ _)) ?_
        refine .o1 rfl rfl (op_as (rfl : _ = AV.int _ _)) ?_
        refine .nil ?_
        try dsimp only [List.set, setR, D31, D53, D57, D69, D86, D95, D22, D3, D9, List.take_succ_cons, List.take_zero, List.drop_succ_cons, List.drop_zero, List.length_cons, List.length_nil, List.nil_append, List.cons_append, Nat.reduceAdd, Nat.zero_add]
        rw [en]
        obtain ⟨N, hN⟩ : ∃ N, k.toNat / 2 + 3 = N := ⟨_, rfl⟩
        rw [hN] at h3 ⊢
        refine .keep [6, 7, 8, 10, 11] ?_
        show AGo _ _ _ (lst 103 [(6, .ptr 1 0), (7, .ptr 2 0), (8, .fn (.func 45) [] [.ptr 0 0, .ptr 2 0]), (10, .int .i64 N), (11, .int .i64 far)]) [.var [.int .i64 most], rdO clip c a2 e2, .var [.row 3 v], .row v 1 (bs out) false] _
        refine .block ?_
        by_cases he : e2 = 0
        · subst he
          rw [if_neg (by decide)] at h3
          obtain ⟨_, q1, q2, q3⟩ := rI_num0 ht
          simp only at q1 q2
          refine .seq ?_
          refine .cut (σ := Bool) (fun t => t = true ↔ (4096 ≤ far ∨ out.length ≤ far)) (fun t => lst 103 [(6, .ptr 1 0), (7, .ptr 2 0), (8, .fn (.func 45) [] [.ptr 0 0, .ptr 2 0]), (10, .int .i64 N), (11, .int .i64 far), (28, .bool t)]) (fun _ => [.var [.int .i64 most], rdO clip c a2 0, .var [.row 3 v], .row v 1 (bs out) false]) (fun t htt => ?_) (fun cont => ?_)
          · refine .condO rfl (fun h => ?_) (fun h => ?_)   -- t28
            · subst h
              rw [if_pos (htt.1 rfl)] at h3
              refine .seq ?_
              refine .region rfl ?_
              refine .o1 rfl rfl (op_as (by first | exact (rfl : _ = AV.sl _ _) | exact (rfl : _ = AV.row _ _))) ?_
              refine .o1 rfl rfl (op_as (rfl : _ = AV.int _ _)) ?_
              refine .nil ?_
              refine .ret ?_
              exact fin26 (by decide) h3.symm (by rw [getD_lst]; rfl) (by rw [getD_lst]; rfl)
            · subst h
              have hbad : ¬ (4096 ≤ far ∨ out.length ≤ far) := fun q => by have := htt.2 q; cases this
              rw [if_neg hbad] at h3
              refine .seq ?_
              refine .region rfl ?_
              refine .o1 rfl rfl (op_mv (by first | exact (rfl : _ = AV.ptr _ _) | exact (rfl : _ = AV.nilp))) ?_
              refine .o1 rfl rfl (op_callJ Tryd.func38 rfl rfl rfl rfl (c38 (o := 1) (x := .sl clip (bs c)) (a := a2) (e := ((0 : Nat) : Int)) rfl)) ?_
              refine .o1 rfl rfl (op_bin rfl rfl rfl) ?_
              refine .o1 rfl rfl (op_mv (rfl : _ = AV.bool _)) ?_
              refine .oy rfl rfl rfl rfl (op_mv (rfl : _ = AV.fn _ _ _)) ?_
              refine .oy rfl rfl rfl rfl (op_mv (rfl : _ = AV.int _ _)) ?_
              refine .oy rfl rfl rfl rfl (op_callJ Tryd.func45 rfl rfl rfl rfl (c45 (om := 0) (oo := 2) (o := 3) rfl rfl rfl hmo (by omega) (by omega) (by omega))) ?_
              refine .oy rfl rfl rfl rfl (op_not rfl) ?_
              refine .o1 rfl rfl (op_pick rfl (rfl : _ = AV.bool _)) ?_
              refine .o1 rfl rfl (op_as (rfl : _ = AV.bool _)) ?_
              refine .nil ?_
              refine .condO rfl (fun h => ?_) (fun h => ?_)   -- t42
              · have hl : mo < out.length + N := by simp at h; omega
                rw [if_pos hl] at h3
                refine .seq ?_
                refine .region rfl ?_
                refine .o1 rfl rfl (op_as (by first | exact (rfl : _ = AV.sl _ _) | exact (rfl : _ = AV.row _ _))) ?_
                refine .o1 rfl rfl (op_as (rfl : _ = AV.int _ _)) ?_
                refine .nil ?_
                refine .ret ?_
                exact fin26 (by decide) h3.symm (by rw [getD_lst]; rfl) (by rw [getD_lst]; rfl)
              · have hl : ¬ mo < out.length + N := by simp at h; omega
                rw [if_neg hl] at h3
                refine .seq ?_
                refine .region rfl ?_
                refine .o1 rfl rfl (op_mv (by first | exact (rfl : _ = AV.ptr _ _) | exact (rfl : _ = AV.nilp))) ?_
                refine .o1 rfl rfl (op_callJ Tryd.func38 rfl rfl rfl rfl (c38 (o := 1) (x := .sl clip (bs c)) (a := a2) (e := ((0 : Nat) : Int)) rfl)) ?_
                refine .o1 rfl rfl (op_bin rfl rfl rfl) ?_
                refine .o1 rfl rfl (op_as (rfl : _ = AV.bool _)) ?_
                refine .nil ?_
                refine .condO rfl (fun _ => ?_) (fun h => by cases h)   -- t52
                refine .seq ?_
                refine .region rfl ?_
                refine .o1 rfl rfl (op_mv (rfl : _ = AV.int _ _)) ?_
                refine .o1 rfl rfl (op_mv (rfl : _ = AV.int _ _)) ?_
                refine .nil ?_
                refine .block ?_
                refine .keep [6, 7, 8, 11, 56, 57] ?_
                refine .loop (σ := Nat × List UInt8 × Nat) (0, out, v) (fun s => s.1 ≤ N ∧ copyN far (N - s.1) s.2.1 = copyN far N out ∧ s.2.1.length = out.length + s.1) (fun s => N - s.1) (fun s => lst 103 [(6, .ptr 1 0), (7, .ptr 2 0), (8, .fn (.func 45) [] [.ptr 0 0, .ptr 2 0]), (11, .int .i64 far), (56, .int .i64 N), (57, .int .i64 s.1)]) (fun s => [.var [.int .i64 most], rdO clip c a2 0, .var [.row 3 s.2.2], .row s.2.2 1 (bs s.2.1) false]) ⟨Nat.zero_le _, rfl, rfl⟩ rfl rfl ?_
                rintro ⟨i, w, v'⟩ ⟨p1, p2, p3⟩ again2
                dsimp only at p1 p2 p3 again2 ⊢
                refine .seq ?_
                refine .region rfl ?_
                refine .o1 rfl rfl (op_bin rfl rfl rfl) ?_
                refine .nil ?_
                refine .seq ?_
                refine .condO rfl (fun h => ?_) (fun h => ?_)   -- t58
                · have hiN : i < N := by simp at h; omega
                  have hw : w.length - 1 - far < w.length := by omega
                  have hget : (bs w)[((w.length : Int) - 1 - far).toNat]? = some [.int .u8 (w.getD (w.length - 1 - far) 0).toNat] := by
                    rw [show ((w.length : Int) - 1 - far).toNat = w.length - 1 - far by omega]
                    exact bs_get _ _ _ (str_at hw)
                  refine .skip ?_
                  refine .seq ?_
                  refine .block ?_
                  refine .drawn [10, 11] rfl (by decide) (by decide +kernel) ?_
                  refine .dp 0 rfl rfl rfl (by decide +kernel) rfl (op_load rfl rfl (D := D22) rfl rfl rfl) ?_
                  refine .dp 0 rfl rfl rfl (by decide +kernel) rfl (op_load rfl rfl (D := D22) rfl rfl rfl) ?_
                  refine .dp 0 rfl rfl rfl (by decide +kernel) rfl (op_load rfl rfl (D := D22) rfl rfl rfl) ?_
                  refine .dp 0 rfl rfl rfl (by decide +kernel) rfl (op_lenRow rfl rfl (S := D22) rfl rfl) ?_
                  rw [bs_length]
                  refine .ds rfl rfl rfl (fun _ => (op_sub rfl rfl (by simp only [Rm.lo]; omega) (by simp only [Rm.hi]; omega))) ?_
                  refine .ds rfl rfl rfl (fun _ => (op_mv (rfl : _ = AV.int _ _))) ?_
                  refine .ds rfl rfl rfl (fun _ => (op_sub rfl rfl (by simp only [Rm.lo]; omega) (by simp only [Rm.hi]; omega))) ?_
                  refine .dp 0 rfl rfl rfl (by decide +kernel) rfl (op_indexAddr_row rfl rfl rfl (S := D22) rfl rfl (D := D5) rfl rfl (by omega) (by rw [bs_length]; omega)) ?_
                  refine .dp 0 rfl rfl rfl (by decide +kernel) rfl (op_load_r rfl rfl (D := D5) rfl rfl hget) ?_
                  refine .dp 0 rfl rfl rfl (by decide +kernel) rfl (op_lit (S := D22) (D := D5) (vs := [.int .u8 (w.getD (w.length - 1 - far) 0).toNat]) rfl rfl rfl rfl rfl (by decide) rfl ⟨rfl, rfl⟩) ?_
                  refine .de 0 rfl rfl rfl rfl rfl (op_appB (l2 := [w.getD (w.length - 1 - far) 0]) rfl rfl (.sl _ _) (by simp; omega)) ?_
                  refine .de0 1 rfl rfl rfl rfl rfl (op_store1 rfl rfl (D := D22) rfl (rfl : _ = AV.row _ _) rfl rfl (Nat.le_of_ble_eq_true rfl) rfl) ?_
                  try dsimp only [List.set, setR, D31, D53, D57, D69, D86, D95, D22, D3, D9, List.take_succ_cons, List.take_zero, List.drop_succ_cons, List.drop_zero, List.length_cons, List.length_nil, List.nil_append, List.cons_append, Nat.reduceAdd, Nat.zero_add]
                  refine .nil rfl rfl ?_
                  refine .inBlock ?_
                  refine .region rfl ?_
                  refine .o1 rfl rfl (op_add rfl rfl (by simp only [Rm.lo]; omega) (by simp only [Rm.hi]; omega)) ?_
                  refine .o1 rfl rfl (op_mv (rfl : _ = AV.int _ _)) ?_
                  refine .nil ?_
                  refine .keep [6, 7, 8, 11, 56, 57] ?_
                  refine again2 (i + 1, w ++ [w.getD (w.length - 1 - far) 0], v' + 1) ⟨by simp only; omega, ?_, by simp only [List.length_append, List.length_cons, List.length_nil]; omega⟩ (by simp only; omega)
                  simp only
                  rw [← p2, show N - i = (N - (i + 1)) + 1 by omega, copyN]
                · have hiN : i = N := by simp at h; omega
                  subst hiN
                  rw [Nat.sub_self] at p2
                  have p2 : w = copyN far i out := p2
                  refine .exit rfl ?_
                  refine .inBlock ?_
                  refine .inBlock ?_
                  refine .seq ?_
                  refine .region rfl ?_
                  refine .o1 rfl rfl (op_mv (by first | exact (rfl : _ = AV.ptr _ _) | exact (rfl : _ = AV.nilp))) ?_
                  refine .o1 rfl rfl (op_callJ Tryd.func38 rfl rfl rfl rfl (c38 (o := 1) (x := .sl clip (bs c)) (a := a2) (e := ((0 : Nat) : Int)) rfl)) ?_
                  refine .o1 rfl rfl (op_bin rfl rfl rfl) ?_
                  refine .nil ?_
                  refine .condO rfl (fun h => by cases h) (fun _ => ?_)   -- t99
                  refine .skip ?_
                  refine .inBlock ?_
                  refine .keep [6, 7, 8] ?_
                  exact again (f, a2, w, v') ⟨l2.1, by simp only; omega, by simp only; rw [p2]; exact h3, by simp only; omega⟩ (by simp only; omega)
          · refine .region rfl ?_
            refine .o1 rfl rfl (op_mv (by first | exact (rfl : _ = AV.ptr _ _) | exact (rfl : _ = AV.nilp))) ?_
            refine .o1 rfl rfl (op_callJ Tryd.func38 rfl rfl rfl rfl (c38 (o := 1) (x := .sl clip (bs c)) (a := a2) (e := ((0 : Nat) : Int)) rfl)) ?_
            refine .o1 rfl rfl (op_bin rfl rfl rfl) ?_
            refine .o1 rfl rfl (op_mv (rfl : _ = AV.bool _)) ?_
            refine .oy rfl rfl rfl rfl (op_mv (rfl : _ = AV.int _ _)) ?_
            refine .oy rfl rfl rfl rfl (op_bin rfl rfl rfl) ?_
            by_cases hfar : 4096 ≤ far
            · rw [show decide (4096 ≤ (far : Int)) = true by simp; omega]
              refine .oy rfl rfl rfl rfl (op_mv (rfl : _ = AV.bool _)) ?_
              refine .on rfl rfl rfl rfl ?_
              refine .on rfl rfl rfl rfl ?_
              refine .on rfl rfl rfl rfl ?_
              refine .on rfl rfl rfl rfl ?_
              refine .oy rfl rfl rfl rfl (op_pick rfl (rfl : _ = AV.bool _)) ?_
              refine .o1 rfl rfl (op_pick rfl (rfl : _ = AV.bool _)) ?_
              refine .o1 rfl rfl (op_as (rfl : _ = AV.bool _)) ?_
              refine .nil ?_
              refine .keep [6, 7, 8, 10, 11, 28] ?_
              exact cont true (by simp; omega)
            · rw [show decide (4096 ≤ (far : Int)) = false by simp; omega]
              refine .oy rfl rfl rfl rfl (op_mv (rfl : _ = AV.bool _)) ?_
              refine .oy rfl rfl rfl rfl (op_mv (rfl : _ = AV.int _ _)) ?_
              refine .oy rfl rfl rfl rfl (op_load rfl rfl (D := D22) rfl rfl rfl) ?_
              refine .oy rfl rfl rfl rfl (op_lenRow rfl rfl (S := D22) rfl rfl) ?_
              refine .oy rfl rfl rfl rfl (op_bin rfl rfl rfl) ?_
              refine .oy rfl rfl rfl rfl (op_pick rfl (rfl : _ = AV.bool _)) ?_
              refine .o1 rfl rfl (op_pick rfl (rfl : _ = AV.bool _)) ?_
              refine .o1 rfl rfl (op_as (rfl : _ = AV.bool _)) ?_
              refine .nil ?_
              refine .keep [6, 7, 8, 10, 11, 28] ?_
              exact cont (decide (((bs out).length : Int) ≤ far)) (by simp [bs_length]; omega)
        · rw [if_pos he] at h3
          have hne : ((e2 : Int) == 0) = false := by simp; omega
          refine .seq ?_
          refine .region rfl ?_
          refine .o1 rfl rfl (op_mv (by first | exact (rfl : _ = AV.ptr _ _) | exact (rfl : _ = AV.nilp))) ?_
          refine .o1 rfl rfl (op_callJ Tryd.func38 rfl rfl rfl rfl (c38 (o := 1) (x := .sl clip (bs c)) (a := a2) (e := e2) rfl)) ?_
          refine .o1 rfl rfl (op_bin rfl rfl rfl) ?_
          rw [hne]
          refine .o1 rfl rfl (op_mv (rfl : _ = AV.bool _)) ?_
          refine .on rfl rfl rfl rfl ?_
          refine .on rfl rfl rfl rfl ?_
          refine .on rfl rfl rfl rfl ?_
          refine .on rfl rfl rfl rfl ?_
          refine .on rfl rfl rfl rfl ?_
          refine .on rfl rfl rfl rfl ?_
          refine .on rfl rfl rfl rfl ?_
          refine .on rfl rfl rfl rfl ?_
          refine .o1 rfl rfl (op_pick rfl (rfl : _ = AV.bool _)) ?_
          refine .o1 rfl rfl (op_as (rfl : _ = AV.bool _)) ?_
          refine .nil ?_
          refine .condO rfl (fun h => by cases h) (fun _ => ?_)   -- t28
          refine .seq ?_
          refine .region rfl ?_
          refine .o1 rfl rfl (op_mv (by first | exact (rfl : _ = AV.ptr _ _) | exact (rfl : _ = AV.nilp))) ?_
          refine .o1 rfl rfl (op_callJ Tryd.func38 rfl rfl rfl rfl (c38 (o := 1) (x := .sl clip (bs c)) (a := a2) (e := e2) rfl)) ?_
          refine .o1 rfl rfl (op_bin rfl rfl rfl) ?_
          rw [hne]
          refine .o1 rfl rfl (op_mv (rfl : _ = AV.bool _)) ?_
          refine .on rfl rfl rfl rfl ?_
          refine .on rfl rfl rfl rfl ?_
          refine .on rfl rfl rfl rfl ?_
          refine .on rfl rfl rfl rfl ?_
          refine .o1 rfl rfl (op_pick rfl (rfl : _ = AV.bool _)) ?_
          refine .o1 rfl rfl (op_as (rfl : _ = AV.bool _)) ?_
          try dsimp only [List.set, setR, D31, D53, D57, D69, D86, D95, D22, D3, D9, List.take_succ_cons, List.take_zero, List.drop_succ_cons, List.drop_zero, List.length_cons, List.length_nil, List.nil_append, List.cons_append, Nat.reduceAdd, Nat.zero_add]
          refine .nil ?_
          refine .condO rfl (fun h => by cases h) (fun _ => ?_)   -- t42
          refine .seq ?_
          refine .region rfl ?_
          refine .o1 rfl rfl (op_mv (by first | exact (rfl : _ = AV.ptr _ _) | exact (rfl : _ = AV.nilp))) ?_
          refine .o1 rfl rfl (op_callJ Tryd.func38 rfl rfl rfl rfl (c38 (o := 1) (x := .sl clip (bs c)) (a := a2) (e := e2) rfl)) ?_
          refine .o1 rfl rfl (op_bin rfl rfl rfl) ?_
          rw [hne]
          refine .o1 rfl rfl (op_as (rfl : _ = AV.bool _)) ?_
          refine .nil ?_
          refine .condO rfl (fun h => by cases h) (fun _ => ?_)   -- t52
          refine .skip ?_
          refine .inBlock ?_
          refine .inBlock ?_
          refine .seq ?_
          refine .region rfl ?_
          refine .o1 rfl rfl (op_mv (by first | exact (rfl : _ = AV.ptr _ _) | exact (rfl : _ = AV.nilp))) ?_
          refine .o1 rfl rfl (op_callJ Tryd.func38 rfl rfl rfl rfl (c38 (o := 1) (x := .sl clip (bs c)) (a := a2) (e := e2) rfl)) ?_
          refine .o1 rfl rfl (op_bin rfl rfl rfl) ?_
          rw [show ((e2 : Int) != 0) = true by simp; omega]
          refine .nil ?_
          refine .condO rfl (fun _ => ?_) (fun h => by cases h)   -- t99
          refine .seq ?_
          refine .region rfl ?_
          refine .o1 rfl rfl (op_mv (by first | exact (rfl : _ = AV.ptr _ _) | exact (rfl : _ = AV.nilp))) ?_
          refine .o1 rfl rfl (op_callJ Tryd.func38 rfl rfl rfl rfl (c38 (o := 1) (x := .sl clip (bs c)) (a := a2) (e := e2) rfl)) ?_
          refine .o1 rfl rfl (op_as (by first | exact (rfl : _ = AV.sl _ _) | exact (rfl : _ = AV.row _ _))) ?_
          refine .o1 rfl rfl (op_as (rfl : _ = AV.int _ _)) ?_
          refine .nil ?_
          refine .ret ?_
          exact fin26 he h3.symm (by rw [getD_lst]; rfl) (by rw [getD_lst]; rfl)
  · have hge : a = c.length := by simp [bs_length] at h; omega
    have hn : c[a]? = none := by simp; omega
    rw [hn] at h3
    simp only at h3
    refine .exit rfl ?_
    refine .seq ?_
    refine .region rfl ?_
    refine .o1 rfl rfl (op_load rfl rfl (D := D22) rfl rfl rfl) ?_
    refine .o1 rfl rfl (op_as (rfl : _ = AV.row _ _)) ?_
    refine .o1 rfl rfl (op_as (rfl : _ = AV.int _ _)) ?_
    refine .nil ?_
    refine .ret ?_
    rw [unRes_good h3.symm]
    refine ⟨_, _, _, .cons (.tmpO _ rfl) (.cons (.tmpO _ rfl) .nil), .row (.tup [.row 0 0, .int .i64 0]) 3 v 1 (bs out) false rfl (Nat.zero_le _) (fun _ => rfl) (okLL_bs _ _) ?_, rfl, rfl⟩
    exact .tupL (.cons .row (.cons (.same _ rfl) .nil))
end Rm

namespace Rm
open Go Go.Proofs
open Go.RowKit
set_option maxHeartbeats 8000000

inductive ShLs (n : Nat) : List AV → List AV → Prop where
  | nil : ShLs n [] []
  | cons {a b : AV} {xs ys : List AV} (h : ShA n a b) (k : ShLs n xs ys) : ShLs n (a :: xs) (b :: ys)
theorem ShLs.spec {n : Nat} {xs ys : List AV} (h : ShLs n xs ys) : xs.length = ys.length ∧ ∀ (i : Nat) a b, xs[i]? = some a → ys[i]? = some b → ShA n a b := by
  induction h with
  | nil => exact ⟨rfl, fun i a b h => by simp at h⟩
  | cons h k ih =>
    refine ⟨by simp [ih.1], fun i a b ha hb => ?_⟩
    cases i with
    | zero => simp at ha hb; subst ha; subst hb; exact h
    | succ i => exact ih.2 i a b (by simpa using ha) (by simpa using hb)
theorem ShA.tupL {n : Nat} {xs ys : List AV} (h : ShLs n xs ys) : ShA n (.tup xs) (.tup ys) := .tup _ _ h.spec.1 h.spec.2
theorem plain_bs (ver : Nat) (l : List UInt8) : plainO (.row ver 1 (bs l) false) := ⟨rfl, pure_bs l⟩
section
variable {E : Env} {g : Operand → AV} {st : List Ob} {d : Option Tmp} {t : TypeId} {p : String} {af : Array Edge} {gd : Option (Nat × Bool)}
/-- A callee that knows no objects, and leaves these. -/
theorem op_callK {x : Operand} {xs : Array Operand} {Ts : Array TypeId} {f : FuncId} {fn : Func} {fa ca args : List AV} {st1 : List Ob} {r y : AV} (hfn : E.P.funcs[f]? = some fn) (hnm : (fn.name == "runtime.NumGoroutine") = false) (hbd : fn.body.isNone = false)
    (hx : g x = .fn (.func f) fa ca) (hargs : BorL st (fa ++ xs.toList.map g ++ ca) args) (h : Ctr E.P E.mG f [] args (fun st' y => st' = st1 ∧ y = r)) (hpl : ∀ ob ∈ st1, plainO ob) (hsh : ShA st.length r y) : OpOk E ⟨d, .call ⟨.value x, xs, Ts⟩, t, p, af, gd⟩ g st (Just y (st ++ st1)) :=
  op_callB hfn hnm hbd hx hargs h fun st' res ⟨h1, h2⟩ => by
    subst h1; subst h2
    exact ⟨hpl, y, hsh, rfl, rfl⟩
end
def tkRes (x : Nat × List UInt8 × Nat × Nat) : List Ob × AV := if x.2.2.2 = 0 then ([.row 0 1 (bs x.2.1) false], .tup [.int .u8 x.1, .row 0 0, .int .i64 x.2.2.1, .int .i64 0]) else ([], .tup [.int .u8 0, .sl true [], .int .i64 0, .int .i64 x.2.2.2])
theorem fin11 {x : Nat × List UInt8 × Nat × Nat} {e : Nat} {fr : List AV} {st : List Ob} (he : e ≠ 0) (h : x.2.2.2 = e) (h6 : fr.getD 6 .any = .int .u8 0) (h7 : fr.getD 7 .any = .sl true []) (h8 : fr.getD 8 .any = .int .i64 0) (h9 : fr.getD 9 .any = .int .i64 e) : Fin Ev Tryd.f11.results.toList [] (fun st' r => st' = (tkRes x).1 ∧ r = (tkRes x).2) fr st := by
  unfold tkRes
  rw [h, if_neg he]
  refine ⟨_, _, _, .cons (.tmp _) (.cons (.tmp _) (.cons (.tmp _) (.cons (.tmp _) .nil))), .drop 0 (Nat.le_refl _) ?_ (fun _ => rfl), rfl, ?_⟩
  · show okA 0 (.tup [fr.getD 6 .any, fr.getD 7 .any, fr.getD 8 .any, fr.getD 9 .any]) = true
    rw [h6, h7, h8, h9]; rfl
  · show AV.tup [fr.getD 6 .any, fr.getD 7 .any, fr.getD 8 .any, fr.getD 9 .any] = _
    rw [h6, h7, h8, h9]

theorem c11 {clip : Bool} {b : List UInt8} {at_ most : Int} (hb : b.length ≤ 100000) : Ctr Tryd.prog mG 11 [] [.sl clip (bs b), .int .i64 at_, .int .i64 most] (fun st' r => st' = (tkRes (takeS b at_ most)).1 ∧ r = (tkRes (takeS b at_ most)).2) := by
  have hc := c23 (clip := clip) (at_ := at_) hb
  have hbody := readS_body b at_
  by_cases he : (readS b at_).2 = 0
  · obtain ⟨⟨kd, pk, sz, bd, nx⟩, er, hr⟩ : ∃ x e, readS b at_ = (x, e) := ⟨_, _, rfl⟩
    have htk : takeS b at_ most = if most < sz then (0, [], 0, 6) else if pk = false then (kd.toNat, bd, nx, 0) else if (unpackS bd sz).2 ≠ 0 ∨ (unpackS bd sz).1.length ≠ sz then (0, [], 0, 4) else (kd.toNat, (unpackS bd sz).1, nx, 0) := by
      unfold takeS
      rw [hr] at he ⊢
      simp only at he ⊢
      rw [if_neg (fun q => q he)]
    rw [hr] at hc he hbody
    simp only at he hbody
    subst he
    obtain ⟨hb1, hb2, hb3⟩ := hbody
    rw [htk]
    refine Ctr.of_bodyO (E := Ev) (n := 60) Tryd.func11 rfl rfl (Nat.le_of_ble_eq_true rfl) ?_
    show AGo Ev _ _ (lst 60 [(0, .sl clip (bs b)), (1, .int .i64 at_), (2, .int .i64 most)]) _ _
    refine .seq ?_
    refine .region rfl ?_
    refine .o1 rfl rfl (op_as (rfl : _ = AV.int _ _)) ?_
    refine .o1 rfl rfl (op_as (by first | exact (rfl : _ = AV.sl _ _) | exact (rfl : _ = AV.row _ _))) ?_
    refine .o1 rfl rfl (op_as (rfl : _ = AV.int _ _)) ?_
    refine .o1 rfl rfl (op_as (rfl : _ = AV.int _ _)) ?_
    refine .nil ?_
    refine .seq ?_
    refine .region rfl ?_
    refine .o1 rfl rfl (op_mv (by first | exact (rfl : _ = AV.sl _ _) | exact (rfl : _ = AV.row _ _))) ?_
    refine .o1 rfl rfl (op_mv (rfl : _ = AV.int _ _)) ?_
    refine .o1 rfl rfl (op_callJ Tryd.func23 rfl rfl rfl rfl hc) ?_
    refine .o1 rfl rfl (op_mv (by first | exact (rfl : _ = AV.int _ _) | exact (rfl : _ = AV.bool _) | exact (rfl : _ = AV.str _) | exact (rfl : _ = AV.sl _ _) | exact (rfl : _ = AV.row _ _) | exact (rfl : _ = AV.ptr _ _) | exact (rfl : _ = AV.tup _) | exact (rfl : _ = AV.agg _) | exact (rfl : _ = AV.fn _ _ _) | exact (rfl : _ = AV.nilp) | exact (rfl : _ = AV.mp _) | exact (rfl : _ = AV.vptr _) | exact (rfl : _ = AV.any))) ?_
    refine .o1 rfl rfl (op_extract rfl rfl) ?_
    refine .o1 rfl rfl (op_extract rfl rfl) ?_
    refine .o1 rfl rfl (op_alloc (D := D53) rfl) ?_
    refine .o0 rfl rfl (op_storeA rfl rfl (D := D53) rfl rfl rfl rfl rfl) ?_
    refine .o1 rfl rfl (op_as (rfl : _ = AV.int _ _)) ?_
    refine .nil ?_
    try dsimp only [List.set, setR, D31, D53, D57, D69, D86, D95, D22, D3, D9, List.take_succ_cons, List.take_zero, List.drop_succ_cons, List.drop_zero, List.length_cons, List.length_nil, List.nil_append, List.cons_append, Nat.reduceAdd, Nat.zero_add]
    show AGo _ _ _ _ [.row 0 1 (bs bd) false, .var [.one, .int .u8 kd.toNat, .int .u8 (pkN pk), .int .i64 sz, .row 0 0, .int .i64 nx]] _
    refine .seq ?_
    refine .block ?_
    refine .seq ?_
    refine .region rfl ?_
    refine .o1 rfl rfl (op_mv (rfl : _ = AV.int _ _)) ?_
    refine .o1 rfl rfl (op_bin rfl rfl rfl) ?_
    refine .o1 rfl rfl (op_as (rfl : _ = AV.bool _)) ?_
    refine .nil ?_
    refine .condO rfl (fun h => by cases h) (fun _ => ?_)   -- t19
    refine .seq ?_
    refine .region rfl ?_
    refine .o1 rfl rfl (op_fieldAddr rfl (D := D53) rfl rfl rfl rfl (by decide)) ?_
    refine .o1 rfl rfl (op_load rfl rfl (D := D3) rfl rfl rfl) ?_
    refine .o1 rfl rfl (op_mv (rfl : _ = AV.int _ _)) ?_
    refine .o1 rfl rfl (op_bin rfl rfl rfl) ?_
    refine .o1 rfl rfl (op_as (rfl : _ = AV.bool _)) ?_
    refine .nil ?_
    refine .condO rfl (fun h => ?_) (fun h => ?_)   -- t23
    · have hm : most < sz := by simpa using h
      rw [if_pos hm]
      refine .seq ?_
      refine .region rfl ?_
      refine .o1 rfl rfl (op_as (rfl : _ = AV.int _ _)) ?_
      refine .o1 rfl rfl (op_as (by first | exact (rfl : _ = AV.sl _ _) | exact (rfl : _ = AV.row _ _))) ?_
      refine .o1 rfl rfl (op_as (rfl : _ = AV.int _ _)) ?_
      refine .o1 rfl rfl (op_as (rfl : _ = AV.int _ _)) ?_
      refine .nil ?_
      refine .ret ?_
      exact fin11 (e := 6) (by decide) rfl (by rw [getD_lst]; rfl) (by rw [getD_lst]; rfl) (by rw [getD_lst]; rfl) (by rw [getD_lst]; rfl)
    · have hm : ¬ most < sz := by simpa using h
      rw [if_neg hm]
      refine .seq ?_
      refine .region rfl ?_
      refine .o1 rfl rfl (op_fieldAddr rfl (D := D53) rfl rfl rfl rfl (by decide)) ?_
      refine .o1 rfl rfl (op_load rfl rfl (D := D5) rfl rfl rfl) ?_
      refine .o1 rfl rfl (op_bin rfl rfl rfl) ?_
      refine .o1 rfl rfl (op_as (rfl : _ = AV.bool _)) ?_
      refine .nil ?_
      cases pk with
      | false =>
        rw [if_pos rfl]
        refine .condO rfl (fun _ => ?_) (fun h => by cases h)   -- t28
        refine .seq ?_
        refine .drawn [] rfl (by decide) (by decide +kernel) ?_
        refine .ds rfl rfl rfl (fun _ => (op_fieldAddr rfl (D := D53) rfl rfl rfl rfl (by decide))) ?_
        refine .dp 0 rfl rfl rfl (by decide +kernel) rfl (op_load rfl rfl (D := D5) rfl rfl rfl) ?_
        refine .ds rfl rfl rfl (fun _ => (op_fieldAddr rfl (D := D53) rfl rfl rfl rfl (by decide))) ?_
        refine .dp 0 rfl rfl rfl (by decide +kernel) rfl (op_load rfl rfl (D := D22) rfl rfl rfl) ?_
        refine .ds rfl rfl rfl (fun _ => (op_fieldAddr rfl (D := D53) rfl rfl rfl rfl (by decide))) ?_
        refine .dp 0 rfl rfl rfl (by decide +kernel) rfl (op_load rfl rfl (D := D3) rfl rfl rfl) ?_
        refine .ds rfl rfl rfl (fun _ => (op_as (rfl : _ = AV.int _ _))) ?_
        refine .ds rfl rfl rfl (fun _ => (op_as (by first | exact (rfl : _ = AV.sl _ _) | exact (rfl : _ = AV.row _ _)))) ?_
        refine .ds rfl rfl rfl (fun _ => (op_as (rfl : _ = AV.int _ _))) ?_
        refine .ds rfl rfl rfl (fun _ => (op_as (rfl : _ = AV.int _ _))) ?_
        refine .nil rfl rfl ?_
        refine .ret ?_
        refine ⟨_, _, _, .cons (.tmpO _ rfl) (.cons (.tmpO _ rfl) (.cons (.tmpO _ rfl) (.cons (.tmpO _ rfl) .nil))), .row (.tup [.int .u8 kd.toNat, .row 0 0, .int .i64 nx, .int .i64 0]) 0 0 1 (bs bd) false rfl (Nat.zero_le _) (fun _ => rfl) (okLL_bs _ _) ?_, rfl, rfl⟩
        exact .tupL (.cons (.same _ rfl) (.cons .row (.cons (.same _ rfl) (.cons (.same _ rfl) .nil))))
      | true =>
        rw [if_neg (by decide)]
        refine .condO rfl (fun h => by cases h) (fun _ => ?_)   -- t28
        refine .skip ?_
        refine .inBlock ?_
        have hcu := c26 (clip := false) (c := bd) (most := sz) (by omega) (by omega) (by omega)
        rw [show ((sz : Int)).toNat = sz by omega] at hcu
        obtain ⟨ud, ue, hu⟩ : ∃ x e, unpackS bd sz = (x, e) := ⟨_, _, rfl⟩
        rw [hu] at hcu ⊢
        simp only
        refine .seq ?_
        by_cases hue : ue = 0
        · subst hue
          refine .region rfl ?_
          refine .o1 rfl rfl (op_fieldAddr rfl (D := D53) rfl rfl rfl rfl (by decide)) ?_
          refine .o1 rfl rfl (op_load rfl rfl (D := D22) rfl rfl rfl) ?_
          refine .o1 rfl rfl (op_fieldAddr rfl (D := D53) rfl rfl rfl rfl (by decide)) ?_
          refine .o1 rfl rfl (op_load rfl rfl (D := D3) rfl rfl rfl) ?_
          refine .o1 rfl rfl (op_callK (y := .tup [.row 2 0, .int .i64 0]) Tryd.func26 rfl rfl rfl (.row rfl (okLL_bs _ _) (.same rfl .nil)) hcu (fun ob hob => by simp [unRes] at hob; subst hob; exact plain_bs _ _) (.tupL (.cons (.row 0 0) (.cons (.same _ rfl) .nil)))) ?_
          refine .o1 rfl rfl (op_mv (by first | exact (rfl : _ = AV.int _ _) | exact (rfl : _ = AV.bool _) | exact (rfl : _ = AV.str _) | exact (rfl : _ = AV.sl _ _) | exact (rfl : _ = AV.row _ _) | exact (rfl : _ = AV.ptr _ _) | exact (rfl : _ = AV.tup _) | exact (rfl : _ = AV.agg _) | exact (rfl : _ = AV.fn _ _ _) | exact (rfl : _ = AV.nilp) | exact (rfl : _ = AV.mp _) | exact (rfl : _ = AV.vptr _) | exact (rfl : _ = AV.any))) ?_
          refine .o1 rfl rfl (op_extract rfl rfl) ?_
          refine .o1 rfl rfl (op_extract rfl rfl) ?_
          refine .o1 rfl rfl (op_as (by first | exact (rfl : _ = AV.sl _ _) | exact (rfl : _ = AV.row _ _))) ?_
          refine .o1 rfl rfl (op_as (rfl : _ = AV.int _ _)) ?_
          refine .nil ?_
          show AGo _ _ _ _ [.row 0 1 (bs bd) false, .var [.one, .int .u8 kd.toNat, .int .u8 (pkN true), .int .i64 sz, .row 0 0, .int .i64 nx], .row 0 1 (bs ud) false] _
          refine .seq ?_
          refine .seq ?_
          refine .region rfl ?_
          refine .o1 rfl rfl (op_mv (rfl : _ = AV.int _ _)) ?_
          refine .o1 rfl rfl (op_bin rfl rfl rfl) ?_
          refine .o1 rfl rfl (op_mv (rfl : _ = AV.bool _)) ?_
          refine .oy rfl rfl rfl rfl (op_mv (by first | exact (rfl : _ = AV.sl _ _) | exact (rfl : _ = AV.row _ _))) ?_
          refine .oy rfl rfl rfl rfl (op_lenRow rfl rfl (S := D22) rfl rfl) ?_
          refine .oy rfl rfl rfl rfl (op_fieldAddr rfl (D := D53) rfl rfl rfl rfl (by decide)) ?_
          refine .oy rfl rfl rfl rfl (op_load rfl rfl (D := D3) rfl rfl rfl) ?_
          refine .oy rfl rfl rfl rfl (op_bin rfl rfl rfl) ?_
          refine .o1 rfl rfl (op_pick rfl (rfl : _ = AV.bool _)) ?_
          refine .nil ?_
          refine .condO rfl (fun h => ?_) (fun h => ?_)   -- t54
          · have hl : ud.length ≠ sz := by simp [bs_length] at h; omega
            rw [if_pos (.inr hl)]
            refine .seq ?_
            refine .region rfl ?_
            refine .o1 rfl rfl (op_as (rfl : _ = AV.int _ _)) ?_
            refine .o1 rfl rfl (op_as (by first | exact (rfl : _ = AV.sl _ _) | exact (rfl : _ = AV.row _ _))) ?_
            refine .o1 rfl rfl (op_as (rfl : _ = AV.int _ _)) ?_
            refine .o1 rfl rfl (op_as (rfl : _ = AV.int _ _)) ?_
            refine .nil ?_
            refine .ret ?_
            exact fin11 (e := 4) (by decide) rfl (by rw [getD_lst]; rfl) (by rw [getD_lst]; rfl) (by rw [getD_lst]; rfl) (by rw [getD_lst]; rfl)
          · have hl : ud.length = sz := by simp [bs_length] at h; omega
            rw [if_neg (by simp [hl])]
            refine .skip ?_
            refine .seq ?_
            refine .drawn [] rfl (by decide) (by decide +kernel) ?_
            refine .ds rfl rfl rfl (fun _ => (op_fieldAddr rfl (D := D53) rfl rfl rfl rfl (by decide))) ?_
            refine .dp 0 rfl rfl rfl (by decide +kernel) rfl (op_load rfl rfl (D := D5) rfl rfl rfl) ?_
            refine .ds rfl rfl rfl (fun _ => (op_mv (by first | exact (rfl : _ = AV.sl _ _) | exact (rfl : _ = AV.row _ _)))) ?_
            refine .ds rfl rfl rfl (fun _ => (op_fieldAddr rfl (D := D53) rfl rfl rfl rfl (by decide))) ?_
            refine .dp 0 rfl rfl rfl (by decide +kernel) rfl (op_load rfl rfl (D := D3) rfl rfl rfl) ?_
            refine .ds rfl rfl rfl (fun _ => (op_as (rfl : _ = AV.int _ _))) ?_
            refine .ds rfl rfl rfl (fun _ => (op_as (by first | exact (rfl : _ = AV.sl _ _) | exact (rfl : _ = AV.row _ _)))) ?_
            refine .ds rfl rfl rfl (fun _ => (op_as (rfl : _ = AV.int _ _))) ?_
            refine .ds rfl rfl rfl (fun _ => (op_as (rfl : _ = AV.int _ _))) ?_
            refine .nil rfl rfl ?_
            refine .ret ?_
            refine ⟨_, _, _, .cons (.tmpO _ rfl) (.cons (.tmpO _ rfl) (.cons (.tmpO _ rfl) (.cons (.tmpO _ rfl) .nil))), .row (.tup [.int .u8 kd.toNat, .row 0 0, .int .i64 nx, .int .i64 0]) 2 0 1 (bs ud) false rfl (Nat.zero_le _) (fun _ => rfl) (okLL_bs _ _) ?_, rfl, rfl⟩
            exact .tupL (.cons (.same _ rfl) (.cons .row (.cons (.same _ rfl) (.cons (.same _ rfl) .nil))))
        · rw [if_pos (.inl hue)]
          rw [unRes_bad hue rfl] at hcu
          refine .region rfl ?_
          refine .o1 rfl rfl (op_fieldAddr rfl (D := D53) rfl rfl rfl rfl (by decide)) ?_
          refine .o1 rfl rfl (op_load rfl rfl (D := D22) rfl rfl rfl) ?_
          refine .o1 rfl rfl (op_fieldAddr rfl (D := D53) rfl rfl rfl rfl (by decide)) ?_
          refine .o1 rfl rfl (op_load rfl rfl (D := D3) rfl rfl rfl) ?_
          refine .o1 rfl rfl (op_callK (y := .tup [.sl true [], .int .i64 ue]) Tryd.func26 rfl rfl rfl (.row rfl (okLL_bs _ _) (.same rfl .nil)) hcu (fun ob hob => by simp at hob) (.tupL (.cons (.sl0 _) (.cons (.same _ rfl) .nil)))) ?_
          refine .o1 rfl rfl (op_mv (by first | exact (rfl : _ = AV.int _ _) | exact (rfl : _ = AV.bool _) | exact (rfl : _ = AV.str _) | exact (rfl : _ = AV.sl _ _) | exact (rfl : _ = AV.row _ _) | exact (rfl : _ = AV.ptr _ _) | exact (rfl : _ = AV.tup _) | exact (rfl : _ = AV.agg _) | exact (rfl : _ = AV.fn _ _ _) | exact (rfl : _ = AV.nilp) | exact (rfl : _ = AV.mp _) | exact (rfl : _ = AV.vptr _) | exact (rfl : _ = AV.any))) ?_
          refine .o1 rfl rfl (op_extract rfl rfl) ?_
          refine .o1 rfl rfl (op_extract rfl rfl) ?_
          refine .o1 rfl rfl (op_as (by first | exact (rfl : _ = AV.sl _ _) | exact (rfl : _ = AV.row _ _))) ?_
          refine .o1 rfl rfl (op_as (rfl : _ = AV.int _ _)) ?_
          refine .nil ?_
          refine .seq ?_
          refine .seq ?_
          refine .region rfl ?_
          refine .o1 rfl rfl (op_mv (rfl : _ = AV.int _ _)) ?_
          refine .o1 rfl rfl (op_bin rfl rfl rfl) ?_
          rw [show ((ue : Int) != 0) = true by simp; omega]
          refine .o1 rfl rfl (op_mv (rfl : _ = AV.bool _)) ?_
          refine .on rfl rfl rfl rfl ?_
          refine .on rfl rfl rfl rfl ?_
          refine .on rfl rfl rfl rfl ?_
          refine .on rfl rfl rfl rfl ?_
          refine .on rfl rfl rfl rfl ?_
          refine .o1 rfl rfl (op_pick rfl (rfl : _ = AV.bool _)) ?_
          refine .nil ?_
          refine .condO rfl (fun _ => ?_) (fun h => by cases h)   -- t54
          refine .seq ?_
          refine .region rfl ?_
          refine .o1 rfl rfl (op_as (rfl : _ = AV.int _ _)) ?_
          refine .o1 rfl rfl (op_as (by first | exact (rfl : _ = AV.sl _ _) | exact (rfl : _ = AV.row _ _))) ?_
          refine .o1 rfl rfl (op_as (rfl : _ = AV.int _ _)) ?_
          refine .o1 rfl rfl (op_as (rfl : _ = AV.int _ _)) ?_
          refine .nil ?_
          refine .ret ?_
          exact fin11 (e := 4) (by decide) rfl (by rw [getD_lst]; rfl) (by rw [getD_lst]; rfl) (by rw [getD_lst]; rfl) (by rw [getD_lst]; rfl)
  · have hz := readS_zero he
    obtain ⟨er, hr⟩ : ∃ e, (readS b at_).2 = e := ⟨_, rfl⟩
    rw [hr] at he
    have htk : takeS b at_ most = (0, [], 0, er) := by
      show (if (readS b at_).2 ≠ 0 then (0, [], 0, (readS b at_).2) else _) = _
      rw [hr, if_pos he]
    rw [rdRes_bad he (Prod.ext hz hr)] at hc
    rw [htk]
    refine Ctr.of_bodyO (E := Ev) (n := 60) Tryd.func11 rfl rfl (Nat.le_of_ble_eq_true rfl) ?_
    show AGo Ev _ _ (lst 60 [(0, .sl clip (bs b)), (1, .int .i64 at_), (2, .int .i64 most)]) _ _
    refine .seq ?_
    refine .region rfl ?_
    refine .o1 rfl rfl (op_as (rfl : _ = AV.int _ _)) ?_
    refine .o1 rfl rfl (op_as (by first | exact (rfl : _ = AV.sl _ _) | exact (rfl : _ = AV.row _ _))) ?_
    refine .o1 rfl rfl (op_as (rfl : _ = AV.int _ _)) ?_
    refine .o1 rfl rfl (op_as (rfl : _ = AV.int _ _)) ?_
    refine .nil ?_
    refine .seq ?_
    refine .region rfl ?_
    refine .o1 rfl rfl (op_mv (by first | exact (rfl : _ = AV.sl _ _) | exact (rfl : _ = AV.row _ _))) ?_
    refine .o1 rfl rfl (op_mv (rfl : _ = AV.int _ _)) ?_
    refine .o1 rfl rfl (op_callJ Tryd.func23 rfl rfl rfl rfl hc) ?_
    refine .o1 rfl rfl (op_mv (by first | exact (rfl : _ = AV.int _ _) | exact (rfl : _ = AV.bool _) | exact (rfl : _ = AV.str _) | exact (rfl : _ = AV.sl _ _) | exact (rfl : _ = AV.row _ _) | exact (rfl : _ = AV.ptr _ _) | exact (rfl : _ = AV.tup _) | exact (rfl : _ = AV.agg _) | exact (rfl : _ = AV.fn _ _ _) | exact (rfl : _ = AV.nilp) | exact (rfl : _ = AV.mp _) | exact (rfl : _ = AV.vptr _) | exact (rfl : _ = AV.any))) ?_
    refine .o1 rfl rfl (op_extract rfl rfl) ?_
    refine .o1 rfl rfl (op_extract rfl rfl) ?_
    refine .o1 rfl rfl (op_alloc (D := D53) rfl) ?_
    refine .o0 rfl rfl (op_storeA rfl rfl (D := D53) rfl rfl rfl rfl rfl) ?_
    refine .o1 rfl rfl (op_as (rfl : _ = AV.int _ _)) ?_
    refine .nil ?_
    try dsimp only [List.set, setR, D31, D53, D57, D69, D86, D95, D22, D3, D9, List.take_succ_cons, List.take_zero, List.drop_succ_cons, List.drop_zero, List.length_cons, List.length_nil, List.nil_append, List.cons_append, Nat.reduceAdd, Nat.zero_add]
    refine .seq ?_
    refine .block ?_
    refine .seq ?_
    refine .region rfl ?_
    refine .o1 rfl rfl (op_mv (rfl : _ = AV.int _ _)) ?_
    refine .o1 rfl rfl (op_bin rfl rfl rfl) ?_
    rw [show ((er : Int) != 0) = true by simp; omega]
    refine .o1 rfl rfl (op_as (rfl : _ = AV.bool _)) ?_
    refine .nil ?_
    refine .condO rfl (fun _ => ?_) (fun h => by cases h)   -- t19
    refine .seq ?_
    refine .region rfl ?_
    refine .o1 rfl rfl (op_mv (rfl : _ = AV.int _ _)) ?_
    refine .o1 rfl rfl (op_as (rfl : _ = AV.int _ _)) ?_
    refine .o1 rfl rfl (op_as (by first | exact (rfl : _ = AV.sl _ _) | exact (rfl : _ = AV.row _ _))) ?_
    refine .o1 rfl rfl (op_as (rfl : _ = AV.int _ _)) ?_
    refine .o1 rfl rfl (op_as (rfl : _ = AV.int _ _)) ?_
    refine .nil ?_
    refine .ret ?_
    exact fin11 he rfl (by rw [getD_lst]; rfl) (by rw [getD_lst]; rfl) (by rw [getD_lst]; rfl) (by rw [getD_lst]; rfl)
end Rm
