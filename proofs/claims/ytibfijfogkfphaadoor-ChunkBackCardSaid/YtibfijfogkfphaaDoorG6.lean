/- Walks: the document's Read. What tokens tell, plainly. Walks: the document's Unpack. A chunk's data, plainly. Walks: the document's Take. What packing comes to, plainly. Walks: the document's match, best, run. -/
import Derived.Test.YtibfijfogkfphaaDoorG5
import Derived.Test.YtibfijfogkfphaaDoorG3

namespace Rm
open Go Go.Proofs
open Go.RowKit
set_option maxHeartbeats 4000000

theorem c24r {b o : List UInt8} {a e a' e' : Nat} {k : Int} (h : rB b k (a, e) = (o, a', e')) (ha : a ≤ b.length) (hb : b.length ≤ 1000000) : Ctr Tryd.prog mG 24 [] [.agg [.str (b.drop a), .int .i64 a, .int .i64 e], .int .i64 k] (fun st' r => st' = [] ∧ r = .tup [.str o, .agg [.str (b.drop a'), .int .i64 a', .int .i64 e']]) := by
  have := c24 (e := e) (k := k) ha hb
  rw [h] at this
  exact this
theorem c25r {b : List UInt8} {a e a' e' n : Nat} (h : rI b (a, e) = (n, a', e')) (ha : a ≤ b.length) (hb : b.length ≤ 1000000) : Ctr Tryd.prog mG 25 [] [.agg [.str (b.drop a), .int .i64 a, .int .i64 e], .int .u64 2147483647] (fun st' r => st' = [] ∧ r = .tup [.int .u64 n, .agg [.str (b.drop a'), .int .i64 a', .int .i64 e']]) := by
  have := c25 (e := e) ha hb
  rw [h] at this
  exact this
theorem ok_sl (clip : Bool) (l : List UInt8) : okL 0 [.sl clip (bs l)] = true := by simp [okL, okA, okLL_bs]
def rdA (x : Rd) : AV := .agg [.int .u8 x.kind.toNat, .bool x.packed, .int .i64 x.size, .str x.body, .int .i64 x.next]

theorem c10 {b : List UInt8} {at_ : Int} (hb : b.length ≤ 100000) : Ctr Tryd.prog mG 10 [] [.str b, .int .i64 at_] (fun st' r => st' = [] ∧ r = .tup [rdA (readS b at_).1, .int .i64 (readS b at_).2]) := by
  refine Ctr.of_bodyO (E := Ev) (n := 130) Tryd.func10 rfl rfl (Nat.le_of_ble_eq_true rfl) ?_
  show AGo Ev _ _ (lst 130 [(0, .str b), (1, .int .i64 at_)]) _ _
  refine .seq ?_
  refine .region rfl ?_
  refine .o1 rfl rfl (op_alloc (D := D31) rfl) ?_
  refine .o1 rfl rfl (op_as (rfl : _ = AV.int _ _)) ?_
  refine .nil ?_
  try dsimp only [List.set, setR, D31, D53, D57, D69, D86, D95, D22, D3, D9, List.take_succ_cons, List.take_zero, List.drop_succ_cons, List.drop_zero, List.length_cons, List.length_nil, List.nil_append, List.cons_append, Nat.reduceAdd, Nat.zero_add]
  refine .seq ?_
  refine .seq ?_
  refine .cut (σ := Bool) (fun t => t = true ↔ (at_ < 0 ∨ (b.length : Int) < at_)) (fun t => lst 130 [(0, .str b), (1, .int .i64 at_), (4, .ptr 0 0), (22, .bool t)]) (fun _ => [.var D31.z]) (fun t ht => ?_) (fun cont => ?_)
  · refine .condO rfl (fun h => ?_) (fun h => ?_)   -- t22
    · subst h
      have hr : readS b at_ = ({}, 2) := by unfold readS; rw [if_pos (ht.1 rfl)]
      refine .seq ?_
      refine .region rfl ?_
      refine .o1 rfl rfl (op_build1 (D := D31) rfl rfl pl31 (vs := []) rfl rfl) ?_
      refine .o0 rfl rfl (op_storeA rfl rfl (D := D31) rfl rfl rfl rfl rfl) ?_
      refine .o1 rfl rfl (op_as (rfl : _ = AV.int _ _)) ?_
      refine .nil ?_
      try dsimp only [List.set, setR, D31, D53, D57, D69, D86, D95, D22, D3, D9, List.take_succ_cons, List.take_zero, List.drop_succ_cons, List.drop_zero, List.length_cons, List.length_nil, List.nil_append, List.cons_append, Nat.reduceAdd, Nat.zero_add]
      refine .ret ?_
      rw [hr]
      exact ⟨_, _, _, .cons (.cellsO _ _ 0 0 _ _ D31 rfl rfl rfl rfl (Nat.le_of_ble_eq_true rfl) rfl) (.cons (.tmpO _ rfl) .nil), .drop 0 (Nat.le_refl _) rfl (fun _ => rfl), rfl, rfl⟩
    · subst h
      have hin : ¬ (at_ < 0 ∨ (b.length : Int) < at_) := fun q => by have := ht.2 q; cases this
      obtain ⟨n, rfl⟩ : ∃ n : Nat, at_ = n := ⟨at_.toNat, by omega⟩
      have hn : n ≤ b.length := by omega
      have hr : readS b (n : Int) = readC (b.drop n) n := by unfold readS; rw [if_neg hin]; rfl
      rw [hr]
      obtain ⟨c, hc⟩ : ∃ c, b.drop n = c := ⟨_, rfl⟩
      rw [hc]
      have hcl : c.length ≤ 100000 := by rw [← hc]; simp; omega
      have hcn : c.length = b.length - n := by rw [← hc]; simp
      unfold readC
      obtain ⟨s, a1, e1, hs⟩ : ∃ s a e, rB c 1 (0, 0) = (s, a, e) := ⟨_, _, _, rfl⟩
      have l1 : a1 ≤ c.length := by have := (rB_le (b := c) (k := 1) (s := (0, 0)) (Nat.zero_le _)).1; rw [hs] at this; exact this
      obtain ⟨t, a2, e2, ht⟩ : ∃ t a e, rB c 1 (a1, e1) = (t, a, e) := ⟨_, _, _, rfl⟩
      have l2 : a2 ≤ c.length := by have := (rB_le (b := c) (k := 1) (s := (a1, e1)) l1).1; rw [ht] at this; exact this
      simp only [hs, ht]
      refine .skip ?_
      refine .seq ?_
      refine .region rfl ?_
      refine .o1 rfl rfl (op_mv (rfl : _ = AV.str _)) ?_
      refine .o1 rfl rfl (op_mv (rfl : _ = AV.int _ _)) ?_
      refine .o1 rfl rfl (op_sliceStr (ln := n) (hn := b.length) rfl (S := D9) rfl rfl (.inr ⟨_, _, _, rfl, rfl, by omega, by omega⟩) (.inl ⟨rfl, rfl⟩) hn (Nat.le_refl _) (r := c) (by simp [hc])) ?_
      refine .o1 rfl rfl (op_build1 (D := D57) rfl rfl pl57 (vs := [(0, .str c)]) rfl rfl) ?_
      refine .o1 rfl rfl (op_callP Tryd.func24 rfl rfl rfl rfl rfl (c24r (b := c) (a := 0) (e := 0) (k := 1) hs (Nat.zero_le _) (by omega)) rfl) ?_
      refine .o1 rfl rfl (op_mv (by first | exact (rfl : _ = AV.int _ _) | exact (rfl : _ = AV.bool _) | exact (rfl : _ = AV.str _) | exact (rfl : _ = AV.sl _ _) | exact (rfl : _ = AV.row _ _) | exact (rfl : _ = AV.ptr _ _) | exact (rfl : _ = AV.tup _) | exact (rfl : _ = AV.agg _) | exact (rfl : _ = AV.fn _ _ _) | exact (rfl : _ = AV.nilp) | exact (rfl : _ = AV.mp _) | exact (rfl : _ = AV.vptr _) | exact (rfl : _ = AV.any))) ?_
      refine .o1 rfl rfl (op_extract rfl rfl) ?_
      refine .o1 rfl rfl (op_extract rfl rfl) ?_
      refine .o1 rfl rfl (op_alloc (D := D57) rfl) ?_
      refine .o1 rfl rfl (op_as (rfl : _ = AV.str _)) ?_
      refine .o0 rfl rfl (op_storeA rfl rfl (D := D57) rfl rfl rfl rfl rfl) ?_
      refine .nil ?_
      try dsimp only [List.set, setR, D31, D53, D57, D69, D86, D95, D22, D3, D9, List.take_succ_cons, List.take_zero, List.drop_succ_cons, List.drop_zero, List.length_cons, List.length_nil, List.nil_append, List.cons_append, Nat.reduceAdd, Nat.zero_add]
      refine .seq ?_
      refine .region rfl ?_
      refine .o1 rfl rfl (op_load_agg rfl rfl (D := D57) rfl rfl (Nat.le_of_ble_eq_true rfl) rfl) ?_
      refine .o1 rfl rfl (op_callP Tryd.func24 rfl rfl rfl rfl rfl (c24r ht l1 (by omega)) rfl) ?_
      refine .o1 rfl rfl (op_mv (by first | exact (rfl : _ = AV.int _ _) | exact (rfl : _ = AV.bool _) | exact (rfl : _ = AV.str _) | exact (rfl : _ = AV.sl _ _) | exact (rfl : _ = AV.row _ _) | exact (rfl : _ = AV.ptr _ _) | exact (rfl : _ = AV.tup _) | exact (rfl : _ = AV.agg _) | exact (rfl : _ = AV.fn _ _ _) | exact (rfl : _ = AV.nilp) | exact (rfl : _ = AV.mp _) | exact (rfl : _ = AV.vptr _) | exact (rfl : _ = AV.any))) ?_
      refine .o1 rfl rfl (op_extract rfl rfl) ?_
      refine .o1 rfl rfl (op_extract rfl rfl) ?_
      refine .o1 rfl rfl (op_as (rfl : _ = AV.str _)) ?_
      refine .o0 rfl rfl (op_storeA rfl rfl (D := D57) rfl rfl rfl rfl rfl) ?_
      refine .nil ?_
      try dsimp only [List.set, setR, D31, D53, D57, D69, D86, D95, D22, D3, D9, List.take_succ_cons, List.take_zero, List.drop_succ_cons, List.drop_zero, List.length_cons, List.length_nil, List.nil_append, List.cons_append, Nat.reduceAdd, Nat.zero_add]
      refine .seq ?_
      refine .seq ?_
      refine .region rfl ?_
      refine .o1 rfl rfl (op_fieldAddr rfl (D := D57) rfl rfl rfl rfl (by decide)) ?_
      refine .o1 rfl rfl (op_load rfl rfl (D := D27) rfl rfl rfl) ?_
      refine .o1 rfl rfl (op_bin rfl rfl rfl) ?_
      refine .nil ?_
      refine .condO rfl (fun h => ?_) (fun h => ?_)   -- t39
      · have he : e2 ≠ 0 := by simp at h; omega
        refine .seq ?_
        refine .drawnJ 1 (fun s => s[1]? = some (.var [.str (c.drop a2), .int .i64 a2, .int .i64 e2])) [3] rfl (by decide) (by decide +kernel) rfl ?_
        refine .ds rfl rfl rfl (fun _ => (op_build1 (D := D31) rfl rfl pl31 (vs := []) rfl rfl)) ?_
        refine .ds rfl rfl rfl (fun _ => (op_fieldAddr rfl (D := D57) rfl rfl rfl rfl (by decide))) ?_
        refine .dJ rfl rfl rfl (by decide +kernel) (fun _ hJ => (op_load rfl hJ (D := D27) rfl rfl rfl)) ?_
        refine .deJ0 0 rfl rfl rfl rfl rfl (op_storeA rfl rfl (D := D31) rfl rfl rfl rfl rfl) (fun _ => rfl) ?_
        refine .ds rfl rfl rfl (fun _ => (op_as (rfl : _ = AV.int _ _))) ?_
        refine .nil rfl rfl ?_
        try dsimp only [List.set, setR, D31, D53, D57, D69, D86, D95, D22, D3, D9, List.take_succ_cons, List.take_zero, List.drop_succ_cons, List.drop_zero, List.length_cons, List.length_nil, List.nil_append, List.cons_append, Nat.reduceAdd, Nat.zero_add]
        refine .ret ?_
        rw [if_pos he]
        exact ⟨_, _, _, .cons (.cellsO _ _ 0 0 _ _ D31 rfl rfl rfl rfl (Nat.le_of_ble_eq_true rfl) rfl) (.cons (.tmpO _ rfl) .nil), .drop 0 (Nat.le_refl _) rfl (fun _ => rfl), rfl, rfl⟩
      · have he : e2 = 0 := by simp at h; omega
        subst he
        obtain ⟨he1, ha2, tc, rfl, htc⟩ := rB_one ht
        simp only at he1
        subst he1
        obtain ⟨_, ha1, sc, rfl, hsc⟩ := rB_one hs
        have hsb := sc.toNat_lt
        have htb := tc.toNat_lt
        rw [if_neg (by decide)]
        simp only [List.getD_cons_zero]
        refine .skip ?_
        refine .seq ?_
        refine .seq ?_
        refine .region rfl ?_
        refine .o1 rfl rfl (op_mv (rfl : _ = AV.str _)) ?_
        refine .o1 rfl rfl (op_indexStr rfl rfl (S := D9) rfl rfl (by decide) rfl) ?_
        refine .o1 rfl rfl (op_bin rfl rfl rfl) ?_
        refine .nil ?_
        refine .condO rfl (fun h => ?_) (fun h => ?_)   -- t45
        · have h1 : 1 < tc.toNat := by simp at h; omega
          refine .seq ?_
          refine .region rfl ?_
          refine .o1 rfl rfl (op_build1 (D := D31) rfl rfl pl31 (vs := []) rfl rfl) ?_
          refine .o0 rfl rfl (op_storeA rfl rfl (D := D31) rfl rfl rfl rfl rfl) ?_
          refine .o1 rfl rfl (op_as (rfl : _ = AV.int _ _)) ?_
          refine .nil ?_
          try dsimp only [List.set, setR, D31, D53, D57, D69, D86, D95, D22, D3, D9, List.take_succ_cons, List.take_zero, List.drop_succ_cons, List.drop_zero, List.length_cons, List.length_nil, List.nil_append, List.cons_append, Nat.reduceAdd, Nat.zero_add]
          refine .ret ?_
          rw [if_pos h1]
          exact ⟨_, _, _, .cons (.cellsO _ _ 0 0 _ _ D31 rfl rfl rfl rfl (Nat.le_of_ble_eq_true rfl) rfl) (.cons (.tmpO _ rfl) .nil), .drop 0 (Nat.le_refl _) rfl (fun _ => rfl), rfl, rfl⟩
        · have h1 : ¬ 1 < tc.toNat := by simp at h; omega
          rw [if_neg h1]
          obtain ⟨pk, hpk⟩ : ∃ pk, decide (tc.toNat = 1) = pk := ⟨_, rfl⟩
          have hpk2 : ((tc.toNat : Int) == 1) = pk := by rw [← hpk, Bool.eq_iff_iff]; simp; omega
          rw [hpk]
          obtain ⟨z, a3, e3, hz⟩ : ∃ n a e, rI c (a2, 0) = (n, a, e) := ⟨_, _, _, rfl⟩
          have l3 : a3 ≤ c.length := by have := (rI_le (b := c) (s := (a2, 0)) l2).1; rw [hz] at this; exact this
          obtain ⟨m, a4, e4, hm⟩ : ∃ n a e, rI c (a3, e3) = (n, a, e) := ⟨_, _, _, rfl⟩
          have l4 : a4 ≤ c.length := by have := (rI_le (b := c) (s := (a3, e3)) l3).1; rw [hm] at this; exact this
          have zb : z ≤ 2147483647 := by have := rI_num (b := c) (s := (a2, 0)); rw [hz] at this; exact this
          have mb : m ≤ 2147483647 := by have := rI_num (b := c) (s := (a3, e3)); rw [hm] at this; exact this
          simp only [hz, hm]
          refine .skip ?_
          refine .seq ?_
          refine .drawn [6, 7] rfl (by decide) (by decide +kernel) ?_
          refine .ds rfl rfl rfl (fun _ => (op_mv (rfl : _ = AV.str _))) ?_
          refine .ds rfl rfl rfl (fun _ => (op_indexStr rfl rfl (S := D9) rfl rfl (by decide) rfl)) ?_
          refine .ds rfl rfl rfl (fun _ => (op_mv (rfl : _ = AV.str _))) ?_
          refine .ds rfl rfl rfl (fun _ => (op_indexStr rfl rfl (S := D9) rfl rfl (by decide) rfl)) ?_
          refine .ds rfl rfl rfl (fun _ => (op_bin rfl rfl rfl)) ?_
          rw [hpk2]
          refine .ds rfl rfl rfl (fun _ => (op_build1 (D := D31) rfl rfl pl31 (vs := [(0, .int .u8 sc.toNat), (1, .bool pk)]) rfl rfl)) ?_
          refine .de 0 rfl rfl rfl rfl rfl (op_alloc (D := D31) rfl) ?_
          refine .de0 1 rfl rfl rfl rfl rfl (op_storeA rfl rfl (D := D31) rfl rfl rfl rfl rfl) ?_
          try dsimp only [List.set, setR, D31, D53, D57, D69, D86, D95, D22, D3, D9, List.take_succ_cons, List.take_zero, List.drop_succ_cons, List.drop_zero, List.length_cons, List.length_nil, List.nil_append, List.cons_append, Nat.reduceAdd, Nat.zero_add]
          refine .nil rfl rfl ?_
          refine .seq ?_
          refine .region rfl ?_
          refine .o1 rfl rfl (op_load_agg rfl rfl (D := D57) rfl rfl (Nat.le_of_ble_eq_true rfl) rfl) ?_
          refine .o1 rfl rfl (op_callP Tryd.func25 rfl rfl rfl rfl rfl (c25r hz l2 (by omega)) rfl) ?_
          refine .o1 rfl rfl (op_mv (by first | exact (rfl : _ = AV.int _ _) | exact (rfl : _ = AV.bool _) | exact (rfl : _ = AV.str _) | exact (rfl : _ = AV.sl _ _) | exact (rfl : _ = AV.row _ _) | exact (rfl : _ = AV.ptr _ _) | exact (rfl : _ = AV.tup _) | exact (rfl : _ = AV.agg _) | exact (rfl : _ = AV.fn _ _ _) | exact (rfl : _ = AV.nilp) | exact (rfl : _ = AV.mp _) | exact (rfl : _ = AV.vptr _) | exact (rfl : _ = AV.any))) ?_
          refine .o1 rfl rfl (op_extract rfl rfl) ?_
          refine .o1 rfl rfl (op_extract rfl rfl) ?_
          refine .o1 rfl rfl (op_as (rfl : _ = AV.int _ _)) ?_
          refine .o0 rfl rfl (op_storeA rfl rfl (D := D57) rfl rfl rfl rfl rfl) ?_
          refine .nil ?_
          try dsimp only [List.set, setR, D31, D53, D57, D69, D86, D95, D22, D3, D9, List.take_succ_cons, List.take_zero, List.drop_succ_cons, List.drop_zero, List.length_cons, List.length_nil, List.nil_append, List.cons_append, Nat.reduceAdd, Nat.zero_add]
          refine .seq ?_
          refine .region rfl ?_
          refine .o1 rfl rfl (op_load_agg rfl rfl (D := D57) rfl rfl (Nat.le_of_ble_eq_true rfl) rfl) ?_
          refine .o1 rfl rfl (op_callP Tryd.func25 rfl rfl rfl rfl rfl (c25r hm l3 (by omega)) rfl) ?_
          refine .o1 rfl rfl (op_mv (by first | exact (rfl : _ = AV.int _ _) | exact (rfl : _ = AV.bool _) | exact (rfl : _ = AV.str _) | exact (rfl : _ = AV.sl _ _) | exact (rfl : _ = AV.row _ _) | exact (rfl : _ = AV.ptr _ _) | exact (rfl : _ = AV.tup _) | exact (rfl : _ = AV.agg _) | exact (rfl : _ = AV.fn _ _ _) | exact (rfl : _ = AV.nilp) | exact (rfl : _ = AV.mp _) | exact (rfl : _ = AV.vptr _) | exact (rfl : _ = AV.any))) ?_
          refine .o1 rfl rfl (op_extract rfl rfl) ?_
          refine .o1 rfl rfl (op_extract rfl rfl) ?_
          refine .o1 rfl rfl (op_as (rfl : _ = AV.int _ _)) ?_
          refine .o0 rfl rfl (op_storeA rfl rfl (D := D57) rfl rfl rfl rfl rfl) ?_
          refine .nil ?_
          try dsimp only [List.set, setR, D31, D53, D57, D69, D86, D95, D22, D3, D9, List.take_succ_cons, List.take_zero, List.drop_succ_cons, List.drop_zero, List.length_cons, List.length_nil, List.nil_append, List.cons_append, Nat.reduceAdd, Nat.zero_add]
          refine .seq ?_
          refine .seq ?_
          refine .region rfl ?_
          refine .o1 rfl rfl (op_fieldAddr rfl (D := D57) rfl rfl rfl rfl (by decide)) ?_
          refine .o1 rfl rfl (op_load rfl rfl (D := D27) rfl rfl rfl) ?_
          refine .o1 rfl rfl (op_bin rfl rfl rfl) ?_
          refine .nil ?_
          refine .condO rfl (fun h => ?_) (fun h => ?_)   -- t65
          · have he : e4 ≠ 0 := by simp at h; omega
            rw [if_pos he]
            refine .seq ?_
            refine .drawnJ 1 (fun s => s[1]? = some (.var [.str (c.drop a4), .int .i64 a4, .int .i64 e4])) [3] rfl (by decide) (by decide +kernel) rfl ?_
            refine .ds rfl rfl rfl (fun _ => (op_build1 (D := D31) rfl rfl pl31 (vs := []) rfl rfl)) ?_
            refine .ds rfl rfl rfl (fun _ => (op_fieldAddr rfl (D := D57) rfl rfl rfl rfl (by decide))) ?_
            refine .dJ rfl rfl rfl (by decide +kernel) (fun _ hJ => (op_load rfl hJ (D := D27) rfl rfl rfl)) ?_
            refine .deJ0 0 rfl rfl rfl rfl rfl (op_storeA rfl rfl (D := D31) rfl rfl rfl rfl rfl) (fun _ => rfl) ?_
            refine .ds rfl rfl rfl (fun _ => (op_as (rfl : _ = AV.int _ _))) ?_
            refine .nil rfl rfl ?_
            try dsimp only [List.set, setR, D31, D53, D57, D69, D86, D95, D22, D3, D9, List.take_succ_cons, List.take_zero, List.drop_succ_cons, List.drop_zero, List.length_cons, List.length_nil, List.nil_append, List.cons_append, Nat.reduceAdd, Nat.zero_add]
            refine .ret ?_
            exact ⟨_, _, _, .cons (.cellsO _ _ 0 0 _ _ D31 rfl rfl rfl rfl (Nat.le_of_ble_eq_true rfl) rfl) (.cons (.tmpO _ rfl) .nil), .drop 0 (Nat.le_refl _) rfl (fun _ => rfl), rfl, rfl⟩
          · have he : e4 = 0 := by simp at h; omega
            subst he
            rw [if_neg (by decide)]
            refine .skip ?_
            refine .seq ?_
            refine .seq ?_
            refine .cut (σ := Bool) (fun t => t = true ↔ badN pk m z) (fun t => lst 130 [(0, .str b), (1, .int .i64 n), (4, .ptr 0 0), (7, .ptr 1 0), (9, .ptr 2 0), (10, .int .u64 z), (11, .int .u64 m), (85, .bool t)]) (fun _ => [.var D31.z, .var [.str (c.drop a4), .int .i64 a4, .int .i64 ((0 : Nat) : Int)], .var [.int .u8 sc.toNat, .bool pk, .int .i64 0, .str [], .int .i64 0]]) (fun t ht => ?_) (fun cont => ?_)
            · refine .condO rfl (fun h => ?_) (fun h => ?_)   -- t85
              · subst h
                rw [if_pos (ht.1 rfl)]
                refine .seq ?_
                refine .region rfl ?_
                refine .o1 rfl rfl (op_build1 (D := D31) rfl rfl pl31 (vs := []) rfl rfl) ?_
                refine .o0 rfl rfl (op_storeA rfl rfl (D := D31) rfl rfl rfl rfl rfl) ?_
                refine .o1 rfl rfl (op_as (rfl : _ = AV.int _ _)) ?_
                refine .nil ?_
                try dsimp only [List.set, setR, D31, D53, D57, D69, D86, D95, D22, D3, D9, List.take_succ_cons, List.take_zero, List.drop_succ_cons, List.drop_zero, List.length_cons, List.length_nil, List.nil_append, List.cons_append, Nat.reduceAdd, Nat.zero_add]
                refine .ret ?_
                exact ⟨_, _, _, .cons (.cellsO _ _ 0 0 _ _ D31 rfl rfl rfl rfl (Nat.le_of_ble_eq_true rfl) rfl) (.cons (.tmpO _ rfl) .nil), .drop 0 (Nat.le_refl _) rfl (fun _ => rfl), rfl, rfl⟩
              · subst h
                rw [if_neg (fun q => by have := ht.2 q; cases this)]
                obtain ⟨bd, a5, e5, hbd⟩ : ∃ n a e, rB c m (a4, 0) = (n, a, e) := ⟨_, _, _, rfl⟩
                have l5 : a5 ≤ c.length := by have := (rB_le (b := c) (k := m) (s := (a4, 0)) l4).1; rw [hbd] at this; exact this
                obtain ⟨f, a6, e6, hf⟩ : ∃ n a e, rB c 4 (a5, e5) = (n, a, e) := ⟨_, _, _, rfl⟩
                have l6 : a6 ≤ c.length := by have := (rB_le (b := c) (k := 4) (s := (a5, e5)) l5).1; rw [hf] at this; exact this
                simp only [hbd, hf]
                refine .skip ?_
                refine .seq ?_
                refine .region rfl ?_
                refine .o1 rfl rfl (op_load_agg rfl rfl (D := D57) rfl rfl (Nat.le_of_ble_eq_true rfl) rfl) ?_
                refine .o1 rfl rfl (op_mv (rfl : _ = AV.int _ _)) ?_
                refine .o1 rfl rfl (op_convInt (r := (m : Int)) rfl (S := D46) (D := D3) rfl rfl rfl (wrap_in (by simp only [lo]; omega) (by simp only [hi]; omega))) ?_
                refine .o1 rfl rfl (op_callP Tryd.func24 rfl rfl rfl rfl rfl (c24r hbd l4 (by omega)) rfl) ?_
                refine .o1 rfl rfl (op_mv (by first | exact (rfl : _ = AV.int _ _) | exact (rfl : _ = AV.bool _) | exact (rfl : _ = AV.str _) | exact (rfl : _ = AV.sl _ _) | exact (rfl : _ = AV.row _ _) | exact (rfl : _ = AV.ptr _ _) | exact (rfl : _ = AV.tup _) | exact (rfl : _ = AV.agg _) | exact (rfl : _ = AV.fn _ _ _) | exact (rfl : _ = AV.nilp) | exact (rfl : _ = AV.mp _) | exact (rfl : _ = AV.vptr _) | exact (rfl : _ = AV.any))) ?_
                refine .o1 rfl rfl (op_extract rfl rfl) ?_
                refine .o1 rfl rfl (op_extract rfl rfl) ?_
                refine .o1 rfl rfl (op_as (rfl : _ = AV.str _)) ?_
                refine .o0 rfl rfl (op_storeA rfl rfl (D := D57) rfl rfl rfl rfl rfl) ?_
                refine .nil ?_
                try dsimp only [List.set, setR, D31, D53, D57, D69, D86, D95, D22, D3, D9, List.take_succ_cons, List.take_zero, List.drop_succ_cons, List.drop_zero, List.length_cons, List.length_nil, List.nil_append, List.cons_append, Nat.reduceAdd, Nat.zero_add]
                refine .seq ?_
                refine .region rfl ?_
                refine .o1 rfl rfl (op_fieldAddr rfl (D := D57) rfl rfl rfl rfl (by decide)) ?_
                refine .o1 rfl rfl (op_load rfl rfl (D := D3) rfl rfl rfl) ?_
                refine .o1 rfl rfl (op_as (rfl : _ = AV.int _ _)) ?_
                refine .nil ?_
                refine .seq ?_
                refine .region rfl ?_
                refine .o1 rfl rfl (op_load_agg rfl rfl (D := D57) rfl rfl (Nat.le_of_ble_eq_true rfl) rfl) ?_
                refine .o1 rfl rfl (op_callP Tryd.func24 rfl rfl rfl rfl rfl (c24r hf l5 (by omega)) rfl) ?_
                refine .o1 rfl rfl (op_mv (by first | exact (rfl : _ = AV.int _ _) | exact (rfl : _ = AV.bool _) | exact (rfl : _ = AV.str _) | exact (rfl : _ = AV.sl _ _) | exact (rfl : _ = AV.row _ _) | exact (rfl : _ = AV.ptr _ _) | exact (rfl : _ = AV.tup _) | exact (rfl : _ = AV.agg _) | exact (rfl : _ = AV.fn _ _ _) | exact (rfl : _ = AV.nilp) | exact (rfl : _ = AV.mp _) | exact (rfl : _ = AV.vptr _) | exact (rfl : _ = AV.any))) ?_
                refine .o1 rfl rfl (op_extract rfl rfl) ?_
                refine .o1 rfl rfl (op_extract rfl rfl) ?_
                refine .o1 rfl rfl (op_as (rfl : _ = AV.str _)) ?_
                refine .o0 rfl rfl (op_storeA rfl rfl (D := D57) rfl rfl rfl rfl rfl) ?_
                refine .nil ?_
                try dsimp only [List.set, setR, D31, D53, D57, D69, D86, D95, D22, D3, D9, List.take_succ_cons, List.take_zero, List.drop_succ_cons, List.drop_zero, List.length_cons, List.length_nil, List.nil_append, List.cons_append, Nat.reduceAdd, Nat.zero_add]
                refine .seq ?_
                refine .seq ?_
                refine .region rfl ?_
                refine .o1 rfl rfl (op_fieldAddr rfl (D := D57) rfl rfl rfl rfl (by decide)) ?_
                refine .o1 rfl rfl (op_load rfl rfl (D := D27) rfl rfl rfl) ?_
                refine .o1 rfl rfl (op_bin rfl rfl rfl) ?_
                refine .nil ?_
                refine .condO rfl (fun h => ?_) (fun h => ?_)   -- t103
                · have he : e6 ≠ 0 := by simp at h; omega
                  rw [if_pos he]
                  refine .seq ?_
                  refine .drawnJ 1 (fun s => s[1]? = some (.var [.str (c.drop a6), .int .i64 a6, .int .i64 e6])) [3] rfl (by decide) (by decide +kernel) rfl ?_
                  refine .ds rfl rfl rfl (fun _ => (op_build1 (D := D31) rfl rfl pl31 (vs := []) rfl rfl)) ?_
                  refine .ds rfl rfl rfl (fun _ => (op_fieldAddr rfl (D := D57) rfl rfl rfl rfl (by decide))) ?_
                  refine .dJ rfl rfl rfl (by decide +kernel) (fun _ hJ => (op_load rfl hJ (D := D27) rfl rfl rfl)) ?_
                  refine .deJ0 0 rfl rfl rfl rfl rfl (op_storeA rfl rfl (D := D31) rfl rfl rfl rfl rfl) (fun _ => rfl) ?_
                  refine .ds rfl rfl rfl (fun _ => (op_as (rfl : _ = AV.int _ _))) ?_
                  refine .nil rfl rfl ?_
                  try dsimp only [List.set, setR, D31, D53, D57, D69, D86, D95, D22, D3, D9, List.take_succ_cons, List.take_zero, List.drop_succ_cons, List.drop_zero, List.length_cons, List.length_nil, List.nil_append, List.cons_append, Nat.reduceAdd, Nat.zero_add]
                  refine .ret ?_
                  exact ⟨_, _, _, .cons (.cellsO _ _ 0 0 _ _ D31 rfl rfl rfl rfl (Nat.le_of_ble_eq_true rfl) rfl) (.cons (.tmpO _ rfl) .nil), .drop 0 (Nat.le_refl _) rfl (fun _ => rfl), rfl, rfl⟩
                · have he : e6 = 0 := by simp at h; omega
                  subst he
                  rw [if_neg (by decide)]
                  have hcut : (b.take (n + a5)).drop n = c.take a5 := by rw [List.drop_take, hc, Nat.add_sub_cancel_left]
                  have htl : (c.take a5).length < 2 ^ 62 := by simp; omega
                  refine .skip ?_
                  refine .seq ?_
                  refine .seq ?_
                  refine .region rfl ?_
                  refine .o1 rfl rfl (op_mv (rfl : _ = AV.str _)) ?_
                  refine .o1 rfl rfl (op_mv (rfl : _ = AV.int _ _)) ?_
                  refine .o1 rfl rfl (op_mv (rfl : _ = AV.int _ _)) ?_
                  refine .o1 rfl rfl (op_mv (rfl : _ = AV.int _ _)) ?_
                  refine .o1 rfl rfl (op_add rfl rfl (by simp only [Rm.lo]; omega) (by simp only [Rm.hi]; omega)) ?_
                  refine .o1 rfl rfl (op_sliceStr (ln := n) (hn := n + a5) rfl (S := D9) rfl rfl (.inr ⟨_, _, _, rfl, rfl, by omega, by omega⟩) (.inr ⟨_, _, _, rfl, rfl, by show (0 : Int) ≤ (n : Int) + a5; omega, by show ((n : Int) + a5).toNat = n + a5; omega⟩) (by omega) (by omega) (r := c.take a5) hcut) ?_
                  refine .o1 rfl rfl (op_bytes rfl (S := D9) rfl rfl (D := D22) rfl rfl (B := D5) rfl rfl) ?_
                  refine .o1 rfl rfl (op_callP Tryd.func22 rfl rfl rfl rfl (ok_sl _ _) (c22 htl) rfl) ?_
                  refine .o1 rfl rfl (op_callP Tryd.func21 rfl rfl rfl rfl rfl (c21 (crcN_lt _)) rfl) ?_
                  refine .o1 rfl rfl (op_mv (rfl : _ = AV.str _)) ?_
                  refine .o1 rfl rfl (op_strNe rfl rfl) ?_
                  refine .nil ?_
                  try dsimp only [List.set, setR, D31, D53, D57, D69, D86, D95, D22, D3, D9, List.take_succ_cons, List.take_zero, List.drop_succ_cons, List.drop_zero, List.length_cons, List.length_nil, List.nil_append, List.cons_append, Nat.reduceAdd, Nat.zero_add]
                  refine .condO rfl (fun h => ?_) (fun h => ?_)   -- t117
                  · have h5 : fixB (crcN (c.take a5)) ≠ f := by simpa using h
                    rw [if_pos h5]
                    refine .seq ?_
                    refine .region rfl ?_
                    refine .o1 rfl rfl (op_build1 (D := D31) rfl rfl pl31 (vs := []) rfl rfl) ?_
                    refine .o0 rfl rfl (op_storeA rfl rfl (D := D31) rfl rfl rfl rfl rfl) ?_
                    refine .o1 rfl rfl (op_as (rfl : _ = AV.int _ _)) ?_
                    refine .nil ?_
                    try dsimp only [List.set, setR, D31, D53, D57, D69, D86, D95, D22, D3, D9, List.take_succ_cons, List.take_zero, List.drop_succ_cons, List.drop_zero, List.length_cons, List.length_nil, List.nil_append, List.cons_append, Nat.reduceAdd, Nat.zero_add]
                    refine .ret ?_
                    exact ⟨_, _, _, .cons (.cellsO _ _ 0 0 _ _ D31 rfl rfl rfl rfl (Nat.le_of_ble_eq_true rfl) rfl) (.cons (.tmpO _ rfl) .nil), .drop 0 (Nat.le_refl _) rfl (fun _ => rfl), rfl, rfl⟩
                  · have h5 : ¬ fixB (crcN (c.take a5)) ≠ f := by simpa using h
                    rw [if_neg h5]
                    refine .skip ?_
                    refine .seq ?_
                    refine .region rfl ?_
                    refine .o1 rfl rfl (op_mv (rfl : _ = AV.int _ _)) ?_
                    refine .o1 rfl rfl (op_convInt (r := (z : Int)) rfl (S := D46) (D := D3) rfl rfl rfl (wrap_in (by simp only [lo]; omega) (by simp only [hi]; omega))) ?_
                    refine .o1 rfl rfl (op_fieldAddr rfl (D := D31) rfl rfl rfl rfl (by decide)) ?_
                    refine .o0 rfl rfl (op_store1 rfl rfl (D := D3) rfl (by first | exact (rfl : _ = AV.int _ _) | exact (rfl : _ = AV.bool _) | exact (rfl : _ = AV.str _) | exact (rfl : _ = AV.sl _ _) | exact (rfl : _ = AV.row _ _) | exact (rfl : _ = AV.ptr _ _) | exact (rfl : _ = AV.tup _) | exact (rfl : _ = AV.agg _) | exact (rfl : _ = AV.fn _ _ _) | exact (rfl : _ = AV.nilp) | exact (rfl : _ = AV.mp _) | exact (rfl : _ = AV.vptr _) | exact (rfl : _ = AV.any)) rfl rfl (Nat.le_of_ble_eq_true rfl) rfl) ?_
                    refine .nil ?_
                    try dsimp only [List.set, setR, D31, D53, D57, D69, D86, D95, D22, D3, D9, List.take_succ_cons, List.take_zero, List.drop_succ_cons, List.drop_zero, List.length_cons, List.length_nil, List.nil_append, List.cons_append, Nat.reduceAdd, Nat.zero_add]
                    refine .seq ?_
                    refine .region rfl ?_
                    refine .o1 rfl rfl (op_mv (rfl : _ = AV.str _)) ?_
                    refine .o1 rfl rfl (op_fieldAddr rfl (D := D31) rfl rfl rfl rfl (by decide)) ?_
                    refine .o0 rfl rfl (op_store1 rfl rfl (D := D9) rfl (by first | exact (rfl : _ = AV.int _ _) | exact (rfl : _ = AV.bool _) | exact (rfl : _ = AV.str _) | exact (rfl : _ = AV.sl _ _) | exact (rfl : _ = AV.row _ _) | exact (rfl : _ = AV.ptr _ _) | exact (rfl : _ = AV.tup _) | exact (rfl : _ = AV.agg _) | exact (rfl : _ = AV.fn _ _ _) | exact (rfl : _ = AV.nilp) | exact (rfl : _ = AV.mp _) | exact (rfl : _ = AV.vptr _) | exact (rfl : _ = AV.any)) rfl rfl (Nat.le_of_ble_eq_true rfl) rfl) ?_
                    refine .nil ?_
                    try dsimp only [List.set, setR, D31, D53, D57, D69, D86, D95, D22, D3, D9, List.take_succ_cons, List.take_zero, List.drop_succ_cons, List.drop_zero, List.length_cons, List.length_nil, List.nil_append, List.cons_append, Nat.reduceAdd, Nat.zero_add]
                    refine .seq ?_
                    refine .region rfl ?_
                    refine .o1 rfl rfl (op_mv (rfl : _ = AV.int _ _)) ?_
                    refine .o1 rfl rfl (op_fieldAddr rfl (D := D57) rfl rfl rfl rfl (by decide)) ?_
                    refine .o1 rfl rfl (op_load rfl rfl (D := D3) rfl rfl rfl) ?_
                    refine .o1 rfl rfl (op_add rfl rfl (by simp only [Rm.lo]; omega) (by simp only [Rm.hi]; omega)) ?_
                    refine .o1 rfl rfl (op_fieldAddr rfl (D := D31) rfl rfl rfl rfl (by decide)) ?_
                    refine .o0 rfl rfl (op_store1 rfl rfl (D := D3) rfl (by first | exact (rfl : _ = AV.int _ _) | exact (rfl : _ = AV.bool _) | exact (rfl : _ = AV.str _) | exact (rfl : _ = AV.sl _ _) | exact (rfl : _ = AV.row _ _) | exact (rfl : _ = AV.ptr _ _) | exact (rfl : _ = AV.tup _) | exact (rfl : _ = AV.agg _) | exact (rfl : _ = AV.fn _ _ _) | exact (rfl : _ = AV.nilp) | exact (rfl : _ = AV.mp _) | exact (rfl : _ = AV.vptr _) | exact (rfl : _ = AV.any)) rfl rfl (Nat.le_of_ble_eq_true rfl) rfl) ?_
                    refine .nil ?_
                    try dsimp only [List.set, setR, D31, D53, D57, D69, D86, D95, D22, D3, D9, List.take_succ_cons, List.take_zero, List.drop_succ_cons, List.drop_zero, List.length_cons, List.length_nil, List.nil_append, List.cons_append, Nat.reduceAdd, Nat.zero_add]
                    refine .seq ?_
                    refine .region rfl ?_
                    refine .o1 rfl rfl (op_load_agg rfl rfl (D := D31) rfl rfl (Nat.le_of_ble_eq_true rfl) rfl) ?_
                    refine .o0 rfl rfl (op_storeA rfl rfl (D := D31) rfl rfl rfl rfl rfl) ?_
                    refine .o1 rfl rfl (op_as (rfl : _ = AV.int _ _)) ?_
                    refine .nil ?_
                    try dsimp only [List.set, setR, D31, D53, D57, D69, D86, D95, D22, D3, D9, List.take_succ_cons, List.take_zero, List.drop_succ_cons, List.drop_zero, List.length_cons, List.length_nil, List.nil_append, List.cons_append, Nat.reduceAdd, Nat.zero_add]
                    refine .ret ?_
                    exact ⟨_, _, _, .cons (.cellsO _ _ 0 0 _ _ D31 rfl rfl rfl rfl (Nat.le_of_ble_eq_true rfl) rfl) (.cons (.tmpO _ rfl) .nil), .drop 0 (Nat.le_refl _) rfl (fun _ => rfl), rfl, rfl⟩
            · refine .region rfl ?_
              cases pk
              · have e5 : ((m : Int) != z) = decide (m ≠ z) := by rw [Bool.eq_iff_iff]; simp; omega
                refine .o1 rfl rfl (op_fieldAddr rfl (D := D31) rfl rfl rfl rfl (by decide)) ?_
                refine .o1 rfl rfl (op_load rfl rfl (D := D4) rfl rfl rfl) ?_
                refine .o1 rfl rfl (op_not rfl) ?_
                refine .o1 rfl rfl (op_mv (rfl : _ = AV.bool _)) ?_
                refine .oy rfl rfl rfl rfl (op_mv (rfl : _ = AV.int _ _)) ?_
                refine .oy rfl rfl rfl rfl (op_mv (rfl : _ = AV.int _ _)) ?_
                refine .oy rfl rfl rfl rfl (op_bin rfl rfl rfl) ?_
                rw [e5]
                by_cases hmz : m = z
                · rw [show decide (m ≠ z) = false by simp [hmz]]
                  refine .o1 rfl rfl (op_pick rfl (rfl : _ = AV.bool _)) ?_
                  refine .o1 rfl rfl (op_mv (rfl : _ = AV.bool _)) ?_
                  refine .oy rfl rfl rfl rfl (op_fieldAddr rfl (D := D31) rfl rfl rfl rfl (by decide)) ?_
                  refine .oy rfl rfl rfl rfl (op_load rfl rfl (D := D4) rfl rfl rfl) ?_
                  refine .oy rfl rfl rfl rfl (op_mv (rfl : _ = AV.bool _)) ?_
                  refine .on rfl rfl rfl rfl ?_
                  refine .on rfl rfl rfl rfl ?_
                  refine .on rfl rfl rfl rfl ?_
                  refine .oy rfl rfl rfl rfl (op_pick rfl (rfl : _ = AV.bool _)) ?_
                  refine .o1 rfl rfl (op_pick rfl (rfl : _ = AV.bool _)) ?_
                  refine .nil ?_
                  refine .keep [0, 1, 4, 7, 9, 10, 11, 85] ?_
                  exact cont false (by simp [badN, hmz])
                · rw [show decide (m ≠ z) = true by simp [hmz]]
                  refine .o1 rfl rfl (op_pick rfl (rfl : _ = AV.bool _)) ?_
                  refine .o1 rfl rfl (op_mv (rfl : _ = AV.bool _)) ?_
                  refine .on rfl rfl rfl rfl ?_
                  refine .on rfl rfl rfl rfl ?_
                  refine .on rfl rfl rfl rfl ?_
                  refine .on rfl rfl rfl rfl ?_
                  refine .on rfl rfl rfl rfl ?_
                  refine .on rfl rfl rfl rfl ?_
                  refine .on rfl rfl rfl rfl ?_
                  refine .o1 rfl rfl (op_pick rfl (rfl : _ = AV.bool _)) ?_
                  refine .nil ?_
                  refine .keep [0, 1, 4, 7, 9, 10, 11, 85] ?_
                  exact cont true (by simp [badN, hmz])
              · refine .o1 rfl rfl (op_fieldAddr rfl (D := D31) rfl rfl rfl rfl (by decide)) ?_
                refine .o1 rfl rfl (op_load rfl rfl (D := D4) rfl rfl rfl) ?_
                refine .o1 rfl rfl (op_not rfl) ?_
                refine .o1 rfl rfl (op_mv (rfl : _ = AV.bool _)) ?_
                refine .on rfl rfl rfl rfl ?_
                refine .on rfl rfl rfl rfl ?_
                refine .on rfl rfl rfl rfl ?_
                refine .o1 rfl rfl (op_pick rfl (rfl : _ = AV.bool _)) ?_
                refine .o1 rfl rfl (op_mv (rfl : _ = AV.bool _)) ?_
                refine .oy rfl rfl rfl rfl (op_fieldAddr rfl (D := D31) rfl rfl rfl rfl (by decide)) ?_
                refine .oy rfl rfl rfl rfl (op_load rfl rfl (D := D4) rfl rfl rfl) ?_
                refine .oy rfl rfl rfl rfl (op_mv (rfl : _ = AV.bool _)) ?_
                refine .oy rfl rfl rfl rfl (op_mv (rfl : _ = AV.int _ _)) ?_
                refine .oy rfl rfl rfl rfl (op_mv (rfl : _ = AV.int _ _)) ?_
                refine .oy rfl rfl rfl rfl (op_bin rfl rfl rfl) ?_
                refine .oy rfl rfl rfl rfl (op_pick rfl (rfl : _ = AV.bool _)) ?_
                refine .o1 rfl rfl (op_pick rfl (rfl : _ = AV.bool _)) ?_
                refine .nil ?_
                refine .keep [0, 1, 4, 7, 9, 10, 11, 85] ?_
                exact cont (decide ((z : Int) ≤ m)) (by simp [badN])
  · refine .region rfl ?_
    by_cases h0 : at_ < 0
    · refine .o1 rfl rfl (op_mv (rfl : _ = AV.int _ _)) ?_
      refine .o1 rfl rfl (op_bin rfl rfl rfl) ?_
      rw [show decide (at_ < 0) = true by simp [h0]]
      refine .o1 rfl rfl (op_mv (rfl : _ = AV.bool _)) ?_
      refine .on rfl rfl rfl rfl ?_
      refine .on rfl rfl rfl rfl ?_
      refine .on rfl rfl rfl rfl ?_
      refine .on rfl rfl rfl rfl ?_
      refine .o1 rfl rfl (op_pick rfl (rfl : _ = AV.bool _)) ?_
      refine .nil ?_
      refine .keep [0, 1, 4, 22] ?_
      exact cont true (by simp [h0])
    · refine .o1 rfl rfl (op_mv (rfl : _ = AV.int _ _)) ?_
      refine .o1 rfl rfl (op_bin rfl rfl rfl) ?_
      rw [show decide (at_ < 0) = false by simp [h0]]
      refine .o1 rfl rfl (op_mv (rfl : _ = AV.bool _)) ?_
      refine .oy rfl rfl rfl rfl (op_mv (rfl : _ = AV.int _ _)) ?_
      refine .oy rfl rfl rfl rfl (op_mv (rfl : _ = AV.str _)) ?_
      refine .oy rfl rfl rfl rfl (op_lenStr rfl (S := D9) rfl rfl) ?_
      refine .oy rfl rfl rfl rfl (op_bin rfl rfl rfl) ?_
      refine .o1 rfl rfl (op_pick rfl (rfl : _ = AV.bool _)) ?_
      refine .nil ?_
      refine .keep [0, 1, 4, 22] ?_
      exact cont (decide ((b.length : Int) < at_)) (by simp [h0])
end Rm

namespace Rm
open Go

/-- A match is told again, a byte at a time. -/
def copyN (far : Nat) : Nat → List UInt8 → List UInt8
  | 0, out => out
  | n + 1, out => copyN far n (out ++ [out.getD (out.length - 1 - far) 0])
theorem copyN_len (far : Nat) : ∀ n out, (copyN far n out).length = out.length + n
  | 0, out => rfl
  | n + 1, out => by rw [copyN, copyN_len far n]; simp; omega
/-- From a place on, behind what is told. -/
def unS (c : List UInt8) (most : Nat) : Nat → Nat → List UInt8 → List UInt8 × Nat
  | 0, _, _ => ([], 0)
  | f + 1, a, out => match c[a]? with
    | none => (out, 0)
    | some k =>
      if 128 ≤ k.toNat then ([], 4) else
      if k.toNat % 2 = 0 then
        if most < out.length + (k.toNat / 2 + 1) then ([], 6) else
        let l := rB c ((k.toNat / 2 + 1 : Nat) : Int) (a + 1, 0)
        if l.2.2 ≠ 0 then ([], l.2.2) else unS c most f l.2.1 (out ++ l.1)
      else
        let m := rI c (a + 1, 0)
        if m.2.2 ≠ 0 then ([], m.2.2) else
        if 4096 ≤ m.1 ∨ out.length ≤ m.1 then ([], 4) else
        if most < out.length + (k.toNat / 2 + 3) then ([], 6) else unS c most f m.2.1 (copyN m.1 (k.toNat / 2 + 3) out)
def unpackS (c : List UInt8) (most : Nat) : List UInt8 × Nat := unS c most (c.length + 1) 0 []
theorem unS_zero (c : List UInt8) (most a : Nat) (out : List UInt8) : unS c most 0 a out = ([], 0) := rfl
theorem unS_succ (c : List UInt8) (most f a : Nat) (out : List UInt8) : unS c most (f + 1) a out = match c[a]? with
    | none => (out, 0)
    | some k =>
      if 128 ≤ k.toNat then ([], 4) else
      if k.toNat % 2 = 0 then
        if most < out.length + (k.toNat / 2 + 1) then ([], 6) else
        if (rB c ((k.toNat / 2 + 1 : Nat) : Int) (a + 1, 0)).2.2 ≠ 0 then ([], (rB c ((k.toNat / 2 + 1 : Nat) : Int) (a + 1, 0)).2.2) else unS c most f (rB c ((k.toNat / 2 + 1 : Nat) : Int) (a + 1, 0)).2.1 (out ++ (rB c ((k.toNat / 2 + 1 : Nat) : Int) (a + 1, 0)).1)
      else
        if (rI c (a + 1, 0)).2.2 ≠ 0 then ([], (rI c (a + 1, 0)).2.2) else
        if 4096 ≤ (rI c (a + 1, 0)).1 ∨ out.length ≤ (rI c (a + 1, 0)).1 then ([], 4) else
        if most < out.length + (k.toNat / 2 + 3) then ([], 6) else unS c most f (rI c (a + 1, 0)).2.1 (copyN (rI c (a + 1, 0)).1 (k.toNat / 2 + 3) out) := rfl
theorem rB_lit {c t : List UInt8} {n a2 : Nat} {s : Nat × Nat} (h : rB c (n : Int) s = (t, a2, 0)) (h0 : 0 < n) : s.2 = 0 ∧ a2 = s.1 + n ∧ t.length = n ∧ t = (c.drop s.1).take n ∧ s.1 + n ≤ c.length := by
  unfold rB at h
  split at h
  · rename_i h1; simp at h; exact absurd (by rw [h.2]) h1
  · rename_i h1
    rw [if_neg (by omega)] at h
    split at h
    · simp at h
    · rename_i hl
      simp only [Int.toNat_natCast, Prod.mk.injEq, and_true] at h
      obtain ⟨q1, q2⟩ := h
      refine ⟨Decidable.not_not.1 h1, q2.symm, ?_, q1.symm, by omega⟩
      rw [← q1]; simp; omega
theorem take_drop_one {l : List UInt8} {i : Nat} (h : i < l.length) : (l.take (i + 1)).drop i = [l.getD i 0] := by
  rw [List.drop_take, Nat.add_sub_cancel_left, List.drop_eq_getElem_cons h, List.take_succ_cons, List.take_zero, List.getD_eq_getElem?_getD, List.getElem?_eq_getElem h]
  rfl
theorem rI_num0 {c : List UInt8} {s : Nat × Nat} {n a2 : Nat} (h : rI c s = (n, a2, 0)) : s.2 = 0 ∧ s.1 < a2 ∧ a2 ≤ s.1 + 10 ∧ n ≤ 2147483647 := by
  unfold rI at h
  split at h
  · rename_i h1; simp at h; exact absurd (by rw [h.2]) h1
  · rename_i h1
    split at h
    · rename_i h2; simp at h; exact absurd h.2.2 h2
    · rename_i h2
      obtain ⟨q1, q2, _, q4⟩ := intR_ok (Decidable.not_not.1 h2)
      simp only [Prod.mk.injEq, and_true] at h
      exact ⟨Decidable.not_not.1 h1, by omega, by omega, by omega⟩
end Rm

namespace Rm
open Go Go.Proofs
open Go.RowKit
set_option maxHeartbeats 4000000

theorem rB_at {c : List UInt8} {a : Nat} {k : UInt8} (h : c[a]? = some k) : rB c 1 (a, 0) = ([k], a + 1, 0) := by
  have hlt := (List.getElem?_eq_some_iff.1 h).1
  have he := (List.getElem?_eq_some_iff.1 h).2
  unfold rB
  rw [if_neg (by simp), if_neg (by decide), if_neg (by simp only; omega)]
  simp only [Int.toNat_one]
  rw [List.drop_eq_getElem_cons hlt, he]
  rfl
theorem c27 {c : List UInt8} {most : Int} (hc : c.length ≤ 100000) (hm : most ≤ 2147483647) (hm0 : -2147483648 ≤ most) : Ctr Tryd.prog mG 27 [] [.str c, .int .i64 most] (fun st' r => st' = [] ∧ r = .tup [.str (unpackS c most.toNat).1, .int .i64 (unpackS c most.toNat).2]) := by
  refine Ctr.of_bodyO (E := Ev) (n := 112) Tryd.func27 rfl rfl (Nat.le_of_ble_eq_true rfl) ?_
  show AGo Ev _ _ (lst 112 [(0, .str c), (1, .int .i64 most)]) _ _
  refine .seq ?_
  refine .region rfl ?_
  refine .o1 rfl rfl (op_as (rfl : _ = AV.str _)) ?_
  refine .o1 rfl rfl (op_as (rfl : _ = AV.int _ _)) ?_
  refine .nil ?_
  obtain ⟨mo, hmo⟩ : ∃ mo, most.toNat = mo := ⟨_, rfl⟩
  rw [hmo]
  have hmob : mo ≤ 2147483647 := by omega
  refine .seq ?_
  refine .cut (σ := Unit) (fun _ => True) (fun _ => lst 112 [(0, .str c), (1, .int .i64 mo)]) (fun _ => []) (fun _ _ => ?_) (fun cont => ?_)
  · refine .seq ?_
    refine .region rfl ?_
    refine .o1 rfl rfl (op_as (rfl : _ = AV.str _)) ?_
    refine .nil ?_
    refine .seq ?_
    refine .region rfl ?_
    refine .o1 rfl rfl (op_mv (rfl : _ = AV.str _)) ?_
    refine .o1 rfl rfl (op_build1 (D := D57) rfl rfl pl57 (vs := [(0, .str c)]) rfl rfl) ?_
    refine .o1 rfl rfl (op_alloc (D := D57) rfl) ?_
    refine .o0 rfl rfl (op_storeA rfl rfl (D := D57) rfl rfl rfl rfl rfl) ?_
    refine .nil ?_
    try dsimp only [List.set, setR, D31, D53, D57, D69, D86, D95, D22, D3, D9, List.take_succ_cons, List.take_zero, List.drop_succ_cons, List.drop_zero, List.length_cons, List.length_nil, List.nil_append, List.cons_append, Nat.reduceAdd, Nat.zero_add]
    refine .seq ?_
    refine .block ?_
    refine .keep [1, 6, 7] ?_
    refine .loop (σ := Nat × Nat × List UInt8) (c.length + 1, 0, []) (fun s => s.2.1 ≤ c.length ∧ c.length < s.2.1 + s.1 ∧ unS c mo s.1 s.2.1 s.2.2 = unpackS c mo ∧ s.2.2.length ≤ 66 * s.2.1) (fun s => s.1) (fun s => lst 112 [(1, .int .i64 mo), (6, .str s.2.2), (7, .ptr 0 0)]) (fun s => [.var [.str (c.drop s.2.1), .int .i64 s.2.1, .int .i64 ((0 : Nat) : Int)]]) ⟨Nat.zero_le _, by simp only; omega, rfl, Nat.le_refl _⟩ rfl rfl ?_
    rintro ⟨f, a, out⟩ ⟨h1, h2, h3, h4⟩ again
    dsimp only at h1 h2 h3 h4 again ⊢
    obtain ⟨f, rfl⟩ : ∃ f', f = f' + 1 := ⟨f - 1, by omega⟩
    rw [unS_succ] at h3
    refine .seq ?_
    refine .seq ?_
    refine .region rfl ?_
    refine .o1 rfl rfl (op_fieldAddr rfl (D := D57) rfl rfl rfl rfl (by decide)) ?_
    refine .o1 rfl rfl (op_load rfl rfl (D := D9) rfl rfl rfl) ?_
    refine .o1 rfl rfl (op_lenStr rfl (S := D9) rfl rfl) ?_
    refine .o1 rfl rfl (op_bin rfl rfl rfl) ?_
    refine .nil ?_
    refine .condO rfl (fun h => ?_) (fun h => ?_)   -- t23
    · have hlt : a < c.length := by simp at h; omega
      obtain ⟨k, hk⟩ : ∃ k, c[a]? = some k := ⟨c[a], by simp [hlt]⟩
      have hkb := k.toNat_lt
      rw [hk] at h3
      simp only at h3
      refine .skip ?_
      refine .block ?_
      refine .seq ?_
      refine .region rfl ?_
      refine .o1 rfl rfl (op_load_agg rfl rfl (D := D57) rfl rfl (Nat.le_of_ble_eq_true rfl) rfl) ?_
      refine .o1 rfl rfl (op_callP Tryd.func24 rfl rfl rfl rfl rfl (c24r (rB_at hk) h1 (by omega)) rfl) ?_
      refine .o1 rfl rfl (op_mv (by first | exact (rfl : _ = AV.int _ _) | exact (rfl : _ = AV.bool _) | exact (rfl : _ = AV.str _) | exact (rfl : _ = AV.sl _ _) | exact (rfl : _ = AV.row _ _) | exact (rfl : _ = AV.ptr _ _) | exact (rfl : _ = AV.tup _) | exact (rfl : _ = AV.agg _) | exact (rfl : _ = AV.fn _ _ _) | exact (rfl : _ = AV.nilp) | exact (rfl : _ = AV.mp _) | exact (rfl : _ = AV.vptr _) | exact (rfl : _ = AV.any))) ?_
      refine .o1 rfl rfl (op_extract rfl rfl) ?_
      refine .o1 rfl rfl (op_extract rfl rfl) ?_
      refine .o1 rfl rfl (op_alloc (D := D57) rfl) ?_
      refine .o1 rfl rfl (op_as (rfl : _ = AV.str _)) ?_
      refine .o0 rfl rfl (op_storeA rfl rfl (D := D57) rfl rfl rfl rfl rfl) ?_
      refine .nil ?_
      try dsimp only [List.set, setR, D31, D53, D57, D69, D86, D95, D22, D3, D9, List.take_succ_cons, List.take_zero, List.drop_succ_cons, List.drop_zero, List.length_cons, List.length_nil, List.nil_append, List.cons_append, Nat.reduceAdd, Nat.zero_add]
      refine .seq ?_
      refine .seq ?_
      refine .region rfl ?_
      refine .o1 rfl rfl (op_mv (rfl : _ = AV.str _)) ?_
      refine .o1 rfl rfl (op_indexStr rfl rfl (S := D9) rfl rfl (by decide) rfl) ?_
      refine .o1 rfl rfl (op_bin rfl rfl rfl) ?_
      refine .nil ?_
      refine .condO rfl (fun h => ?_) (fun h => ?_)   -- t31
      · have h128 : 128 ≤ k.toNat := by simp at h; omega
        rw [if_pos h128] at h3
        rw [← h3]
        refine .seq ?_
        refine .region rfl ?_
        refine .o1 rfl rfl (op_as (rfl : _ = AV.str _)) ?_
        refine .o1 rfl rfl (op_as (rfl : _ = AV.int _ _)) ?_
        refine .nil ?_
        refine .ret ?_
        exact ⟨_, _, _, .cons (.tmpO _ rfl) (.cons (.tmpO _ rfl) .nil), .drop 0 (Nat.le_refl _) rfl (fun _ => rfl), rfl, rfl⟩
      · have h128 : ¬ 128 ≤ k.toNat := by simp at h; omega
        rw [if_neg h128] at h3
        have ek : (k.toNat : Int) / 2 = ((k.toNat / 2 : Nat) : Int) := by omega
        refine .skip ?_
        refine .seq ?_
        refine .region rfl ?_
        refine .o1 rfl rfl (op_mv (rfl : _ = AV.str _)) ?_
        refine .o1 rfl rfl (op_indexStr rfl rfl (S := D9) rfl rfl (by decide) rfl) ?_
        refine .o1 rfl rfl (op_quo rfl rfl (by omega) (by omega) (by simp only [Rm.hi]; omega)) ?_
        refine .o1 rfl rfl (op_convInt (r := ((k.toNat / 2 : Nat) : Int)) rfl (S := D5) (D := D3) rfl rfl rfl (by rw [← ek]; exact wrap_in (by simp only [lo]; omega) (by simp only [hi]; omega))) ?_
        refine .o1 rfl rfl (op_as (rfl : _ = AV.int _ _)) ?_
        refine .nil ?_
        refine .seq ?_
        refine .seq ?_
        refine .region rfl ?_
        refine .o1 rfl rfl (op_mv (rfl : _ = AV.str _)) ?_
        refine .o1 rfl rfl (op_indexStr rfl rfl (S := D9) rfl rfl (by decide) rfl) ?_
        refine .o1 rfl rfl (op_rem rfl rfl (by omega) (by omega)) ?_
        refine .o1 rfl rfl (op_bin rfl rfl rfl) ?_
        refine .nil ?_
        refine .condO rfl (fun h => ?_) (fun h => ?_)   -- t39
        · have h20 : k.toNat % 2 = 0 := by simp at h; omega
          rw [if_pos h20] at h3
          refine .seq ?_
          refine .seq ?_
          refine .region rfl ?_
          refine .o1 rfl rfl (op_mv (rfl : _ = AV.str _)) ?_
          refine .o1 rfl rfl (op_lenStr rfl (S := D9) rfl rfl) ?_
          refine .o1 rfl rfl (op_mv (rfl : _ = AV.int _ _)) ?_
          refine .o1 rfl rfl (op_add rfl rfl (by simp only [Rm.lo]; omega) (by simp only [Rm.hi]; omega)) ?_
          refine .o1 rfl rfl (op_add rfl rfl (by simp only [Rm.lo]; omega) (by simp only [Rm.hi]; omega)) ?_
          refine .o1 rfl rfl (op_mv (rfl : _ = AV.int _ _)) ?_
          refine .o1 rfl rfl (op_bin rfl rfl rfl) ?_
          refine .nil ?_
          refine .condO rfl (fun h => ?_) (fun h => ?_)   -- t46
          · have hl : mo < out.length + (k.toNat / 2 + 1) := by simp at h; omega
            rw [if_pos hl] at h3
            rw [← h3]
            refine .seq ?_
            refine .region rfl ?_
            refine .o1 rfl rfl (op_as (rfl : _ = AV.str _)) ?_
            refine .o1 rfl rfl (op_as (rfl : _ = AV.int _ _)) ?_
            refine .nil ?_
            refine .ret ?_
            exact ⟨_, _, _, .cons (.tmpO _ rfl) (.cons (.tmpO _ rfl) .nil), .drop 0 (Nat.le_refl _) rfl (fun _ => rfl), rfl, rfl⟩
          · have hl : ¬ mo < out.length + (k.toNat / 2 + 1) := by simp at h; omega
            rw [if_neg hl] at h3
            obtain ⟨t, a2, e2, ht⟩ : ∃ t x e, rB c ((k.toNat / 2 + 1 : Nat) : Int) (a + 1, 0) = (t, x, e) := ⟨_, _, _, rfl⟩
            have l2 := rB_le (b := c) (k := ((k.toNat / 2 + 1 : Nat) : Int)) (s := (a + 1, 0)) hlt
            have l3 := rB_len (b := c) (k := ((k.toNat / 2 + 1 : Nat) : Int)) (s := (a + 1, 0))
            rw [ht] at l2 l3 h3
            simp only at l2 l3 h3
            refine .skip ?_
            refine .seq ?_
            refine .region rfl ?_
            refine .o1 rfl rfl (op_load_agg rfl rfl (D := D57) rfl rfl (Nat.le_of_ble_eq_true rfl) rfl) ?_
            refine .o1 rfl rfl (op_mv (rfl : _ = AV.int _ _)) ?_
            refine .o1 rfl rfl (op_add rfl rfl (by simp only [Rm.lo]; omega) (by simp only [Rm.hi]; omega)) ?_
            refine .o1 rfl rfl (op_callP Tryd.func24 rfl rfl rfl rfl rfl (c24r ht hlt (by omega)) rfl) ?_
            refine .o1 rfl rfl (op_mv (by first | exact (rfl : _ = AV.int _ _) | exact (rfl : _ = AV.bool _) | exact (rfl : _ = AV.str _) | exact (rfl : _ = AV.sl _ _) | exact (rfl : _ = AV.row _ _) | exact (rfl : _ = AV.ptr _ _) | exact (rfl : _ = AV.tup _) | exact (rfl : _ = AV.agg _) | exact (rfl : _ = AV.fn _ _ _) | exact (rfl : _ = AV.nilp) | exact (rfl : _ = AV.mp _) | exact (rfl : _ = AV.vptr _) | exact (rfl : _ = AV.any))) ?_
            refine .o1 rfl rfl (op_extract rfl rfl) ?_
            refine .o1 rfl rfl (op_extract rfl rfl) ?_
            refine .o1 rfl rfl (op_alloc (D := D57) rfl) ?_
            refine .o1 rfl rfl (op_as (rfl : _ = AV.str _)) ?_
            refine .o0 rfl rfl (op_storeA rfl rfl (D := D57) rfl rfl rfl rfl rfl) ?_
            refine .nil ?_
            try dsimp only [List.set, setR, D31, D53, D57, D69, D86, D95, D22, D3, D9, List.take_succ_cons, List.take_zero, List.drop_succ_cons, List.drop_zero, List.length_cons, List.length_nil, List.nil_append, List.cons_append, Nat.reduceAdd, Nat.zero_add]
            refine .seq ?_
            refine .seq ?_
            refine .region rfl ?_
            refine .o1 rfl rfl (op_fieldAddr rfl (D := D57) rfl rfl rfl rfl (by decide)) ?_
            refine .o1 rfl rfl (op_load rfl rfl (D := D27) rfl rfl rfl) ?_
            refine .o1 rfl rfl (op_bin rfl rfl rfl) ?_
            refine .nil ?_
            refine .condO rfl (fun h => ?_) (fun h => ?_)   -- t56
            · have he : e2 ≠ 0 := by simp at h; omega
              rw [if_pos he] at h3
              rw [← h3]
              refine .seq ?_
              refine .drawn [] rfl (by decide) (by decide +kernel) ?_
              refine .ds rfl rfl rfl (fun _ => (op_fieldAddr rfl (D := D57) rfl rfl rfl rfl (by decide))) ?_
              refine .dp 0 rfl rfl rfl (by decide +kernel) rfl (op_load rfl rfl (D := D27) rfl rfl rfl) ?_
              refine .ds rfl rfl rfl (fun _ => (op_as (rfl : _ = AV.str _))) ?_
              refine .ds rfl rfl rfl (fun _ => (op_as (rfl : _ = AV.int _ _))) ?_
              refine .nil rfl rfl ?_
              refine .ret ?_
              exact ⟨_, _, _, .cons (.tmpO _ rfl) (.cons (.tmpO _ rfl) .nil), .drop 0 (Nat.le_refl _) rfl (fun _ => rfl), rfl, rfl⟩
            · have he : e2 = 0 := by simp at h; omega
              subst he
              rw [if_neg (by decide)] at h3
              obtain ⟨_, q1, q2, _⟩ := rB_lit ht (by omega)
              simp only at q1
              refine .skip ?_
              refine .seq ?_
              refine .region rfl ?_
              refine .o1 rfl rfl (op_mv (rfl : _ = AV.str _)) ?_
              refine .o1 rfl rfl (op_mv (rfl : _ = AV.str _)) ?_
              refine .o1 rfl rfl (op_strAdd rfl rfl (by omega)) ?_
              refine .o1 rfl rfl (op_as (rfl : _ = AV.str _)) ?_
              refine .nil ?_
              refine .seq ?_
              refine .region rfl ?_
              refine .o1 rfl rfl (op_load_agg rfl rfl (D := D57) rfl rfl (Nat.le_of_ble_eq_true rfl) rfl) ?_
              refine .o0 rfl rfl (op_storeA rfl rfl (D := D57) rfl rfl rfl rfl rfl) ?_
              refine .nil ?_
              try dsimp only [List.set, setR, D31, D53, D57, D69, D86, D95, D22, D3, D9, List.take_succ_cons, List.take_zero, List.drop_succ_cons, List.drop_zero, List.length_cons, List.length_nil, List.nil_append, List.cons_append, Nat.reduceAdd, Nat.zero_add]
              refine .exit rfl ?_
              refine .keep [1, 6, 7] ?_
              refine .drop 1 (Nat.zero_le _) rfl rfl ?_
              exact again (f, a2, out ++ t) ⟨l2.1, by simp only; omega, h3, by simp only [List.length_append]; omega⟩ (by simp only; omega)
        · have h20 : ¬ k.toNat % 2 = 0 := by simp at h; omega
          rw [if_neg h20] at h3
          obtain ⟨far, a2, e2, ht⟩ : ∃ t x e, rI c (a + 1, 0) = (t, x, e) := ⟨_, _, _, rfl⟩
          have l2 := rI_le (b := c) (s := (a + 1, 0)) hlt
          have l3 := rI_num (b := c) (s := (a + 1, 0))
          rw [ht] at l2 l3 h3
          simp only at l2 l3 h3
          refine .skip ?_
          refine .seq ?_
          refine .region rfl ?_
          refine .o1 rfl rfl (op_load_agg rfl rfl (D := D57) rfl rfl (Nat.le_of_ble_eq_true rfl) rfl) ?_
          refine .o1 rfl rfl (op_callP Tryd.func25 rfl rfl rfl rfl rfl (c25r ht hlt (by omega)) rfl) ?_
          refine .o1 rfl rfl (op_mv (by first | exact (rfl : _ = AV.int _ _) | exact (rfl : _ = AV.bool _) | exact (rfl : _ = AV.str _) | exact (rfl : _ = AV.sl _ _) | exact (rfl : _ = AV.row _ _) | exact (rfl : _ = AV.ptr _ _) | exact (rfl : _ = AV.tup _) | exact (rfl : _ = AV.agg _) | exact (rfl : _ = AV.fn _ _ _) | exact (rfl : _ = AV.nilp) | exact (rfl : _ = AV.mp _) | exact (rfl : _ = AV.vptr _) | exact (rfl : _ = AV.any))) ?_
          refine .o1 rfl rfl (op_extract rfl rfl) ?_
          refine .o1 rfl rfl (op_extract rfl rfl) ?_
          refine .o1 rfl rfl (op_alloc (D := D57) rfl) ?_
          refine .o1 rfl rfl (op_as (rfl : _ = AV.int _ _)) ?_
          refine .o0 rfl rfl (op_storeA rfl rfl (D := D57) rfl rfl rfl rfl rfl) ?_
          refine .nil ?_
          try dsimp only [List.set, setR, D31, D53, D57, D69, D86, D95, D22, D3, D9, List.take_succ_cons, List.take_zero, List.drop_succ_cons, List.drop_zero, List.length_cons, List.length_nil, List.nil_append, List.cons_append, Nat.reduceAdd, Nat.zero_add]
          refine .seq ?_
          refine .seq ?_
          refine .region rfl ?_
          refine .o1 rfl rfl (op_fieldAddr rfl (D := D57) rfl rfl rfl rfl (by decide)) ?_
          refine .o1 rfl rfl (op_load rfl rfl (D := D27) rfl rfl rfl) ?_
          refine .o1 rfl rfl (op_bin rfl rfl rfl) ?_
          refine .nil ?_
          refine .condO rfl (fun h => ?_) (fun h => ?_)   -- t70
          · have he : e2 ≠ 0 := by simp at h; omega
            rw [if_pos he] at h3
            rw [← h3]
            refine .seq ?_
            refine .drawn [] rfl (by decide) (by decide +kernel) ?_
            refine .ds rfl rfl rfl (fun _ => (op_fieldAddr rfl (D := D57) rfl rfl rfl rfl (by decide))) ?_
            refine .dp 0 rfl rfl rfl (by decide +kernel) rfl (op_load rfl rfl (D := D27) rfl rfl rfl) ?_
            refine .ds rfl rfl rfl (fun _ => (op_as (rfl : _ = AV.str _))) ?_
            refine .ds rfl rfl rfl (fun _ => (op_as (rfl : _ = AV.int _ _))) ?_
            refine .nil rfl rfl ?_
            refine .ret ?_
            exact ⟨_, _, _, .cons (.tmpO _ rfl) (.cons (.tmpO _ rfl) .nil), .drop 0 (Nat.le_refl _) rfl (fun _ => rfl), rfl, rfl⟩
          · have he : e2 = 0 := by simp at h; omega
            subst he
            rw [if_neg (by decide)] at h3
            obtain ⟨_, q1, q2, q3⟩ := rI_num0 ht
            simp only at q1 q2
            refine .skip ?_
            refine .seq ?_
            refine .seq ?_
            refine .cut (σ := Bool) (fun t => t = true ↔ (4096 ≤ far ∨ out.length ≤ far)) (fun t => lst 112 [(1, .int .i64 mo), (6, .str out), (7, .ptr 0 0), (10, .int .i64 ((k.toNat / 2 : Nat) : Int)), (13, .int .u64 far), (14, .ptr 2 0), (81, .bool t)]) (fun _ => [.var [.str (c.drop a), .int .i64 a, .int .i64 ((0 : Nat) : Int)], .var [.str (c.drop (a + 1)), .int .i64 ((a + 1 : Nat) : Int), .int .i64 ((0 : Nat) : Int)], .var [.str (c.drop a2), .int .i64 a2, .int .i64 ((0 : Nat) : Int)]]) (fun t htt => ?_) (fun cont => ?_)
            · refine .condO rfl (fun h => ?_) (fun h => ?_)   -- t81
              · subst h
                rw [if_pos (htt.1 rfl)] at h3
                rw [← h3]
                refine .seq ?_
                refine .region rfl ?_
                refine .o1 rfl rfl (op_as (rfl : _ = AV.str _)) ?_
                refine .o1 rfl rfl (op_as (rfl : _ = AV.int _ _)) ?_
                refine .nil ?_
                refine .ret ?_
                exact ⟨_, _, _, .cons (.tmpO _ rfl) (.cons (.tmpO _ rfl) .nil), .drop 0 (Nat.le_refl _) rfl (fun _ => rfl), rfl, rfl⟩
              · subst h
                have hbad : ¬ (4096 ≤ far ∨ out.length ≤ far) := fun q => by have := htt.2 q; cases this
                rw [if_neg hbad] at h3
                have hf1 : far < 4096 := by omega
                have hf2 : far < out.length := by omega
                refine .skip ?_
                refine .seq ?_
                refine .seq ?_
                refine .region rfl ?_
                refine .o1 rfl rfl (op_mv (rfl : _ = AV.str _)) ?_
                refine .o1 rfl rfl (op_lenStr rfl (S := D9) rfl rfl) ?_
                refine .o1 rfl rfl (op_mv (rfl : _ = AV.int _ _)) ?_
                refine .o1 rfl rfl (op_add rfl rfl (by simp only [Rm.lo]; omega) (by simp only [Rm.hi]; omega)) ?_
                refine .o1 rfl rfl (op_add rfl rfl (by simp only [Rm.lo]; omega) (by simp only [Rm.hi]; omega)) ?_
                refine .o1 rfl rfl (op_mv (rfl : _ = AV.int _ _)) ?_
                refine .o1 rfl rfl (op_bin rfl rfl rfl) ?_
                refine .nil ?_
                refine .condO rfl (fun h => ?_) (fun h => ?_)   -- t88
                · have hl : mo < out.length + (k.toNat / 2 + 3) := by simp at h; omega
                  rw [if_pos hl] at h3
                  rw [← h3]
                  refine .seq ?_
                  refine .region rfl ?_
                  refine .o1 rfl rfl (op_as (rfl : _ = AV.str _)) ?_
                  refine .o1 rfl rfl (op_as (rfl : _ = AV.int _ _)) ?_
                  refine .nil ?_
                  refine .ret ?_
                  exact ⟨_, _, _, .cons (.tmpO _ rfl) (.cons (.tmpO _ rfl) .nil), .drop 0 (Nat.le_refl _) rfl (fun _ => rfl), rfl, rfl⟩
                · have hl : ¬ mo < out.length + (k.toNat / 2 + 3) := by simp at h; omega
                  rw [if_neg hl] at h3
                  obtain ⟨N, hN⟩ : ∃ N, k.toNat / 2 + 3 = N := ⟨_, rfl⟩
                  rw [hN] at h3 hl
                  refine .skip ?_
                  refine .seq ?_
                  refine .seq ?_
                  refine .region rfl ?_
                  refine .o1 rfl rfl (op_as (rfl : _ = AV.int _ _)) ?_
                  refine .nil ?_
                  refine .block ?_
                  refine .keep [1, 6, 7, 10, 13, 14, 15] ?_
                  refine .loop (σ := Nat × List UInt8) (0, out) (fun s => s.1 ≤ N ∧ copyN far (N - s.1) s.2 = copyN far N out ∧ s.2.length = out.length + s.1) (fun s => N - s.1) (fun s => lst 112 [(1, .int .i64 mo), (6, .str s.2), (7, .ptr 0 0), (10, .int .i64 ((k.toNat / 2 : Nat) : Int)), (13, .int .u64 far), (14, .ptr 2 0), (15, .int .i64 s.1)]) (fun _ => [.var [.str (c.drop a), .int .i64 a, .int .i64 ((0 : Nat) : Int)], .var [.str (c.drop (a + 1)), .int .i64 ((a + 1 : Nat) : Int), .int .i64 ((0 : Nat) : Int)], .var [.str (c.drop a2), .int .i64 a2, .int .i64 ((0 : Nat) : Int)]]) ⟨Nat.zero_le _, rfl, rfl⟩ rfl rfl ?_
                  rintro ⟨i, w⟩ ⟨p1, p2, p3⟩ again2
                  dsimp only at p1 p2 p3 again2 ⊢
                  refine .seq ?_
                  refine .seq ?_
                  refine .region rfl ?_
                  refine .o1 rfl rfl (op_mv (rfl : _ = AV.int _ _)) ?_
                  refine .o1 rfl rfl (op_mv (rfl : _ = AV.int _ _)) ?_
                  refine .o1 rfl rfl (op_add rfl rfl (by simp only [Rm.lo]; omega) (by simp only [Rm.hi]; omega)) ?_
                  refine .o1 rfl rfl (op_bin rfl rfl rfl) ?_
                  refine .nil ?_
                  refine .condO rfl (fun h => ?_) (fun h => ?_)   -- t92
                  · have hiN : i < N := by simp at h; omega
                    have hw : w.length - 1 - far < w.length := by omega
                    have hsl := take_drop_one hw
                    rw [show w.length - 1 - far + 1 = w.length - far by omega] at hsl
                    refine .skip ?_
                    refine .seq ?_
                    refine .block ?_
                    refine .region rfl ?_
                    refine .o1 rfl rfl (op_mv (rfl : _ = AV.str _)) ?_
                    refine .o1 rfl rfl (op_mv (rfl : _ = AV.str _)) ?_
                    refine .o1 rfl rfl (op_mv (rfl : _ = AV.str _)) ?_
                    refine .o1 rfl rfl (op_lenStr rfl (S := D9) rfl rfl) ?_
                    refine .o1 rfl rfl (op_sub rfl rfl (by simp only [Rm.lo]; omega) (by simp only [Rm.hi]; omega)) ?_
                    refine .o1 rfl rfl (op_mv (rfl : _ = AV.int _ _)) ?_
                    refine .o1 rfl rfl (op_convInt (r := (far : Int)) rfl (S := D46) (D := D3) rfl rfl rfl (wrap_in (by simp only [lo]; omega) (by simp only [hi]; omega))) ?_
                    refine .o1 rfl rfl (op_sub rfl rfl (by simp only [Rm.lo]; omega) (by simp only [Rm.hi]; omega)) ?_
                    refine .o1 rfl rfl (op_mv (rfl : _ = AV.str _)) ?_
                    refine .o1 rfl rfl (op_lenStr rfl (S := D9) rfl rfl) ?_
                    refine .o1 rfl rfl (op_mv (rfl : _ = AV.int _ _)) ?_
                    refine .o1 rfl rfl (op_convInt (r := (far : Int)) rfl (S := D46) (D := D3) rfl rfl rfl (wrap_in (by simp only [lo]; omega) (by simp only [hi]; omega))) ?_
                    refine .o1 rfl rfl (op_sub rfl rfl (by simp only [Rm.lo]; omega) (by simp only [Rm.hi]; omega)) ?_
                    refine .o1 rfl rfl (op_sliceStr (ln := w.length - 1 - far) (hn := w.length - far) rfl (S := D9) rfl rfl (.inr ⟨_, _, _, rfl, rfl, by show (0 : Int) ≤ (w.length : Int) - 1 - far; omega, by show ((w.length : Int) - 1 - far).toNat = _; omega⟩) (.inr ⟨_, _, _, rfl, rfl, by show (0 : Int) ≤ (w.length : Int) - far; omega, by show ((w.length : Int) - far).toNat = _; omega⟩) (by omega) (by omega) (r := [w.getD (w.length - 1 - far) 0]) hsl) ?_
                    refine .o1 rfl rfl (op_strAdd rfl rfl (by simp; omega)) ?_
                    refine .o1 rfl rfl (op_as (rfl : _ = AV.str _)) ?_
                    refine .nil ?_
                    refine .inBlock ?_
                    refine .region rfl ?_
                    refine .o1 rfl rfl (op_mv (rfl : _ = AV.int _ _)) ?_
                    refine .o1 rfl rfl (op_add rfl rfl (by simp only [Rm.lo]; omega) (by simp only [Rm.hi]; omega)) ?_
                    refine .o1 rfl rfl (op_as (rfl : _ = AV.int _ _)) ?_
                    refine .nil ?_
                    refine .keep [1, 6, 7, 10, 13, 14, 15] ?_
                    refine again2 (i + 1, w ++ [w.getD (w.length - 1 - far) 0]) ⟨by simp only; omega, ?_, by simp only [List.length_append, List.length_cons, List.length_nil]; omega⟩ (by simp only; omega)
                    simp only
                    rw [← p2, show N - i = (N - (i + 1)) + 1 by omega, copyN]
                  · have hiN : i = N := by simp at h; omega
                    subst hiN
                    rw [Nat.sub_self] at p2
                    have p2 : w = copyN far i out := p2
                    refine .exit rfl ?_
                    refine .region rfl ?_
                    refine .o1 rfl rfl (op_load_agg rfl rfl (D := D57) rfl rfl (Nat.le_of_ble_eq_true rfl) rfl) ?_
                    refine .o0 rfl rfl (op_storeA rfl rfl (D := D57) rfl rfl rfl rfl rfl) ?_
                    refine .nil ?_
                    try dsimp only [List.set, setR, D31, D53, D57, D69, D86, D95, D22, D3, D9, List.take_succ_cons, List.take_zero, List.drop_succ_cons, List.drop_zero, List.length_cons, List.length_nil, List.nil_append, List.cons_append, Nat.reduceAdd, Nat.zero_add]
                    refine .inBlock ?_
                    refine .keep [1, 6, 7] ?_
                    refine .drop 1 (Nat.zero_le _) rfl rfl ?_
                    exact again (f, a2, w) ⟨l2.1, by simp only; omega, by simp only; rw [p2]; exact h3, by simp only; omega⟩ (by simp only; omega)
            · refine .region rfl ?_
              by_cases hfar : 4095 < far
              · refine .o1 rfl rfl (op_mv (rfl : _ = AV.int _ _)) ?_
                refine .o1 rfl rfl (op_bin rfl rfl rfl) ?_
                rw [show decide (4095 < (far : Int)) = true by simp; omega]
                refine .o1 rfl rfl (op_mv (rfl : _ = AV.bool _)) ?_
                refine .on rfl rfl rfl rfl ?_
                refine .on rfl rfl rfl rfl ?_
                refine .on rfl rfl rfl rfl ?_
                refine .on rfl rfl rfl rfl ?_
                refine .on rfl rfl rfl rfl ?_
                refine .o1 rfl rfl (op_pick rfl (rfl : _ = AV.bool _)) ?_
                refine .nil ?_
                refine .keep [1, 6, 7, 10, 13, 14, 81] ?_
                exact cont true (by simp; omega)
              · refine .o1 rfl rfl (op_mv (rfl : _ = AV.int _ _)) ?_
                refine .o1 rfl rfl (op_bin rfl rfl rfl) ?_
                rw [show decide (4095 < (far : Int)) = false by simp; omega]
                refine .o1 rfl rfl (op_mv (rfl : _ = AV.bool _)) ?_
                refine .oy rfl rfl rfl rfl (op_mv (rfl : _ = AV.int _ _)) ?_
                refine .oy rfl rfl rfl rfl (op_convInt (r := (far : Int)) rfl (S := D46) (D := D3) rfl rfl rfl (wrap_in (by simp only [lo]; omega) (by simp only [hi]; omega))) ?_
                refine .oy rfl rfl rfl rfl (op_mv (rfl : _ = AV.str _)) ?_
                refine .oy rfl rfl rfl rfl (op_lenStr rfl (S := D9) rfl rfl) ?_
                refine .oy rfl rfl rfl rfl (op_bin rfl rfl rfl) ?_
                refine .o1 rfl rfl (op_pick rfl (rfl : _ = AV.bool _)) ?_
                refine .nil ?_
                refine .keep [1, 6, 7, 10, 13, 14, 81] ?_
                exact cont (decide ((out.length : Int) ≤ far)) (by simp; omega)
    · have hge : a = c.length := by simp at h; omega
      have hn : c[a]? = none := by simp; omega
      rw [hn] at h3
      refine .exit rfl ?_
      refine .seq ?_
      refine .region rfl ?_
      refine .o1 rfl rfl (op_mv (rfl : _ = AV.str _)) ?_
      refine .o1 rfl rfl (op_as (rfl : _ = AV.str _)) ?_
      refine .o1 rfl rfl (op_as (rfl : _ = AV.int _ _)) ?_
      refine .nil ?_
      refine .ret ?_
      rw [← h3]
      exact ⟨_, _, _, .cons (.tmpO _ rfl) (.cons (.tmpO _ rfl) .nil), .drop 0 (Nat.le_refl _) rfl (fun _ => rfl), rfl, rfl⟩
  · refine .seq ?_
    refine .region rfl ?_
    refine .o1 rfl rfl (op_mv (rfl : _ = AV.int _ _)) ?_
    refine .o1 rfl rfl (op_bin rfl rfl rfl) ?_
    refine .nil ?_
    refine .condO rfl (fun h => ?_) (fun h => ?_)   -- t17
    · have h0 : mo = 0 := by simp at h; omega
      subst h0
      refine .region rfl ?_
      refine .o1 rfl rfl (op_as (rfl : _ = AV.int _ _)) ?_
      refine .nil ?_
      refine .keep [0, 1] ?_
      exact cont () trivial
    · have h0 : most = mo := by simp at h; omega
      subst h0
      refine .skip ?_
      refine .keep [0, 1] ?_
      exact cont () trivial
end Rm

namespace Rm
open Go

theorem readC_body (c : List UInt8) (n : Nat) : (readC c n).1.body.length ≤ c.length ∧ (readC c n).1.size ≤ 2147483647 ∧ (readC c n).1.next ≤ n + c.length := by
  unfold readC
  simp only
  split
  · simp
  · split
    · simp
    · split
      · simp
      · split
        · simp
        · split
          · simp
          · split
            · simp
            · refine ⟨?_, rI_num, ?_⟩
              · exact Nat.le_trans rB_len (Nat.sub_le _ _)
              · have h1 := (rB_le (b := c) (k := 1) (s := (0, 0)) (Nat.zero_le _)).1
                have h2 := (rB_le (b := c) (k := 1) h1).1
                have h3 := (rI_le (b := c) h2).1
                have h4 := (rI_le (b := c) h3).1
                have h5 := (rB_le (b := c) (k := ((rI c (rI c (rB c 1 (rB c 1 (0, 0)).2).2).2).1 : Int)) h4).1
                have h6 := (rB_le (b := c) (k := 4) h5).1
                simp only
                omega
theorem readS_body (b : List UInt8) (at_ : Int) : (readS b at_).1.body.length ≤ b.length ∧ (readS b at_).1.size ≤ 2147483647 ∧ (readS b at_).1.next ≤ b.length := by
  unfold readS
  split
  · simp
  · rename_i h
    obtain ⟨h1, h2, h3⟩ := readC_body (b.drop at_.toNat) at_.toNat
    rw [List.length_drop] at h1 h3
    exact ⟨by omega, h2, by omega⟩
/-- What is taken: its kind, its data, where it ends, the error. -/
def takeS (b : List UInt8) (at_ most : Int) : Nat × List UInt8 × Nat × Nat :=
  let r := readS b at_
  if r.2 ≠ 0 then (0, [], 0, r.2) else
  if most < r.1.size then (0, [], 0, 6) else
  if r.1.packed = false then (r.1.kind.toNat, r.1.body, r.1.next, 0) else
  let d := unpackS r.1.body r.1.size
  if d.2 ≠ 0 ∨ d.1.length ≠ r.1.size then (0, [], 0, 4) else (r.1.kind.toNat, d.1, r.1.next, 0)
end Rm

namespace Rm
open Go Go.Proofs
open Go.RowKit
set_option maxHeartbeats 4000000

theorem c12 {b : List UInt8} {at_ most : Int} (hb : b.length ≤ 100000) : Ctr Tryd.prog mG 12 [] [.str b, .int .i64 at_, .int .i64 most] (fun st' r => st' = [] ∧ r = .tup [.int .u8 (takeS b at_ most).1, .str (takeS b at_ most).2.1, .int .i64 (takeS b at_ most).2.2.1, .int .i64 (takeS b at_ most).2.2.2]) := by
  have hbody := readS_body b at_
  obtain ⟨⟨kd, pk, sz, bd, nx⟩, er, hr⟩ : ∃ x e, readS b at_ = (x, e) := ⟨_, _, rfl⟩
  have hc10 := c10 (at_ := at_) hb
  rw [hr] at hbody hc10
  simp only at hbody
  obtain ⟨hb1, hb2, hb3⟩ := hbody
  have hkb := kd.toNat_lt
  unfold takeS
  simp only [hr]
  refine Ctr.of_bodyO (E := Ev) (n := 62) Tryd.func12 rfl rfl (Nat.le_of_ble_eq_true rfl) ?_
  show AGo Ev _ _ (lst 62 [(0, .str b), (1, .int .i64 at_), (2, .int .i64 most)]) _ _
  refine .seq ?_
  refine .region rfl ?_
  refine .o1 rfl rfl (op_as (rfl : _ = AV.int _ _)) ?_
  refine .o1 rfl rfl (op_as (rfl : _ = AV.str _)) ?_
  refine .o1 rfl rfl (op_as (rfl : _ = AV.int _ _)) ?_
  refine .o1 rfl rfl (op_as (rfl : _ = AV.int _ _)) ?_
  refine .nil ?_
  refine .seq ?_
  refine .region rfl ?_
  refine .o1 rfl rfl (op_mv (rfl : _ = AV.str _)) ?_
  refine .o1 rfl rfl (op_mv (rfl : _ = AV.int _ _)) ?_
  refine .o1 rfl rfl (op_callP Tryd.func10 rfl rfl rfl rfl rfl hc10 rfl) ?_
  refine .o1 rfl rfl (op_mv (by first | exact (rfl : _ = AV.int _ _) | exact (rfl : _ = AV.bool _) | exact (rfl : _ = AV.str _) | exact (rfl : _ = AV.sl _ _) | exact (rfl : _ = AV.row _ _) | exact (rfl : _ = AV.ptr _ _) | exact (rfl : _ = AV.tup _) | exact (rfl : _ = AV.agg _) | exact (rfl : _ = AV.fn _ _ _) | exact (rfl : _ = AV.nilp) | exact (rfl : _ = AV.mp _) | exact (rfl : _ = AV.vptr _) | exact (rfl : _ = AV.any))) ?_
  refine .o1 rfl rfl (op_extract rfl rfl) ?_
  refine .o1 rfl rfl (op_extract rfl rfl) ?_
  refine .o1 rfl rfl (op_alloc (D := D31) rfl) ?_
  refine .o0 rfl rfl (op_storeA rfl rfl (D := D31) rfl rfl rfl rfl rfl) ?_
  refine .o1 rfl rfl (op_as (rfl : _ = AV.int _ _)) ?_
  refine .nil ?_
  try dsimp only [List.set, setR, D31, D53, D57, D69, D86, D95, D22, D3, D9, List.take_succ_cons, List.take_zero, List.drop_succ_cons, List.drop_zero, List.length_cons, List.length_nil, List.nil_append, List.cons_append, Nat.reduceAdd, Nat.zero_add]
  refine .seq ?_
  refine .cut (σ := Int) (fun e => e = if er ≠ 0 then (er : Int) else if most < sz then 6 else 0) (fun e => lst 62 [(10, .ptr 0 0), (11, .int .i64 e)]) (fun _ => [.var [.int .u8 kd.toNat, .bool pk, .int .i64 sz, .str bd, .int .i64 nx]]) (fun e he => ?_) (fun cont => ?_)
  · refine .seq ?_
    refine .seq ?_
    refine .region rfl ?_
    refine .o1 rfl rfl (op_mv (rfl : _ = AV.int _ _)) ?_
    refine .o1 rfl rfl (op_bin rfl rfl rfl) ?_
    refine .nil ?_
    refine .condO rfl (fun h => ?_) (fun h => ?_)   -- t29
    · have h0 : e ≠ 0 := by simpa using h
      refine .seq ?_
      refine .region rfl ?_
      refine .o1 rfl rfl (op_mv (rfl : _ = AV.int _ _)) ?_
      refine .o1 rfl rfl (op_as (rfl : _ = AV.int _ _)) ?_
      refine .o1 rfl rfl (op_as (rfl : _ = AV.str _)) ?_
      refine .o1 rfl rfl (op_as (rfl : _ = AV.int _ _)) ?_
      refine .o1 rfl rfl (op_as (rfl : _ = AV.int _ _)) ?_
      refine .nil ?_
      refine .ret ?_
      refine ⟨_, _, _, .cons (.tmpO _ rfl) (.cons (.tmpO _ rfl) (.cons (.tmpO _ rfl) (.cons (.tmpO _ rfl) .nil))), .drop 0 (Nat.le_refl _) rfl (fun _ => rfl), rfl, ?_⟩
      split
      · rename_i q; rw [if_pos q] at he; subst he; rfl
      · rename_i q
        rw [if_neg q] at he
        split
        · rename_i q2; rw [if_pos q2] at he; subst he; rfl
        · rename_i q2; rw [if_neg q2] at he; exact absurd he h0
    · have h0 : e = 0 := by simpa using h
      have q1 : ¬ er ≠ 0 := fun q => by rw [if_pos q] at he; omega
      rw [if_neg q1] at he
      have q2 : ¬ most < sz := fun q => by rw [if_pos q] at he; omega
      rw [if_neg q1, if_neg q2]
      refine .skip ?_
      refine .seq ?_
      refine .seq ?_
      refine .region rfl ?_
      refine .o1 rfl rfl (op_fieldAddr rfl (D := D31) rfl rfl rfl rfl (by decide)) ?_
      refine .o1 rfl rfl (op_load rfl rfl (D := D4) rfl rfl rfl) ?_
      refine .o1 rfl rfl (op_not rfl) ?_
      refine .nil ?_
      refine .condO rfl (fun h => ?_) (fun h => ?_)   -- t33
      · have hp : pk = false := by simpa using h
        rw [if_pos hp]
        refine .seq ?_
        refine .drawn [] rfl (by decide) (by decide +kernel) ?_
        refine .ds rfl rfl rfl (fun _ => (op_fieldAddr rfl (D := D31) rfl rfl rfl rfl (by decide))) ?_
        refine .dp 0 rfl rfl rfl (by decide +kernel) rfl (op_load rfl rfl (D := D5) rfl rfl rfl) ?_
        refine .ds rfl rfl rfl (fun _ => (op_fieldAddr rfl (D := D31) rfl rfl rfl rfl (by decide))) ?_
        refine .dp 0 rfl rfl rfl (by decide +kernel) rfl (op_load rfl rfl (D := D9) rfl rfl rfl) ?_
        refine .ds rfl rfl rfl (fun _ => (op_fieldAddr rfl (D := D31) rfl rfl rfl rfl (by decide))) ?_
        refine .dp 0 rfl rfl rfl (by decide +kernel) rfl (op_load rfl rfl (D := D3) rfl rfl rfl) ?_
        refine .ds rfl rfl rfl (fun _ => (op_as (rfl : _ = AV.int _ _))) ?_
        refine .ds rfl rfl rfl (fun _ => (op_as (rfl : _ = AV.str _))) ?_
        refine .ds rfl rfl rfl (fun _ => (op_as (rfl : _ = AV.int _ _))) ?_
        refine .ds rfl rfl rfl (fun _ => (op_as (rfl : _ = AV.int _ _))) ?_
        refine .nil rfl rfl ?_
        refine .ret ?_
        exact ⟨_, _, _, .cons (.tmpO _ rfl) (.cons (.tmpO _ rfl) (.cons (.tmpO _ rfl) (.cons (.tmpO _ rfl) .nil))), .drop 0 (Nat.le_refl _) rfl (fun _ => rfl), rfl, rfl⟩
      · have hp : ¬ pk = false := by simpa using h
        rw [if_neg hp]
        refine .skip ?_
        refine .seq ?_
        refine .region rfl ?_
        refine .o1 rfl rfl (op_fieldAddr rfl (D := D31) rfl rfl rfl rfl (by decide)) ?_
        refine .o1 rfl rfl (op_load rfl rfl (D := D9) rfl rfl rfl) ?_
        refine .o1 rfl rfl (op_fieldAddr rfl (D := D31) rfl rfl rfl rfl (by decide)) ?_
        refine .o1 rfl rfl (op_load rfl rfl (D := D3) rfl rfl rfl) ?_
        refine .o1 rfl rfl (op_callP Tryd.func27 rfl rfl rfl rfl rfl (c27 (c := bd) (most := sz) (by omega) (by omega) (by omega)) rfl) ?_
        refine .o1 rfl rfl (op_mv (by first | exact (rfl : _ = AV.int _ _) | exact (rfl : _ = AV.bool _) | exact (rfl : _ = AV.str _) | exact (rfl : _ = AV.sl _ _) | exact (rfl : _ = AV.row _ _) | exact (rfl : _ = AV.ptr _ _) | exact (rfl : _ = AV.tup _) | exact (rfl : _ = AV.agg _) | exact (rfl : _ = AV.fn _ _ _) | exact (rfl : _ = AV.nilp) | exact (rfl : _ = AV.mp _) | exact (rfl : _ = AV.vptr _) | exact (rfl : _ = AV.any))) ?_
        refine .o1 rfl rfl (op_extract rfl rfl) ?_
        refine .o1 rfl rfl (op_extract rfl rfl) ?_
        refine .o1 rfl rfl (op_as (rfl : _ = AV.str _)) ?_
        refine .o1 rfl rfl (op_as (rfl : _ = AV.int _ _)) ?_
        refine .nil ?_
        try dsimp only [List.set, setR, D31, D53, D57, D69, D86, D95, D22, D3, D9, List.take_succ_cons, List.take_zero, List.drop_succ_cons, List.drop_zero, List.length_cons, List.length_nil, List.nil_append, List.cons_append, Nat.reduceAdd, Nat.zero_add]
        have e0 : ((sz : Int)).toNat = sz := by omega
        rw [e0]
        refine .seq ?_
        refine .seq ?_
        refine .cut (σ := Bool) (fun t => t = true ↔ ((unpackS bd sz).2 ≠ 0 ∨ (unpackS bd sz).1.length ≠ sz)) (fun t => lst 62 [(10, .ptr 0 0), (12, .str (unpackS bd sz).1), (56, .bool t)]) (fun _ => [.var [.int .u8 kd.toNat, .bool pk, .int .i64 sz, .str bd, .int .i64 nx]]) (fun t htt => ?_) (fun cont => ?_)
        · refine .condO rfl (fun h => ?_) (fun h => ?_)   -- t56
          · subst h
            rw [if_pos (htt.1 rfl)]
            refine .seq ?_
            refine .region rfl ?_
            refine .o1 rfl rfl (op_as (rfl : _ = AV.int _ _)) ?_
            refine .o1 rfl rfl (op_as (rfl : _ = AV.str _)) ?_
            refine .o1 rfl rfl (op_as (rfl : _ = AV.int _ _)) ?_
            refine .o1 rfl rfl (op_as (rfl : _ = AV.int _ _)) ?_
            refine .nil ?_
            refine .ret ?_
            exact ⟨_, _, _, .cons (.tmpO _ rfl) (.cons (.tmpO _ rfl) (.cons (.tmpO _ rfl) (.cons (.tmpO _ rfl) .nil))), .drop 0 (Nat.le_refl _) rfl (fun _ => rfl), rfl, rfl⟩
          · subst h
            rw [if_neg (fun q => by have := htt.2 q; cases this)]
            refine .skip ?_
            refine .seq ?_
            refine .drawn [] rfl (by decide) (by decide +kernel) ?_
            refine .ds rfl rfl rfl (fun _ => (op_fieldAddr rfl (D := D31) rfl rfl rfl rfl (by decide))) ?_
            refine .dp 0 rfl rfl rfl (by decide +kernel) rfl (op_load rfl rfl (D := D5) rfl rfl rfl) ?_
            refine .ds rfl rfl rfl (fun _ => (op_mv (rfl : _ = AV.str _))) ?_
            refine .ds rfl rfl rfl (fun _ => (op_fieldAddr rfl (D := D31) rfl rfl rfl rfl (by decide))) ?_
            refine .dp 0 rfl rfl rfl (by decide +kernel) rfl (op_load rfl rfl (D := D3) rfl rfl rfl) ?_
            refine .ds rfl rfl rfl (fun _ => (op_as (rfl : _ = AV.int _ _))) ?_
            refine .ds rfl rfl rfl (fun _ => (op_as (rfl : _ = AV.str _))) ?_
            refine .ds rfl rfl rfl (fun _ => (op_as (rfl : _ = AV.int _ _))) ?_
            refine .ds rfl rfl rfl (fun _ => (op_as (rfl : _ = AV.int _ _))) ?_
            refine .nil rfl rfl ?_
            refine .ret ?_
            exact ⟨_, _, _, .cons (.tmpO _ rfl) (.cons (.tmpO _ rfl) (.cons (.tmpO _ rfl) (.cons (.tmpO _ rfl) .nil))), .drop 0 (Nat.le_refl _) rfl (fun _ => rfl), rfl, rfl⟩
        · refine .region rfl ?_
          by_cases hu : (unpackS bd sz).2 = 0
          · refine .o1 rfl rfl (op_mv (rfl : _ = AV.int _ _)) ?_
            refine .o1 rfl rfl (op_bin rfl rfl rfl) ?_
            rw [show (((unpackS bd sz).2 : Int) != 0) = false by simp [hu]]
            refine .o1 rfl rfl (op_mv (rfl : _ = AV.bool _)) ?_
            refine .oy rfl rfl rfl rfl (op_mv (rfl : _ = AV.str _)) ?_
            refine .oy rfl rfl rfl rfl (op_lenStr rfl (S := D9) rfl rfl) ?_
            refine .oy rfl rfl rfl rfl (op_fieldAddr rfl (D := D31) rfl rfl rfl rfl (by decide)) ?_
            refine .oy rfl rfl rfl rfl (op_load rfl rfl (D := D3) rfl rfl rfl) ?_
            refine .oy rfl rfl rfl rfl (op_bin rfl rfl rfl) ?_
            refine .o1 rfl rfl (op_pick rfl (rfl : _ = AV.bool _)) ?_
            refine .nil ?_
            refine .keep [10, 12, 56] ?_
            exact cont (((unpackS bd sz).1.length : Int) != sz) (by simp [hu]; omega)
          · refine .o1 rfl rfl (op_mv (rfl : _ = AV.int _ _)) ?_
            refine .o1 rfl rfl (op_bin rfl rfl rfl) ?_
            rw [show (((unpackS bd sz).2 : Int) != 0) = true by simp [hu]]
            refine .o1 rfl rfl (op_mv (rfl : _ = AV.bool _)) ?_
            refine .on rfl rfl rfl rfl ?_
            refine .on rfl rfl rfl rfl ?_
            refine .on rfl rfl rfl rfl ?_
            refine .on rfl rfl rfl rfl ?_
            refine .on rfl rfl rfl rfl ?_
            refine .o1 rfl rfl (op_pick rfl (rfl : _ = AV.bool _)) ?_
            refine .nil ?_
            refine .keep [10, 12, 56] ?_
            exact cont true (by simp [hu])
  · refine .seq ?_
    by_cases he : er = 0
    · subst he
      by_cases hm : most < sz
      · refine .region rfl ?_
        refine .o1 rfl rfl (op_mv (rfl : _ = AV.int _ _)) ?_
        refine .o1 rfl rfl (op_bin rfl rfl rfl) ?_
        refine .o1 rfl rfl (op_mv (rfl : _ = AV.bool _)) ?_
        refine .oy rfl rfl rfl rfl (op_fieldAddr rfl (D := D31) rfl rfl rfl rfl (by decide)) ?_
        refine .oy rfl rfl rfl rfl (op_load rfl rfl (D := D3) rfl rfl rfl) ?_
        refine .oy rfl rfl rfl rfl (op_mv (rfl : _ = AV.int _ _)) ?_
        refine .oy rfl rfl rfl rfl (op_bin rfl rfl rfl) ?_
        rw [show decide (most < (sz : Int)) = true by simp [hm]]
        refine .o1 rfl rfl (op_pick rfl (rfl : _ = AV.bool _)) ?_
        refine .nil ?_
        refine .condO rfl (fun _ => ?_) (fun h => by cases h)
        refine .region rfl ?_
        refine .o1 rfl rfl (op_as (rfl : _ = AV.int _ _)) ?_
        refine .nil ?_
        refine .keep [10, 11] ?_
        exact cont 6 (by rw [if_neg (by decide), if_pos hm])
      · refine .region rfl ?_
        refine .o1 rfl rfl (op_mv (rfl : _ = AV.int _ _)) ?_
        refine .o1 rfl rfl (op_bin rfl rfl rfl) ?_
        refine .o1 rfl rfl (op_mv (rfl : _ = AV.bool _)) ?_
        refine .oy rfl rfl rfl rfl (op_fieldAddr rfl (D := D31) rfl rfl rfl rfl (by decide)) ?_
        refine .oy rfl rfl rfl rfl (op_load rfl rfl (D := D3) rfl rfl rfl) ?_
        refine .oy rfl rfl rfl rfl (op_mv (rfl : _ = AV.int _ _)) ?_
        refine .oy rfl rfl rfl rfl (op_bin rfl rfl rfl) ?_
        rw [show decide (most < (sz : Int)) = false by simp [hm]]
        refine .o1 rfl rfl (op_pick rfl (rfl : _ = AV.bool _)) ?_
        refine .nil ?_
        refine .condO rfl (fun h => by cases h) (fun _ => ?_)
        refine .skip ?_
        refine .keep [10, 11] ?_
        exact cont 0 (by rw [if_neg (by decide), if_neg hm])
    · refine .region rfl ?_
      refine .o1 rfl rfl (op_mv (rfl : _ = AV.int _ _)) ?_
      refine .o1 rfl rfl (op_bin rfl rfl rfl) ?_
      rw [show ((er : Int) == 0) = false by simp [he]]
      refine .o1 rfl rfl (op_mv (rfl : _ = AV.bool _)) ?_
      refine .on rfl rfl rfl rfl ?_
      refine .on rfl rfl rfl rfl ?_
      refine .on rfl rfl rfl rfl ?_
      refine .on rfl rfl rfl rfl ?_
      refine .o1 rfl rfl (op_pick rfl (rfl : _ = AV.bool _)) ?_
      refine .nil ?_
      refine .condO rfl (fun h => by cases h) (fun _ => ?_)
      refine .skip ?_
      refine .keep [10, 11] ?_
      exact cont er (by rw [if_pos he])
end Rm

namespace Rm
open Go

/-- How many bytes from an earlier place on are as those from a place on. -/
def mtGo (s : List UInt8) (f a : Nat) : Nat → Nat → Nat
  | 0, n => n
  | k + 1, n => if a + n < s.length ∧ s.getD (f + n) 0 = s.getD (a + n) 0 then mtGo s f a k (n + 1) else n
def mt (s : List UInt8) (f a : Nat) : Nat := mtGo s f a 66 0
/-- The earlier place that is taken, and how many bytes match. -/
def bestGo (s : List UInt8) (a : Nat) : Nat → Nat → Nat → Nat → Nat × Nat
  | 0, _, p, n => (p, n)
  | f + 1, k, p, n =>
    if a - f ≤ 4096 ∧ k < 16 then
      if mt s f a < 3 then bestGo s a f k p n else
      if n < mt s f a ∧ (3 < mt s f a ∨ a - f ≤ 128) then bestGo s a f (k + 1) f (mt s f a) else bestGo s a f (k + 1) p n
    else (p, n)
def bestS (s : List UInt8) (a : Nat) : Nat × Nat := bestGo s a a 0 0 0
/-- Literals, as tokens. -/
def runGo : Nat → List UInt8 → List UInt8
  | 0, _ => []
  | f + 1, l => if l.length = 0 then [] else UInt8.ofNat (2 * (min 64 l.length - 1)) :: (l.take (min 64 l.length) ++ runGo f (l.drop (min 64 l.length)))
def runS (l : List UInt8) : List UInt8 := runGo l.length l
def packGo (s : List UInt8) : Nat → Nat → Nat → List UInt8 → List UInt8
  | 0, _, _, out => out
  | f + 1, a, pl, out =>
    if s.length ≤ a then out ++ runS (s.drop pl) else
    if (bestS s a).2 = 0 then packGo s f (a + 1) pl out else
    packGo s f (a + (bestS s a).2) (a + (bestS s a).2) (out ++ runS ((s.take a).drop pl) ++ [UInt8.ofNat (2 * ((bestS s a).2 - 3) + 1)] ++ varB (a - (bestS s a).1 - 1))
def packS (s : List UInt8) : List UInt8 := packGo s (s.length + 1) 0 0 []

theorem runGo_nil (f : Nat) : runGo f [] = [] := by cases f <;> rfl
theorem runGo_fuel : ∀ (f g : Nat) (l : List UInt8), l.length ≤ f → l.length ≤ g → runGo f l = runGo g l
  | 0, g, l, h, _ => by
    have : l = [] := List.eq_nil_of_length_eq_zero (by omega)
    subst this
    rw [runGo_nil, runGo_nil]
  | f + 1, 0, l, _, h => by
    have : l = [] := List.eq_nil_of_length_eq_zero (by omega)
    subst this
    rw [runGo_nil, runGo_nil]
  | f + 1, g + 1, l, h, h' => by
    unfold runGo
    split
    · rfl
    · rename_i h0
      rw [runGo_fuel f g (l.drop (min 64 l.length)) (by rw [List.length_drop]; omega) (by rw [List.length_drop]; omega)]
theorem runS_cons {l : List UInt8} (h : l.length ≠ 0) : runS l = UInt8.ofNat (2 * (min 64 l.length - 1)) :: (l.take (min 64 l.length) ++ runS (l.drop (min 64 l.length))) := by
  unfold runS
  obtain ⟨k, hk⟩ : ∃ k, l.length = k + 1 := ⟨l.length - 1, by omega⟩
  rw [hk]
  conv => lhs; unfold runGo
  rw [if_neg h, hk]
  rw [runGo_fuel k (l.drop (min 64 (k + 1))).length _ (by rw [List.length_drop]; omega) (Nat.le_refl _)]
theorem runS_nil {l : List UInt8} (h : l.length = 0) : runS l = [] := by
  have : l = [] := List.eq_nil_of_length_eq_zero h
  subst this; rfl
theorem runGo_len : ∀ (f : Nat) (l : List UInt8), (runGo f l).length ≤ 2 * l.length
  | 0, l => by simp [runGo]
  | f + 1, l => by
    unfold runGo
    split
    · simp
    · rename_i h
      have := runGo_len f (l.drop (min 64 l.length))
      simp only [List.length_cons, List.length_append, List.length_take, List.length_drop] at this ⊢
      omega
theorem runS_len (l : List UInt8) : (runS l).length ≤ 2 * l.length := runGo_len _ _

theorem mtGo_spec (s : List UInt8) (f a : Nat) : ∀ k n, n ≤ mtGo s f a k n ∧ mtGo s f a k n ≤ n + k ∧ (∀ i, n ≤ i → i < mtGo s f a k n → s.getD (f + i) 0 = s.getD (a + i) 0) ∧ (mtGo s f a k n = n ∨ a + mtGo s f a k n ≤ s.length)
  | 0, n => ⟨Nat.le_refl _, Nat.le_refl _, fun i h1 h2 => by simp only [mtGo] at h2; omega, .inl rfl⟩
  | k + 1, n => by
    unfold mtGo
    split
    · rename_i h
      obtain ⟨h1, h2, h3, h4⟩ := mtGo_spec s f a k (n + 1)
      refine ⟨by omega, by omega, fun i hi1 hi2 => ?_, .inr ?_⟩
      · by_cases e : i = n
        · subst e; exact h.2
        · exact h3 i (by omega) hi2
      · rcases h4 with h4 | h4
        · rw [h4]; omega
        · exact h4
    · exact ⟨Nat.le_refl _, by omega, fun i h1 h2 => by omega, .inl rfl⟩
theorem mt_spec (s : List UInt8) (f a : Nat) : mt s f a ≤ 66 ∧ (∀ i, i < mt s f a → s.getD (f + i) 0 = s.getD (a + i) 0) ∧ (mt s f a = 0 ∨ a + mt s f a ≤ s.length) := by
  obtain ⟨_, h2, h3, h4⟩ := mtGo_spec s f a 66 0
  exact ⟨by unfold mt; omega, fun i hi => h3 i (Nat.zero_le _) hi, h4⟩

theorem bestGo_spec (s : List UInt8) (a : Nat) : ∀ f k p n, f ≤ a → (n = 0 ∨ (3 ≤ n ∧ p < a ∧ a - p ≤ 4096 ∧ n = mt s p a)) →
    (bestGo s a f k p n).2 = 0 ∨ (3 ≤ (bestGo s a f k p n).2 ∧ (bestGo s a f k p n).1 < a ∧ a - (bestGo s a f k p n).1 ≤ 4096 ∧ (bestGo s a f k p n).2 = mt s (bestGo s a f k p n).1 a)
  | 0, k, p, n, _, h => h
  | f + 1, k, p, n, hf, h => by
    unfold bestGo
    split
    · rename_i h1
      split
      · exact bestGo_spec s a f k p n (by omega) h
      · rename_i h2
        split
        · exact bestGo_spec s a f (k + 1) f (mt s f a) (by omega) (.inr ⟨by omega, by omega, h1.1, rfl⟩)
        · exact bestGo_spec s a f (k + 1) p n (by omega) h
    · exact h
theorem bestS_spec (s : List UInt8) (a : Nat) : (bestS s a).2 = 0 ∨ (3 ≤ (bestS s a).2 ∧ (bestS s a).1 < a ∧ a - (bestS s a).1 ≤ 4096 ∧ (bestS s a).2 = mt s (bestS s a).1 a) :=
  bestGo_spec s a a 0 0 0 (Nat.le_refl _) (.inl rfl)

/-- A chunk's bytes. -/
def putS (kind : UInt8) (data : List UInt8) : List UInt8 :=
  let c := packS data
  let how : UInt8 := if c.length < data.length then 1 else 0
  let body := if c.length < data.length then c else data
  let s := [kind, how] ++ varB data.length ++ varB body.length ++ body
  s ++ fixB (crcN s)
end Rm

namespace Rm
open Go Go.Proofs
open Go.RowKit
set_option maxHeartbeats 4000000

theorem str_at {s : List UInt8} {i : Nat} (h : i < s.length) : s[i]? = some (s.getD i 0) := by
  rw [List.getD_eq_getElem?_getD, List.getElem?_eq_getElem h]; rfl
theorem u8_eq (a b : UInt8) : (((a.toNat : Int) == b.toNat) = true) ↔ a = b := by
  simp only [beq_iff_eq, Int.natCast_inj]
  exact ⟨fun h => UInt8.toNat_inj.1 h, fun h => by rw [h]⟩

theorem c50 {s : List UInt8} {f a : Nat} (hf : f < a) (ha : a ≤ s.length) (hs : s.length ≤ 100000) : Ctr Tryd.prog mG 50 [] [.str s, .int .i64 f, .int .i64 a] (fun st' r => st' = [] ∧ r = .int .i64 (mt s f a)) := by
  refine Ctr.of_bodyO (E := Ev) (n := 34) Tryd.func50 rfl rfl (Nat.le_of_ble_eq_true rfl) ?_
  show AGo Ev _ _ (lst 34 [(0, .str s), (1, .int .i64 f), (2, .int .i64 a)]) _ _
  refine .seq ?_
  refine .region rfl ?_
  refine .o1 rfl rfl (op_as (rfl : _ = AV.int _ _)) ?_
  refine .nil ?_
  refine .seq ?_
  refine .region rfl ?_
  refine .o1 rfl rfl (op_as (rfl : _ = AV.int _ _)) ?_
  refine .nil ?_
  refine .seq ?_
  refine .block ?_
  refine .keep [0, 1, 2, 7] ?_
  refine .loop (σ := Nat × Nat) (66, 0) (fun x => x.1 + x.2 = 66 ∧ mtGo s f a x.1 x.2 = mt s f a) (fun x => x.1) (fun x => lst 34 [(0, .str s), (1, .int .i64 f), (2, .int .i64 a), (7, .int .i64 x.2)]) (fun _ => []) ⟨rfl, rfl⟩ rfl rfl ?_
  rintro ⟨k, n⟩ ⟨h1, h2⟩ again
  dsimp only at h1 h2 again ⊢
  refine .seq ?_
  refine .seq ?_
  refine .cut (σ := Bool) (fun t => t = true ↔ (0 < k ∧ a + n < s.length ∧ s.getD (f + n) 0 = s.getD (a + n) 0)) (fun t => lst 34 [(0, .str s), (1, .int .i64 f), (2, .int .i64 a), (7, .int .i64 n), (30, .bool t)]) (fun _ => []) (fun t htt => ?_) (fun cont => ?_)
  · refine .condO rfl (fun h => ?_) (fun h => ?_)   -- t30
    · subst h
      obtain ⟨q1, q2⟩ := htt.1 rfl
      obtain ⟨k, rfl⟩ : ∃ k', k = k' + 1 := ⟨k - 1, by omega⟩
      refine .skip ?_
      refine .block ?_
      refine .region rfl ?_
      refine .o1 rfl rfl (op_mv (rfl : _ = AV.int _ _)) ?_
      refine .o1 rfl rfl (op_add rfl rfl (by simp only [Rm.lo]; omega) (by simp only [Rm.hi]; omega)) ?_
      refine .o1 rfl rfl (op_as (rfl : _ = AV.int _ _)) ?_
      refine .nil ?_
      refine .inBlock ?_
      refine .keep [0, 1, 2, 7] ?_
      exact again (k, n + 1) ⟨by simp only; omega, by simp only; rw [← h2, mtGo, if_pos q2]⟩ (by simp only; omega)
    · subst h
      have hn : n = mt s f a := by
        rw [← h2]
        cases k with
        | zero => rfl
        | succ k => rw [mtGo, if_neg (fun q => by have := htt.2 ⟨Nat.succ_pos _, q⟩; cases this)]
      refine .exit rfl ?_
      refine .seq ?_
      refine .region rfl ?_
      refine .o1 rfl rfl (op_mv (rfl : _ = AV.int _ _)) ?_
      refine .o1 rfl rfl (op_as (rfl : _ = AV.int _ _)) ?_
      refine .nil ?_
      refine .ret ?_
      rw [← hn]
      exact ⟨_, _, _, .cons (.tmpO _ rfl) .nil, .drop 0 (Nat.le_refl _) rfl (fun _ => rfl), rfl, rfl⟩
  · refine .drawn [] rfl (by decide) (by decide +kernel) ?_
    refine .ds rfl rfl rfl (fun _ => (op_mv (rfl : _ = AV.int _ _))) ?_
    refine .ds rfl rfl rfl (fun _ => (op_bin rfl rfl rfl)) ?_
    by_cases hk : 0 < k
    · rw [show decide ((n : Int) < 66) = true by simp; omega]
      refine .ds rfl rfl rfl (fun _ => (op_mv (rfl : _ = AV.bool _))) ?_
      refine .dys rfl rfl rfl rfl rfl (fun _ => (op_mv (rfl : _ = AV.int _ _))) ?_
      refine .dys rfl rfl rfl rfl rfl (fun _ => (op_mv (rfl : _ = AV.int _ _))) ?_
      refine .dys rfl rfl rfl rfl rfl (fun _ => (op_add rfl rfl (by simp only [Rm.lo]; omega) (by simp only [Rm.hi]; omega))) ?_
      refine .dys rfl rfl rfl rfl rfl (fun _ => (op_mv (rfl : _ = AV.str _))) ?_
      refine .dys rfl rfl rfl rfl rfl (fun _ => (op_lenStr rfl (S := D9) rfl rfl)) ?_
      refine .dys rfl rfl rfl rfl rfl (fun _ => (op_bin rfl rfl rfl)) ?_
      by_cases hl : a + n < s.length
      · rw [show decide ((a : Int) + n < s.length) = true by simp; omega]
        refine .ds rfl rfl rfl (fun _ => (op_pick rfl (rfl : _ = AV.bool _))) ?_
        refine .ds rfl rfl rfl (fun _ => (op_mv (rfl : _ = AV.bool _))) ?_
        refine .dys rfl rfl rfl rfl rfl (fun _ => (op_mv (rfl : _ = AV.str _))) ?_
        refine .dys rfl rfl rfl rfl rfl (fun _ => (op_mv (rfl : _ = AV.int _ _))) ?_
        refine .dys rfl rfl rfl rfl rfl (fun _ => (op_mv (rfl : _ = AV.int _ _))) ?_
        refine .dys rfl rfl rfl rfl rfl (fun _ => (op_add rfl rfl (by simp only [Rm.lo]; omega) (by simp only [Rm.hi]; omega))) ?_
        refine .dys rfl rfl rfl rfl rfl (fun _ => (op_indexStr rfl rfl (S := D9) rfl rfl (by omega) (by rw [show ((f : Int) + n).toNat = f + n by omega]; exact str_at (by omega)))) ?_
        refine .dys rfl rfl rfl rfl rfl (fun _ => (op_mv (rfl : _ = AV.str _))) ?_
        refine .dys rfl rfl rfl rfl rfl (fun _ => (op_mv (rfl : _ = AV.int _ _))) ?_
        refine .dys rfl rfl rfl rfl rfl (fun _ => (op_mv (rfl : _ = AV.int _ _))) ?_
        refine .dys rfl rfl rfl rfl rfl (fun _ => (op_add rfl rfl (by simp only [Rm.lo]; omega) (by simp only [Rm.hi]; omega))) ?_
        refine .dys rfl rfl rfl rfl rfl (fun _ => (op_indexStr rfl rfl (S := D9) rfl rfl (by omega) (by rw [show ((a : Int) + n).toNat = a + n by omega]; exact str_at hl))) ?_
        refine .dys rfl rfl rfl rfl rfl (fun _ => (op_bin rfl rfl rfl)) ?_
        refine .ds rfl rfl rfl (fun _ => (op_pick rfl (rfl : _ = AV.bool _))) ?_
        refine .nil rfl rfl ?_
        refine .keep [0, 1, 2, 7, 30] ?_
        exact cont _ (by rw [u8_eq]; simp [hk, hl])
      · rw [show decide ((a : Int) + n < s.length) = false by simp; omega]
        refine .ds rfl rfl rfl (fun _ => (op_pick rfl (rfl : _ = AV.bool _))) ?_
        refine .ds rfl rfl rfl (fun _ => (op_mv (rfl : _ = AV.bool _))) ?_
        refine .dn rfl rfl rfl rfl rfl ?_
        refine .dn rfl rfl rfl rfl rfl ?_
        refine .dn rfl rfl rfl rfl rfl ?_
        refine .dn rfl rfl rfl rfl rfl ?_
        refine .dn rfl rfl rfl rfl rfl ?_
        refine .dn rfl rfl rfl rfl rfl ?_
        refine .dn rfl rfl rfl rfl rfl ?_
        refine .dn rfl rfl rfl rfl rfl ?_
        refine .dn rfl rfl rfl rfl rfl ?_
        refine .dn rfl rfl rfl rfl rfl ?_
        refine .dn rfl rfl rfl rfl rfl ?_
        refine .ds rfl rfl rfl (fun _ => (op_pick rfl (rfl : _ = AV.bool _))) ?_
        refine .nil rfl rfl ?_
        refine .keep [0, 1, 2, 7, 30] ?_
        exact cont false (by simp [hl])
    · rw [show decide ((n : Int) < 66) = false by simp; omega]
      refine .ds rfl rfl rfl (fun _ => (op_mv (rfl : _ = AV.bool _))) ?_
      refine .dn rfl rfl rfl rfl rfl ?_
      refine .dn rfl rfl rfl rfl rfl ?_
      refine .dn rfl rfl rfl rfl rfl ?_
      refine .dn rfl rfl rfl rfl rfl ?_
      refine .dn rfl rfl rfl rfl rfl ?_
      refine .dn rfl rfl rfl rfl rfl ?_
      refine .ds rfl rfl rfl (fun _ => (op_pick rfl (rfl : _ = AV.bool _))) ?_
      refine .ds rfl rfl rfl (fun _ => (op_mv (rfl : _ = AV.bool _))) ?_
      refine .dn rfl rfl rfl rfl rfl ?_
      refine .dn rfl rfl rfl rfl rfl ?_
      refine .dn rfl rfl rfl rfl rfl ?_
      refine .dn rfl rfl rfl rfl rfl ?_
      refine .dn rfl rfl rfl rfl rfl ?_
      refine .dn rfl rfl rfl rfl rfl ?_
      refine .dn rfl rfl rfl rfl rfl ?_
      refine .dn rfl rfl rfl rfl rfl ?_
      refine .dn rfl rfl rfl rfl rfl ?_
      refine .dn rfl rfl rfl rfl rfl ?_
      refine .dn rfl rfl rfl rfl rfl ?_
      refine .ds rfl rfl rfl (fun _ => (op_pick rfl (rfl : _ = AV.bool _))) ?_
      refine .nil rfl rfl ?_
      refine .keep [0, 1, 2, 7, 30] ?_
      exact cont false (by simp [hk])

theorem c33 {s : List UInt8} {a : Nat} (ha : a ≤ s.length) (hs : s.length ≤ 100000) : Ctr Tryd.prog mG 33 [] [.str s, .int .i64 a] (fun st' r => st' = [] ∧ r = .tup [.int .i64 (bestS s a).1, .int .i64 (bestS s a).2]) := by
  refine Ctr.of_bodyO (E := Ev) (n := 52) Tryd.func33 rfl rfl (Nat.le_of_ble_eq_true rfl) ?_
  show AGo Ev _ _ (lst 52 [(0, .str s), (1, .int .i64 a)]) _ _
  refine .seq ?_
  refine .region rfl ?_
  refine .o1 rfl rfl (op_as (rfl : _ = AV.int _ _)) ?_
  refine .o1 rfl rfl (op_as (rfl : _ = AV.int _ _)) ?_
  refine .nil ?_
  refine .seq ?_
  refine .region rfl ?_
  refine .o1 rfl rfl (op_as (rfl : _ = AV.int _ _)) ?_
  refine .o1 rfl rfl (op_as (rfl : _ = AV.int _ _)) ?_
  refine .o1 rfl rfl (op_as (rfl : _ = AV.int _ _)) ?_
  refine .nil ?_
  refine .seq ?_
  refine .seq ?_
  refine .region rfl ?_
  refine .o1 rfl rfl (op_mv (rfl : _ = AV.int _ _)) ?_
  refine .o1 rfl rfl (op_sub rfl rfl (by simp only [Rm.lo]; omega) (by simp only [Rm.hi]; omega)) ?_
  refine .o1 rfl rfl (op_as (rfl : _ = AV.int _ _)) ?_
  refine .nil ?_
  refine .block ?_
  refine .keep [0, 1, 6, 7, 8, 9] ?_
  refine .loop (σ := Nat × Nat × Nat × Nat) (a, 0, 0, 0) (fun x => x.1 ≤ a ∧ bestGo s a x.1 x.2.1 x.2.2.1 x.2.2.2 = bestS s a ∧ x.2.1 ≤ 16) (fun x => x.1) (fun x => lst 52 [(0, .str s), (1, .int .i64 a), (6, .int .i64 x.2.2.1), (7, .int .i64 x.2.2.2), (8, .int .i64 x.2.1), (9, .int .i64 ((x.1 : Int) - 1))]) (fun _ => []) ⟨Nat.le_refl _, rfl, Nat.zero_le _⟩ rfl rfl ?_
  rintro ⟨f1, k, p, n⟩ ⟨h1, h2, h3⟩ again
  dsimp only at h1 h2 h3 again ⊢
  refine .seq ?_
  refine .seq ?_
  refine .cut (σ := Bool) (fun t => t = true ↔ (0 < f1 ∧ a - (f1 - 1) ≤ 4096 ∧ k < 16)) (fun t => lst 52 [(0, .str s), (1, .int .i64 a), (6, .int .i64 p), (7, .int .i64 n), (8, .int .i64 k), (9, .int .i64 ((f1 : Int) - 1)), (24, .bool t)]) (fun _ => []) (fun t htt => ?_) (fun cont => ?_)
  · refine .condO rfl (fun h => ?_) (fun h => ?_)   -- t24
    · subst h
      obtain ⟨q1, q2, q3⟩ := htt.1 rfl
      obtain ⟨f, rfl⟩ : ∃ f, f1 = f + 1 := ⟨f1 - 1, by omega⟩
      rw [Nat.add_sub_cancel] at q2
      rw [bestGo, if_pos ⟨q2, q3⟩] at h2
      have ef : ((f + 1 : Nat) : Int) - 1 = f := by omega
      obtain ⟨m, hm⟩ : ∃ m, mt s f a = m := ⟨_, rfl⟩
      have hc50 := c50 (f := f) (show f < a by omega) ha hs
      rw [hm] at hc50 h2
      refine .skip ?_
      refine .seq ?_
      refine .block ?_
      refine .seq ?_
      rw [ef]
      refine .region rfl ?_
      refine .o1 rfl rfl (op_mv (rfl : _ = AV.str _)) ?_
      refine .o1 rfl rfl (op_mv (rfl : _ = AV.int _ _)) ?_
      refine .o1 rfl rfl (op_mv (rfl : _ = AV.int _ _)) ?_
      refine .o1 rfl rfl (op_callP Tryd.func50 rfl rfl rfl rfl rfl hc50 rfl) ?_
      refine .o1 rfl rfl (op_as (rfl : _ = AV.int _ _)) ?_
      refine .nil ?_
      try dsimp only [List.set, setR, D31, D53, D57, D69, D86, D95, D22, D3, D9, List.take_succ_cons, List.take_zero, List.drop_succ_cons, List.drop_zero, List.length_cons, List.length_nil, List.nil_append, List.cons_append, Nat.reduceAdd, Nat.zero_add]
      refine .seq ?_
      refine .seq ?_
      refine .region rfl ?_
      refine .o1 rfl rfl (op_mv (rfl : _ = AV.int _ _)) ?_
      refine .o1 rfl rfl (op_bin rfl rfl rfl) ?_
      refine .nil ?_
      refine .condO rfl (fun h => ?_) (fun h => ?_)   -- t32
      · have hm3 : m < 3 := by simp at h; omega
        rw [if_pos hm3] at h2
        refine .exit rfl ?_
        refine .region rfl ?_
        refine .o1 rfl rfl (op_mv (rfl : _ = AV.int _ _)) ?_
        refine .o1 rfl rfl (op_sub rfl rfl (by simp only [Rm.lo]; omega) (by simp only [Rm.hi]; omega)) ?_
        refine .o1 rfl rfl (op_as (rfl : _ = AV.int _ _)) ?_
        refine .nil ?_
        refine .keep [0, 1, 6, 7, 8, 9] ?_
        exact again (f, k, p, n) ⟨by simp only; omega, h2, h3⟩ (by simp only; omega)
      · have hm3 : ¬ m < 3 := by simp at h; omega
        rw [if_neg hm3] at h2
        refine .skip ?_
        refine .seq ?_
        refine .region rfl ?_
        refine .o1 rfl rfl (op_mv (rfl : _ = AV.int _ _)) ?_
        refine .o1 rfl rfl (op_add rfl rfl (by simp only [Rm.lo]; omega) (by simp only [Rm.hi]; omega)) ?_
        refine .o1 rfl rfl (op_as (rfl : _ = AV.int _ _)) ?_
        refine .nil ?_
        refine .seq ?_
        refine .cut (σ := Bool) (fun t => t = true ↔ (n < m ∧ (3 < m ∨ a - f ≤ 128))) (fun t => lst 52 [(0, .str s), (1, .int .i64 a), (6, .int .i64 p), (7, .int .i64 n), (8, .int .i64 ((k : Int) + 1)), (9, .int .i64 f), (10, .int .i64 m), (47, .bool t)]) (fun _ => []) (fun t htt => ?_) (fun cont => ?_)
        · refine .condO rfl (fun h => ?_) (fun h => ?_)   -- t47
          · subst h
            rw [if_pos (htt.1 rfl)] at h2
            refine .seq ?_
            refine .region rfl ?_
            refine .o1 rfl rfl (op_mv (rfl : _ = AV.int _ _)) ?_
            refine .o1 rfl rfl (op_as (rfl : _ = AV.int _ _)) ?_
            refine .nil ?_
            refine .region rfl ?_
            refine .o1 rfl rfl (op_mv (rfl : _ = AV.int _ _)) ?_
            refine .o1 rfl rfl (op_as (rfl : _ = AV.int _ _)) ?_
            refine .nil ?_
            refine .inBlock ?_
            refine .region rfl ?_
            refine .o1 rfl rfl (op_mv (rfl : _ = AV.int _ _)) ?_
            refine .o1 rfl rfl (op_sub rfl rfl (by simp only [Rm.lo]; omega) (by simp only [Rm.hi]; omega)) ?_
            refine .o1 rfl rfl (op_as (rfl : _ = AV.int _ _)) ?_
            refine .nil ?_
            refine .keep [0, 1, 6, 7, 8, 9] ?_
            exact again (f, k + 1, f, m) ⟨by simp only; omega, h2, q3⟩ (by simp only; omega)
          · subst h
            rw [if_neg (fun q => by have := htt.2 q; cases this)] at h2
            refine .skip ?_
            refine .inBlock ?_
            refine .region rfl ?_
            refine .o1 rfl rfl (op_mv (rfl : _ = AV.int _ _)) ?_
            refine .o1 rfl rfl (op_sub rfl rfl (by simp only [Rm.lo]; omega) (by simp only [Rm.hi]; omega)) ?_
            refine .o1 rfl rfl (op_as (rfl : _ = AV.int _ _)) ?_
            refine .nil ?_
            refine .keep [0, 1, 6, 7, 8, 9] ?_
            exact again (f, k + 1, p, n) ⟨by simp only; omega, h2, q3⟩ (by simp only; omega)
        · refine .region rfl ?_
          refine .o1 rfl rfl (op_mv (rfl : _ = AV.int _ _)) ?_
          refine .o1 rfl rfl (op_mv (rfl : _ = AV.int _ _)) ?_
          refine .o1 rfl rfl (op_bin rfl rfl rfl) ?_
          by_cases e1 : n < m
          · rw [show decide ((n : Int) < m) = true by simp; omega]
            refine .o1 rfl rfl (op_mv (rfl : _ = AV.bool _)) ?_
            refine .oy rfl rfl rfl rfl (op_mv (rfl : _ = AV.int _ _)) ?_
            refine .oy rfl rfl rfl rfl (op_bin rfl rfl rfl) ?_
            by_cases e2 : 3 < m
            · rw [show decide ((3 : Int) < m) = true by simp; omega]
              refine .oy rfl rfl rfl rfl (op_mv (rfl : _ = AV.bool _)) ?_
              refine .on rfl rfl rfl rfl ?_
              refine .on rfl rfl rfl rfl ?_
              refine .on rfl rfl rfl rfl ?_
              refine .on rfl rfl rfl rfl ?_
              refine .oy rfl rfl rfl rfl (op_pick rfl (rfl : _ = AV.bool _)) ?_
              refine .o1 rfl rfl (op_pick rfl (rfl : _ = AV.bool _)) ?_
              refine .nil ?_
              refine .keep [0, 1, 6, 7, 8, 9, 10, 47] ?_
              exact cont true (by simp; omega)
            · rw [show decide ((3 : Int) < m) = false by simp; omega]
              refine .oy rfl rfl rfl rfl (op_mv (rfl : _ = AV.bool _)) ?_
              refine .oy rfl rfl rfl rfl (op_mv (rfl : _ = AV.int _ _)) ?_
              refine .oy rfl rfl rfl rfl (op_mv (rfl : _ = AV.int _ _)) ?_
              refine .oy rfl rfl rfl rfl (op_sub rfl rfl (by simp only [Rm.lo]; omega) (by simp only [Rm.hi]; omega)) ?_
              refine .oy rfl rfl rfl rfl (op_bin rfl rfl rfl) ?_
              refine .oy rfl rfl rfl rfl (op_pick rfl (rfl : _ = AV.bool _)) ?_
              refine .o1 rfl rfl (op_pick rfl (rfl : _ = AV.bool _)) ?_
              refine .nil ?_
              refine .keep [0, 1, 6, 7, 8, 9, 10, 47] ?_
              exact cont (decide ((a : Int) - f ≤ 128)) (by simp; omega)
          · rw [show decide ((n : Int) < m) = false by simp; omega]
            refine .o1 rfl rfl (op_mv (rfl : _ = AV.bool _)) ?_
            refine .on rfl rfl rfl rfl ?_
            refine .on rfl rfl rfl rfl ?_
            refine .on rfl rfl rfl rfl ?_
            refine .on rfl rfl rfl rfl ?_
            refine .on rfl rfl rfl rfl ?_
            refine .on rfl rfl rfl rfl ?_
            refine .on rfl rfl rfl rfl ?_
            refine .on rfl rfl rfl rfl ?_
            refine .o1 rfl rfl (op_pick rfl (rfl : _ = AV.bool _)) ?_
            refine .nil ?_
            refine .keep [0, 1, 6, 7, 8, 9, 10, 47] ?_
            exact cont false (by simp; omega)
    · subst h
      have hb : bestS s a = (p, n) := by
        rw [← h2]
        cases f1 with
        | zero => rfl
        | succ f => rw [bestGo, if_neg (fun q => by have := htt.2 ⟨Nat.succ_pos _, by simpa using q.1, q.2⟩; cases this)]
      rw [hb]
      refine .exit rfl ?_
      refine .seq ?_
      refine .region rfl ?_
      refine .o1 rfl rfl (op_mv (rfl : _ = AV.int _ _)) ?_
      refine .o1 rfl rfl (op_mv (rfl : _ = AV.int _ _)) ?_
      refine .o1 rfl rfl (op_as (rfl : _ = AV.int _ _)) ?_
      refine .o1 rfl rfl (op_as (rfl : _ = AV.int _ _)) ?_
      refine .nil ?_
      refine .ret ?_
      exact ⟨_, _, _, .cons (.tmpO _ rfl) (.cons (.tmpO _ rfl) .nil), .drop 0 (Nat.le_refl _) rfl (fun _ => rfl), rfl, rfl⟩
  · refine .region rfl ?_
    refine .o1 rfl rfl (op_mv (rfl : _ = AV.int _ _)) ?_
    refine .o1 rfl rfl (op_bin rfl rfl rfl) ?_
    by_cases e1 : 0 < f1
    · rw [show decide ((0 : Int) ≤ (f1 : Int) - 1) = true by simp; omega]
      refine .o1 rfl rfl (op_mv (rfl : _ = AV.bool _)) ?_
      refine .oy rfl rfl rfl rfl (op_mv (rfl : _ = AV.int _ _)) ?_
      refine .oy rfl rfl rfl rfl (op_mv (rfl : _ = AV.int _ _)) ?_
      refine .oy rfl rfl rfl rfl (op_sub rfl rfl (by simp only [Rm.lo]; omega) (by simp only [Rm.hi]; omega)) ?_
      refine .oy rfl rfl rfl rfl (op_bin rfl rfl rfl) ?_
      by_cases e2 : a - (f1 - 1) ≤ 4096
      · rw [show decide ((a : Int) - ((f1 : Int) - 1) ≤ 4096) = true by simp; omega]
        refine .o1 rfl rfl (op_pick rfl (rfl : _ = AV.bool _)) ?_
        refine .o1 rfl rfl (op_mv (rfl : _ = AV.bool _)) ?_
        refine .oy rfl rfl rfl rfl (op_mv (rfl : _ = AV.int _ _)) ?_
        refine .oy rfl rfl rfl rfl (op_bin rfl rfl rfl) ?_
        refine .o1 rfl rfl (op_pick rfl (rfl : _ = AV.bool _)) ?_
        refine .nil ?_
        refine .keep [0, 1, 6, 7, 8, 9, 24] ?_
        exact cont (decide ((k : Int) < 16)) (by simp; omega)
      · rw [show decide ((a : Int) - ((f1 : Int) - 1) ≤ 4096) = false by simp; omega]
        refine .o1 rfl rfl (op_pick rfl (rfl : _ = AV.bool _)) ?_
        refine .o1 rfl rfl (op_mv (rfl : _ = AV.bool _)) ?_
        refine .on rfl rfl rfl rfl ?_
        refine .on rfl rfl rfl rfl ?_
        refine .o1 rfl rfl (op_pick rfl (rfl : _ = AV.bool _)) ?_
        refine .nil ?_
        refine .keep [0, 1, 6, 7, 8, 9, 24] ?_
        exact cont false (by simp; omega)
    · rw [show decide ((0 : Int) ≤ (f1 : Int) - 1) = false by simp; omega]
      refine .o1 rfl rfl (op_mv (rfl : _ = AV.bool _)) ?_
      refine .on rfl rfl rfl rfl ?_
      refine .on rfl rfl rfl rfl ?_
      refine .on rfl rfl rfl rfl ?_
      refine .on rfl rfl rfl rfl ?_
      refine .o1 rfl rfl (op_pick rfl (rfl : _ = AV.bool _)) ?_
      refine .o1 rfl rfl (op_mv (rfl : _ = AV.bool _)) ?_
      refine .on rfl rfl rfl rfl ?_
      refine .on rfl rfl rfl rfl ?_
      refine .o1 rfl rfl (op_pick rfl (rfl : _ = AV.bool _)) ?_
      refine .nil ?_
      refine .keep [0, 1, 6, 7, 8, 9, 24] ?_
      exact cont false (by simp; omega)
end Rm
