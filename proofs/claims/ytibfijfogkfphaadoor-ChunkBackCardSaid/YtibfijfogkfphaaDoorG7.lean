/- Walks: the document's run, Pack, Put. Walks: the document's Put. Walks: wire's varint. The seat: maps whose keys are three bytes; cells that come to name a slice of one's own. Walks: wire's reader: its closures, read, Bytes, Int. Walks: wire's Int, Bytes. Walks: chunk's byte, wire's Fixed. A chunk that is read with the error kept to the end, plainly. -/
import Derived.Test.YtibfijfogkfphaaDoorG6
import Derived.Test.YtibfijfogkfphaaDoorG4
import Derived.Test.YtibfijfogkfphaaDoorG5
import Derived.Test.YtibfijfogkfphaaDoorG3
import Derived.WideKeyArr

namespace Rm
open Go Go.Proofs
open Go.RowKit
set_option maxHeartbeats 4000000

theorem byte_wrap {n : Nat} {i : Int} (h : i = n) : IntKind.u8.wrap i = ((UInt8.ofNat n).toNat : Int) := by rw [h]; exact wrap_byte n
theorem c34 {s : List UInt8} (hs : s.length ≤ 100000) : Ctr Tryd.prog mG 34 [] [.str s] (fun st' r => st' = [] ∧ r = .str (runS s)) := by
  refine Ctr.of_bodyO (E := Ev) (n := 27) Tryd.func34 rfl rfl (Nat.le_of_ble_eq_true rfl) ?_
  show AGo Ev _ _ (lst 27 [(0, .str s)]) _ _
  refine .seq ?_
  refine .region rfl ?_
  refine .o1 rfl rfl (op_as (rfl : _ = AV.str _)) ?_
  refine .nil ?_
  refine .seq ?_
  refine .region rfl ?_
  refine .o1 rfl rfl (op_as (rfl : _ = AV.str _)) ?_
  refine .nil ?_
  refine .seq ?_
  refine .block ?_
  refine .keep [0, 3] ?_
  refine .loop (σ := List UInt8 × List UInt8) ([], s) (fun x => x.1 ++ runS x.2 = runS s ∧ x.2.length ≤ s.length) (fun x => x.2.length) (fun x => lst 27 [(0, .str x.2), (3, .str x.1)]) (fun _ => []) ⟨rfl, Nat.le_refl _⟩ rfl rfl ?_
  rintro ⟨out, l⟩ ⟨h1, h2⟩ again
  dsimp only at h1 h2 again ⊢
  have hol : out.length ≤ 2 * s.length := by
    have := runS_len s
    rw [← h1, List.length_append] at this
    omega
  refine .seq ?_
  refine .seq ?_
  refine .region rfl ?_
  refine .o1 rfl rfl (op_mv (rfl : _ = AV.str _)) ?_
  refine .o1 rfl rfl (op_lenStr rfl (S := D9) rfl rfl) ?_
  refine .o1 rfl rfl (op_bin rfl rfl rfl) ?_
  refine .nil ?_
  refine .condO rfl (fun h => ?_) (fun h => ?_)   -- t7
  · have h0 : l.length ≠ 0 := by simp at h; omega
    obtain ⟨m, hm⟩ : ∃ m, min 64 l.length = m := ⟨_, rfl⟩
    have hc := runS_cons h0
    rw [hm] at hc
    rw [hc] at h1
    have emin : (if (l.length : Int) < 64 then (l.length : Int) else 64) = (m : Int) := by split <;> omega
    have hmt : (l.take m).length = m := by simp; omega
    refine .skip ?_
    refine .block ?_
    refine .seq ?_
    refine .region rfl ?_
    refine .o1 rfl rfl (op_mv (rfl : _ = AV.str _)) ?_
    refine .o1 rfl rfl (op_lenStr rfl (S := D9) rfl rfl) ?_
    refine .o1 rfl rfl (op_min rfl rfl) ?_
    refine .o1 rfl rfl (op_as (rfl : _ = AV.int _ _)) ?_
    refine .nil ?_
    rw [emin]
    refine .seq ?_
    refine .drawn [] rfl (by decide) (by decide +kernel) ?_
    refine .ds rfl rfl rfl (fun _ => (op_mv (rfl : _ = AV.str _))) ?_
    refine .ds rfl rfl rfl (fun _ => (op_mv (rfl : _ = AV.int _ _))) ?_
    refine .ds rfl rfl rfl (fun _ => (op_sub rfl rfl (by simp only [Rm.lo]; omega) (by simp only [Rm.hi]; omega))) ?_
    refine .ds rfl rfl rfl (fun _ => (op_mul rfl rfl (by simp only [Rm.lo]; omega) (by simp only [Rm.hi]; omega))) ?_
    refine .ds rfl rfl rfl (fun _ => (op_convInt (r := ((UInt8.ofNat (2 * (m - 1))).toNat : Int)) rfl (S := D3) (D := D5) rfl rfl rfl (byte_wrap (by omega)))) ?_
    refine .dp 0 rfl rfl rfl (by decide +kernel) rfl (op_lit (S := D22) (D := D5) (vs := [.int .u8 (UInt8.ofNat (2 * (m - 1))).toNat]) rfl rfl rfl rfl rfl (by decide) rfl ⟨rfl, rfl⟩) ?_
    refine .dp 0 rfl rfl rfl (by decide +kernel) rfl (op_string (l := [UInt8.ofNat (2 * (m - 1))]) (.sl _ _) (S := D22) rfl rfl (B := D5) rfl rfl (D := D9) rfl rfl) ?_
    refine .ds rfl rfl rfl (fun _ => (op_strAdd rfl rfl (by simp; omega))) ?_
    refine .ds rfl rfl rfl (fun _ => (op_mv (rfl : _ = AV.str _))) ?_
    refine .ds rfl rfl rfl (fun _ => (op_mv (rfl : _ = AV.int _ _))) ?_
    refine .ds rfl rfl rfl (fun _ => (op_sliceStr (ln := 0) (hn := m) rfl (S := D9) rfl rfl (.inl ⟨rfl, rfl⟩) (.inr ⟨_, _, _, rfl, rfl, by omega, by omega⟩) (Nat.zero_le _) (by omega) (r := l.take m) (by simp))) ?_
    refine .ds rfl rfl rfl (fun _ => (op_strAdd rfl rfl (by simp; omega))) ?_
    refine .ds rfl rfl rfl (fun _ => (op_as (rfl : _ = AV.str _))) ?_
    refine .nil rfl rfl ?_
    refine .region rfl ?_
    refine .o1 rfl rfl (op_mv (rfl : _ = AV.str _)) ?_
    refine .o1 rfl rfl (op_mv (rfl : _ = AV.int _ _)) ?_
    refine .o1 rfl rfl (op_sliceStr (ln := m) (hn := l.length) rfl (S := D9) rfl rfl (.inr ⟨_, _, _, rfl, rfl, by omega, by omega⟩) (.inl ⟨rfl, rfl⟩) (by omega) (Nat.le_refl _) (r := l.drop m) (by simp)) ?_
    refine .o1 rfl rfl (op_as (rfl : _ = AV.str _)) ?_
    refine .nil ?_
    refine .inBlock ?_
    refine .keep [0, 3] ?_
    refine again (out ++ [UInt8.ofNat (2 * (m - 1))] ++ l.take m, l.drop m) ⟨?_, by simp only [List.length_drop]; omega⟩ (by simp only [List.length_drop]; omega)
    simp only [List.append_assoc, List.cons_append, List.nil_append]
    exact h1
  · have h0 : l.length = 0 := by simp at h; simp [h]
    rw [runS_nil h0, List.append_nil] at h1
    refine .exit rfl ?_
    refine .seq ?_
    refine .region rfl ?_
    refine .o1 rfl rfl (op_mv (rfl : _ = AV.str _)) ?_
    refine .o1 rfl rfl (op_as (rfl : _ = AV.str _)) ?_
    refine .nil ?_
    refine .ret ?_
    rw [← h1]
    exact ⟨_, _, _, .cons (.tmpO _ rfl) .nil, .drop 0 (Nat.le_refl _) rfl (fun _ => rfl), rfl, rfl⟩

theorem packGo_succ (s : List UInt8) (f a pl : Nat) (out : List UInt8) : packGo s (f + 1) a pl out =
    if s.length ≤ a then out ++ runS (s.drop pl) else
    if (bestS s a).2 = 0 then packGo s f (a + 1) pl out else
    packGo s f (a + (bestS s a).2) (a + (bestS s a).2) (out ++ runS ((s.take a).drop pl) ++ [UInt8.ofNat (2 * ((bestS s a).2 - 3) + 1)] ++ varB (a - (bestS s a).1 - 1)) := rfl
theorem varB_lt64 {n : Nat} (h : n < 2 ^ 64) : (varB n).length ≤ 10 := varB_len n h
theorem c19 {s : List UInt8} (hs : s.length ≤ 100000) : Ctr Tryd.prog mG 19 [] [.str s] (fun st' r => st' = [] ∧ r = .str (packS s)) := by
  refine Ctr.of_bodyO (E := Ev) (n := 54) Tryd.func19 rfl rfl (Nat.le_of_ble_eq_true rfl) ?_
  show AGo Ev _ _ (lst 54 [(0, .str s)]) _ _
  refine .seq ?_
  refine .region rfl ?_
  refine .o1 rfl rfl (op_as (rfl : _ = AV.str _)) ?_
  refine .nil ?_
  refine .seq ?_
  refine .region rfl ?_
  refine .o1 rfl rfl (op_as (rfl : _ = AV.str _)) ?_
  refine .o1 rfl rfl (op_as (rfl : _ = AV.int _ _)) ?_
  refine .nil ?_
  refine .seq ?_
  refine .region rfl ?_
  refine .o1 rfl rfl (op_as (rfl : _ = AV.int _ _)) ?_
  refine .nil ?_
  refine .seq ?_
  refine .block ?_
  refine .keep [0, 3, 4, 5] ?_
  refine .loop (σ := Nat × Nat × Nat × List UInt8) (s.length + 1, 0, 0, []) (fun x => x.2.1 ≤ s.length ∧ s.length < x.2.1 + x.1 ∧ x.2.2.1 ≤ x.2.1 ∧ packGo s x.1 x.2.1 x.2.2.1 x.2.2.2 = packS s ∧ x.2.2.2.length ≤ 20 * x.2.2.1) (fun x => x.1) (fun x => lst 54 [(0, .str s), (3, .str x.2.2.2), (4, .int .i64 x.2.2.1), (5, .int .i64 x.2.1)]) (fun _ => []) ⟨Nat.zero_le _, by simp only; omega, Nat.le_refl _, rfl, Nat.le_refl _⟩ rfl rfl ?_
  rintro ⟨f, a, pl, out⟩ ⟨h1, h2, h3, h4, h5⟩ again
  dsimp only at h1 h2 h3 h4 h5 again ⊢
  obtain ⟨f, rfl⟩ : ∃ f', f = f' + 1 := ⟨f - 1, by omega⟩
  rw [packGo_succ] at h4
  refine .seq ?_
  refine .seq ?_
  refine .region rfl ?_
  refine .o1 rfl rfl (op_mv (rfl : _ = AV.int _ _)) ?_
  refine .o1 rfl rfl (op_mv (rfl : _ = AV.str _)) ?_
  refine .o1 rfl rfl (op_lenStr rfl (S := D9) rfl rfl) ?_
  refine .o1 rfl rfl (op_bin rfl rfl rfl) ?_
  refine .nil ?_
  refine .condO rfl (fun h => ?_) (fun h => ?_)   -- t11
  · have hlt : a < s.length := by simp at h; omega
    rw [if_neg (by omega)] at h4
    have hsp := bestS_spec s a
    have hms := mt_spec s (bestS s a).1 a
    have hc33 := c33 h1 hs
    obtain ⟨p, n, hb⟩ : ∃ p n, bestS s a = (p, n) := ⟨_, _, rfl⟩
    rw [hb] at h4 hsp hms hc33
    simp only at h4 hsp hms hc33
    refine .skip ?_
    refine .block ?_
    refine .seq ?_
    refine .region rfl ?_
    refine .o1 rfl rfl (op_mv (rfl : _ = AV.str _)) ?_
    refine .o1 rfl rfl (op_mv (rfl : _ = AV.int _ _)) ?_
    refine .o1 rfl rfl (op_callP Tryd.func33 rfl rfl rfl rfl rfl hc33 rfl) ?_
    refine .o1 rfl rfl (op_mv (by first | exact (rfl : _ = AV.int _ _) | exact (rfl : _ = AV.bool _) | exact (rfl : _ = AV.str _) | exact (rfl : _ = AV.sl _ _) | exact (rfl : _ = AV.row _ _) | exact (rfl : _ = AV.ptr _ _) | exact (rfl : _ = AV.tup _) | exact (rfl : _ = AV.agg _) | exact (rfl : _ = AV.fn _ _ _) | exact (rfl : _ = AV.nilp) | exact (rfl : _ = AV.mp _) | exact (rfl : _ = AV.vptr _) | exact (rfl : _ = AV.any))) ?_
    refine .o1 rfl rfl (op_extract rfl rfl) ?_
    refine .o1 rfl rfl (op_extract rfl rfl) ?_
    refine .o1 rfl rfl (op_as (rfl : _ = AV.int _ _)) ?_
    refine .o1 rfl rfl (op_as (rfl : _ = AV.int _ _)) ?_
    refine .nil ?_
    try dsimp only [List.set, setR, D31, D53, D57, D69, D86, D95, D22, D3, D9, List.take_succ_cons, List.take_zero, List.drop_succ_cons, List.drop_zero, List.length_cons, List.length_nil, List.nil_append, List.cons_append, Nat.reduceAdd, Nat.zero_add]
    refine .seq ?_
    refine .seq ?_
    refine .region rfl ?_
    refine .o1 rfl rfl (op_mv (rfl : _ = AV.int _ _)) ?_
    refine .o1 rfl rfl (op_bin rfl rfl rfl) ?_
    refine .nil ?_
    refine .condO rfl (fun h => ?_) (fun h => ?_)   -- t19
    · have hn : n = 0 := by simpa using h
      rw [if_pos hn] at h4
      refine .seq ?_
      refine .region rfl ?_
      refine .o1 rfl rfl (op_mv (rfl : _ = AV.int _ _)) ?_
      refine .o1 rfl rfl (op_add rfl rfl (by simp only [Rm.lo]; omega) (by simp only [Rm.hi]; omega)) ?_
      refine .o1 rfl rfl (op_as (rfl : _ = AV.int _ _)) ?_
      refine .nil ?_
      refine .exit rfl ?_
      refine .keep [0, 3, 4, 5] ?_
      exact again (f, a + 1, pl, out) ⟨by simp only; omega, by simp only; omega, by simp only; omega, h4, h5⟩ (by simp only; omega)
    · have hn : n ≠ 0 := by simpa using h
      rw [if_neg hn] at h4
      obtain ⟨r1, r2, r3, r4⟩ := hsp.resolve_left hn
      rw [← r4] at hms
      have r5 := hms.1
      have r6 := hms.2.2.resolve_left hn
      have hcut : (s.take a).drop pl = (s.take a).drop pl := rfl
      obtain ⟨lit, hlit⟩ : ∃ l, (s.take a).drop pl = l := ⟨_, rfl⟩
      have hll : lit.length = a - pl := by rw [← hlit]; simp; omega
      have hrl := runS_len lit
      have hvl := varB_lt64 (n := a - p - 1) (by omega)
      rw [hlit] at h4
      refine .skip ?_
      refine .seq ?_
      refine .drawn [] rfl (by decide) (by decide +kernel) ?_
      refine .ds rfl rfl rfl (fun _ => (op_mv (rfl : _ = AV.str _))) ?_
      refine .ds rfl rfl rfl (fun _ => (op_mv (rfl : _ = AV.str _))) ?_
      refine .ds rfl rfl rfl (fun _ => (op_mv (rfl : _ = AV.int _ _))) ?_
      refine .ds rfl rfl rfl (fun _ => (op_mv (rfl : _ = AV.int _ _))) ?_
      refine .ds rfl rfl rfl (fun _ => (op_sliceStr (ln := pl) (hn := a) rfl (S := D9) rfl rfl (.inr ⟨_, _, _, rfl, rfl, by omega, by omega⟩) (.inr ⟨_, _, _, rfl, rfl, by omega, by omega⟩) h3 h1 (r := lit) hlit)) ?_
      refine .dp 0 rfl rfl rfl (by decide +kernel) rfl (op_callP Tryd.func34 rfl rfl rfl rfl rfl (c34 (s := lit) (by omega)) rfl) ?_
      refine .ds rfl rfl rfl (fun _ => (op_strAdd rfl rfl (by omega))) ?_
      refine .ds rfl rfl rfl (fun _ => (op_mv (rfl : _ = AV.int _ _))) ?_
      refine .ds rfl rfl rfl (fun _ => (op_sub rfl rfl (by simp only [Rm.lo]; omega) (by simp only [Rm.hi]; omega))) ?_
      refine .ds rfl rfl rfl (fun _ => (op_mul rfl rfl (by simp only [Rm.lo]; omega) (by simp only [Rm.hi]; omega))) ?_
      refine .ds rfl rfl rfl (fun _ => (op_add rfl rfl (by simp only [Rm.lo]; omega) (by simp only [Rm.hi]; omega))) ?_
      refine .ds rfl rfl rfl (fun _ => (op_convInt (r := ((UInt8.ofNat (2 * (n - 3) + 1)).toNat : Int)) rfl (S := D3) (D := D5) rfl rfl rfl (byte_wrap (by omega)))) ?_
      try dsimp only [List.set, setR, D31, D53, D57, D69, D86, D95, D22, D3, D9, List.take_succ_cons, List.take_zero, List.drop_succ_cons, List.drop_zero, List.length_cons, List.length_nil, List.nil_append, List.cons_append, Nat.reduceAdd, Nat.zero_add]
      refine .dp 0 rfl rfl rfl (by decide +kernel) rfl (op_lit (S := D22) (D := D5) (vs := [.int .u8 (UInt8.ofNat (2 * (n - 3) + 1)).toNat]) rfl rfl rfl rfl rfl (by decide) rfl ⟨rfl, rfl⟩) ?_
      refine .dp 0 rfl rfl rfl (by decide +kernel) rfl (op_string (l := [UInt8.ofNat (2 * (n - 3) + 1)]) (.sl _ _) (S := D22) rfl rfl (B := D5) rfl rfl (D := D9) rfl rfl) ?_
      refine .ds rfl rfl rfl (fun _ => (op_strAdd rfl rfl (by simp; omega))) ?_
      refine .ds rfl rfl rfl (fun _ => (op_mv (rfl : _ = AV.int _ _))) ?_
      refine .ds rfl rfl rfl (fun _ => (op_mv (rfl : _ = AV.int _ _))) ?_
      refine .ds rfl rfl rfl (fun _ => (op_sub rfl rfl (by simp only [Rm.lo]; omega) (by simp only [Rm.hi]; omega))) ?_
      refine .ds rfl rfl rfl (fun _ => (op_sub rfl rfl (by simp only [Rm.lo]; omega) (by simp only [Rm.hi]; omega))) ?_
      refine .ds rfl rfl rfl (fun _ => (op_convInt (r := ((a - p - 1 : Nat) : Int)) rfl (S := D3) (D := D46) rfl rfl rfl (by rw [show (a : Int) - p - 1 = ((a - p - 1 : Nat) : Int) by omega]; exact wrap_in (by simp only [lo]; omega) (by simp only [hi]; omega)))) ?_
      refine .dp 0 rfl rfl rfl (by decide +kernel) rfl (op_callP Tryd.func20 rfl rfl rfl rfl rfl (c20 (a - p - 1) (by omega)) rfl) ?_
      refine .ds rfl rfl rfl (fun _ => (op_strAdd rfl rfl (by simp; omega))) ?_
      try dsimp only [List.set, setR, D31, D53, D57, D69, D86, D95, D22, D3, D9, List.take_succ_cons, List.take_zero, List.drop_succ_cons, List.drop_zero, List.length_cons, List.length_nil, List.nil_append, List.cons_append, Nat.reduceAdd, Nat.zero_add]
      refine .ds rfl rfl rfl (fun _ => (op_as (rfl : _ = AV.str _))) ?_
      refine .nil rfl rfl ?_
      refine .seq ?_
      refine .region rfl ?_
      refine .o1 rfl rfl (op_mv (rfl : _ = AV.int _ _)) ?_
      refine .o1 rfl rfl (op_mv (rfl : _ = AV.int _ _)) ?_
      refine .o1 rfl rfl (op_add rfl rfl (by simp only [Rm.lo]; omega) (by simp only [Rm.hi]; omega)) ?_
      refine .o1 rfl rfl (op_as (rfl : _ = AV.int _ _)) ?_
      refine .nil ?_
      refine .region rfl ?_
      refine .o1 rfl rfl (op_mv (rfl : _ = AV.int _ _)) ?_
      refine .o1 rfl rfl (op_as (rfl : _ = AV.int _ _)) ?_
      refine .nil ?_
      refine .inBlock ?_
      refine .keep [0, 3, 4, 5] ?_
      refine again (f, a + n, a + n, out ++ runS lit ++ [UInt8.ofNat (2 * (n - 3) + 1)] ++ varB (a - p - 1)) ⟨by simp only; omega, by simp only; omega, Nat.le_refl _, h4, ?_⟩ (by simp only; omega)
      simp only [List.length_append, List.length_cons, List.length_nil]
      omega
  · have hge : s.length ≤ a := by simp at h; omega
    rw [if_pos hge] at h4
    have hrl := runS_len (s.drop pl)
    rw [List.length_drop] at hrl
    refine .exit rfl ?_
    refine .seq ?_
    refine .region rfl ?_
    refine .o1 rfl rfl (op_mv (rfl : _ = AV.str _)) ?_
    refine .o1 rfl rfl (op_mv (rfl : _ = AV.str _)) ?_
    refine .o1 rfl rfl (op_mv (rfl : _ = AV.int _ _)) ?_
    refine .o1 rfl rfl (op_sliceStr (ln := pl) (hn := s.length) rfl (S := D9) rfl rfl (.inr ⟨_, _, _, rfl, rfl, by omega, by omega⟩) (.inl ⟨rfl, rfl⟩) (by omega) (Nat.le_refl _) (r := s.drop pl) (by simp)) ?_
    refine .o1 rfl rfl (op_callP Tryd.func34 rfl rfl rfl rfl rfl (c34 (s := s.drop pl) (by simp; omega)) rfl) ?_
    refine .o1 rfl rfl (op_strAdd rfl rfl (by omega)) ?_
    refine .o1 rfl rfl (op_as (rfl : _ = AV.str _)) ?_
    refine .nil ?_
    try dsimp only [List.set, setR, D31, D53, D57, D69, D86, D95, D22, D3, D9, List.take_succ_cons, List.take_zero, List.drop_succ_cons, List.drop_zero, List.length_cons, List.length_nil, List.nil_append, List.cons_append, Nat.reduceAdd, Nat.zero_add]
    refine .ret ?_
    rw [← h4]
    exact ⟨_, _, _, .cons (.tmpO _ rfl) .nil, .drop 0 (Nat.le_refl _) rfl (fun _ => rfl), rfl, rfl⟩
end Rm

namespace Rm
open Go Go.Proofs
open Go.RowKit
set_option maxHeartbeats 4000000

theorem c8 {kind : UInt8} {data : List UInt8} (hs : data.length ≤ 100000) : Ctr Tryd.prog mG 8 [] [.int .u8 kind.toNat, .str data] (fun st' r => st' = [] ∧ r = .str (putS kind data)) := by
  have hkb := kind.toNat_lt
  have hp : putS kind data = (([kind, (if (packS data).length < data.length then 1 else 0 : UInt8)] ++ varB data.length ++ varB (if (packS data).length < data.length then packS data else data).length ++ (if (packS data).length < data.length then packS data else data)) ++ fixB (crcN ([kind, (if (packS data).length < data.length then 1 else 0 : UInt8)] ++ varB data.length ++ varB (if (packS data).length < data.length then packS data else data).length ++ (if (packS data).length < data.length then packS data else data)))) := rfl
  rw [hp]
  obtain ⟨how, hhow⟩ : ∃ x : UInt8, (if (packS data).length < data.length then 1 else 0 : UInt8) = x := ⟨_, rfl⟩
  obtain ⟨body, hbody⟩ : ∃ x, (if (packS data).length < data.length then packS data else data) = x := ⟨_, rfl⟩
  rw [hhow, hbody]
  have hbl : body.length ≤ data.length := by rw [← hbody]; split <;> omega
  have hhb := how.toNat_lt
  have v1 := varB_lt64 (n := data.length) (by omega)
  have v2 := varB_lt64 (n := body.length) (by omega)
  refine Ctr.of_bodyO (E := Ev) (n := 40) Tryd.func8 rfl rfl (Nat.le_of_ble_eq_true rfl) ?_
  show AGo Ev _ _ (lst 40 [(0, .int .u8 kind.toNat), (1, .str data)]) _ _
  refine .seq ?_
  refine .region rfl ?_
  refine .o1 rfl rfl (op_as (rfl : _ = AV.str _)) ?_
  refine .nil ?_
  refine .seq ?_
  refine .region rfl ?_
  refine .o1 rfl rfl (op_as (rfl : _ = AV.int _ _)) ?_
  refine .nil ?_
  refine .seq ?_
  refine .region rfl ?_
  refine .o1 rfl rfl (op_mv (rfl : _ = AV.str _)) ?_
  refine .o1 rfl rfl (op_as (rfl : _ = AV.str _)) ?_
  refine .nil ?_
  refine .seq ?_
  refine .region rfl ?_
  refine .o1 rfl rfl (op_mv (rfl : _ = AV.str _)) ?_
  refine .o1 rfl rfl (op_callP Tryd.func19 rfl rfl rfl rfl rfl (c19 hs) rfl) ?_
  refine .o1 rfl rfl (op_as (rfl : _ = AV.str _)) ?_
  refine .nil ?_
  try dsimp only [List.set, setR, D31, D53, D57, D69, D86, D95, D22, D3, D9, List.take_succ_cons, List.take_zero, List.drop_succ_cons, List.drop_zero, List.length_cons, List.length_nil, List.nil_append, List.cons_append, Nat.reduceAdd, Nat.zero_add]
  refine .seq ?_
  refine .cut (σ := Unit) (fun _ => True) (fun _ => lst 40 [(0, .int .u8 kind.toNat), (1, .str data), (5, .int .u8 how.toNat), (6, .str body)]) (fun _ => []) (fun _ _ => ?_) (fun cont => ?_)
  · refine .seq ?_
    refine .drawn [] rfl (by decide) (by decide +kernel) ?_
    refine .ds rfl rfl rfl (fun _ => (op_mv (rfl : _ = AV.int _ _))) ?_
    refine .ds rfl rfl rfl (fun _ => (op_mv (rfl : _ = AV.int _ _))) ?_
    refine .dp 0 rfl rfl rfl (by decide +kernel) rfl (op_lit (S := D22) (D := D5) (vs := [.int .u8 kind.toNat, .int .u8 how.toNat]) rfl rfl rfl rfl rfl (by decide) rfl ⟨rfl, rfl⟩) ?_
    refine .dp 0 rfl rfl rfl (by decide +kernel) rfl (op_string (l := [kind, how]) (.sl _ _) (S := D22) rfl rfl (B := D5) rfl rfl (D := D9) rfl rfl) ?_
    refine .ds rfl rfl rfl (fun _ => (op_mv (rfl : _ = AV.str _))) ?_
    refine .ds rfl rfl rfl (fun _ => (op_lenStr rfl (S := D9) rfl rfl)) ?_
    refine .ds rfl rfl rfl (fun _ => (op_convInt (r := (data.length : Int)) rfl (S := D3) (D := D46) rfl rfl rfl (wrap_in (by simp only [lo]; omega) (by simp only [hi]; omega)))) ?_
    refine .dp 0 rfl rfl rfl (by decide +kernel) rfl (op_callP Tryd.func20 rfl rfl rfl rfl rfl (c20 data.length (by omega)) rfl) ?_
    try dsimp only [List.set, setR, D31, D53, D57, D69, D86, D95, D22, D3, D9, List.take_succ_cons, List.take_zero, List.drop_succ_cons, List.drop_zero, List.length_cons, List.length_nil, List.nil_append, List.cons_append, Nat.reduceAdd, Nat.zero_add]
    refine .ds rfl rfl rfl (fun _ => (op_strAdd rfl rfl (by simp; omega))) ?_
    refine .ds rfl rfl rfl (fun _ => (op_mv (rfl : _ = AV.str _))) ?_
    refine .ds rfl rfl rfl (fun _ => (op_lenStr rfl (S := D9) rfl rfl)) ?_
    refine .ds rfl rfl rfl (fun _ => (op_convInt (r := (body.length : Int)) rfl (S := D3) (D := D46) rfl rfl rfl (wrap_in (by simp only [lo]; omega) (by simp only [hi]; omega)))) ?_
    refine .dp 0 rfl rfl rfl (by decide +kernel) rfl (op_callP Tryd.func20 rfl rfl rfl rfl rfl (c20 body.length (by omega)) rfl) ?_
    refine .ds rfl rfl rfl (fun _ => (op_strAdd rfl rfl (by simp; omega))) ?_
    refine .ds rfl rfl rfl (fun _ => (op_mv (rfl : _ = AV.str _))) ?_
    refine .ds rfl rfl rfl (fun _ => (op_strAdd rfl rfl (by simp; omega))) ?_
    refine .ds rfl rfl rfl (fun _ => (op_as (rfl : _ = AV.str _))) ?_
    try dsimp only [List.set, setR, D31, D53, D57, D69, D86, D95, D22, D3, D9, List.take_succ_cons, List.take_zero, List.drop_succ_cons, List.drop_zero, List.length_cons, List.length_nil, List.nil_append, List.cons_append, Nat.reduceAdd, Nat.zero_add]
    refine .nil rfl rfl ?_
    refine .keep [8] ?_
    obtain ⟨s, hs2⟩ : ∃ s, [kind, how] ++ varB data.length ++ varB body.length ++ body = s := ⟨_, rfl⟩
    have hsl : s.length ≤ 200100 := by rw [← hs2]; simp; omega
    refine .re (t := 8) rfl (congrArg AV.str hs2) ?_
    refine .seq ?_
    refine .region rfl ?_
    refine .o1 rfl rfl (op_mv (rfl : _ = AV.str _)) ?_
    refine .o1 rfl rfl (op_mv (rfl : _ = AV.str _)) ?_
    refine .o1 rfl rfl (op_bytes (l := s) rfl (S := D9) rfl rfl (D := D22) rfl rfl (B := D5) rfl rfl) ?_
    refine .o1 rfl rfl (op_callP Tryd.func22 rfl rfl rfl rfl (ok_sl _ _) (c22 (l := s) (by omega)) rfl) ?_
    refine .o1 rfl rfl (op_callP Tryd.func21 rfl rfl rfl rfl rfl (c21 (crcN_lt _)) rfl) ?_
    refine .o1 rfl rfl (op_strAdd rfl rfl (by simp [fixB]; omega)) ?_
    refine .o1 rfl rfl (op_as (rfl : _ = AV.str _)) ?_
    refine .nil ?_
    try dsimp only [List.set, setR, D31, D53, D57, D69, D86, D95, D22, D3, D9, List.take_succ_cons, List.take_zero, List.drop_succ_cons, List.drop_zero, List.length_cons, List.length_nil, List.nil_append, List.cons_append, Nat.reduceAdd, Nat.zero_add]
    refine .ret ?_
    subst hs2
    exact ⟨_, _, _, .cons (.tmpO _ rfl) .nil, .drop 0 (Nat.le_refl _) rfl (fun _ => rfl), rfl, rfl⟩
  · refine .seq ?_
    refine .region rfl ?_
    refine .o1 rfl rfl (op_mv (rfl : _ = AV.str _)) ?_
    refine .o1 rfl rfl (op_lenStr rfl (S := D9) rfl rfl) ?_
    refine .o1 rfl rfl (op_mv (rfl : _ = AV.str _)) ?_
    refine .o1 rfl rfl (op_lenStr rfl (S := D9) rfl rfl) ?_
    refine .o1 rfl rfl (op_bin rfl rfl rfl) ?_
    refine .nil ?_
    refine .condO rfl (fun h => ?_) (fun h => ?_)   -- t16
    · have hc : (packS data).length < data.length := by simp at h; omega
      rw [if_pos hc] at hhow hbody
      subst hhow; subst hbody
      refine .seq ?_
      refine .region rfl ?_
      refine .o1 rfl rfl (op_as (rfl : _ = AV.int _ _)) ?_
      refine .nil ?_
      refine .region rfl ?_
      refine .o1 rfl rfl (op_mv (rfl : _ = AV.str _)) ?_
      refine .o1 rfl rfl (op_as (rfl : _ = AV.str _)) ?_
      refine .nil ?_
      refine .keep [0, 1, 5, 6] ?_
      exact cont () trivial
    · have hc : ¬ (packS data).length < data.length := by simp at h; omega
      rw [if_neg hc] at hhow hbody
      subst hhow; subst hbody
      refine .skip ?_
      refine .keep [0, 1, 5, 6] ?_
      exact cont () trivial
end Rm

namespace Rm
open Go Go.Proofs
open Go.RowKit
set_option maxHeartbeats 4000000

theorem shl_step {l : List UInt8} {i : Nat} {c : UInt8} (hc : l[i]? = some c) (h9 : i ≤ 9) (h1 : i = 9 → c.toNat ≤ 1) :
    bitsI .or .u64 (vnum (l.take i) : Nat) (IntKind.u64.wrap ((((c.toNat % 128 : Nat) : Int)) * 2 ^ (min ((7 * (i : Int)).toNat) IntKind.u64.bits))) = ((vnum (l.take (i + 1)) : Nat) : Int) := by
  have hlt : i < l.length := (List.getElem?_eq_some_iff.1 hc).1
  have e1 : min ((7 * (i : Int)).toNat) IntKind.u64.bits = 7 * i := by
    have : (7 * (i : Int)).toNat = 7 * i := by omega
    rw [this]
    exact Nat.min_eq_left (by show 7 * i ≤ 64; omega)
  have hv := vnum_lt (l.take i)
  rw [List.length_take, Nat.min_eq_left (by omega)] at hv
  have e2 : (128 : Nat) ^ i = 2 ^ (7 * i) := by rw [Nat.pow_mul]
  have hbig : c.toNat % 128 * 128 ^ i < 2 ^ 64 := by
    rcases Nat.lt_or_ge i 9 with h | h
    · have h3 : c.toNat % 128 ≤ 127 := by omega
      have h4 : (128 : Nat) ^ i ≤ 128 ^ 8 := Nat.pow_le_pow_right (by decide) (by omega)
      exact Nat.lt_of_le_of_lt (Nat.mul_le_mul h3 h4) (by decide)
    · have : i = 9 := by omega
      subst this
      have h3 : c.toNat % 128 ≤ 1 := by have := h1 rfl; omega
      exact Nat.lt_of_le_of_lt (Nat.mul_le_mul_right _ h3) (by decide)
  have hsmall : vnum (l.take i) < 2 ^ 64 := Nat.lt_of_lt_of_le hv (by rw [e2]; exact Nat.pow_le_pow_right (by decide) (by omega))
  rw [e1, show ((c.toNat % 128 : Nat) : Int) * 2 ^ (7 * i) = ((c.toNat % 128 * 128 ^ i : Nat) : Int) by rw [e2]; push_cast; rfl, wrap_u rfl hbig, bits_or rfl hsmall hbig]
  congr 1
  rw [List.take_add_one, hc, Option.toList_some, vnum_snoc, List.length_take, Nat.min_eq_left (by omega), e2, Nat.mul_comm (c.toNat % 128), Nat.or_comm, ← Nat.two_pow_add_eq_or_of_lt (by rw [← e2]; exact hv), Nat.add_comm]

theorem varR_of {l : List UInt8} {n e : Nat} (h : vscan l 10 0 = (n, e)) : varR l = if e = 0 then (vnum (l.take n), n, 0) else (0, 0, e) := by unfold varR; rw [h]
theorem c53 {clip : Bool} {l : List UInt8} (_hl : l.length ≤ 1000000) : Ctr Tryd.prog mG 53 [] [.sl clip (bs l)] (fun st' r => st' = [] ∧ r = .tup [.int .u64 (varR l).1, .int .i64 (varR l).2.1, .int .i64 (varR l).2.2]) := by
  refine Ctr.of_bodyO (E := Ev) (n := 56) Tryd.func53 rfl rfl (Nat.le_of_ble_eq_true rfl) ?_
  show AGo Ev _ _ (lst 56 [(0, .sl clip (bs l))]) _ _
  refine .seq ?_
  refine .region rfl ?_
  refine .o1 rfl rfl (op_as (rfl : _ = AV.int _ _)) ?_
  refine .o1 rfl rfl (op_as (rfl : _ = AV.int _ _)) ?_
  refine .o1 rfl rfl (op_as (rfl : _ = AV.int _ _)) ?_
  refine .nil ?_
  refine .scope ?_
  refine .seq ?_
  refine .region rfl ?_
  refine .o1 rfl rfl (op_as (rfl : _ = AV.int _ _)) ?_
  refine .o1 rfl rfl (op_as (rfl : _ = AV.int _ _)) ?_
  refine .nil ?_
  refine .seq ?_
  refine .label ?_
  refine .seq ?_
  refine .block ?_
  refine .keep [0, 5, 6] ?_
  refine .loop (σ := Nat) 0 (fun i => i ≤ 9 ∧ i ≤ l.length ∧ vscan l (10 - i) i = vscan l 10 0) (fun i => 10 - i) (fun i => lst 56 [(0, .sl clip (bs l)), (5, .int .u64 (vnum (l.take i))), (6, .int .i64 i)]) (fun _ => []) ⟨Nat.zero_le _, Nat.zero_le _, rfl⟩ rfl rfl ?_
  rintro i ⟨hi9, hil, hv⟩ again
  obtain ⟨f, hf⟩ : ∃ f, 10 - i = f + 1 := ⟨9 - i, by omega⟩
  rw [hf, vscan_succ l f i] at hv
  refine .seq ?_
  refine .seq ?_
  refine .region rfl ?_
  refine .o1 rfl rfl (op_mv (rfl : _ = AV.int _ _)) ?_
  refine .o1 rfl rfl (op_bin rfl rfl rfl) ?_
  refine .nil ?_
  rw [show decide ((i : Int) < 10) = true by simp; omega]
  refine .condO rfl (fun _ => ?_) (fun h => by cases h)   -- t8
  refine .skip ?_
  refine .seq ?_
  refine .block ?_
  refine .seq ?_
  refine .block ?_
  refine .seq ?_
  refine .region rfl ?_
  refine .o1 rfl rfl (op_mv (rfl : _ = AV.int _ _)) ?_
  refine .o1 rfl rfl (op_mv (by first | exact (rfl : _ = AV.sl _ _) | exact (rfl : _ = AV.row _ _))) ?_
  refine .o1 rfl rfl (op_lenSl rfl (S := D22) rfl rfl) ?_
  refine .o1 rfl rfl (op_bin rfl rfl rfl) ?_
  refine .o1 rfl rfl (op_as (rfl : _ = AV.bool _)) ?_
  refine .nil ?_
  refine .condO rfl (fun h => ?_) (fun h => ?_)   -- t11
  · have hlen : l[i]? = none := by simp [bs_length] at h; simp; omega
    rw [hlen] at hv
    simp only at hv
    refine .seq ?_
    refine .region rfl ?_
    refine .o1 rfl rfl (op_as (rfl : _ = AV.int _ _)) ?_
    refine .o1 rfl rfl (op_as (rfl : _ = AV.int _ _)) ?_
    refine .o1 rfl rfl (op_as (rfl : _ = AV.int _ _)) ?_
    refine .nil ?_
    refine .ret ?_
    exact ⟨_, _, _, .cons (.tmpO _ rfl) (.cons (.tmpO _ rfl) (.cons (.tmpO _ rfl) .nil)), .drop 0 (Nat.le_refl _) rfl (fun _ => rfl), rfl, by rw [varR_of hv.symm]; rfl⟩
  · have hlt : i < l.length := by simp [bs_length] at h; omega
    obtain ⟨c, hc⟩ : ∃ c, l[i]? = some c := ⟨l[i], by simp [hlt]⟩
    have hcb := c.toNat_lt
    have hat : (bs l)[(i : Int).toNat]? = some [.int .u8 c.toNat] := by simpa using bs_get l i c hc
    rw [hc] at hv
    simp only at hv
    refine .seq ?_
    refine .cut (σ := Bool) (fun t => t = true ↔ ((i = 9 ∧ 1 < c.toNat) ∨ (0 < i ∧ c.toNat = 0))) (fun t => lst 56 [(0, .sl clip (bs l)), (5, .int .u64 (vnum (l.take i))), (6, .int .i64 i), (16, .bool t)]) (fun _ => []) (fun t ht => ?_) (fun cont => ?_)
    · refine .condO rfl (fun h => ?_) (fun h => ?_)   -- t16
      · subst h
        rw [if_pos (ht.1 rfl)] at hv
        refine .seq ?_
        refine .region rfl ?_
        refine .o1 rfl rfl (op_as (rfl : _ = AV.int _ _)) ?_
        refine .o1 rfl rfl (op_as (rfl : _ = AV.int _ _)) ?_
        refine .o1 rfl rfl (op_as (rfl : _ = AV.int _ _)) ?_
        refine .nil ?_
        refine .ret ?_
        exact ⟨_, _, _, .cons (.tmpO _ rfl) (.cons (.tmpO _ rfl) (.cons (.tmpO _ rfl) .nil)), .drop 0 (Nat.le_refl _) rfl (fun _ => rfl), rfl, by rw [varR_of hv.symm]; rfl⟩
      · subst h
        have hng : ¬ ((i = 9 ∧ 1 < c.toNat) ∨ (0 < i ∧ c.toNat = 0)) := fun q => by have := ht.2 q; cases this
        rw [if_neg hng] at hv
        have hstep := shl_step hc hi9 (fun h => by omega)
        refine .skip ?_
        refine .inBlock ?_
        refine .seq ?_
        refine .region rfl ?_
        refine .o1 rfl rfl (op_mv (rfl : _ = AV.int _ _)) ?_
        refine .o1 rfl rfl (op_mv (by first | exact (rfl : _ = AV.sl _ _) | exact (rfl : _ = AV.row _ _))) ?_
        refine .o1 rfl rfl (op_mv (rfl : _ = AV.int _ _)) ?_
        refine .o1 rfl rfl (op_indexAddr rfl rfl (S := D22) rfl rfl (D := D5) rfl (bs_one l) (by omega) hat) ?_
        refine .o1 rfl rfl (op_load_v rfl (D := D5) rfl rfl rfl) ?_
        refine .o1 rfl rfl (op_rem rfl rfl (by omega) (by omega)) ?_
        refine .o1 rfl rfl (op_convInt (r := ((c.toNat % 128 : Nat) : Int)) rfl (S := D5) (D := D46) rfl rfl rfl (by rw [show (c.toNat : Int) % 128 = ((c.toNat % 128 : Nat) : Int) by omega]; exact wrap_in (by simp only [lo]; omega) (by simp only [hi]; omega))) ?_
        refine .o1 rfl rfl (op_mv (rfl : _ = AV.int _ _)) ?_
        refine .o1 rfl rfl (op_mul rfl rfl (by simp only [Rm.lo]; omega) (by simp only [Rm.hi]; omega)) ?_
        refine .o1 rfl rfl (op_shl (q := 7 * (i : Int)) rfl rfl (by omega)) ?_
        refine .o1 rfl rfl (op_bin (r := .int .u64 ((vnum (l.take (i + 1)) : Nat) : Int)) rfl rfl (congrArg (fun z => some (AV.int .u64 z)) hstep)) ?_
        refine .o1 rfl rfl (op_as (rfl : _ = AV.int _ _)) ?_
        refine .nil ?_
        refine .seq ?_
        refine .region rfl ?_
        refine .o1 rfl rfl (op_mv (by first | exact (rfl : _ = AV.sl _ _) | exact (rfl : _ = AV.row _ _))) ?_
        refine .o1 rfl rfl (op_mv (rfl : _ = AV.int _ _)) ?_
        refine .o1 rfl rfl (op_indexAddr rfl rfl (S := D22) rfl rfl (D := D5) rfl (bs_one l) (by omega) hat) ?_
        refine .o1 rfl rfl (op_load_v rfl (D := D5) rfl rfl rfl) ?_
        refine .o1 rfl rfl (op_bin rfl rfl rfl) ?_
        refine .nil ?_
        refine .condO rfl (fun h => ?_) (fun h => ?_)   -- t52
        · have h128 : c.toNat < 128 := by simp at h; omega
          rw [if_pos h128] at hv
          refine .exit rfl ?_
          refine .seq ?_
          refine .region rfl ?_
          refine .o1 rfl rfl (op_mv (rfl : _ = AV.int _ _)) ?_
          refine .o1 rfl rfl (op_mv (rfl : _ = AV.int _ _)) ?_
          refine .o1 rfl rfl (op_add rfl rfl (by simp only [Rm.lo]; omega) (by simp only [Rm.hi]; omega)) ?_
          refine .o1 rfl rfl (op_as (rfl : _ = AV.int _ _)) ?_
          refine .o1 rfl rfl (op_as (rfl : _ = AV.int _ _)) ?_
          refine .o1 rfl rfl (op_as (rfl : _ = AV.int _ _)) ?_
          refine .nil ?_
          refine .ret ?_
          exact ⟨_, _, _, .cons (.tmpO _ rfl) (.cons (.tmpO _ rfl) (.cons (.tmpO _ rfl) .nil)), .drop 0 (Nat.le_refl _) rfl (fun _ => rfl), rfl, by rw [varR_of hv.symm]; rfl⟩
        · have h128 : ¬ c.toNat < 128 := by simp at h; omega
          rw [if_neg h128] at hv
          refine .skip ?_
          refine .inBlock ?_
          refine .region rfl ?_
          refine .o1 rfl rfl (op_mv (rfl : _ = AV.int _ _)) ?_
          refine .o1 rfl rfl (op_add rfl rfl (by simp only [Rm.lo]; omega) (by simp only [Rm.hi]; omega)) ?_
          refine .o1 rfl rfl (op_as (rfl : _ = AV.int _ _)) ?_
          refine .nil ?_
          refine .keep [0, 5, 6] ?_
          exact again (i + 1) ⟨by omega, by omega, by rw [show 10 - (i + 1) = f by omega]; exact hv⟩ (by omega)
    · refine .region rfl ?_
      refine .o1 rfl rfl (op_mv (rfl : _ = AV.int _ _)) ?_
      refine .o1 rfl rfl (op_bin rfl rfl rfl) ?_
      by_cases h9 : i = 9
      · rw [show ((i : Int) == 9) = true by simp; omega]
        refine .o1 rfl rfl (op_mv (rfl : _ = AV.bool _)) ?_
        refine .oy rfl rfl rfl rfl (op_mv (by first | exact (rfl : _ = AV.sl _ _) | exact (rfl : _ = AV.row _ _))) ?_
        refine .oy rfl rfl rfl rfl (op_mv (rfl : _ = AV.int _ _)) ?_
        refine .oy rfl rfl rfl rfl (op_indexAddr rfl rfl (S := D22) rfl rfl (D := D5) rfl (bs_one l) (by omega) hat) ?_
        refine .oy rfl rfl rfl rfl (op_load_v rfl (D := D5) rfl rfl rfl) ?_
        refine .oy rfl rfl rfl rfl (op_bin rfl rfl rfl) ?_
        by_cases hc1 : 1 < c.toNat
        · rw [show decide (1 < (c.toNat : Int)) = true by simp; omega]
          refine .o1 rfl rfl (op_pick rfl (rfl : _ = AV.bool _)) ?_
          refine .o1 rfl rfl (op_mv (rfl : _ = AV.bool _)) ?_
          refine .on rfl rfl rfl rfl ?_
          refine .on rfl rfl rfl rfl ?_
          refine .on rfl rfl rfl rfl ?_
          refine .on rfl rfl rfl rfl ?_
          refine .on rfl rfl rfl rfl ?_
          refine .on rfl rfl rfl rfl ?_
          refine .on rfl rfl rfl rfl ?_
          refine .on rfl rfl rfl rfl ?_
          refine .on rfl rfl rfl rfl ?_
          refine .o1 rfl rfl (op_pick rfl (rfl : _ = AV.bool _)) ?_
          refine .o1 rfl rfl (op_as (rfl : _ = AV.bool _)) ?_
          refine .nil ?_
          refine .keep [0, 5, 6, 16] ?_
          exact cont true (by simp [h9, hc1])
        · rw [show decide (1 < (c.toNat : Int)) = false by simp; omega]
          refine .o1 rfl rfl (op_pick rfl (rfl : _ = AV.bool _)) ?_
          refine .o1 rfl rfl (op_mv (rfl : _ = AV.bool _)) ?_
          refine .oy rfl rfl rfl rfl (op_mv (rfl : _ = AV.int _ _)) ?_
          refine .oy rfl rfl rfl rfl (op_bin rfl rfl rfl) ?_
          rw [show decide (0 < (i : Int)) = true by simp; omega]
          refine .oy rfl rfl rfl rfl (op_mv (rfl : _ = AV.bool _)) ?_
          refine .oy rfl rfl rfl rfl (op_mv (by first | exact (rfl : _ = AV.sl _ _) | exact (rfl : _ = AV.row _ _))) ?_
          refine .oy rfl rfl rfl rfl (op_mv (rfl : _ = AV.int _ _)) ?_
          refine .oy rfl rfl rfl rfl (op_indexAddr rfl rfl (S := D22) rfl rfl (D := D5) rfl (bs_one l) (by omega) hat) ?_
          refine .oy rfl rfl rfl rfl (op_load_v rfl (D := D5) rfl rfl rfl) ?_
          refine .oy rfl rfl rfl rfl (op_bin rfl rfl rfl) ?_
          refine .oy rfl rfl rfl rfl (op_pick rfl (rfl : _ = AV.bool _)) ?_
          refine .o1 rfl rfl (op_pick rfl (rfl : _ = AV.bool _)) ?_
          refine .o1 rfl rfl (op_as (rfl : _ = AV.bool _)) ?_
          refine .nil ?_
          refine .keep [0, 5, 6, 16] ?_
          exact cont ((c.toNat : Int) == 0) (by simp [h9, hc1])
      · rw [show ((i : Int) == 9) = false by simp; omega]
        refine .o1 rfl rfl (op_mv (rfl : _ = AV.bool _)) ?_
        refine .on rfl rfl rfl rfl ?_
        refine .on rfl rfl rfl rfl ?_
        refine .on rfl rfl rfl rfl ?_
        refine .on rfl rfl rfl rfl ?_
        refine .on rfl rfl rfl rfl ?_
        refine .o1 rfl rfl (op_pick rfl (rfl : _ = AV.bool _)) ?_
        refine .o1 rfl rfl (op_mv (rfl : _ = AV.bool _)) ?_
        by_cases hi0 : 0 < i
        · refine .oy rfl rfl rfl rfl (op_mv (rfl : _ = AV.int _ _)) ?_
          refine .oy rfl rfl rfl rfl (op_bin rfl rfl rfl) ?_
          rw [show decide (0 < (i : Int)) = true by simp; omega]
          refine .oy rfl rfl rfl rfl (op_mv (rfl : _ = AV.bool _)) ?_
          refine .oy rfl rfl rfl rfl (op_mv (by first | exact (rfl : _ = AV.sl _ _) | exact (rfl : _ = AV.row _ _))) ?_
          refine .oy rfl rfl rfl rfl (op_mv (rfl : _ = AV.int _ _)) ?_
          refine .oy rfl rfl rfl rfl (op_indexAddr rfl rfl (S := D22) rfl rfl (D := D5) rfl (bs_one l) (by omega) hat) ?_
          refine .oy rfl rfl rfl rfl (op_load_v rfl (D := D5) rfl rfl rfl) ?_
          refine .oy rfl rfl rfl rfl (op_bin rfl rfl rfl) ?_
          refine .oy rfl rfl rfl rfl (op_pick rfl (rfl : _ = AV.bool _)) ?_
          refine .o1 rfl rfl (op_pick rfl (rfl : _ = AV.bool _)) ?_
          refine .o1 rfl rfl (op_as (rfl : _ = AV.bool _)) ?_
          refine .nil ?_
          refine .keep [0, 5, 6, 16] ?_
          exact cont ((c.toNat : Int) == 0) (by simp [h9, hi0])
        · refine .oy rfl rfl rfl rfl (op_mv (rfl : _ = AV.int _ _)) ?_
          refine .oy rfl rfl rfl rfl (op_bin rfl rfl rfl) ?_
          rw [show decide (0 < (i : Int)) = false by simp; omega]
          refine .oy rfl rfl rfl rfl (op_mv (rfl : _ = AV.bool _)) ?_
          refine .on rfl rfl rfl rfl ?_
          refine .on rfl rfl rfl rfl ?_
          refine .on rfl rfl rfl rfl ?_
          refine .on rfl rfl rfl rfl ?_
          refine .on rfl rfl rfl rfl ?_
          refine .oy rfl rfl rfl rfl (op_pick rfl (rfl : _ = AV.bool _)) ?_
          refine .o1 rfl rfl (op_pick rfl (rfl : _ = AV.bool _)) ?_
          refine .o1 rfl rfl (op_as (rfl : _ = AV.bool _)) ?_
          refine .nil ?_
          refine .keep [0, 5, 6, 16] ?_
          exact cont false (by simp [h9, hi0])
end Rm

namespace Rm
open Go Go.Proofs
open Go.RowKit
open Go.WideMaps (KeyLaw ArrKey)

/-- A variable's cells, told otherwise. -/
theorem Rel.retell {C : Cx} {β : List BV} {m : Mem} {fr : List AV} {st : List Ob} {a : Act} {w : World} {o : Nat} {cs cs' : List AV} (h : Rel C β m fr st a w) (ho : st[o]? = some (.var cs))
    (hre : ∀ bv b vs t, β[o]? = some bv → bv.blk = some b → w.heap[b]? = some (.cells vs t (0, 0)) → RelL β m vs.toList cs → RelL β m vs.toList cs') : Rel C β m fr (st.set o (.var cs')) a w :=
  ⟨h.pre, h.fresh, ⟨by simp [h.inv.len], h.inv.mem, fun o' bv ob hb ho' => by
    rw [List.getElem?_set] at ho'
    split at ho'
    · rename_i e; subst e
      split at ho'
      · simp at ho'; subst ho'
        obtain ⟨b, vs, t, n, rfl, h1, h2, h3⟩ := h.inv.obj o bv _ hb ho
        exact ⟨b, vs, t, n, rfl, h1, hre _ b vs t hb rfl h1 h2, h3⟩
      · cases ho'
    · exact h.inv.obj o' bv ob hb ho', h.inv.apart, h.inv.lt⟩, h.keep, h.new, h.frm, h.dfr⟩
/-- A variable's cell that holds nothing, and has no room, is told as a slice of one's own. -/
theorem AGo.becomeCell {E : Env} {n0 : Nat} {todo : List Item} {fr : List AV} {st : List Ob} {R : List AV → List Ob → Prop} {ver sz : Nat} {es0 : List (List AV)} {fz : Bool} {cs : List AV} (v i o : Nat) (hv : st[v]? = some (.var cs)) (hi : cs[i]? = some (.sl true [])) (ho : st[o]? = some (.row ver sz es0 fz)) (h0 : 0 < sz)
    (g : AGo E n0 todo fr ((st.set o (.row (ver + 1) sz [] false)).set v (.var (cs.set i (.row o (ver + 1))))) R) : AGo E n0 todo fr st R := by
  intro C β m a w b cs' hG hn hr
  have hlo : o < β.length := by rw [hr.inv.len]; exact (List.getElem?_eq_some_iff.1 ho).1
  have hlv : v < β.length := by rw [hr.inv.len]; exact (List.getElem?_eq_some_iff.1 hv).1
  have hne : o ≠ v := fun e => by subst e; rw [ho] at hv; cases hv
  obtain ⟨bv, hb⟩ : ∃ bv, β[o]? = some bv := ⟨_, List.getElem?_eq_getElem hlo⟩
  obtain ⟨bv2, hb2⟩ : ∃ bv, β[v]? = some bv := ⟨_, List.getElem?_eq_getElem hlv⟩
  obtain ⟨bb, vs, t, n, rfl, q1, q2, q3⟩ := hr.inv.obj v _ _ hb2 hv
  obtain ⟨u, hu, hru⟩ := q2.get i hi
  obtain ⟨a', rfl⟩ : ∃ a', u = .slice a' 0 0 := by
    rcases hru.sl_inv with ⟨_, a', c, e1, hc⟩ | ⟨_, _, _, _, _, _, hbad, _⟩
    · have hc0 := hc rfl
      subst hc0
      exact ⟨a', e1⟩
    · simp at hbad
  have hbv : bv.fix = false ∧ bv.ver = ver := by
    rcases hr.inv.obj o _ _ hb ho with ⟨_, _, a', rfl⟩ | ⟨b, c, us, tt, rfl, _⟩ <;> exact ⟨rfl, rfl⟩
  obtain ⟨hf, hver⟩ := hbv
  subst hver
  have hmv := hr.move (w' := w) (bv' := ⟨none, .slice a' 0 0, false, bv.ver + 1⟩) (ob := .row (bv.ver + 1) sz [] false) hb hf rfl (Nat.lt_succ_self _) (fun b h => by cases h) rfl rfl rfl (Nat.le_refl _) (fun _ _ _ => rfl) (fun b i v h hm => hr.inv.mem _ _ _ hm) (.inl ⟨rfl, h0, a', rfl⟩)
  have hv' : (st.set o (.row (bv.ver + 1) sz [] false))[v]? = some (.var cs) := by rw [List.getElem?_set_ne hne]; exact hv
  refine g C _ m a w b cs' hG hn (hmv.retell hv' fun bv3 b3 vs3 t3 e1 e2 e3 e4 => ?_)
  rw [List.getElem?_set_ne hne, hb2] at e1
  cases e1
  cases e2
  rw [q1] at e3
  cases e3
  refine ⟨by simp [e4.1], fun j x y hx hy => ?_⟩
  rw [List.getElem?_set] at hy
  split at hy
  · rename_i e; subst e
    split at hy
    · simp at hy; subst hy
      rw [hu] at hx; cases hx
      exact .row _ _ _ _ (set_get hlo) rfl (Nat.le_refl _) (fun _ => rfl) ⟨_, _, _, rfl⟩
    · cases hy
  · exact e4.2 j x y hx hy

/-! ### Maps -/
abbrev Key := UInt8 × UInt8 × UInt8
def kA (k : Key) : AV := .agg [.int .u8 k.1.toNat, .int .u8 k.2.1.toNat, .int .u8 k.2.2.toNat]
def kV (k : Key) : Value := .agg #[.int .u8 k.1.toNat, .int .u8 k.2.1.toNat, .int .u8 k.2.2.toNat]
theorem kV_inj {k k' : Key} (h : kV k = kV k') : k = k' := by
  obtain ⟨a, b, c⟩ := k
  obtain ⟨a', b', c'⟩ := k'
  simp only [kV, Value.agg.injEq, Array.mk.injEq, List.cons.injEq, Value.int.injEq, true_and, and_true, Int.natCast_inj] at h
  obtain ⟨h1, h2, h3⟩ := h
  rw [UInt8.toNat_inj.1 h1, UInt8.toNat_inj.1 h2, UInt8.toNat_inj.1 h3]
theorem kA_inj {k k' : Key} (h : kA k = kA k') : k = k' := by
  obtain ⟨a, b, c⟩ := k
  obtain ⟨a', b', c'⟩ := k'
  simp only [kA, AV.agg.injEq, List.cons.injEq, AV.int.injEq, true_and, and_true, Int.natCast_inj] at h
  obtain ⟨h1, h2, h3⟩ := h
  rw [UInt8.toNat_inj.1 h1, UInt8.toNat_inj.1 h2, UInt8.toNat_inj.1 h3]
theorem kA_rel {β : List BV} {m : Mem} {v : Value} {k : Key} (h : RelV β m v (kA k)) : v = kV k := by
  obtain ⟨vs, rfl, hl⟩ := RelV.agg_iff.1 h
  have e : vs.toList = [.int .u8 k.1.toNat, .int .u8 k.2.1.toNat, .int .u8 k.2.2.toNat] := by
    have hl1 := hl.1
    simp only [List.length_cons, List.length_nil] at hl1
    match hvs : vs.toList, hl1 with
    | [x, y, z], _ =>
      rw [hvs] at hl
      rw [RelV.int_iff.1 hl.head, RelV.int_iff.1 hl.tail.head, RelV.int_iff.1 hl.tail.tail.head]
  unfold kV
  congr 1
  exact Array.ext' e
theorem rel_kA (β : List BV) (m : Mem) (k : Key) : RelV β m (kV k) (kA k) :=
  RelV.agg_iff.2 ⟨_, rfl, .cons (.int _ _) (.cons (.int _ _) (.cons (.int _ _) .nil))⟩
theorem keyLaw : KeyLaw Tryd.prog 86 := ArrKey.law (n := 3) (e := 5) ⟨Tryd.underlying86, by kernel_rfl, by kernel_rfl, by kernel_rfl⟩
theorem lit5 (n : UInt8) : Tryd.prog.keyLits 116 5 [.int .u8 n.toNat] = some [.int .u8 n.toNat] := by
  have hw : (Lit.int .u8 (n.toNat : Int)).wf = true := by
    have := n.toNat_lt
    simp [Lit.wf, IntKind.min, IntKind.max, IntKind.signed, IntKind.bits]
    omega
  unfold Program.keyLits
  rw [Tryd.underlying5]
  simp [hw]
theorem keyOf_kV (k : Key) : ∃ l, keyOf Tryd.prog 86 (kV k) = some l := by
  have h1 : Tryd.prog.keyType 86 = true := by kernel_rfl
  have h2 : Tryd.prog.cellsOf 86 = 3 := by kernel_rfl
  have h3 : Tryd.prog.cellsOf 5 = 1 := by kernel_rfl
  have h4 : Tryd.prog.types.size + 1 = 117 := by kernel_rfl
  unfold keyOf
  rw [Tryd.underlying86]
  simp only
  rw [if_pos (by simp [h1, kV, Value.formed, Tryd.underlying86, h2]), h4]
  have : Tryd.prog.keyLits 117 86 (kV k).cells.toList = some [.int .u8 k.1.toNat, .int .u8 k.2.1.toNat, .int .u8 k.2.2.toNat] := by
    unfold Program.keyLits
    rw [Tryd.underlying86]
    simp [kV, Value.cells, h2, h3, show List.range 3 = [0, 1, 2] from rfl, List.mapM_cons, lit5]
  rw [this]
  exact ⟨_, rfl⟩

section ops
variable {g : Operand → AV} {st : List Ob} {d : Option Tmp} {t : TypeId} {p : String} {af : Array Edge} {gd : Option (Nat × Bool)}

theorem op_makeMap {E : Env} {T : TypeId} {dd : Tmp} : OpOk E ⟨some dd, .makeMap T none, t, p, af, gd⟩ g st (Just (.mp st.length) (st ++ [.map []])) :=
  .run fun C β m fr a w hG hrel hg => by
    refine ⟨.map (some w.heap.size), w.alloc (.map #[] 0), β ++ [⟨some w.heap.size, .map (some w.heap.size), true, 0⟩], m, _, _, ?_, ⟨rfl, rfl⟩, hrel.newObj (fun b hb => by simp at hb; subst hb; exact ⟨rfl, by rw [size_alloc]; omega⟩) rfl rfl rfl (by rw [size_alloc]; omega) (fun r hr => heap_alloc_ne (by omega)) ⟨w.heap.size, #[], 0, 0, rfl, heap_alloc_eq, rfl, ⟨rfl, fun i x h => by simp at h⟩, fun i x y h => by simp at h, fun i => hrel.inv.mem.none (Nat.le_refl _) i⟩, .mp _ w.heap.size (.map (some w.heap.size)) 0 (by rw [← hrel.inv.len]; simp)⟩
    simp [execOp, Instr.makeMap, newObj, Sem.run]

/-- What is known of a map's entries. -/
structure MapAt (β : List BV) (m : Mem) (w : World) (b : Nat) (es : List (AV × AV)) (ents : Array MapEntry) : Prop where
  heap : w.heap[b]? = some (.map ents ents.size)
  size : ents.size = es.length
  born : ∀ (i : Nat) x, ents[i]? = some x → x.born = i
  rel : ∀ (i : Nat) x y, ents[i]? = some x → es[i]? = some y → RelV β m x.key y.1 ∧ RelV β m x.val y.2
  free : ∀ i, m b i = none
theorem map_at {C : Cx} {β : List BV} {m : Mem} {fr : List AV} {a : Act} {w : World} {v : Value} {o : Nat} {es : List (AV × AV)} (hrel : Rel C β m fr st a w) (hv : RelV β m v (.mp o)) (ho : st[o]? = some (.map es)) :
    ∃ b ents n, v = .map (some b) ∧ β[o]? = some ⟨some b, .map (some b), true, n⟩ ∧ MapAt β m w b es ents := by
  obtain ⟨b, x, n, hb, rfl⟩ := hv.mp_inv
  obtain ⟨b', ents, ck, n', e1, q1, q2, ⟨rfl, q3⟩, q4, q5⟩ := hrel.inv.obj o _ _ hb ho
  cases e1
  exact ⟨b, ents, n, rfl, hb, q1, q2, q3, q4, q5⟩
theorem MapAt.get {β : List BV} {m : Mem} {w : World} {b : Nat} {es : List (AV × AV)} {ents : Array MapEntry} (h : MapAt β m w b es ents) {i : Nat} {k : Key} {v : AV} (hi : es[i]? = some (kA k, v)) : ∃ x, ents[i]? = some x ∧ x.key = kV k ∧ RelV β m x.val v := by
  have hlt := (List.getElem?_eq_some_iff.1 hi).1
  have hx : ents[i]? = some (ents[i]'(h.size ▸ hlt)) := Array.getElem?_eq_getElem _
  obtain ⟨r1, r2⟩ := h.rel i _ _ hx hi
  exact ⟨_, hx, kA_rel r1, r2⟩
theorem MapAt.back {β : List BV} {m : Mem} {w : World} {b : Nat} {es : List (AV × AV)} {ents : Array MapEntry} (h : MapAt β m w b es ents) (hk : ∀ p ∈ es, ∃ k, p.1 = kA k) {i : Nat} {x : MapEntry} (hx : ents[i]? = some x) : ∃ k v, es[i]? = some (kA k, v) ∧ x.key = kV k ∧ RelV β m x.val v := by
  have hlt : i < es.length := by rw [← h.size]; exact (Array.getElem?_eq_some_iff.1 hx).1
  obtain ⟨k, e⟩ := hk _ (List.getElem_mem hlt)
  have hy : es[i]? = some (kA k, es[i].2) := by rw [List.getElem?_eq_getElem hlt, ← e]
  obtain ⟨r1, r2⟩ := h.rel i _ _ hx hy
  exact ⟨k, _, hy, kA_rel r1, r2⟩
theorem MapAt.keys {β : List BV} {m : Mem} {w : World} {b : Nat} {es : List (AV × AV)} {ents : Array MapEntry} (h : MapAt β m w b es ents) (hk : ∀ p ∈ es, ∃ k, p.1 = kA k) : ∀ e ∈ ents.toList, ∃ l, keyOf Tryd.prog 86 e.key = some l := fun e he => by
  obtain ⟨i, hi⟩ := List.getElem?_of_mem he
  obtain ⟨k, v, _, hkey, _⟩ := h.back hk (by simpa using hi)
  rw [hkey]
  exact keyOf_kV k
/-- A key that is not there. -/
theorem MapAt.miss {β : List BV} {m : Mem} {w : World} {b : Nat} {es : List (AV × AV)} {ents : Array MapEntry} (h : MapAt β m w b es ents) (hk : ∀ p ∈ es, ∃ k, p.1 = kA k) {k : Key} (hno : ∀ p ∈ es, p.1 ≠ kA k) : (Instr.findKey 86 (kV k) ents.toList).run Tryd.prog w = .ok none w := by
  obtain ⟨l, hl⟩ := keyOf_kV k
  rcases keyLaw.find w hl ents.toList (h.keys hk) with ⟨h1, _⟩ | ⟨j, e, _, h2, h3⟩
  · exact h1
  · obtain ⟨k', v, hy, hkey, _⟩ := h.back hk (by simpa using h2)
    rw [h3] at hkey
    have := kV_inj hkey
    subst this
    exact absurd rfl (hno _ (List.mem_of_getElem? hy))
/-- One that is there. -/
theorem MapAt.hit {β : List BV} {m : Mem} {w : World} {b : Nat} {es : List (AV × AV)} {ents : Array MapEntry} (h : MapAt β m w b es ents) (hk : ∀ p ∈ es, ∃ k, p.1 = kA k) {k : Key} {i : Nat} {v : AV} (hi : es[i]? = some (kA k, v)) (hu : ∀ j v', es[j]? = some (kA k, v') → j = i) :
    ∃ x, ents[i]? = some x ∧ x.key = kV k ∧ RelV β m x.val v ∧ (Instr.findKey 86 (kV k) ents.toList).run Tryd.prog w = .ok (some (i, x.val)) w := by
  obtain ⟨x, hx, hkey, hv⟩ := h.get hi
  refine ⟨x, hx, hkey, hv, ?_⟩
  obtain ⟨l, hl⟩ := keyOf_kV k
  rcases keyLaw.find w hl ents.toList (h.keys hk) with ⟨_, h2⟩ | ⟨j, e, h1, h2, h3⟩
  · exact absurd hkey (h2 x (by simpa using Array.mem_of_getElem? hx))
  · have h2' : ents[j]? = some e := by simpa using h2
    obtain ⟨k', v', hy, hkey', _⟩ := h.back hk h2'
    rw [h3] at hkey'
    have := kV_inj hkey'
    subst this
    have := hu j v' hy
    subst this
    rw [hx] at h2'; cases h2'
    exact h1
theorem zero89 (w : World) : (zeroValue 89).run Tryd.prog w = .ok (.slice none 0 0) w := by
  have h : Tryd.t89.zero = some (.slice none 0 0) := rfl
  simp [zeroValue, Go.run_typeInfo _ (info_of Tryd.type89), h]

theorem op_lookup_miss {x y : Operand} {o : Nat} {es : List (AV × AV)} {k : Key} (hx : g x = .mp o) (ho : st[o]? = some (.map es)) (hy : g y = kA k) (hk : ∀ p ∈ es, ∃ k, p.1 = kA k) (hno : ∀ p ∈ es, p.1 ≠ kA k) :
    OpOk Ev ⟨d, .lookup 67 x y false, t, p, af, gd⟩ g st (Just (.sl true []) st) :=
  .run fun C β m fr a w hG hrel hg => by
    have h0 := hg x (by simp [Op.operands])
    have h1 := hg y (by simp [Op.operands])
    rw [hx] at h0; rw [hy] at h1
    obtain ⟨b, ents, n, e1, hb, hm⟩ := map_at hrel h0 ho
    have e2 := kA_rel h1
    obtain ⟨l, hl⟩ := keyOf_kV k
    refine ⟨.slice none 0 0, w, β, m, _, _, ?_, ⟨rfl, rfl⟩, hrel, .sl0 _ _ _ fun _ => rfl⟩
    simp [execOp, Instr.lookup, run_underlying Tryd.underlying67, e1, e2, MapKept.run_getObj_map hm.heap, keyLaw.check w _ hl, hm.miss hk hno, Result.andThen, show Ev.P = Tryd.prog from rfl]
theorem op_lookup_hit {x y : Operand} {o i : Nat} {es : List (AV × AV)} {k : Key} {v : AV} (hx : g x = .mp o) (ho : st[o]? = some (.map es)) (hy : g y = kA k) (hk : ∀ p ∈ es, ∃ k, p.1 = kA k) (hi : es[i]? = some (kA k, v)) (hu : ∀ j v', es[j]? = some (kA k, v') → j = i) :
    OpOk Ev ⟨d, .lookup 67 x y false, t, p, af, gd⟩ g st (Just v st) :=
  .run fun C β m fr a w hG hrel hg => by
    have h0 := hg x (by simp [Op.operands])
    have h1 := hg y (by simp [Op.operands])
    rw [hx] at h0; rw [hy] at h1
    obtain ⟨b, ents, n, e1, hb, hm⟩ := map_at hrel h0 ho
    have e2 := kA_rel h1
    obtain ⟨l, hl⟩ := keyOf_kV k
    obtain ⟨e, _, _, hv, hf⟩ := hm.hit hk hi hu
    refine ⟨e.val, w, β, m, _, _, ?_, ⟨rfl, rfl⟩, hrel, hv⟩
    simp [execOp, Instr.lookup, run_underlying Tryd.underlying67, e1, e2, MapKept.run_getObj_map hm.heap, keyLaw.check w _ hl, hf, Result.andThen, show Ev.P = Tryd.prog from rfl]
theorem heap_setI {w : World} {b r : Nat} {o o' : Obj} (h : w.heap[b]? = some o') : ({ w with heap := w.heap.setIfInBounds b o } : World).heap[b]? = some o ∧ (r ≠ b → ({ w with heap := w.heap.setIfInBounds b o } : World).heap[r]? = w.heap[r]?) := by
  have hlt := (Array.getElem?_eq_some_iff.1 h).1
  exact ⟨by simp [hlt], fun hne => by simp [Ne.symm hne]⟩
/-- A map's entries are others. -/
theorem Rel.mapSet {C : Cx} {β : List BV} {m : Mem} {fr : List AV} {a : Act} {w : World} {o b n : Nat} {es es' : List (AV × AV)} {ents ents' : Array MapEntry} (hrel : Rel C β m fr st a w) (hb : β[o]? = some ⟨some b, .map (some b), true, n⟩) (hm : MapAt β m w b es ents)
    (hs : ents'.size = es'.length) (hbn : ∀ (i : Nat) x, ents'[i]? = some x → x.born = i) (hr : ∀ (i : Nat) x y, ents'[i]? = some x → es'[i]? = some y → RelV β m x.key y.1 ∧ RelV β m x.val y.2) :
    Rel C β m fr (st.set o (.map es')) a { w with heap := w.heap.setIfInBounds b (.map ents' ents'.size) } :=
  hrel.update hb rfl rfl rfl rfl (fun i v h => by rw [hm.free] at h; cases h) (fun r hr => (heap_setI hm.heap).2 hr) (by simp) ⟨b, ents', ents'.size, n, rfl, (heap_setI (r := 0) hm.heap).1, hs, ⟨rfl, hbn⟩, hr, hm.free⟩

theorem op_mapEntry_miss {x y : Operand} {o : Nat} {es : List (AV × AV)} {k : Key} (hx : g x = .mp o) (ho : st[o]? = some (.map es)) (hy : g y = kA k) (hk : ∀ p ∈ es, ∃ k, p.1 = kA k) (hno : ∀ p ∈ es, p.1 ≠ kA k) :
    OpOk Ev ⟨d, .mapEntry 67 x y, t, p, af, gd⟩ g st (Just (.tup [.sl true [], .int .i64 es.length]) (st.set o (.map (es ++ [(kA k, .sl true [])])))) :=
  .run fun C β m fr a w hG hrel hg => by
    have h0 := hg x (by simp [Op.operands])
    have h1 := hg y (by simp [Op.operands])
    rw [hx] at h0; rw [hy] at h1
    obtain ⟨b, ents, n, e1, hb, hm⟩ := map_at hrel h0 ho
    have e2 := kA_rel h1
    obtain ⟨l, hl⟩ := keyOf_kV k
    refine ⟨.tuple #[.slice none 0 0, .int .i64 ents.size], { w with heap := w.heap.setIfInBounds b (.map (ents.push ⟨kV k, .slice none 0 0, ents.size⟩) (ents.push ⟨kV k, .slice none 0 0, ents.size⟩).size) }, β, m, _, _, ?_, ⟨rfl, rfl⟩, hrel.mapSet hb hm (by simp [hm.size]) (fun i x h => ?_) (fun i x y h h' => ?_), ?_⟩
    · simp [execOp, Instr.mapEntry, run_underlying Tryd.underlying67, e1, e2, MapKept.run_getObj_map hm.heap, MapKept.run_setObj_map _ hm.heap, keyLaw.check w _ hl, hm.miss hk hno, Result.andThen, show Ev.P = Tryd.prog from rfl, goInt]
    · rw [Array.getElem?_push] at h
      split at h
      · simp at h; subst h; simp only; omega
      · exact hm.born i x h
    · rw [Array.getElem?_push] at h
      split at h
      · rename_i hi
        subst hi
        simp at h; subst h
        rw [hm.size] at h'
        simp at h'; subst h'
        exact ⟨rel_kA _ _ _, .sl0 _ _ _ fun _ => rfl⟩
      · rename_i hi
        have hlt := (Array.getElem?_eq_some_iff.1 h).1
        rw [List.getElem?_append_left (by rw [← hm.size]; exact hlt)] at h'
        exact hm.rel i x y h h'
    · rw [hm.size]
      exact RelV.tup_iff.2 ⟨_, rfl, .cons (.sl0 _ _ _ fun _ => rfl) (.cons (.int _ _) .nil)⟩
theorem set_same {α : Type} {l : List α} {i : Nat} {x : α} (h : l[i]? = some x) : l.set i x = l := by
  apply List.ext_getElem?
  intro j
  rw [List.getElem?_set]
  split
  · rename_i e; subst e
    rw [if_pos (List.getElem?_eq_some_iff.1 h).1, h]
  · rfl
theorem op_mapEntry_hit {x y : Operand} {o i : Nat} {es : List (AV × AV)} {k : Key} {v : AV} (hx : g x = .mp o) (ho : st[o]? = some (.map es)) (hy : g y = kA k) (hk : ∀ p ∈ es, ∃ k, p.1 = kA k) (hi : es[i]? = some (kA k, v)) (hu : ∀ j v', es[j]? = some (kA k, v') → j = i) :
    OpOk Ev ⟨d, .mapEntry 67 x y, t, p, af, gd⟩ g st (Just (.tup [v, .int .i64 i]) st) :=
  .run fun C β m fr a w hG hrel hg => by
    have h0 := hg x (by simp [Op.operands])
    have h1 := hg y (by simp [Op.operands])
    rw [hx] at h0; rw [hy] at h1
    obtain ⟨b, ents, n, e1, hb, hm⟩ := map_at hrel h0 ho
    have e2 := kA_rel h1
    obtain ⟨l, hl⟩ := keyOf_kV k
    obtain ⟨e, he, hkey, hv, hf⟩ := hm.hit hk hi hu
    have hsz : (ents.modify i fun e => { e with key := kV k }).size = ents.size := by simp
    have hget : ∀ (j : Nat) z, (ents.modify i fun e => { e with key := kV k })[j]? = some z → ents[j]? = some z := fun j z h => by
      rw [Array.getElem?_modify] at h
      split at h
      · rename_i e'; subst e'
        rw [he] at h
        simp at h; subst h
        rw [he, ← hkey]
      · exact h
    have hrel' := hrel.mapSet (es' := es) (ents' := ents.modify i fun e => { e with key := kV k }) hb hm (by rw [hsz, hm.size]) (fun j z h => hm.born j z (hget j z h)) (fun j z y h h' => hm.rel j z y (hget j z h) h')
    rw [set_same ho, hsz] at hrel'
    refine ⟨.tuple #[e.val, .int .i64 i], _, β, m, _, _, ?_, ⟨rfl, rfl⟩, hrel', RelV.tup_iff.2 ⟨_, rfl, .cons hv (.cons (.int _ _) .nil)⟩⟩
    have hst : (Instr.keyThatStays (kV k) (kV k)).run Tryd.prog w = .ok (kV k) w := keyLaw.stays w hl
    simp [execOp, Instr.mapEntry, run_underlying Tryd.underlying67, e1, e2, MapKept.run_getObj_map hm.heap, MapKept.run_setObj_map _ hm.heap, keyLaw.check w _ hl, hf, he, hkey, hst, hm.born i e he, Result.andThen, show Ev.P = Tryd.prog from rfl, goInt]
theorem op_entryStore {x y z : Operand} {o i : Nat} {es : List (AV × AV)} {k : Key} {v w' : AV} (hx : g x = .mp o) (ho : st[o]? = some (.map es)) (hy : g y = .int .i64 i) (hi : es[i]? = some (kA k, v)) (hz : g z = w') :
    OpOk Ev ⟨none, .entryStore 67 x y z, t, p, af, gd⟩ g st (Just .any (st.set o (.map (es.set i (kA k, w'))))) :=
  .runSkip fun C β m fr a w hG hrel hg => by
    have h0 := hg x (by simp [Op.operands])
    have h1 := hg y (by simp [Op.operands])
    have h2 := hg z (by simp [Op.operands])
    rw [hx] at h0; rw [hy] at h1; rw [hz] at h2
    obtain ⟨b, ents, n, e1, hb, hm⟩ := map_at hrel h0 ho
    have e2 := RelV.int_iff.1 h1
    obtain ⟨e, he, hkey, hv⟩ := hm.get hi
    have hsz : (ents.modify i fun e => { e with val := a.eval z }).size = ents.size := by simp
    have hidx : ents.findIdx? (fun e => ((e.born : Nat) : Int) == (i : Int)) = some i := by
      have hlt := (Array.getElem?_eq_some_iff.1 he).1
      rw [Array.findIdx?_eq_some_iff_getElem]
      refine ⟨hlt, ?_, fun j hj => ?_⟩
      · have := hm.born i _ (Array.getElem?_eq_getElem hlt)
        simp [this]
      · have := hm.born j _ (Array.getElem?_eq_getElem (by omega))
        simp [this]; omega
    have hrel' := hrel.mapSet (es' := es.set i (kA k, w')) (ents' := ents.modify i fun e => { e with val := a.eval z }) hb hm (by rw [hsz, hm.size]; simp) (fun j z h => by
      rw [Array.getElem?_modify] at h
      split at h
      · rename_i e'; subst e'
        rw [he] at h
        simp at h; subst h
        exact hm.born _ e he
      · exact hm.born j z h) (fun j z y h h' => by
      rw [Array.getElem?_modify] at h
      rw [List.getElem?_set] at h'
      split at h
      · rename_i e'; subst e'
        rw [if_pos rfl, if_pos (List.getElem?_eq_some_iff.1 hi).1] at h'
        rw [he] at h
        simp at h h'; subst h; subst h'
        simp only
        rw [hkey]
        exact ⟨rel_kA _ _ _, h2⟩
      · rename_i hne
        rw [if_neg hne] at h'
        exact hm.rel j z y h h')
    rw [hsz] at hrel'
    refine ⟨_, β, m, ?_, hrel'⟩
    simp [execOp, Instr.entryStore, e1, e2, MapKept.run_getObj_map hm.heap, MapKept.run_setObj_map _ hm.heap, asInt, asIntOf, hidx, Result.andThen, show Ev.P = Tryd.prog from rfl]
end ops
end Rm

namespace Rm
open Go Go.Proofs
open Go.RowKit
set_option maxHeartbeats 4000000

theorem fin_setL {rs : List ResultVar} {fr : List AV} {st : List Ob} {o : Nat} {ob : Ob} {xs : List AV} {Q : List Ob → AV → Prop} (hr : ResL Ev fr (st.set o ob) rs xs) (hok : okA st.length (packA xs) = true) (hob : okO st.length ob = true) (hQ : Q (st.set o ob) (packA xs)) : Fin Ev rs st Q fr (st.set o ob) := by
  have e : (st.set o ob).take st.length = st.set o ob := List.take_of_length_le (by simp)
  exact ⟨_, _, _, hr, .drop st.length (Nat.le_refl _) hok (fun h => by rw [e]; exact okSt_set h hob), by rw [e]; exact hQ⟩
theorem c52 {st : List Ob} {clip : Bool} {l : List UInt8} {oo : Nat} (ho : st[oo]? = some (.var [.int .i64 0])) (hl : l.length ≤ 1000000) :
    Ctr Tryd.prog mG 52 st [.sl clip (bs l), .ptr oo 0] (fun st' r => st' = st.set oo (.var [.int .i64 (intR l).1]) ∧ r = .tup [.int .i64 (intR l).2.1, .int .i64 (intR l).2.2]) := by
  have hv := varR_lt l
  refine Ctr.of_bodyO (E := Ev) (n := 20) Tryd.func52 rfl rfl (Nat.le_of_ble_eq_true rfl) ?_
  show AGo Ev _ _ (lst 20 [(0, .sl clip (bs l)), (1, .ptr oo 0)]) _ _
  refine .seq ?_
  refine .region rfl ?_
  refine .o1 rfl rfl (op_as (rfl : _ = AV.int _ _)) ?_
  refine .o1 rfl rfl (op_as (rfl : _ = AV.int _ _)) ?_
  refine .nil ?_
  refine .seq ?_
  refine .region rfl ?_
  refine .o1 rfl rfl (op_mv (by first | exact (rfl : _ = AV.sl _ _) | exact (rfl : _ = AV.row _ _))) ?_
  refine .o1 rfl rfl (op_callP Tryd.func53 rfl rfl rfl rfl (ok_sl _ _) (c53 hl) rfl) ?_
  refine .o1 rfl rfl (op_mv (by first | exact (rfl : _ = AV.int _ _) | exact (rfl : _ = AV.bool _) | exact (rfl : _ = AV.str _) | exact (rfl : _ = AV.sl _ _) | exact (rfl : _ = AV.row _ _) | exact (rfl : _ = AV.ptr _ _) | exact (rfl : _ = AV.tup _) | exact (rfl : _ = AV.agg _) | exact (rfl : _ = AV.fn _ _ _) | exact (rfl : _ = AV.nilp) | exact (rfl : _ = AV.mp _) | exact (rfl : _ = AV.vptr _) | exact (rfl : _ = AV.any))) ?_
  refine .o1 rfl rfl (op_extract rfl rfl) ?_
  refine .o1 rfl rfl (op_extract rfl rfl) ?_
  refine .o1 rfl rfl (op_extract rfl rfl) ?_
  refine .o1 rfl rfl (op_as (rfl : _ = AV.int _ _)) ?_
  refine .o1 rfl rfl (op_as (rfl : _ = AV.int _ _)) ?_
  refine .o1 rfl rfl (op_as (rfl : _ = AV.int _ _)) ?_
  refine .nil ?_
  try dsimp only [List.set, setR, D31, D53, D57, D69, D86, D95, D22, D3, D9, List.take_succ_cons, List.take_zero, List.drop_succ_cons, List.drop_zero, List.length_cons, List.length_nil, List.nil_append, List.cons_append, Nat.reduceAdd, Nat.zero_add]
  refine .seq ?_
  refine .seq ?_
  refine .region rfl ?_
  refine .o1 rfl rfl (op_mv (rfl : _ = AV.int _ _)) ?_
  refine .o1 rfl rfl (op_bin rfl rfl rfl) ?_
  refine .nil ?_
  refine .condO rfl (fun h => ?_) (fun h => ?_)   -- t15
  · have hbig : 2147483647 < (varR l).1 := by simp at h; omega
    have he : (varR l).2.2 = 0 := by
      by_cases q : (varR l).2.2 = 0
      · exact q
      · have := (varR_err q).1; omega
    have hi : intR l = (0, 0, 4) := by unfold intR; rw [if_neg (by simp [he]), if_pos hbig]
    rw [hi]
    refine .seq ?_
    refine .region rfl ?_
    refine .o1 rfl rfl (op_as (rfl : _ = AV.int _ _)) ?_
    refine .o1 rfl rfl (op_as (rfl : _ = AV.int _ _)) ?_
    refine .nil ?_
    refine .ret ?_
    have e : st = st.set oo (.var [.int .i64 0]) := (set_same ho).symm
    exact ⟨_, _, _, .cons (.tmpO _ rfl) (.cons (.tmpO _ rfl) .nil), .drop st.length (Nat.le_refl _) rfl (fun h => by simpa using h), by rw [List.take_length]; exact e, rfl⟩
  · have hbig : ¬ 2147483647 < (varR l).1 := by simp at h; omega
    have hi : intR l = varR l := by
      unfold intR
      split
      · rename_i q
        obtain ⟨q1, q2, _⟩ := varR_err q
        exact Prod.ext q1.symm (Prod.ext q2.symm rfl)
      · rename_i q
        exact Prod.ext rfl (Prod.ext rfl (Decidable.not_not.1 q).symm)
    rw [hi]
    refine .skip ?_
    refine .seq ?_
    refine .region rfl ?_
    refine .o1 rfl rfl (op_mv (rfl : _ = AV.int _ _)) ?_
    refine .o1 rfl rfl (op_convInt (r := ((varR l).1 : Int)) rfl (S := D46) (D := D3) rfl rfl rfl (wrap_in (by simp only [lo]; omega) (by simp only [Rm.hi]; omega))) ?_
    refine .o0 rfl rfl (op_store1 rfl ho (D := D3) rfl (by first | exact (rfl : _ = AV.int _ _) | exact (rfl : _ = AV.bool _) | exact (rfl : _ = AV.str _) | exact (rfl : _ = AV.sl _ _) | exact (rfl : _ = AV.row _ _) | exact (rfl : _ = AV.ptr _ _) | exact (rfl : _ = AV.tup _) | exact (rfl : _ = AV.agg _) | exact (rfl : _ = AV.fn _ _ _) | exact (rfl : _ = AV.nilp) | exact (rfl : _ = AV.mp _) | exact (rfl : _ = AV.vptr _) | exact (rfl : _ = AV.any)) rfl rfl (Nat.le_of_ble_eq_true rfl) rfl) ?_
    refine .nil ?_
    refine .seq ?_
    refine .region rfl ?_
    refine .o1 rfl rfl (op_mv (rfl : _ = AV.int _ _)) ?_
    refine .o1 rfl rfl (op_mv (rfl : _ = AV.int _ _)) ?_
    refine .o1 rfl rfl (op_as (rfl : _ = AV.int _ _)) ?_
    refine .o1 rfl rfl (op_as (rfl : _ = AV.int _ _)) ?_
    refine .nil ?_
    refine .ret ?_
    exact fin_setL (.cons (.tmpO _ rfl) (.cons (.tmpO _ rfl) .nil)) rfl rfl ⟨rfl, rfl⟩

theorem c54 {st : List Ob} {clip : Bool} {l : List UInt8} {on oo : Nat} {k : Int} {x : AV} (hn : st[on]? = some (.var [.int .i64 k])) (ho : st[oo]? = some (.var [x])) (hne : on ≠ oo) (hl : l.length ≤ 1000000) :
    Ctr Tryd.prog mG 54 st [.sl clip (bs l), .ptr on 0, .ptr oo 0] (fun st' r =>
      (st' = if k < 0 ∨ (l.length : Int) < k then st else st.set oo (.var [.row st.length 0]) ++ [.row 0 1 (bs (l.take k.toNat)) false]) ∧
      r = if k < 0 then .tup [.int .i64 0, .int .i64 4] else if (l.length : Int) < k then .tup [.int .i64 0, .int .i64 3] else .tup [.int .i64 k, .int .i64 0]) := by
  refine Ctr.of_bodyO (E := Ev) (n := 19) Tryd.func54 rfl rfl (Nat.le_of_ble_eq_true rfl) ?_
  show AGo Ev _ _ (lst 19 [(0, .sl clip (bs l)), (1, .ptr on 0), (2, .ptr oo 0)]) _ _
  refine .seq ?_
  refine .region rfl ?_
  refine .o1 rfl rfl (op_as (rfl : _ = AV.int _ _)) ?_
  refine .o1 rfl rfl (op_as (rfl : _ = AV.int _ _)) ?_
  refine .nil ?_
  refine .seq ?_
  refine .block ?_
  refine .seq ?_
  refine .region rfl ?_
  refine .o1 rfl rfl (op_load rfl hn (D := D3) rfl rfl rfl) ?_
  refine .o1 rfl rfl (op_bin rfl rfl rfl) ?_
  refine .o1 rfl rfl (op_as (rfl : _ = AV.bool _)) ?_
  refine .nil ?_
  refine .condO rfl (fun h => ?_) (fun h => ?_)   -- t6
  · have hk : k < 0 := by simpa using h
    rw [if_pos hk, if_pos (.inl hk)]
    refine .seq ?_
    refine .region rfl ?_
    refine .o1 rfl rfl (op_as (rfl : _ = AV.int _ _)) ?_
    refine .o1 rfl rfl (op_as (rfl : _ = AV.int _ _)) ?_
    refine .nil ?_
    refine .ret ?_
    exact ⟨_, _, _, .cons (.tmpO _ rfl) (.cons (.tmpO _ rfl) .nil), .drop st.length (Nat.le_refl _) rfl (fun h => by simpa using h), by rw [List.take_length], rfl⟩
  · have hk : ¬ k < 0 := by simpa using h
    rw [if_neg hk]
    refine .seq ?_
    refine .region rfl ?_
    refine .o1 rfl rfl (op_load rfl hn (D := D3) rfl rfl rfl) ?_
    refine .o1 rfl rfl (op_mv (by first | exact (rfl : _ = AV.sl _ _) | exact (rfl : _ = AV.row _ _))) ?_
    refine .o1 rfl rfl (op_lenSl rfl (S := D22) rfl rfl) ?_
    refine .o1 rfl rfl (op_bin rfl rfl rfl) ?_
    refine .o1 rfl rfl (op_as (rfl : _ = AV.bool _)) ?_
    refine .nil ?_
    refine .condO rfl (fun h => ?_) (fun h => ?_)   -- t9
    · have hk2 : (l.length : Int) < k := by simpa [bs_length] using h
      rw [if_pos hk2, if_pos (.inr hk2)]
      refine .seq ?_
      refine .region rfl ?_
      refine .o1 rfl rfl (op_as (rfl : _ = AV.int _ _)) ?_
      refine .o1 rfl rfl (op_as (rfl : _ = AV.int _ _)) ?_
      refine .nil ?_
      refine .ret ?_
      exact ⟨_, _, _, .cons (.tmpO _ rfl) (.cons (.tmpO _ rfl) .nil), .drop st.length (Nat.le_refl _) rfl (fun h => by simpa using h), by rw [List.take_length], rfl⟩
    · have hk2 : ¬ (l.length : Int) < k := by simpa [bs_length] using h
      rw [if_neg hk2, if_neg (by omega)]
      have ho2 : (st ++ [Ob.row 0 1 (bs (l.take k.toNat)) false])[oo]? = some (.var [x]) := at_old _ ho
      have hn2 : (st ++ [Ob.row 0 1 (bs (l.take k.toNat)) false])[on]? = some (.var [.int .i64 k]) := at_old _ hn
      have e2 := set_old [Ob.row 0 1 (bs (l.take k.toNat)) false] (.var [.row st.length 0]) ho
      refine .skip ?_
      refine .inBlock ?_
      refine .seq ?_
      refine .region rfl ?_
      refine .o1 rfl rfl (op_mv (by first | exact (rfl : _ = AV.sl _ _) | exact (rfl : _ = AV.row _ _))) ?_
      refine .o1 rfl rfl (op_load rfl hn (D := D3) rfl rfl rfl) ?_
      refine .o1 rfl rfl (op_sliceSl (clip' := false) (ln := 0) (hn := k.toNat) rfl (S := D22) rfl rfl (D := D5) rfl (bs_one l) (.inl ⟨rfl, rfl⟩) (.inr ⟨_, _, _, rfl, rfl, by omega, rfl⟩) (.inl ⟨rfl, fun h => by cases h⟩) (Nat.zero_le _) (by rw [bs_length]; omega) (r := bs (l.take k.toNat)) (by rw [bs_take, List.drop_zero])) ?_
      refine .o1 rfl rfl (op_callJ Tryd.func14 rfl rfl rfl rfl (c14 (l := l.take k.toNat) (by simp; omega))) ?_
      refine .o0 rfl rfl (op_store1 rfl ho2 (D := D22) rfl (rfl : _ = AV.row _ _) rfl rfl (Nat.le_of_ble_eq_true rfl) rfl) ?_
      refine .nil ?_
      refine .seq ?_
      show AGo _ _ _ _ ((st ++ [Ob.row 0 1 (bs (l.take k.toNat)) false]).set oo (.var [.row st.length 0])) _
      rw [e2]
      have hn3 : (st.set oo (.var [.row st.length 0]) ++ [Ob.row 0 1 (bs (l.take k.toNat)) false])[on]? = some (.var [.int .i64 k]) := at_old _ (by rw [List.getElem?_set_ne (Ne.symm hne)]; exact hn)
      refine .region rfl ?_
      refine .o1 rfl rfl (op_load rfl hn3 (D := D3) rfl rfl rfl) ?_
      refine .o1 rfl rfl (op_as (rfl : _ = AV.int _ _)) ?_
      refine .o1 rfl rfl (op_as (rfl : _ = AV.int _ _)) ?_
      refine .nil ?_
      refine .ret ?_
      have e3 : (st.set oo (.var [.row st.length 0]) ++ [Ob.row 0 1 (bs (l.take k.toNat)) false]).take (st.length + 1) = st.set oo (.var [.row st.length 0]) ++ [Ob.row 0 1 (bs (l.take k.toNat)) false] := List.take_of_length_le (by simp)
      exact ⟨_, _, _, .cons (.tmpO _ rfl) (.cons (.tmpO _ rfl) .nil), .drop (st.length + 1) (Nat.le_succ _) rfl (fun h => by
        rw [e3]
        exact okSt_append (okSt_set (okSt_mono (Nat.le_succ _) h) (by simp [okO, okL, okA])) (by simp [okSt, okO, okLL_bs])), e3, rfl⟩

theorem fin_set1 {rs : List ResultVar} {fr : List AV} {st st1 : List Ob} {o : Nat} {ob : Ob} {xs : List AV} {Q : List Ob → AV → Prop} (hr : ResL Ev fr (st1.set o ob) rs xs) (hlen : st.length ≤ st1.length) (hok : okSt st.length st = true → okSt st1.length st1 = true) (hx : okA st1.length (packA xs) = true) (hob : okO st1.length ob = true) (hQ : Q (st1.set o ob) (packA xs)) : Fin Ev rs st Q fr (st1.set o ob) := by
  have e : (st1.set o ob).take st1.length = st1.set o ob := List.take_of_length_le (by simp)
  exact ⟨_, _, _, hr, .drop st1.length hlen hx (fun h => by rw [e]; exact okSt_set (hok h) hob), by rw [e]; exact hQ⟩
/-- What a reading comes to. -/
def rdN (a n e : Nat) : List AV := if e ≠ 0 then [.int .i64 a, .int .i64 e] else [.int .i64 ((a + n : Nat) : Int), .int .i64 ((0 : Nat) : Int)]
theorem c51 {st st1 : List Ob} {clip : Bool} {b : List UInt8} {o a n e1 fc : Nat} {fn : Func} {ca : List AV} (ho : st[o]? = some (.var [.sl clip (bs b), .int .i64 a, .int .i64 ((0 : Nat) : Int)])) (ha : a ≤ b.length) (hb : b.length ≤ 1000000)
    (hfn : Tryd.prog.funcs[fc]? = some fn) (hnm : (fn.name == "runtime.NumGoroutine") = false) (hbd : fn.body.isNone = false)
    (hcl : Ctr Tryd.prog mG fc st (.sl false (bs (b.drop a)) :: ca) (fun st' r => st' = st1 ∧ r = .tup [.int .i64 n, .int .i64 e1]))
    (ho1 : st1[o]? = some (.var [.sl clip (bs b), .int .i64 a, .int .i64 ((0 : Nat) : Int)])) (hlen : st.length ≤ st1.length) (hok : okSt st.length st = true → okSt st1.length st1 = true) (hn : n ≤ b.length) :
    Ctr Tryd.prog mG 51 st [.ptr o 0, .fn (.func fc) [] ca] (fun st' r => st' = st1.set o (.var (.sl clip (bs b) :: rdN a n e1)) ∧ r = .tup []) := by
  refine Ctr.of_bodyO (E := Ev) (n := 43) Tryd.func51 rfl rfl (Nat.le_of_ble_eq_true rfl) ?_
  show AGo Ev _ _ (lst 43 [(0, .ptr o 0), (1, .fn (.func fc) [] ca)]) _ _
  refine .seq ?_
  refine .seq ?_
  refine .region rfl ?_
  refine .o1 rfl rfl (op_mv (by first | exact (rfl : _ = AV.ptr _ _) | exact (rfl : _ = AV.nilp))) ?_
  refine .o1 rfl rfl (op_eqNil (.inl ⟨_, _, rfl⟩) (D := D51) rfl rfl) ?_
  refine .o1 rfl rfl (op_mv (rfl : _ = AV.bool _)) ?_
  refine .oy rfl rfl rfl rfl (op_mv (by first | exact (rfl : _ = AV.ptr _ _) | exact (rfl : _ = AV.nilp))) ?_
  refine .oy rfl rfl rfl rfl (op_nilCheck rfl (.inl ⟨_, _, rfl⟩)) ?_
  refine .oy rfl rfl rfl rfl (op_fieldAddr rfl (D := D95) rfl rfl rfl rfl (by decide)) ?_
  refine .oy rfl rfl rfl rfl (op_load rfl ho (D := D27) rfl rfl rfl) ?_
  refine .oy rfl rfl rfl rfl (op_bin rfl rfl rfl) ?_
  refine .o1 rfl rfl (op_pick rfl (rfl : _ = AV.bool _)) ?_
  refine .nil ?_
  refine .condO rfl (fun h => by cases h) (fun _ => ?_)   -- t14
  refine .skip ?_
  refine .seq ?_
  refine .drawnJ 1 (fun s => s[o]? = some (.var [.sl clip (bs b), .int .i64 a, .int .i64 ((0 : Nat) : Int)])) [10] rfl (by decide) (by decide +kernel) ho ?_
  refine .ds rfl rfl rfl (fun _ => (op_mv (rfl : _ = AV.fn _ _ _))) ?_
  refine .ds rfl rfl rfl (fun _ => (op_mv (by first | exact (rfl : _ = AV.ptr _ _) | exact (rfl : _ = AV.nilp)))) ?_
  refine .ds rfl rfl rfl (fun _ => (op_nilCheck rfl (.inl ⟨_, _, rfl⟩))) ?_
  refine .ds rfl rfl rfl (fun _ => (op_fieldAddr rfl (D := D95) rfl rfl rfl rfl (by decide))) ?_
  refine .dJ rfl rfl rfl (by decide +kernel) (fun _ hJ => (op_load rfl hJ (D := D22) rfl rfl rfl)) ?_
  refine .ds rfl rfl rfl (fun _ => (op_mv (by first | exact (rfl : _ = AV.ptr _ _) | exact (rfl : _ = AV.nilp)))) ?_
  refine .ds rfl rfl rfl (fun _ => (op_nilCheck rfl (.inl ⟨_, _, rfl⟩))) ?_
  refine .ds rfl rfl rfl (fun _ => (op_fieldAddr rfl (D := D95) rfl rfl rfl rfl (by decide))) ?_
  refine .dJ rfl rfl rfl (by decide +kernel) (fun _ hJ => (op_load rfl hJ (D := D3) rfl rfl rfl)) ?_
  refine .ds rfl rfl rfl (fun _ => (op_sliceSl (clip' := false) (ln := a) (hn := (bs b).length) rfl (S := D22) rfl rfl (D := D5) rfl (bs_one b) (.inr ⟨_, _, _, rfl, rfl, by omega, by omega⟩) (.inl ⟨rfl, rfl⟩) (.inl ⟨rfl, fun h => by cases h⟩) (by rw [bs_length]; exact ha) (Nat.le_refl _) (r := bs (b.drop a)) (by rw [List.take_length, bs_drop]))) ?_
  refine .deJ 0 rfl rfl rfl rfl rfl (op_callJ hfn hnm hbd rfl rfl hcl) (fun _ => ho1) ?_
  refine .ds rfl rfl rfl (fun _ => (op_mv (by first | exact (rfl : _ = AV.int _ _) | exact (rfl : _ = AV.bool _) | exact (rfl : _ = AV.str _) | exact (rfl : _ = AV.sl _ _) | exact (rfl : _ = AV.row _ _) | exact (rfl : _ = AV.ptr _ _) | exact (rfl : _ = AV.tup _) | exact (rfl : _ = AV.agg _) | exact (rfl : _ = AV.fn _ _ _) | exact (rfl : _ = AV.nilp) | exact (rfl : _ = AV.mp _) | exact (rfl : _ = AV.vptr _) | exact (rfl : _ = AV.any)))) ?_
  refine .ds rfl rfl rfl (fun _ => (op_extract rfl rfl)) ?_
  refine .ds rfl rfl rfl (fun _ => (op_extract rfl rfl)) ?_
  refine .ds rfl rfl rfl (fun _ => (op_as (rfl : _ = AV.int _ _))) ?_
  refine .ds rfl rfl rfl (fun _ => (op_as (rfl : _ = AV.int _ _))) ?_
  refine .nil rfl rfl ?_
  refine .seq ?_
  refine .seq ?_
  refine .region rfl ?_
  refine .o1 rfl rfl (op_mv (rfl : _ = AV.int _ _)) ?_
  refine .o1 rfl rfl (op_bin rfl rfl rfl) ?_
  refine .nil ?_
  refine .condO rfl (fun h => ?_) (fun h => ?_)   -- t30
  · have he : e1 ≠ 0 := by simp at h; omega
    refine .seq ?_
    refine .region rfl ?_
    refine .o1 rfl rfl (op_mv (by first | exact (rfl : _ = AV.ptr _ _) | exact (rfl : _ = AV.nilp))) ?_
    refine .o1 rfl rfl (op_mv (rfl : _ = AV.int _ _)) ?_
    refine .o1 rfl rfl (op_nilCheck rfl (.inl ⟨_, _, rfl⟩)) ?_
    refine .o1 rfl rfl (op_fieldAddr rfl (D := D95) rfl rfl rfl rfl (by decide)) ?_
    refine .o0 rfl rfl (op_store1 rfl ho1 (D := D27) rfl (by first | exact (rfl : _ = AV.int _ _) | exact (rfl : _ = AV.bool _) | exact (rfl : _ = AV.str _) | exact (rfl : _ = AV.sl _ _) | exact (rfl : _ = AV.row _ _) | exact (rfl : _ = AV.ptr _ _) | exact (rfl : _ = AV.tup _) | exact (rfl : _ = AV.agg _) | exact (rfl : _ = AV.fn _ _ _) | exact (rfl : _ = AV.nilp) | exact (rfl : _ = AV.mp _) | exact (rfl : _ = AV.vptr _) | exact (rfl : _ = AV.any)) rfl rfl (Nat.le_of_ble_eq_true rfl) rfl) ?_
    refine .nil ?_
    refine .ret ?_
    have hs : AV.sl clip (bs b) :: rdN a n e1 = [AV.sl clip (bs b), .int .i64 a, .int .i64 e1] := by simp [rdN, he]
    rw [hs]
    exact fin_set1 .nil hlen hok rfl (by simp [okO, okL, okA, okLL_bs]) ⟨rfl, rfl⟩
  · have he : e1 = 0 := by simp at h; omega
    subst he
    refine .skip ?_
    refine .region rfl ?_
    refine .o1 rfl rfl (op_mv (by first | exact (rfl : _ = AV.ptr _ _) | exact (rfl : _ = AV.nilp))) ?_
    refine .o1 rfl rfl (op_nilCheck rfl (.inl ⟨_, _, rfl⟩)) ?_
    refine .o1 rfl rfl (op_fieldAddr rfl (D := D95) rfl rfl rfl rfl (by decide)) ?_
    refine .o1 rfl rfl (op_load rfl ho1 (D := D3) rfl rfl rfl) ?_
    refine .o1 rfl rfl (op_mv (rfl : _ = AV.int _ _)) ?_
    refine .o1 rfl rfl (op_add rfl rfl (by simp only [Rm.lo]; omega) (by simp only [Rm.hi]; omega)) ?_
    refine .o1 rfl rfl (op_nilCheck rfl (.inl ⟨_, _, rfl⟩)) ?_
    refine .o1 rfl rfl (op_fieldAddr rfl (D := D95) rfl rfl rfl rfl (by decide)) ?_
    refine .o0 rfl rfl (op_store1 rfl ho1 (D := D3) rfl (by first | exact (rfl : _ = AV.int _ _) | exact (rfl : _ = AV.bool _) | exact (rfl : _ = AV.str _) | exact (rfl : _ = AV.sl _ _) | exact (rfl : _ = AV.row _ _) | exact (rfl : _ = AV.ptr _ _) | exact (rfl : _ = AV.tup _) | exact (rfl : _ = AV.agg _) | exact (rfl : _ = AV.fn _ _ _) | exact (rfl : _ = AV.nilp) | exact (rfl : _ = AV.mp _) | exact (rfl : _ = AV.vptr _) | exact (rfl : _ = AV.any)) rfl rfl (Nat.le_of_ble_eq_true rfl) rfl) ?_
    refine .nil ?_
    refine .fin ?_
    have hs : AV.sl clip (bs b) :: rdN a n 0 = [AV.sl clip (bs b), .int .i64 ((a + n : Nat) : Int), .int .i64 ((0 : Nat) : Int)] := by simp [rdN]
    rw [hs]
    exact fin_set1 .nil hlen hok rfl (by simp [okO, okL, okA, okLL_bs]) ⟨rfl, rfl⟩
theorem c51e {st : List Ob} {clip : Bool} {b : List UInt8} {o fc a e : Nat} {ca : List AV} (ho : st[o]? = some (.var [.sl clip (bs b), .int .i64 a, .int .i64 e])) (he : e ≠ 0) :
    Ctr Tryd.prog mG 51 st [.ptr o 0, .fn (.func fc) [] ca] (fun st' r => st' = st ∧ r = .tup []) := by
  refine Ctr.of_bodyO (E := Ev) (n := 43) Tryd.func51 rfl rfl (Nat.le_of_ble_eq_true rfl) ?_
  show AGo Ev _ _ (lst 43 [(0, .ptr o 0), (1, .fn (.func fc) [] ca)]) _ _
  refine .seq ?_
  refine .seq ?_
  refine .region rfl ?_
  refine .o1 rfl rfl (op_mv (by first | exact (rfl : _ = AV.ptr _ _) | exact (rfl : _ = AV.nilp))) ?_
  refine .o1 rfl rfl (op_eqNil (.inl ⟨_, _, rfl⟩) (D := D51) rfl rfl) ?_
  refine .o1 rfl rfl (op_mv (rfl : _ = AV.bool _)) ?_
  refine .oy rfl rfl rfl rfl (op_mv (by first | exact (rfl : _ = AV.ptr _ _) | exact (rfl : _ = AV.nilp))) ?_
  refine .oy rfl rfl rfl rfl (op_nilCheck rfl (.inl ⟨_, _, rfl⟩)) ?_
  refine .oy rfl rfl rfl rfl (op_fieldAddr rfl (D := D95) rfl rfl rfl rfl (by decide)) ?_
  refine .oy rfl rfl rfl rfl (op_load rfl ho (D := D27) rfl rfl rfl) ?_
  refine .oy rfl rfl rfl rfl (op_bin rfl rfl rfl) ?_
  rw [show ((e : Int) != 0) = true by simp [he]]
  refine .o1 rfl rfl (op_pick rfl (rfl : _ = AV.bool _)) ?_
  refine .nil ?_
  refine .condO rfl (fun _ => ?_) (fun h => by cases h)   -- t14
  refine .ret ?_
  exact ⟨_, _, _, .nil, .drop st.length (Nat.le_refl _) rfl (fun h => by simpa using h), by rw [List.take_length], rfl⟩
end Rm

namespace Rm
open Go Go.Proofs
open Go.RowKit
set_option maxHeartbeats 4000000

theorem intR_err {l : List UInt8} (h : (intR l).2.2 ≠ 0) : (intR l).1 = 0 := by
  unfold intR at h ⊢
  split
  · rfl
  · rename_i h0
    rw [if_neg h0] at h
    split
    · rfl
    · rename_i h1; rw [if_neg h1] at h; exact absurd rfl h
theorem rI_fst {b : List UInt8} {a : Nat} : (rI b (a, 0)).1 = (intR (b.drop a)).1 := by
  unfold rI
  rw [if_neg (by simp)]
  split
  · rename_i h; exact (intR_err h).symm
  · rfl
theorem rI_rd {b : List UInt8} {a : Nat} : rdN a (intR (b.drop a)).2.1 (intR (b.drop a)).2.2 = [.int .i64 (rI b (a, 0)).2.1, .int .i64 (rI b (a, 0)).2.2] := by
  by_cases h : (intR (b.drop a)).2.2 = 0 <;> simp [rI, rdN, h]
/-- A reader. -/
def rdO (clip : Bool) (b : List UInt8) (a e : Nat) : Ob := .var [.sl clip (bs b), .int .i64 a, .int .i64 e]
theorem okO_rd (n : Nat) (clip : Bool) (b : List UInt8) (a e : Nat) : okO n (rdO clip b a e) = true := by simp [rdO, okO, okL, okA, okLL_bs]
theorem take_app {α : Type} {X l : List α} {n : Nat} (h : X.length = n) : (X ++ l).take n = X := by subst h; simp
theorem setL {α : Type} {X l : List α} {n : Nat} (y : α) (x : α) (h : X.length = n) : (X ++ x :: l).set n y = X ++ y :: l := by subst h; simp
theorem getL {α : Type} {X l : List α} {n : Nat} (x : α) (h : X.length = n) : (X ++ x :: l)[n]? = some x := by subst h; simp

theorem at2 {α : Type} (st : List α) (a b c : α) (l : List α) : (st ++ a :: b :: c :: l)[st.length + 2]? = some c := by simp
theorem at3 {α : Type} (st : List α) (a b c d : α) (l : List α) : (st ++ a :: b :: c :: d :: l)[st.length + 3]? = some d := by simp
theorem set2 {α : Type} (st : List α) (a b c x : α) (l : List α) : (st ++ a :: b :: c :: l).set (st.length + 2) x = st ++ a :: b :: x :: l := by
  rw [List.set_append_right _ _ (by omega)]; simp
theorem getL2 {α : Type} {X l : List α} {n : Nat} (x y : α) (h : X.length = n) : (X ++ x :: y :: l)[n + 1]? = some y := by subst h; simp
theorem getL3 {α : Type} {X l : List α} {n : Nat} (x y z : α) (h : X.length = n) : (X ++ x :: y :: z :: l)[n + 2]? = some z := by subst h; simp
theorem getL4 {α : Type} {X l : List α} {n : Nat} (x y z w : α) (h : X.length = n) : (X ++ x :: y :: z :: w :: l)[n + 3]? = some w := by subst h; simp
theorem setL2 {α : Type} {X l : List α} {n : Nat} (x y z : α) (h : X.length = n) : (X ++ x :: y :: l).set (n + 1) z = X ++ x :: z :: l := by subst h; exact set1 _ _ _ _ _
theorem c37 {st : List Ob} {clip : Bool} {b : List UInt8} {o a e : Nat} (ho : st[o]? = some (rdO clip b a e)) (ha : a ≤ b.length) (hb : b.length ≤ 1000000) :
    Ctr Tryd.prog mG 37 st [.ptr o 0] (fun st' r => st' = st.set o (rdO clip b (rI b (a, e)).2.1 (rI b (a, e)).2.2) ∧ r = .int .i64 (rI b (a, e)).1) := by
  have hlt := (List.getElem?_eq_some_iff.1 ho).1
  refine Ctr.of_bodyO (E := Ev) (n := 7) Tryd.func37 rfl rfl (Nat.le_of_ble_eq_true rfl) ?_
  show AGo Ev _ _ (lst 7 [(0, .ptr o 0)]) _ _
  refine .seq ?_
  refine .region rfl ?_
  refine .o1 rfl rfl (op_alloc (D := D3) rfl) ?_
  refine .nil ?_
  try dsimp only [List.set, setR, D31, D53, D57, D69, D86, D95, D22, D3, D9, List.take_succ_cons, List.take_zero, List.drop_succ_cons, List.drop_zero, List.length_cons, List.length_nil, List.nil_append, List.cons_append, Nat.reduceAdd, Nat.zero_add]
  have ho2 : (st ++ [Ob.var [.int .i64 0]])[o]? = some (rdO clip b a e) := at_old _ ho
  by_cases he : e = 0
  · subst he
    refine .seq ?_
    have hcl := c52 (st := st ++ [Ob.var [.int .i64 0]]) (clip := false) (l := b.drop a) (oo := st.length) (by simp) (by simp; omega)
    rw [set0] at hcl
    have hc := c51 (st := st ++ [Ob.var [.int .i64 0]]) (st1 := st ++ [Ob.var [.int .i64 (intR (b.drop a)).1]]) (ca := [.ptr st.length 0]) ho2 ha hb Tryd.func52 rfl rfl hcl (at_old _ ho) (by simp) (fun h => by
      have := okSt_set (o := st.length) (ob := .var [.int .i64 (intR (b.drop a)).1]) h rfl
      rw [set0] at this
      simpa using this) (by
      rcases Classical.em ((intR (b.drop a)).2.2 = 0) with q | q
      · have := (intR_ok q).2.2.1; simp at this; omega
      · have : (intR (b.drop a)).2.1 = 0 := by
          unfold intR at q ⊢
          split
          · rfl
          · rename_i h0
            rw [if_neg h0] at q
            split
            · rfl
            · rename_i h1; rw [if_neg h1] at q; exact absurd rfl q
        omega)
    rw [rI_rd, set_old _ _ ho] at hc
    refine .region rfl ?_
    refine .o1 rfl rfl (op_mv (by first | exact (rfl : _ = AV.ptr _ _) | exact (rfl : _ = AV.nilp))) ?_
    refine .o1 rfl rfl op_makeFunc ?_
    refine .o1 rfl rfl (op_callJ Tryd.func51 rfl rfl rfl rfl hc) ?_
    refine .nil ?_
    refine .seq ?_
    refine .region rfl ?_
    refine .o1 rfl rfl (op_load rfl (getL (n := st.length) _ (by simp)) (D := D3) rfl rfl rfl) ?_
    refine .o0 rfl rfl (op_store1 rfl (getL (n := st.length) _ (by simp)) (D := D3) rfl (by first | exact (rfl : _ = AV.int _ _) | exact (rfl : _ = AV.bool _) | exact (rfl : _ = AV.str _) | exact (rfl : _ = AV.sl _ _) | exact (rfl : _ = AV.row _ _) | exact (rfl : _ = AV.ptr _ _) | exact (rfl : _ = AV.tup _) | exact (rfl : _ = AV.agg _) | exact (rfl : _ = AV.fn _ _ _) | exact (rfl : _ = AV.nilp) | exact (rfl : _ = AV.mp _) | exact (rfl : _ = AV.vptr _) | exact (rfl : _ = AV.any)) rfl rfl (Nat.le_of_ble_eq_true rfl) rfl) ?_
    refine .nil ?_
    refine .ret ?_
    rw [setL (n := st.length) _ _ (by simp)]
    refine ⟨_, _, _, .cons (.cellO _ _ _ _ _ D3 _ rfl (getL (n := st.length) _ (by simp)) rfl rfl rfl) .nil, .drop st.length (Nat.le_refl _) rfl (fun h => ?_), ?_, ?_⟩
    · rw [take_app (by simp)]
      exact okSt_set h (okO_rd _ _ _ _ _)
    · rw [take_app (by simp)]; rfl
    · rw [rI_fst]; rfl
  · rw [rI_stay (s := (a, e)) he]
    refine .seq ?_
    refine .region rfl ?_
    refine .o1 rfl rfl (op_mv (by first | exact (rfl : _ = AV.ptr _ _) | exact (rfl : _ = AV.nilp))) ?_
    refine .o1 rfl rfl op_makeFunc ?_
    refine .o1 rfl rfl (op_callJ Tryd.func51 rfl rfl rfl rfl (c51e ho2 he)) ?_
    refine .nil ?_
    refine .seq ?_
    refine .region rfl ?_
    refine .o1 rfl rfl (op_load rfl (getL (n := st.length) _ rfl) (D := D3) rfl rfl rfl) ?_
    refine .o0 rfl rfl (op_store1 rfl (getL (n := st.length) _ rfl) (D := D3) rfl (by first | exact (rfl : _ = AV.int _ _) | exact (rfl : _ = AV.bool _) | exact (rfl : _ = AV.str _) | exact (rfl : _ = AV.sl _ _) | exact (rfl : _ = AV.row _ _) | exact (rfl : _ = AV.ptr _ _) | exact (rfl : _ = AV.tup _) | exact (rfl : _ = AV.agg _) | exact (rfl : _ = AV.fn _ _ _) | exact (rfl : _ = AV.nilp) | exact (rfl : _ = AV.mp _) | exact (rfl : _ = AV.vptr _) | exact (rfl : _ = AV.any)) rfl rfl (Nat.le_of_ble_eq_true rfl) rfl) ?_
    refine .nil ?_
    refine .ret ?_
    rw [setL (n := st.length) _ _ rfl]
    refine ⟨_, _, _, .cons (.cellO _ _ _ _ _ D3 _ rfl (getL (n := st.length) _ rfl) rfl rfl rfl) .nil, .drop st.length (Nat.le_refl _) rfl (fun h => ?_), ?_, ?_⟩
    · rw [take_app rfl]; exact h
    · rw [take_app rfl]; exact (set_same ho).symm
    · rfl

theorem rB_bad {b : List UInt8} {a : Nat} {k : Int} (h : k < 0 ∨ ((b.length - a : Nat) : Int) < k) : ∃ e1, e1 ≠ 0 ∧ rB b k (a, 0) = ([], a, e1) ∧ (if k < 0 then AV.tup [.int .i64 0, .int .i64 4] else if ((b.length - a : Nat) : Int) < k then .tup [.int .i64 0, .int .i64 3] else .tup [.int .i64 k, .int .i64 0]) = .tup [.int .i64 ((0 : Nat) : Int), .int .i64 (e1 : Nat)] := by
  unfold rB
  rw [if_neg (show ¬ ((a, 0) : Nat × Nat).2 ≠ 0 by simp)]
  by_cases h1 : k < 0
  · exact ⟨4, by decide, by rw [if_pos h1], by rw [if_pos h1]; rfl⟩
  · have h2 := h.resolve_left h1
    exact ⟨3, by decide, by rw [if_neg h1, if_pos h2], by rw [if_neg h1, if_pos h2]; rfl⟩
theorem rB_good {b : List UInt8} {a n : Nat} (h : n ≤ b.length - a) : rB b (n : Int) (a, 0) = ((b.drop a).take n, a + n, 0) := by
  unfold rB
  rw [if_neg (show ¬ ((a, 0) : Nat × Nat).2 ≠ 0 by simp), if_neg (by omega), if_neg (by simp only; omega)]
  simp
theorem c39 {st : List Ob} {clip : Bool} {b : List UInt8} {o a e : Nat} {k : Int} (ho : st[o]? = some (rdO clip b a e)) (ha : a ≤ b.length) (hb : b.length ≤ 1000000) :
    Ctr Tryd.prog mG 39 st [.ptr o 0, .int .i64 k] (fun st' r => st' = st.set o (rdO clip b (rB b k (a, e)).2.1 (rB b k (a, e)).2.2) ++ [.row 0 1 (bs (rB b k (a, e)).1) false] ∧ r = .row st.length 0) := by
  have hlt := (List.getElem?_eq_some_iff.1 ho).1
  refine Ctr.of_bodyO (E := Ev) (n := 9) Tryd.func39 rfl rfl (Nat.le_of_ble_eq_true rfl) ?_
  show AGo Ev _ _ (lst 9 [(0, .ptr o 0), (1, .int .i64 k)]) _ _
  refine .seq ?_
  refine .region rfl ?_
  refine .o1 rfl rfl (op_box1 (by first | exact (rfl : _ = AV.int _ _) | exact (rfl : _ = AV.bool _) | exact (rfl : _ = AV.str _) | exact (rfl : _ = AV.sl _ _) | exact (rfl : _ = AV.row _ _) | exact (rfl : _ = AV.ptr _ _) | exact (rfl : _ = AV.tup _) | exact (rfl : _ = AV.agg _) | exact (rfl : _ = AV.fn _ _ _) | exact (rfl : _ = AV.nilp) | exact (rfl : _ = AV.mp _) | exact (rfl : _ = AV.vptr _) | exact (rfl : _ = AV.any)) rfl) ?_
  refine .o1 rfl rfl (op_alloc (D := D22) rfl) ?_
  refine .nil ?_
  refine .adopt 1 (by decide) ?_
  simp only [List.append_assoc, List.length_append, List.length_cons, List.length_nil, List.cons_append, List.nil_append, Nat.zero_add]
  refine .becomeCell (st.length + 1) 0 (st.length + 2) (ver := 0) (sz := 1) (es0 := []) (fz := false) (cs := D22.z) (at1 _ _ _ _) rfl (at2 _ _ _ _ _) (by decide) ?_
  rw [set2, set1]
  show AGo _ _ _ (lst 9 [(4, .ptr (st.length + 1) 0), (3, .ptr st.length 0), (0, .ptr o 0), (1, .int .i64 k)]) (st ++ [.var [.int .i64 k], .var [.row (st.length + 2) 1], .row 1 1 [] false]) _
  have ho2 : (st ++ [Ob.var [.int .i64 k], .var [.row (st.length + 2) 1], .row 1 1 [] false])[o]? = some (rdO clip b a e) := at_old _ ho
  by_cases he : e = 0
  · subst he
    refine .seq ?_
    have hcl := c54 (st := st ++ [Ob.var [.int .i64 k], .var [.row (st.length + 2) 1], .row 1 1 [] false]) (clip := false) (l := b.drop a) (on := st.length) (oo := st.length + 1) (k := k) (x := .row (st.length + 2) 1) (at0 _ _ _) (at1 _ _ _ _) (by omega) (by simp; omega)
    rw [List.length_drop, set1] at hcl
    by_cases hk : k < 0 ∨ ((b.length - a : Nat) : Int) < k
    · obtain ⟨e1, he1, hb1, hr⟩ := rB_bad hk
      rw [hb1]
      rw [if_pos hk, hr] at hcl
      have hc := c51 (n := 0) (e1 := e1) (fc := 54) ho2 ha hb Tryd.func54 rfl rfl hcl ho2 (Nat.le_refl _) (fun h => h) (Nat.zero_le _)
      rw [set_old _ _ ho, show AV.sl clip (bs b) :: rdN a 0 e1 = [AV.sl clip (bs b), .int .i64 a, .int .i64 e1] by simp [rdN, he1]] at hc
      refine .region rfl ?_
      refine .o1 rfl rfl (op_mv (by first | exact (rfl : _ = AV.ptr _ _) | exact (rfl : _ = AV.nilp))) ?_
      refine .o1 rfl rfl op_makeFunc ?_
      refine .o1 rfl rfl (op_callJ Tryd.func51 rfl rfl rfl rfl hc) ?_
      refine .nil ?_
      refine .seq ?_
      refine .region rfl ?_
      refine .o1 rfl rfl (op_load rfl (getL2 (n := st.length) _ _ (by simp)) (D := D22) rfl rfl rfl) ?_
      refine .o0 rfl rfl (op_store1 rfl (getL2 (n := st.length) _ _ (by simp)) (D := D22) rfl (by first | exact (rfl : _ = AV.int _ _) | exact (rfl : _ = AV.bool _) | exact (rfl : _ = AV.str _) | exact (rfl : _ = AV.sl _ _) | exact (rfl : _ = AV.row _ _) | exact (rfl : _ = AV.ptr _ _) | exact (rfl : _ = AV.tup _) | exact (rfl : _ = AV.agg _) | exact (rfl : _ = AV.fn _ _ _) | exact (rfl : _ = AV.nilp) | exact (rfl : _ = AV.mp _) | exact (rfl : _ = AV.vptr _) | exact (rfl : _ = AV.any)) rfl rfl (Nat.le_of_ble_eq_true rfl) rfl) ?_
      refine .nil ?_
      refine .ret ?_
      rw [setL2 (n := st.length) _ _ _ (by simp)]
      refine ⟨_, _, _, .cons (.cellO _ _ _ _ _ D22 _ rfl (getL2 (n := st.length) _ _ (by simp)) rfl rfl rfl) .nil, .row (.row st.length 0) (st.length + 2) 1 1 [] false (getL3 (n := st.length) _ _ _ (by simp)) (by omega) (fun h => ?_) rfl .row, ?_, rfl⟩
      · rw [take_app (by simp)]; exact okSt_set h (okO_rd _ _ _ _ _)
      · rw [take_app (by simp)]; rfl
    · obtain ⟨n, rfl⟩ : ∃ n : Nat, k = n := ⟨k.toNat, by omega⟩
      have hn : n ≤ b.length - a := by omega
      rw [rB_good hn]
      rw [if_neg hk, if_neg (by omega), if_neg (by omega), Int.toNat_natCast] at hcl
      have hc := c51 (n := n) (e1 := 0) (fc := 54) ho2 ha hb Tryd.func54 rfl rfl hcl (by rw [List.append_assoc]; exact at_old _ ho) (by simp) (fun h => by
        have h1 : okSt st.length st = true ∨ True := .inr trivial
        have h2 := okSt_mono (show (st ++ [Ob.var [.int .i64 (n : Int)], .var [.row (st.length + 2) 1], .row 1 1 [] false]).length ≤ st.length + 4 by simp) h
        have h3 := okSt_set (o := st.length + 1) (ob := .var [.row (st.length + 3) 0]) h2 (by simp [okO, okL, okA])
        rw [set1] at h3
        have h4 := okSt_append h3 (show okSt (st.length + 4) [.row 0 1 (bs ((b.drop a).take n)) false] = true by simp [okSt, okO, okLL_bs])
        simpa using h4) (by omega)
      simp only [List.append_assoc, List.length_append, List.length_cons, List.length_nil, List.cons_append, List.nil_append, Nat.zero_add, Nat.reduceAdd] at hc
      rw [set_old _ _ ho, show AV.sl clip (bs b) :: rdN a n 0 = [AV.sl clip (bs b), .int .i64 ((a + n : Nat) : Int), .int .i64 ((0 : Nat) : Int)] by simp [rdN]] at hc
      refine .region rfl ?_
      refine .o1 rfl rfl (op_mv (by first | exact (rfl : _ = AV.ptr _ _) | exact (rfl : _ = AV.nilp))) ?_
      refine .o1 rfl rfl op_makeFunc ?_
      refine .o1 rfl rfl (op_callJ Tryd.func51 rfl rfl rfl rfl hc) ?_
      refine .nil ?_
      refine .seq ?_
      refine .region rfl ?_
      refine .o1 rfl rfl (op_load rfl (getL2 (n := st.length) _ _ (by simp)) (D := D22) rfl rfl rfl) ?_
      refine .o0 rfl rfl (op_store1 rfl (getL2 (n := st.length) _ _ (by simp)) (D := D22) rfl (by first | exact (rfl : _ = AV.int _ _) | exact (rfl : _ = AV.bool _) | exact (rfl : _ = AV.str _) | exact (rfl : _ = AV.sl _ _) | exact (rfl : _ = AV.row _ _) | exact (rfl : _ = AV.ptr _ _) | exact (rfl : _ = AV.tup _) | exact (rfl : _ = AV.agg _) | exact (rfl : _ = AV.fn _ _ _) | exact (rfl : _ = AV.nilp) | exact (rfl : _ = AV.mp _) | exact (rfl : _ = AV.vptr _) | exact (rfl : _ = AV.any)) rfl rfl (Nat.le_of_ble_eq_true rfl) rfl) ?_
      refine .nil ?_
      refine .ret ?_
      rw [setL2 (n := st.length) _ _ _ (by simp)]
      refine ⟨_, _, _, .cons (.cellO _ _ _ _ _ D22 _ rfl (getL2 (n := st.length) _ _ (by simp)) rfl rfl rfl) .nil, .row (.row st.length 0) (st.length + 3) 0 1 (bs ((b.drop a).take n)) false (getL4 (n := st.length) _ _ _ _ (by simp)) (by omega) (fun h => ?_) (okLL_bs _ _) .row, ?_, rfl⟩
      · rw [take_app (by simp)]; exact okSt_set h (okO_rd _ _ _ _ _)
      · rw [take_app (by simp)]; rfl
  · rw [rB_stay (s := (a, e)) he]
    refine .seq ?_
    refine .region rfl ?_
    refine .o1 rfl rfl (op_mv (by first | exact (rfl : _ = AV.ptr _ _) | exact (rfl : _ = AV.nilp))) ?_
    refine .o1 rfl rfl op_makeFunc ?_
    refine .o1 rfl rfl (op_callJ Tryd.func51 rfl rfl rfl rfl (c51e ho2 he)) ?_
    refine .nil ?_
    refine .seq ?_
    refine .region rfl ?_
    refine .o1 rfl rfl (op_load rfl (at1 _ _ _ _) (D := D22) rfl rfl rfl) ?_
    refine .o0 rfl rfl (op_store1 rfl (at1 _ _ _ _) (D := D22) rfl (by first | exact (rfl : _ = AV.int _ _) | exact (rfl : _ = AV.bool _) | exact (rfl : _ = AV.str _) | exact (rfl : _ = AV.sl _ _) | exact (rfl : _ = AV.row _ _) | exact (rfl : _ = AV.ptr _ _) | exact (rfl : _ = AV.tup _) | exact (rfl : _ = AV.agg _) | exact (rfl : _ = AV.fn _ _ _) | exact (rfl : _ = AV.nilp) | exact (rfl : _ = AV.mp _) | exact (rfl : _ = AV.vptr _) | exact (rfl : _ = AV.any)) rfl rfl (Nat.le_of_ble_eq_true rfl) rfl) ?_
    refine .nil ?_
    refine .ret ?_
    rw [set1]
    refine ⟨_, _, _, .cons (.cellO _ _ _ _ _ D22 _ rfl (at1 _ _ _ _) rfl rfl rfl) .nil, .row (.row st.length 0) (st.length + 2) 1 1 [] false (at2 _ _ _ _ _) (by omega) (fun h => ?_) rfl .row, ?_, rfl⟩
    · rw [take_app rfl]; exact h
    · rw [take_app rfl]
      show _ = st.set o (rdO clip b a e) ++ _
      rw [set_same ho]; rfl
end Rm

namespace Rm
open Go Go.Proofs
open Go.RowKit
set_option maxHeartbeats 4000000

theorem rB_le1 {b : List UInt8} {s : Nat × Nat} {n : Nat} : (rB b (n : Int) s).1.length = 0 ∨ (rB b (n : Int) s).1.length = n := by
  unfold rB
  split
  · exact .inl rfl
  · split
    · exact .inl rfl
    · split
      · exact .inl rfl
      · right; simp; omega
theorem c36 {st : List Ob} {clip : Bool} {b : List UInt8} {o op a e : Nat} {rest : List AV} (hp : st[op]? = some (.var (.ptr o 0 :: rest))) (ho : st[o]? = some (rdO clip b a e)) (ha : a ≤ b.length) (hb : b.length ≤ 1000000) :
    Ctr Tryd.prog mG 36 st [.ptr op 0] (fun st' r => st' = st.set o (rdO clip b (rB b 1 (a, e)).2.1 (rB b 1 (a, e)).2.2) ∧ r = .int .u8 ((rB b 1 (a, e)).1.getD 0 0).toNat) := by
  have hl1 := rB_le1 (b := b) (s := (a, e)) (n := 1)
  obtain ⟨out, s2, hr⟩ : ∃ x y, rB b 1 (a, e) = (x, y) := ⟨_, _, rfl⟩
  have hc := c39 (k := 1) ho ha hb
  rw [show ((1 : Nat) : Int) = 1 from rfl, hr] at hl1
  rw [hr] at hc ⊢
  simp only at hl1
  refine Ctr.of_bodyO (E := Ev) (n := 15) Tryd.func36 rfl rfl (Nat.le_of_ble_eq_true rfl) ?_
  show AGo Ev _ _ (lst 15 [(0, .ptr op 0)]) _ _
  refine .seq ?_
  refine .region rfl ?_
  refine .o1 rfl rfl (op_as (rfl : _ = AV.int _ _)) ?_
  refine .nil ?_
  refine .seq ?_
  refine .region rfl ?_
  refine .o1 rfl rfl (op_mv (by first | exact (rfl : _ = AV.ptr _ _) | exact (rfl : _ = AV.nilp))) ?_
  refine .o1 rfl rfl (op_nilCheck rfl (.inl ⟨_, _, rfl⟩)) ?_
  refine .o1 rfl rfl (op_fieldAddr rfl (D := D53) rfl rfl rfl rfl (by decide)) ?_
  refine .o1 rfl rfl (op_load rfl hp (D := D51) rfl rfl rfl) ?_
  refine .o1 rfl rfl (op_callJ Tryd.func39 rfl rfl rfl rfl hc) ?_
  refine .o1 rfl rfl (op_as (rfl : _ = AV.row _ _)) ?_
  refine .nil ?_
  have hrow : (st.set o (rdO clip b s2.1 s2.2) ++ [Ob.row 0 1 (bs out) false])[st.length]? = some (.row 0 1 (bs out) false) := getL _ (by simp)
  have fin : ∀ (fr : List AV) (c : UInt8), fr.getD 2 .any = .int .u8 c.toNat → c = out.getD 0 0 → Fin Ev Tryd.f36.results.toList st (fun st' r => st' = st.set o (rdO clip b s2.1 s2.2) ∧ r = .int .u8 (out.getD 0 0).toNat) fr (st.set o (rdO clip b s2.1 s2.2) ++ [Ob.row 0 1 (bs out) false]) := fun fr c h hc => by
    refine ⟨_, _, _, .cons (.tmp _) .nil, .drop st.length (Nat.le_refl _) ?_ (fun h => ?_), by rw [take_app (by simp)], ?_⟩
    · show okA st.length (fr.getD 2 .any) = true
      rw [h]; rfl
    · rw [take_app (by simp)]; exact okSt_set h (okO_rd _ _ _ _ _)
    · show fr.getD 2 .any = _
      rw [h, hc]
  refine .seq ?_
  refine .seq ?_
  refine .region rfl ?_
  refine .o1 rfl rfl (op_mv (by first | exact (rfl : _ = AV.sl _ _) | exact (rfl : _ = AV.row _ _))) ?_
  refine .o1 rfl rfl (op_lenRow rfl hrow (S := D22) rfl rfl) ?_
  refine .o1 rfl rfl (op_bin rfl rfl rfl) ?_
  refine .nil ?_
  refine .condO rfl (fun h => ?_) (fun h => ?_)   -- t11
  · have h0 : out = [] := by simp [bs_length] at h; exact h
    refine .seq ?_
    refine .region rfl ?_
    refine .o1 rfl rfl (op_as (rfl : _ = AV.int _ _)) ?_
    refine .nil ?_
    refine .ret ?_
    exact fin _ 0 (by rw [getD_lst]; rfl) (by rw [h0]; rfl)
  · have h0 : out ≠ [] := by simp [bs_length] at h; exact h
    obtain ⟨c, rfl⟩ : ∃ c, out = [c] := by
      rcases hl1 with h1 | h1
      · exact absurd (List.eq_nil_of_length_eq_zero h1) h0
      · match out, h1 with
        | [c], _ => exact ⟨c, rfl⟩
    refine .skip ?_
    refine .seq ?_
    refine .region rfl ?_
    refine .o1 rfl rfl (op_mv (by first | exact (rfl : _ = AV.sl _ _) | exact (rfl : _ = AV.row _ _))) ?_
    refine .o1 rfl rfl (op_indexAddr_row rfl hrow rfl (S := D22) rfl rfl (D := D5) rfl rfl (by decide) (by simp [bs_length])) ?_
    refine .o1 rfl rfl (op_load_r rfl hrow (D := D5) rfl rfl rfl) ?_
    refine .o1 rfl rfl (op_as (rfl : _ = AV.int _ _)) ?_
    refine .nil ?_
    refine .ret ?_
    exact fin _ c (by rw [getD_lst]; rfl) rfl

/-- Four bytes' number. -/
def fixV (l : List UInt8) : Nat := l.foldl (fun v c => v * 256 % 4294967296 + c.toNat) 0
theorem fixV_lt (l : List UInt8) : fixV l < 4294967296 := by
  unfold fixV
  have key : ∀ (l : List UInt8) (v : Nat), v < 4294967296 → l.foldl (fun v (c : UInt8) => v * 256 % 4294967296 + c.toNat) v < 4294967296 := by
    intro l
    induction l with
    | nil => intro v h; exact h
    | cons c l ih =>
      intro v _
      have := c.toNat_lt
      exact ih _ (by show v * 256 % 4294967296 + c.toNat < 4294967296; omega)
  exact key l 0 (by decide)
theorem shl8 (v : Nat) (c : UInt8) : bitsI .or .u32 (IntKind.u32.wrap ((v : Int) * 2 ^ (min (8 : Int).toNat IntKind.u32.bits))) (c.toNat : Int) = ((v * 256 % 4294967296 + c.toNat : Nat) : Int) := by
  have hcb := c.toNat_lt
  have e1 : IntKind.u32.wrap ((v : Int) * 2 ^ (min (8 : Int).toNat IntKind.u32.bits)) = ((v * 256 % 4294967296 : Nat) : Int) := by
    show IntKind.u32.wrap ((v : Int) * 2 ^ 8) = _
    simp only [IntKind.wrap, IntKind.bits, IntKind.signed, Bool.false_and, Bool.false_eq_true, if_false]
    omega
  rw [e1, bits_or rfl (by show v * 256 % 4294967296 < 2 ^ 32; omega) (by show c.toNat < 2 ^ 32; omega)]
  congr 1
  have e2 : v * 256 % 4294967296 = 2 ^ 8 * (v * 256 % 4294967296 / 256) := by omega
  rw [e2, ← Nat.two_pow_add_eq_or_of_lt (by omega)]
theorem c41 {st : List Ob} {clip : Bool} {b : List UInt8} {o a e : Nat} (ho : st[o]? = some (rdO clip b a e)) (ha : a ≤ b.length) (hb : b.length ≤ 1000000) :
    Ctr Tryd.prog mG 41 st [.ptr o 0] (fun st' r => st' = st.set o (rdO clip b (rB b 4 (a, e)).2.1 (rB b 4 (a, e)).2.2) ∧ r = .int .u32 (fixV (rB b 4 (a, e)).1)) := by
  have hl1 := rB_le1 (b := b) (s := (a, e)) (n := 4)
  obtain ⟨out, s2, hr⟩ : ∃ x y, rB b 4 (a, e) = (x, y) := ⟨_, _, rfl⟩
  have hc := c39 (k := 4) ho ha hb
  rw [show ((4 : Nat) : Int) = 4 from rfl, hr] at hl1
  rw [hr] at hc ⊢
  simp only at hl1
  have hrow : (st.set o (rdO clip b s2.1 s2.2) ++ [Ob.row 0 1 (bs out) false])[st.length]? = some (.row 0 1 (bs out) false) := getL _ (by simp)
  refine Ctr.of_bodyO (E := Ev) (n := 19) Tryd.func41 rfl rfl (Nat.le_of_ble_eq_true rfl) ?_
  show AGo Ev _ _ (lst 19 [(0, .ptr o 0)]) _ _
  refine .seq ?_
  refine .region rfl ?_
  refine .o1 rfl rfl (op_as (rfl : _ = AV.int _ _)) ?_
  refine .nil ?_
  refine .seq ?_
  refine .seq ?_
  refine .region rfl ?_
  refine .o1 rfl rfl (op_mv (by first | exact (rfl : _ = AV.ptr _ _) | exact (rfl : _ = AV.nilp))) ?_
  refine .o1 rfl rfl (op_callJ Tryd.func39 rfl rfl rfl rfl hc) ?_
  refine .o1 rfl rfl (op_lenRow rfl hrow (S := D22) rfl rfl) ?_
  refine .o1 rfl rfl (op_mv (rfl : _ = AV.int _ _)) ?_
  refine .nil ?_
  refine .block ?_
  refine .keep [2, 6, 7, 8] ?_
  refine .loop (σ := Nat) 0 (fun i => i ≤ out.length) (fun i => out.length - i) (fun i => lst 19 [(2, .int .u32 (fixV (out.take i))), (6, .row st.length 0), (7, .int .i64 (bs out).length), (8, .int .i64 i)]) (fun _ => st.set o (rdO clip b s2.1 s2.2) ++ [Ob.row 0 1 (bs out) false]) (Nat.zero_le _) rfl rfl ?_
  rintro i hil again
  refine .seq ?_
  refine .region rfl ?_
  refine .o1 rfl rfl (op_bin rfl rfl rfl) ?_
  refine .nil ?_
  refine .seq ?_
  refine .condO rfl (fun h => ?_) (fun h => ?_)   -- t9
  · have hlt : i < out.length := by simp [bs_length] at h; omega
    obtain ⟨c, hc⟩ : ∃ c, out[i]? = some c := ⟨out[i], by simp [hlt]⟩
    have hcb := c.toNat_lt
    refine .skip ?_
    refine .seq ?_
    refine .block ?_
    refine .seq ?_
    refine .region rfl ?_
    refine .o1 rfl rfl (op_indexAddr_row rfl hrow rfl (S := D22) rfl rfl (D := D5) rfl rfl (by omega) (by rw [bs_length]; omega)) ?_
    refine .o1 rfl rfl (op_load_r rfl hrow (D := D5) rfl rfl (by simpa using bs_get out i c hc)) ?_
    refine .o1 rfl rfl (op_as (rfl : _ = AV.int _ _)) ?_
    refine .nil ?_
    refine .region rfl ?_
    refine .o1 rfl rfl (op_mv (rfl : _ = AV.int _ _)) ?_
    refine .o1 rfl rfl (op_shl (q := 8) rfl rfl (by decide)) ?_
    refine .o1 rfl rfl (op_mv (rfl : _ = AV.int _ _)) ?_
    refine .o1 rfl rfl (op_convInt (r := (c.toNat : Int)) rfl (S := D5) (D := D42) rfl rfl rfl (wrap_in (by simp only [lo]; omega) (by simp only [Rm.hi]; omega))) ?_
    refine .o1 rfl rfl (op_bin (r := .int .u32 ((fixV (out.take i) * 256 % 4294967296 + c.toNat : Nat) : Int)) rfl rfl (congrArg (fun z => some (AV.int .u32 z)) (shl8 _ _))) ?_
    refine .o1 rfl rfl (op_as (rfl : _ = AV.int _ _)) ?_
    refine .nil ?_
    refine .inBlock ?_
    refine .region rfl ?_
    refine .o1 rfl rfl (op_add rfl rfl (by simp only [Rm.lo]; omega) (by simp only [Rm.hi]; omega)) ?_
    refine .o1 rfl rfl (op_mv (rfl : _ = AV.int _ _)) ?_
    refine .nil ?_
    refine .keep [2, 6, 7, 8] ?_
    have e : fixV (out.take (i + 1)) = fixV (out.take i) * 256 % 4294967296 + c.toNat := by
      rw [List.take_add_one, hc]
      simp [fixV]
    have := again (i + 1) (by omega) (by omega)
    rw [e] at this
    exact this
  · have hge : i = out.length := by simp [bs_length] at h; omega
    subst hge
    refine .exit rfl ?_
    refine .seq ?_
    refine .region rfl ?_
    refine .o1 rfl rfl (op_mv (rfl : _ = AV.int _ _)) ?_
    refine .o1 rfl rfl (op_as (rfl : _ = AV.int _ _)) ?_
    refine .nil ?_
    refine .ret ?_
    refine ⟨_, _, _, .cons (.tmpO _ rfl) .nil, .drop st.length (Nat.le_refl _) rfl (fun h => ?_), by rw [take_app (by simp)], ?_⟩
    · rw [take_app (by simp)]; exact okSt_set h (okO_rd _ _ _ _ _)
    · rw [List.take_length]; rfl
end Rm

namespace Rm
open Go

theorem fix_iff {l : List UInt8} {n : Nat} (hl : l.length = 4) (hn : n < 4294967296) : n = fixV l ↔ fixB n = l := by
  match l, hl with
  | [a, b, c, d], _ =>
    have ha := a.toNat_lt
    have hb := b.toNat_lt
    have hc := c.toNat_lt
    have hd := d.toNat_lt
    have hv : fixV [a, b, c, d] = ((a.toNat * 256 + b.toNat) * 256 + c.toNat) * 256 + d.toNat := by
      simp only [fixV, List.foldl_cons, List.foldl_nil]
      omega
    rw [hv]
    simp only [fixB, List.cons.injEq, and_true, ← UInt8.toNat_inj, UInt8.toNat_ofNat', Nat.reducePow]
    omega
/-- The same, as the reader does it: the error is kept. -/
def readK (c : List UInt8) (at_ : Nat) : Rd × Nat :=
  let s := rB c 1 (0, 0)
  let t := rB c 1 s.2
  let how := (t.1.getD 0 0).toNat
  if 1 < how then ({}, 4) else
  let z := rI c t.2
  let n := rI c z.2
  if n.2.2 = 0 ∧ badN (decide (how = 1)) n.1 z.1 then ({}, 4) else
  let bd := rB c n.1 n.2
  let f := rB c 4 bd.2
  if f.2.2 ≠ 0 then ({}, f.2.2) else
  if crcN (c.take bd.2.1) ≠ fixV f.1 then ({}, 5) else
  ({ kind := s.1.getD 0 0, packed := decide (how = 1), size := z.1, body := bd.1, next := at_ + f.2.1 }, 0)
theorem rB_err_nil {b : List UInt8} {k : Int} {s : Nat × Nat} (h : (rB b k s).2.2 ≠ 0) : (rB b k s).1 = [] := by
  unfold rB at h ⊢
  split
  · rfl
  · rename_i h1
    rw [if_neg h1] at h
    split
    · rfl
    · rename_i h2
      rw [if_neg h2] at h
      split
      · rfl
      · rename_i h3; rw [if_neg h3] at h; exact absurd rfl h
theorem readK_eq (c : List UInt8) (n0 : Nat) : readK c n0 = readC c n0 := by
  unfold readK readC
  simp only
  obtain ⟨t, ht⟩ : ∃ t, rB c 1 (rB c 1 (0, 0)).2 = t := ⟨_, rfl⟩
  rw [ht]
  by_cases h1 : t.2.2 = 0
  · rw [if_neg (show ¬ t.2.2 ≠ 0 from fun q => q h1)]
    by_cases h2 : 1 < (t.1.getD 0 0).toNat
    · rw [if_pos h2, if_pos h2]
    · rw [if_neg h2, if_neg h2]
      obtain ⟨n, hn⟩ : ∃ n, rI c (rI c t.2).2 = n := ⟨_, rfl⟩
      rw [hn]
      by_cases h3 : n.2.2 = 0
      · rw [if_neg (show ¬ n.2.2 ≠ 0 from fun q => q h3)]
        by_cases h4 : badN (decide ((t.1.getD 0 0).toNat = 1)) n.1 (rI c t.2).1
        · rw [if_pos ⟨h3, h4⟩, if_pos h4]
        · rw [if_neg (fun q => h4 q.2), if_neg h4]
          obtain ⟨f, hf⟩ : ∃ f, rB c 4 (rB c n.1 n.2).2 = f := ⟨_, rfl⟩
          rw [hf]
          by_cases h5 : f.2.2 = 0
          · rw [if_neg (show ¬ f.2.2 ≠ 0 from fun q => q h5), if_neg (show ¬ f.2.2 ≠ 0 from fun q => q h5)]
            have hlen : f.1.length = 4 := (rB_lit (n := 4) (t := f.1) (a2 := f.2.1) (s := (rB c n.1 n.2).2) (by rw [show ((4 : Nat) : Int) = 4 from rfl, hf]; exact Prod.ext rfl (Prod.ext rfl h5)) (by decide)).2.2.1
            have hi := fix_iff hlen (crcN_lt (c.take (rB c n.1 n.2).2.1))
            by_cases h6 : crcN (c.take (rB c n.1 n.2).2.1) = fixV f.1
            · rw [if_neg (fun q => q h6), if_neg (fun q => q (hi.1 h6))]
            · rw [if_pos h6, if_pos (fun q => h6 (hi.2 q))]
          · rw [if_pos h5, if_pos h5]
      · rw [if_neg (fun q => h3 q.1), if_pos h3]
        have e1 : rB c n.1 n.2 = ([], n.2) := rB_stay h3
        rw [e1]
        have e2 : rB c 4 n.2 = ([], n.2) := rB_stay h3
        simp only [e2]
        rw [if_pos h3]
  · rw [if_pos h1]
    have h0 : t.1 = [] := by rw [← ht] at h1 ⊢; exact rB_err_nil h1
    rw [h0]
    have e1 : rI c t.2 = (0, t.2) := rI_stay h1
    simp only [e1]
    rw [if_neg (by decide), if_neg (fun q => h1 q.1)]
    have e2 : ∀ k, rB c k t.2 = ([], t.2) := fun k => rB_stay h1
    simp only [e2]
    rw [if_pos h1]
end Rm
