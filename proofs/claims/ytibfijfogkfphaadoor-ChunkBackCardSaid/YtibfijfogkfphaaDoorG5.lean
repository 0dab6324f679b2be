/- The checksum, plainly: half bytes by the table are bits one by one; a byte changed changes it. Walks: the document's checksum, bit by bit. What a reader reads, plainly: bytes, and numbers in their one form. Walks: the document's reader: fails, skip, Bytes. Walks: the document's varint, and Num. Walks: the document's Num. What stands at a place, plainly. -/
import Derived.Test.YtibfijfogkfphaaDoorG4

namespace Rm
open Go

theorem xor_mod2 (a b : Nat) : (a ^^^ b) % 2 = (a + b) % 2 := by
  have h := @Nat.xor_mod_two_eq_one a b
  omega
theorem wrap_u {k : IntKind} (hk : k.signed = false) {n : Nat} (h : n < 2 ^ k.bits) : k.wrap (n : Int) = n := by
  simp only [IntKind.wrap, hk, Bool.false_and, Bool.false_eq_true, if_false]
  exact Int.emod_eq_of_lt (by omega) (by exact_mod_cast h)
theorem bits_xor {k : IntKind} (hk : k.signed = false) {a b : Nat} (ha : a < 2 ^ k.bits) (hb : b < 2 ^ k.bits) : bitsI .xor k (a : Int) (b : Int) = ((a ^^^ b : Nat) : Int) := by
  unfold bitsI
  simp only [BitVec.ofInt_natCast, BitVec.toNat_xor, BitVec.toNat_ofNat, Nat.mod_eq_of_lt ha, Nat.mod_eq_of_lt hb]
  exact wrap_u hk (Nat.xor_lt_two_pow ha hb)
theorem bits_or {k : IntKind} (hk : k.signed = false) {a b : Nat} (ha : a < 2 ^ k.bits) (hb : b < 2 ^ k.bits) : bitsI .or k (a : Int) (b : Int) = ((a ||| b : Nat) : Int) := by
  unfold bitsI
  simp only [BitVec.ofInt_natCast, BitVec.toNat_or, BitVec.toNat_ofNat, Nat.mod_eq_of_lt ha, Nat.mod_eq_of_lt hb]
  exact wrap_u hk (Nat.or_lt_two_pow ha hb)

def poly : Nat := 3988292384
/-- One bit. -/
def stp (n : Nat) : Nat := if n % 2 = 1 then n / 2 ^^^ poly else n / 2
def byteN (n c : Nat) : Nat := stp (stp (stp (stp (stp (stp (stp (stp (n ^^^ c))))))))
def crcN (l : List UInt8) : Nat := 4294967295 - l.foldl (fun n c => byteN n c.toNat) 4294967295

theorem stp_lt {n : Nat} (h : n < 2 ^ 32) : stp n < 2 ^ 32 := by
  unfold stp
  split
  · exact Nat.xor_lt_two_pow (by omega) (by decide)
  · omega
theorem stp_xor (a b : Nat) : stp (a ^^^ b) = stp a ^^^ stp b := by
  unfold stp
  rw [xor_mod2, Nat.xor_div_two]
  rcases Nat.mod_two_eq_zero_or_one a with h1 | h1 <;> rcases Nat.mod_two_eq_zero_or_one b with h2 | h2 <;> simp only [h1, h2, Nat.add_mod, Nat.reduceAdd, Nat.reduceMod, if_true, if_false, Nat.zero_ne_one]
  · rw [Nat.xor_assoc]
  · rw [Nat.xor_assoc, Nat.xor_comm (b / 2), ← Nat.xor_assoc]
  · rw [Nat.xor_assoc, Nat.xor_comm (b / 2) poly, ← Nat.xor_assoc poly, Nat.xor_self, Nat.zero_xor]
theorem stp_even (n : Nat) : stp (2 * n) = n := by
  unfold stp
  rw [if_neg (by omega)]
  omega
def half4 (n : Nat) : Nat := stp (stp (stp (stp n)))
theorem split16 (n : Nat) : n = (16 * (n / 16)) ^^^ (n % 16) := by
  have h := Nat.two_pow_add_eq_or_of_lt (i := 4) (b := n % 16) (by omega) (n / 16)
  have h2 : (16 * (n / 16)) ||| (n % 16) = (16 * (n / 16)) ^^^ (n % 16) := by
    apply Nat.eq_of_testBit_eq
    intro i
    rw [Nat.testBit_or, Nat.testBit_xor]
    by_cases hi : i < 4
    · have : Nat.testBit (16 * (n / 16)) i = false := by
        rw [show 16 * (n / 16) = 2 ^ 4 * (n / 16) from rfl, Nat.testBit_two_pow_mul]
        simp; omega
      simp [this]
    · have : Nat.testBit (n % 16) i = false := by
        apply Nat.testBit_lt_two_pow
        exact Nat.lt_of_lt_of_le (show n % 16 < 2 ^ 4 by omega) (Nat.pow_le_pow_right (by decide) (by omega))
      simp [this]
  rw [← h2, ← h]
  omega
def halvesN : List Nat := [0, 498536548, 997073096, 651767980, 1994146192, 1802195444, 1303535960, 1342533948, 3988292384, 4027552580, 3604390888, 3412177804, 2607071920, 2262029012, 2685067896, 3183342108]
theorem half4_low : ∀ a : _root_.Fin 16, half4 a.val = halvesN.getD a.val 0 := by decide +kernel
theorem half4_eq (n : Nat) : half4 n = n / 16 ^^^ halvesN.getD (n % 16) 0 := by
  have h1 : half4 n = half4 (16 * (n / 16)) ^^^ half4 (n % 16) := by
    conv => lhs; rw [split16 n]
    simp only [half4, stp_xor]
  have h2 : half4 (16 * (n / 16)) = n / 16 := by
    unfold half4
    rw [show 16 * (n / 16) = 2 * (2 * (2 * (2 * (n / 16)))) by omega, stp_even, stp_even, stp_even, stp_even]
  rw [h1, h2, ← half4_low ⟨n % 16, by omega⟩]

theorem halves_nat (i : Nat) (h : i < 16) : halves.getD i 0 = ((halvesN.getD i 0 : Nat) : Int) ∧ halvesN.getD i 0 < 2 ^ 32 := by
  have : ∀ a : _root_.Fin 16, halves.getD a.val 0 = ((halvesN.getD a.val 0 : Nat) : Int) ∧ halvesN.getD a.val 0 < 2 ^ 32 := by decide +kernel
  exact this ⟨i, h⟩
theorem halfI_nat {n : Nat} (h : n < 2 ^ 32) : halfI (n : Int) = ((half4 n : Nat) : Int) := by
  unfold halfI
  have e1 : (n : Int).fdiv (2 ^ 4) = ((n / 16 : Nat) : Int) := by
    rw [Int.fdiv_eq_ediv_of_nonneg _ (by decide)]
    omega
  have e2 : ((n : Int) % 16).toNat = n % 16 := by omega
  obtain ⟨h1, h2⟩ := halves_nat (n % 16) (by omega)
  rw [e1, e2, h1, bits_xor rfl (by show n / 16 < 2 ^ 32; omega) h2, half4_eq]
theorem half4_lt {n : Nat} (h : n < 2 ^ 32) : half4 n < 2 ^ 32 := stp_lt (stp_lt (stp_lt (stp_lt h)))
theorem byteN_lt {n c : Nat} (h : n < 2 ^ 32) (hc : c < 2 ^ 32) : byteN n c < 2 ^ 32 := half4_lt (half4_lt (Nat.xor_lt_two_pow h hc))
theorem byteI_nat {n : Nat} (h : n < 2 ^ 32) (c : UInt8) : byteI (n : Int) c = ((byteN n c.toNat : Nat) : Int) := by
  have hc : c.toNat < 2 ^ 32 := Nat.lt_trans c.toNat_lt (by decide)
  unfold byteI
  rw [bits_xor rfl h hc, halfI_nat (Nat.xor_lt_two_pow h hc), halfI_nat (half4_lt (Nat.xor_lt_two_pow h hc))]
  rfl
def moreN (n : Nat) (l : List UInt8) : Nat := l.foldl (fun n c => byteN n c.toNat) n
theorem moreN_lt : ∀ (l : List UInt8) {n : Nat}, n < 2 ^ 32 → moreN n l < 2 ^ 32
  | [], _, h => h
  | c :: l, n, h => moreN_lt l (byteN_lt h (Nat.lt_trans c.toNat_lt (by decide)))
theorem moreI_nat : ∀ (l : List UInt8) {n : Nat}, n < 2 ^ 32 → moreI (n : Int) l = ((moreN n l : Nat) : Int)
  | [], _, _ => rfl
  | c :: l, n, h => by
    have := moreI_nat l (byteN_lt h (c := c.toNat) (Nat.lt_trans c.toNat_lt (by decide)))
    simp only [moreI, moreN, List.foldl_cons] at this ⊢
    rw [byteI_nat h]
    exact this
theorem sub_xor {n : Nat} (h : n < 2 ^ 32) : 4294967295 ^^^ n = 4294967295 - n := by
  apply Nat.eq_of_testBit_eq
  intro i
  rw [show 4294967295 - n = 2 ^ 32 - (n + 1) by omega, Nat.testBit_two_pow_sub_succ h, Nat.testBit_xor, show (4294967295 : Nat) = 2 ^ 32 - 1 from rfl, Nat.testBit_two_pow_sub_one]
  by_cases hi : i < 32
  · simp [hi]
  · have : Nat.testBit n i = false := Nat.testBit_lt_two_pow (Nat.lt_of_lt_of_le h (Nat.pow_le_pow_right (by decide) (by omega)))
    simp [hi, this]
theorem crcN_lt (l : List UInt8) : crcN l < 2 ^ 32 := by unfold crcN; omega
theorem crcI_nat (l : List UInt8) : crcI l = ((crcN l : Nat) : Int) := by
  unfold crcI
  have e : bitsI .xor .u32 4294967295 0 = ((4294967295 : Nat) : Int) := by
    exact bits_xor (k := .u32) (a := 4294967295) (b := 0) rfl (by decide) (by decide)
  have hm := moreN_lt l (n := 4294967295) (by decide)
  rw [e, moreI_nat l (by decide)]
  have := bits_xor (k := .u32) (a := 4294967295) (b := moreN 4294967295 l) rfl (by decide) hm
  rw [show ((4294967295 : Nat) : Int) = 4294967295 from rfl] at this
  rw [this, sub_xor hm]
  rfl
end Rm

namespace Rm
open Go Go.Proofs
open Go.RowKit

def stpk : Nat → Nat → Nat
  | 0, x => x
  | k + 1, x => stpk k (stp x)
theorem wrap32_mod2 (n c : Nat) : (IntKind.u32.wrap ((n : Int) + c)) % 2 = (((n ^^^ c) % 2 : Nat) : Int) := by
  rw [xor_mod2]
  simp only [IntKind.wrap, IntKind.bits, IntKind.signed, Bool.false_and, Bool.false_eq_true, if_false]
  omega
theorem half_xor {n c : Nat} : (n ^^^ c) / 2 = n / 2 ^^^ c / 2 := Nat.xor_div_two
theorem c22 {st : List Ob} {clip : Bool} {l : List UInt8} (hl : l.length < 2 ^ 62) : Ctr Tryd.prog mG 22 st [.sl clip (bs l)] (fun st' r => st' = st ∧ r = .int .u32 (crcN l)) := by
  refine Ctr.of_body (E := Ev) Tryd.func22 rfl ?_
  show AGo Ev _ _ [.sl clip (bs l), .any, .any, .any, .any, .any, .any, .any, .any, .any, .any, .any, .any, .any, .any, .any, .any, .any, .any, .any, .any, .any, .any, .any, .any, .any, .any, .any, .any, .any, .any, .any, .any, .any, .any, .any, .any] _ _
  refine .seq ?_
  refine .region rfl ?_
  refine .op1 rfl (op_as (by first | exact (rfl : _ = AV.int _ _) | exact (rfl : _ = AV.bool _) | exact (rfl : _ = AV.str _) | exact (rfl : _ = AV.sl _ _) | exact (rfl : _ = AV.row _ _) | exact (rfl : _ = AV.ptr _ _) | exact (rfl : _ = AV.tup _) | exact (rfl : _ = AV.agg _) | exact (rfl : _ = AV.fn _ _ _) | exact (rfl : _ = AV.nilp) | exact (rfl : _ = AV.mp _) | exact (rfl : _ = AV.vptr _) | exact (rfl : _ = AV.any))) ?_
  refine .nil ?_
  dsimp only [putA, List.set, av, List.getD_cons_zero, List.getD_cons_succ, avOf, avLeaf, cellsA, setR, D31, D53, D57, D69, D86, D95, List.take_succ_cons, List.take_zero, List.drop_succ_cons, List.drop_zero, List.length_cons, List.length_nil, List.nil_append, List.cons_append, Nat.reduceAdd, Nat.zero_add]
  refine .seq ?_
  refine .region rfl ?_
  refine .op1 rfl (op_as (by first | exact (rfl : _ = AV.int _ _) | exact (rfl : _ = AV.bool _) | exact (rfl : _ = AV.str _) | exact (rfl : _ = AV.sl _ _) | exact (rfl : _ = AV.row _ _) | exact (rfl : _ = AV.ptr _ _) | exact (rfl : _ = AV.tup _) | exact (rfl : _ = AV.agg _) | exact (rfl : _ = AV.fn _ _ _) | exact (rfl : _ = AV.nilp) | exact (rfl : _ = AV.mp _) | exact (rfl : _ = AV.vptr _) | exact (rfl : _ = AV.any))) ?_
  refine .nil ?_
  dsimp only [putA, List.set, av, List.getD_cons_zero, List.getD_cons_succ, avOf, avLeaf, cellsA, setR, D31, D53, D57, D69, D86, D95, List.take_succ_cons, List.take_zero, List.drop_succ_cons, List.drop_zero, List.length_cons, List.length_nil, List.nil_append, List.cons_append, Nat.reduceAdd, Nat.zero_add]
  refine .seq ?_
  refine .seq ?_
  refine .region rfl ?_
  refine .op1 rfl (op_as (by first | exact (rfl : _ = AV.int _ _) | exact (rfl : _ = AV.bool _) | exact (rfl : _ = AV.str _) | exact (rfl : _ = AV.sl _ _) | exact (rfl : _ = AV.row _ _) | exact (rfl : _ = AV.ptr _ _) | exact (rfl : _ = AV.tup _) | exact (rfl : _ = AV.agg _) | exact (rfl : _ = AV.fn _ _ _) | exact (rfl : _ = AV.nilp) | exact (rfl : _ = AV.mp _) | exact (rfl : _ = AV.vptr _) | exact (rfl : _ = AV.any))) ?_
  refine .nil ?_
  dsimp only [putA, List.set, av, List.getD_cons_zero, List.getD_cons_succ, avOf, avLeaf, cellsA, setR, D31, D53, D57, D69, D86, D95, List.take_succ_cons, List.take_zero, List.drop_succ_cons, List.drop_zero, List.length_cons, List.length_nil, List.nil_append, List.cons_append, Nat.reduceAdd, Nat.zero_add]
  refine .block ?_
  refine .only (fun i => i == 0 || i == 3 || i == 4) ?_
  refine .loop (σ := Nat × Nat) (0, 4294967295) (fun x => x.1 ≤ l.length ∧ x.2 < 2 ^ 32 ∧ x.2 = moreN 4294967295 (l.take x.1)) (fun x => l.length - x.1)
    (fun x => [.sl clip (bs l), .any, .any, .int .u32 x.2, .int .i64 x.1] ++ List.replicate 32 .any) (fun _ => st) ?_ rfl rfl ?_
  · exact ⟨Nat.zero_le _, by decide, rfl⟩
  · rintro ⟨i, n⟩ ⟨h1, h2, h3⟩ again
    dsimp only at h1 h2 h3 again ⊢
    simp only [List.replicate, List.cons_append, List.nil_append] at again ⊢
    refine .seq ?_
    refine .seq ?_
    refine .region rfl ?_
    refine .op1 rfl (op_mv (by first | exact (rfl : _ = AV.int _ _) | exact (rfl : _ = AV.bool _) | exact (rfl : _ = AV.str _) | exact (rfl : _ = AV.sl _ _) | exact (rfl : _ = AV.row _ _) | exact (rfl : _ = AV.ptr _ _) | exact (rfl : _ = AV.tup _) | exact (rfl : _ = AV.agg _) | exact (rfl : _ = AV.fn _ _ _) | exact (rfl : _ = AV.nilp) | exact (rfl : _ = AV.mp _) | exact (rfl : _ = AV.vptr _) | exact (rfl : _ = AV.any))) ?_
    refine .op1 rfl (op_mv (by first | exact (rfl : _ = AV.int _ _) | exact (rfl : _ = AV.bool _) | exact (rfl : _ = AV.str _) | exact (rfl : _ = AV.sl _ _) | exact (rfl : _ = AV.row _ _) | exact (rfl : _ = AV.ptr _ _) | exact (rfl : _ = AV.tup _) | exact (rfl : _ = AV.agg _) | exact (rfl : _ = AV.fn _ _ _) | exact (rfl : _ = AV.nilp) | exact (rfl : _ = AV.mp _) | exact (rfl : _ = AV.vptr _) | exact (rfl : _ = AV.any))) ?_
    refine .op1 rfl (op_lenSl rfl (S := D22) rfl rfl) ?_
    refine .op1 rfl (op_bin rfl rfl rfl) ?_
    refine .nil ?_
    dsimp only [putA, List.set, av, List.getD_cons_zero, List.getD_cons_succ, avOf, avLeaf, cellsA, setR, D31, D53, D57, D69, D86, D95, List.take_succ_cons, List.take_zero, List.drop_succ_cons, List.drop_zero, List.length_cons, List.length_nil, List.nil_append, List.cons_append, Nat.reduceAdd, Nat.zero_add]
    refine .cond rfl (fun h => ?_) (fun h => ?_)
    · have hlt : i < l.length := by simp [bs_length] at h; omega
      obtain ⟨c, hc⟩ : ∃ c, l[i]? = some c := ⟨l[i], by simp [hlt]⟩
      have hcb := c.toNat_lt
      refine .skip ?_
      refine .seq ?_
      refine .block ?_
      refine .seq ?_
      refine .region rfl ?_
      refine .op1 rfl (op_mv (by first | exact (rfl : _ = AV.int _ _) | exact (rfl : _ = AV.bool _) | exact (rfl : _ = AV.str _) | exact (rfl : _ = AV.sl _ _) | exact (rfl : _ = AV.row _ _) | exact (rfl : _ = AV.ptr _ _) | exact (rfl : _ = AV.tup _) | exact (rfl : _ = AV.agg _) | exact (rfl : _ = AV.fn _ _ _) | exact (rfl : _ = AV.nilp) | exact (rfl : _ = AV.mp _) | exact (rfl : _ = AV.vptr _) | exact (rfl : _ = AV.any))) ?_
      refine .op1 rfl (op_mv (by first | exact (rfl : _ = AV.int _ _) | exact (rfl : _ = AV.bool _) | exact (rfl : _ = AV.str _) | exact (rfl : _ = AV.sl _ _) | exact (rfl : _ = AV.row _ _) | exact (rfl : _ = AV.ptr _ _) | exact (rfl : _ = AV.tup _) | exact (rfl : _ = AV.agg _) | exact (rfl : _ = AV.fn _ _ _) | exact (rfl : _ = AV.nilp) | exact (rfl : _ = AV.mp _) | exact (rfl : _ = AV.vptr _) | exact (rfl : _ = AV.any))) ?_
      refine .op1 rfl (op_indexAddr rfl rfl (S := D22) rfl rfl (D := D5) rfl (bs_one l) (by omega) (by simpa using bs_get l i c hc)) ?_
      refine .op1 rfl (op_load_v rfl (D := D5) rfl rfl rfl) ?_
      refine .op1 rfl (op_convInt (r := (c.toNat : Int)) rfl (S := D5) (D := D42) rfl rfl rfl (wrap_in (by simp only [lo]; omega) (by simp only [hi]; omega))) ?_
      refine .op1 rfl (op_as (by first | exact (rfl : _ = AV.int _ _) | exact (rfl : _ = AV.bool _) | exact (rfl : _ = AV.str _) | exact (rfl : _ = AV.sl _ _) | exact (rfl : _ = AV.row _ _) | exact (rfl : _ = AV.ptr _ _) | exact (rfl : _ = AV.tup _) | exact (rfl : _ = AV.agg _) | exact (rfl : _ = AV.fn _ _ _) | exact (rfl : _ = AV.nilp) | exact (rfl : _ = AV.mp _) | exact (rfl : _ = AV.vptr _) | exact (rfl : _ = AV.any))) ?_
      refine .nil ?_
      dsimp only [putA, List.set, av, List.getD_cons_zero, List.getD_cons_succ, avOf, avLeaf, cellsA, setR, D31, D53, D57, D69, D86, D95, List.take_succ_cons, List.take_zero, List.drop_succ_cons, List.drop_zero, List.length_cons, List.length_nil, List.nil_append, List.cons_append, Nat.reduceAdd, Nat.zero_add]
      refine .seq ?_
      refine .region rfl ?_
      refine .op1 rfl (op_as (by first | exact (rfl : _ = AV.int _ _) | exact (rfl : _ = AV.bool _) | exact (rfl : _ = AV.str _) | exact (rfl : _ = AV.sl _ _) | exact (rfl : _ = AV.row _ _) | exact (rfl : _ = AV.ptr _ _) | exact (rfl : _ = AV.tup _) | exact (rfl : _ = AV.agg _) | exact (rfl : _ = AV.fn _ _ _) | exact (rfl : _ = AV.nilp) | exact (rfl : _ = AV.mp _) | exact (rfl : _ = AV.vptr _) | exact (rfl : _ = AV.any))) ?_
      refine .nil ?_
      dsimp only [putA, List.set, av, List.getD_cons_zero, List.getD_cons_succ, avOf, avLeaf, cellsA, setR, D31, D53, D57, D69, D86, D95, List.take_succ_cons, List.take_zero, List.drop_succ_cons, List.drop_zero, List.length_cons, List.length_nil, List.nil_append, List.cons_append, Nat.reduceAdd, Nat.zero_add]
      refine .block ?_
      refine .only (fun i => i == 0 || i == 3 || i == 4 || i == 5 || i == 6) ?_
      refine .loop (σ := Nat × Nat × Nat) (0, n, c.toNat) (fun x => x.1 ≤ 8 ∧ x.2.1 < 2 ^ 32 ∧ x.2.2 < 2 ^ (8 - x.1) ∧ stpk (8 - x.1) (x.2.1 ^^^ x.2.2) = byteN n c.toNat) (fun x => 8 - x.1)
        (fun x => [.sl clip (bs l), .any, .any, .int .u32 x.2.1, .int .i64 i, .int .u32 x.2.2, .int .i64 x.1] ++ List.replicate 30 .any) (fun _ => st) ⟨Nat.zero_le _, h2, hcb, rfl⟩ rfl rfl ?_
      rintro ⟨k, m, d⟩ ⟨q1, q2, q3, q4⟩ again2
      dsimp only at q1 q2 q3 q4 again2 ⊢
      simp only [List.replicate, List.cons_append, List.nil_append] at again2 ⊢
      have q5 : d < 256 := Nat.lt_of_lt_of_le q3 (Nat.pow_le_pow_right (n := 2) (by decide) (show 8 - k ≤ 8 by omega))
      refine .seq ?_
      refine .seq ?_
      refine .region rfl ?_
      refine .op1 rfl (op_mv (by first | exact (rfl : _ = AV.int _ _) | exact (rfl : _ = AV.bool _) | exact (rfl : _ = AV.str _) | exact (rfl : _ = AV.sl _ _) | exact (rfl : _ = AV.row _ _) | exact (rfl : _ = AV.ptr _ _) | exact (rfl : _ = AV.tup _) | exact (rfl : _ = AV.agg _) | exact (rfl : _ = AV.fn _ _ _) | exact (rfl : _ = AV.nilp) | exact (rfl : _ = AV.mp _) | exact (rfl : _ = AV.vptr _) | exact (rfl : _ = AV.any))) ?_
      refine .op1 rfl (op_bin rfl rfl rfl) ?_
      refine .nil ?_
      dsimp only [putA, List.set, av, List.getD_cons_zero, List.getD_cons_succ, avOf, avLeaf, cellsA, setR, D31, D53, D57, D69, D86, D95, List.take_succ_cons, List.take_zero, List.drop_succ_cons, List.drop_zero, List.length_cons, List.length_nil, List.nil_append, List.cons_append, Nat.reduceAdd, Nat.zero_add]
      refine .cond rfl (fun h => ?_) (fun h => ?_)
      · have hk : k < 8 := by simp at h; omega
        have hstep : stpk (8 - (k + 1)) (stp (m ^^^ d)) = byteN n c.toNat := by
          rw [← q4, show 8 - k = (8 - (k + 1)) + 1 by omega]
          rfl
        have hd2 : d / 2 < 2 ^ (8 - (k + 1)) := by
          have : 2 ^ (8 - k) = 2 * 2 ^ (8 - (k + 1)) := by rw [show 8 - k = (8 - (k + 1)) + 1 by omega, Nat.pow_succ]; omega
          omega
        have e1 : (m : Int) / 2 = ((m / 2 : Nat) : Int) := by omega
        have e2 : (d : Int) / 2 = ((d / 2 : Nat) : Int) := by omega
        refine .skip ?_
        refine .seq ?_
        refine .block ?_
        refine .seq ?_
        refine .region rfl ?_
        refine .op1 rfl (op_mv (by first | exact (rfl : _ = AV.int _ _) | exact (rfl : _ = AV.bool _) | exact (rfl : _ = AV.str _) | exact (rfl : _ = AV.sl _ _) | exact (rfl : _ = AV.row _ _) | exact (rfl : _ = AV.ptr _ _) | exact (rfl : _ = AV.tup _) | exact (rfl : _ = AV.agg _) | exact (rfl : _ = AV.fn _ _ _) | exact (rfl : _ = AV.nilp) | exact (rfl : _ = AV.mp _) | exact (rfl : _ = AV.vptr _) | exact (rfl : _ = AV.any))) ?_
        refine .op1 rfl (op_mv (by first | exact (rfl : _ = AV.int _ _) | exact (rfl : _ = AV.bool _) | exact (rfl : _ = AV.str _) | exact (rfl : _ = AV.sl _ _) | exact (rfl : _ = AV.row _ _) | exact (rfl : _ = AV.ptr _ _) | exact (rfl : _ = AV.tup _) | exact (rfl : _ = AV.agg _) | exact (rfl : _ = AV.fn _ _ _) | exact (rfl : _ = AV.nilp) | exact (rfl : _ = AV.mp _) | exact (rfl : _ = AV.vptr _) | exact (rfl : _ = AV.any))) ?_
        refine .op1 rfl (op_bin rfl rfl rfl) ?_
        refine .op1 rfl (op_rem rfl rfl (wrap_lo _ _) (by omega)) ?_
        refine .op1 rfl (op_as (by first | exact (rfl : _ = AV.int _ _) | exact (rfl : _ = AV.bool _) | exact (rfl : _ = AV.str _) | exact (rfl : _ = AV.sl _ _) | exact (rfl : _ = AV.row _ _) | exact (rfl : _ = AV.ptr _ _) | exact (rfl : _ = AV.tup _) | exact (rfl : _ = AV.agg _) | exact (rfl : _ = AV.fn _ _ _) | exact (rfl : _ = AV.nilp) | exact (rfl : _ = AV.mp _) | exact (rfl : _ = AV.vptr _) | exact (rfl : _ = AV.any))) ?_
        refine .nil ?_
        dsimp only [putA, List.set, av, List.getD_cons_zero, List.getD_cons_succ, avOf, avLeaf, cellsA, setR, D31, D53, D57, D69, D86, D95, List.take_succ_cons, List.take_zero, List.drop_succ_cons, List.drop_zero, List.length_cons, List.length_nil, List.nil_append, List.cons_append, Nat.reduceAdd, Nat.zero_add]
        rw [wrap32_mod2]
        refine .seq ?_
        refine .region rfl ?_
        refine .op1 rfl (op_mv (by first | exact (rfl : _ = AV.int _ _) | exact (rfl : _ = AV.bool _) | exact (rfl : _ = AV.str _) | exact (rfl : _ = AV.sl _ _) | exact (rfl : _ = AV.row _ _) | exact (rfl : _ = AV.ptr _ _) | exact (rfl : _ = AV.tup _) | exact (rfl : _ = AV.agg _) | exact (rfl : _ = AV.fn _ _ _) | exact (rfl : _ = AV.nilp) | exact (rfl : _ = AV.mp _) | exact (rfl : _ = AV.vptr _) | exact (rfl : _ = AV.any))) ?_
        refine .op1 rfl (op_quo rfl rfl (by omega) (by omega) (by simp only [hi]; omega)) ?_
        refine .op1 rfl (op_as (by first | exact (rfl : _ = AV.int _ _) | exact (rfl : _ = AV.bool _) | exact (rfl : _ = AV.str _) | exact (rfl : _ = AV.sl _ _) | exact (rfl : _ = AV.row _ _) | exact (rfl : _ = AV.ptr _ _) | exact (rfl : _ = AV.tup _) | exact (rfl : _ = AV.agg _) | exact (rfl : _ = AV.fn _ _ _) | exact (rfl : _ = AV.nilp) | exact (rfl : _ = AV.mp _) | exact (rfl : _ = AV.vptr _) | exact (rfl : _ = AV.any))) ?_
        refine .nil ?_
        dsimp only [putA, List.set, av, List.getD_cons_zero, List.getD_cons_succ, avOf, avLeaf, cellsA, setR, D31, D53, D57, D69, D86, D95, List.take_succ_cons, List.take_zero, List.drop_succ_cons, List.drop_zero, List.length_cons, List.length_nil, List.nil_append, List.cons_append, Nat.reduceAdd, Nat.zero_add]
        rw [e1]
        refine .seq ?_
        refine .region rfl ?_
        refine .op1 rfl (op_mv (by first | exact (rfl : _ = AV.int _ _) | exact (rfl : _ = AV.bool _) | exact (rfl : _ = AV.str _) | exact (rfl : _ = AV.sl _ _) | exact (rfl : _ = AV.row _ _) | exact (rfl : _ = AV.ptr _ _) | exact (rfl : _ = AV.tup _) | exact (rfl : _ = AV.agg _) | exact (rfl : _ = AV.fn _ _ _) | exact (rfl : _ = AV.nilp) | exact (rfl : _ = AV.mp _) | exact (rfl : _ = AV.vptr _) | exact (rfl : _ = AV.any))) ?_
        refine .op1 rfl (op_quo rfl rfl (by omega) (by omega) (by simp only [hi]; omega)) ?_
        refine .op1 rfl (op_as (by first | exact (rfl : _ = AV.int _ _) | exact (rfl : _ = AV.bool _) | exact (rfl : _ = AV.str _) | exact (rfl : _ = AV.sl _ _) | exact (rfl : _ = AV.row _ _) | exact (rfl : _ = AV.ptr _ _) | exact (rfl : _ = AV.tup _) | exact (rfl : _ = AV.agg _) | exact (rfl : _ = AV.fn _ _ _) | exact (rfl : _ = AV.nilp) | exact (rfl : _ = AV.mp _) | exact (rfl : _ = AV.vptr _) | exact (rfl : _ = AV.any))) ?_
        refine .nil ?_
        dsimp only [putA, List.set, av, List.getD_cons_zero, List.getD_cons_succ, avOf, avLeaf, cellsA, setR, D31, D53, D57, D69, D86, D95, List.take_succ_cons, List.take_zero, List.drop_succ_cons, List.drop_zero, List.length_cons, List.length_nil, List.nil_append, List.cons_append, Nat.reduceAdd, Nat.zero_add]
        rw [e2]
        refine .seq ?_
        refine .region rfl ?_
        refine .op1 rfl (op_mv (by first | exact (rfl : _ = AV.int _ _) | exact (rfl : _ = AV.bool _) | exact (rfl : _ = AV.str _) | exact (rfl : _ = AV.sl _ _) | exact (rfl : _ = AV.row _ _) | exact (rfl : _ = AV.ptr _ _) | exact (rfl : _ = AV.tup _) | exact (rfl : _ = AV.agg _) | exact (rfl : _ = AV.fn _ _ _) | exact (rfl : _ = AV.nilp) | exact (rfl : _ = AV.mp _) | exact (rfl : _ = AV.vptr _) | exact (rfl : _ = AV.any))) ?_
        refine .op1 rfl (op_bin rfl rfl rfl) ?_
        refine .nil ?_
        dsimp only [putA, List.set, av, List.getD_cons_zero, List.getD_cons_succ, avOf, avLeaf, cellsA, setR, D31, D53, D57, D69, D86, D95, List.take_succ_cons, List.take_zero, List.drop_succ_cons, List.drop_zero, List.length_cons, List.length_nil, List.nil_append, List.cons_append, Nat.reduceAdd, Nat.zero_add]
        refine .cond rfl (fun h => ?_) (fun h => ?_)
        · have hb : (m ^^^ d) % 2 = 1 := by simp at h; omega
          have e3 : bitsI .xor .u32 ((m / 2 : Nat) : Int) 3988292384 = ((m / 2 ^^^ poly : Nat) : Int) := bits_xor (k := .u32) (b := poly) rfl (by show m / 2 < 2 ^ 32; omega) (by decide)
          have e4 : (m / 2 ^^^ poly) ^^^ (d / 2) = stp (m ^^^ d) := by
            unfold stp
            rw [if_pos hb, half_xor, Nat.xor_assoc, Nat.xor_comm poly, Nat.xor_assoc]
          refine .region rfl ?_
          refine .op1 rfl (op_mv (by first | exact (rfl : _ = AV.int _ _) | exact (rfl : _ = AV.bool _) | exact (rfl : _ = AV.str _) | exact (rfl : _ = AV.sl _ _) | exact (rfl : _ = AV.row _ _) | exact (rfl : _ = AV.ptr _ _) | exact (rfl : _ = AV.tup _) | exact (rfl : _ = AV.agg _) | exact (rfl : _ = AV.fn _ _ _) | exact (rfl : _ = AV.nilp) | exact (rfl : _ = AV.mp _) | exact (rfl : _ = AV.vptr _) | exact (rfl : _ = AV.any))) ?_
          refine .op1 rfl (op_bin rfl rfl rfl) ?_
          refine .op1 rfl (op_as (by first | exact (rfl : _ = AV.int _ _) | exact (rfl : _ = AV.bool _) | exact (rfl : _ = AV.str _) | exact (rfl : _ = AV.sl _ _) | exact (rfl : _ = AV.row _ _) | exact (rfl : _ = AV.ptr _ _) | exact (rfl : _ = AV.tup _) | exact (rfl : _ = AV.agg _) | exact (rfl : _ = AV.fn _ _ _) | exact (rfl : _ = AV.nilp) | exact (rfl : _ = AV.mp _) | exact (rfl : _ = AV.vptr _) | exact (rfl : _ = AV.any))) ?_
          refine .nil ?_
          dsimp only [putA, List.set, av, List.getD_cons_zero, List.getD_cons_succ, avOf, avLeaf, cellsA, setR, D31, D53, D57, D69, D86, D95, List.take_succ_cons, List.take_zero, List.drop_succ_cons, List.drop_zero, List.length_cons, List.length_nil, List.nil_append, List.cons_append, Nat.reduceAdd, Nat.zero_add]
          rw [e3]
          refine .inBlock ?_
          refine .region rfl ?_
          refine .op1 rfl (op_mv (by first | exact (rfl : _ = AV.int _ _) | exact (rfl : _ = AV.bool _) | exact (rfl : _ = AV.str _) | exact (rfl : _ = AV.sl _ _) | exact (rfl : _ = AV.row _ _) | exact (rfl : _ = AV.ptr _ _) | exact (rfl : _ = AV.tup _) | exact (rfl : _ = AV.agg _) | exact (rfl : _ = AV.fn _ _ _) | exact (rfl : _ = AV.nilp) | exact (rfl : _ = AV.mp _) | exact (rfl : _ = AV.vptr _) | exact (rfl : _ = AV.any))) ?_
          refine .op1 rfl (op_arith rfl rfl rfl (by simp only [lo]; omega) (by simp only [hi]; omega)) ?_
          refine .op1 rfl (op_as (by first | exact (rfl : _ = AV.int _ _) | exact (rfl : _ = AV.bool _) | exact (rfl : _ = AV.str _) | exact (rfl : _ = AV.sl _ _) | exact (rfl : _ = AV.row _ _) | exact (rfl : _ = AV.ptr _ _) | exact (rfl : _ = AV.tup _) | exact (rfl : _ = AV.agg _) | exact (rfl : _ = AV.fn _ _ _) | exact (rfl : _ = AV.nilp) | exact (rfl : _ = AV.mp _) | exact (rfl : _ = AV.vptr _) | exact (rfl : _ = AV.any))) ?_
          refine .nil ?_
          dsimp only [putA, List.set, av, List.getD_cons_zero, List.getD_cons_succ, avOf, avLeaf, cellsA, setR, D31, D53, D57, D69, D86, D95, List.take_succ_cons, List.take_zero, List.drop_succ_cons, List.drop_zero, List.length_cons, List.length_nil, List.nil_append, List.cons_append, Nat.reduceAdd, Nat.zero_add]
          refine .only (fun i => i == 0 || i == 3 || i == 4 || i == 5 || i == 6) ?_
          exact again2 (k + 1, m / 2 ^^^ poly, d / 2) ⟨by simp only; omega, Nat.xor_lt_two_pow (by omega) (by decide), hd2, by simp only; rw [e4]; exact hstep⟩ (by simp only; omega)
        · have hb : ¬ (m ^^^ d) % 2 = 1 := by simp at h; omega
          have e4 : (m / 2) ^^^ (d / 2) = stp (m ^^^ d) := by
            unfold stp
            rw [if_neg hb, half_xor]
          refine .skip ?_
          refine .inBlock ?_
          refine .region rfl ?_
          refine .op1 rfl (op_mv (by first | exact (rfl : _ = AV.int _ _) | exact (rfl : _ = AV.bool _) | exact (rfl : _ = AV.str _) | exact (rfl : _ = AV.sl _ _) | exact (rfl : _ = AV.row _ _) | exact (rfl : _ = AV.ptr _ _) | exact (rfl : _ = AV.tup _) | exact (rfl : _ = AV.agg _) | exact (rfl : _ = AV.fn _ _ _) | exact (rfl : _ = AV.nilp) | exact (rfl : _ = AV.mp _) | exact (rfl : _ = AV.vptr _) | exact (rfl : _ = AV.any))) ?_
          refine .op1 rfl (op_arith rfl rfl rfl (by simp only [lo]; omega) (by simp only [hi]; omega)) ?_
          refine .op1 rfl (op_as (by first | exact (rfl : _ = AV.int _ _) | exact (rfl : _ = AV.bool _) | exact (rfl : _ = AV.str _) | exact (rfl : _ = AV.sl _ _) | exact (rfl : _ = AV.row _ _) | exact (rfl : _ = AV.ptr _ _) | exact (rfl : _ = AV.tup _) | exact (rfl : _ = AV.agg _) | exact (rfl : _ = AV.fn _ _ _) | exact (rfl : _ = AV.nilp) | exact (rfl : _ = AV.mp _) | exact (rfl : _ = AV.vptr _) | exact (rfl : _ = AV.any))) ?_
          refine .nil ?_
          dsimp only [putA, List.set, av, List.getD_cons_zero, List.getD_cons_succ, avOf, avLeaf, cellsA, setR, D31, D53, D57, D69, D86, D95, List.take_succ_cons, List.take_zero, List.drop_succ_cons, List.drop_zero, List.length_cons, List.length_nil, List.nil_append, List.cons_append, Nat.reduceAdd, Nat.zero_add]
          refine .only (fun i => i == 0 || i == 3 || i == 4 || i == 5 || i == 6) ?_
          exact again2 (k + 1, m / 2, d / 2) ⟨by simp only; omega, by simp only; omega, hd2, by simp only; rw [e4]; exact hstep⟩ (by simp only; omega)
      · have hk : k = 8 := by simp at h; omega
        subst hk
        have hd0 : d = 0 := by simp at q3; omega
        subst hd0
        have hm : m = byteN n c.toNat := by rw [← q4]; simp [stpk]
        refine .exit rfl ?_
        refine .inBlock ?_
        refine .region rfl ?_
        refine .op1 rfl (op_mv (by first | exact (rfl : _ = AV.int _ _) | exact (rfl : _ = AV.bool _) | exact (rfl : _ = AV.str _) | exact (rfl : _ = AV.sl _ _) | exact (rfl : _ = AV.row _ _) | exact (rfl : _ = AV.ptr _ _) | exact (rfl : _ = AV.tup _) | exact (rfl : _ = AV.agg _) | exact (rfl : _ = AV.fn _ _ _) | exact (rfl : _ = AV.nilp) | exact (rfl : _ = AV.mp _) | exact (rfl : _ = AV.vptr _) | exact (rfl : _ = AV.any))) ?_
        refine .op1 rfl (op_arith rfl rfl rfl (by simp only [lo]; omega) (by simp only [hi]; omega)) ?_
        refine .op1 rfl (op_as (by first | exact (rfl : _ = AV.int _ _) | exact (rfl : _ = AV.bool _) | exact (rfl : _ = AV.str _) | exact (rfl : _ = AV.sl _ _) | exact (rfl : _ = AV.row _ _) | exact (rfl : _ = AV.ptr _ _) | exact (rfl : _ = AV.tup _) | exact (rfl : _ = AV.agg _) | exact (rfl : _ = AV.fn _ _ _) | exact (rfl : _ = AV.nilp) | exact (rfl : _ = AV.mp _) | exact (rfl : _ = AV.vptr _) | exact (rfl : _ = AV.any))) ?_
        refine .nil ?_
        dsimp only [putA, List.set, av, List.getD_cons_zero, List.getD_cons_succ, avOf, avLeaf, cellsA, setR, D31, D53, D57, D69, D86, D95, List.take_succ_cons, List.take_zero, List.drop_succ_cons, List.drop_zero, List.length_cons, List.length_nil, List.nil_append, List.cons_append, Nat.reduceAdd, Nat.zero_add]
        refine .only (fun i => i == 0 || i == 3 || i == 4) ?_
        refine again (i + 1, m) ⟨by simp only; omega, q2, ?_⟩ (by simp only; omega)
        simp only
        rw [hm, h3, List.take_add_one, hc]
        simp [moreN]
    · have hge : l.length ≤ i := by simp [bs_length] at h; omega
      refine .exit rfl ?_
      refine .seq ?_
      refine .region rfl ?_
      refine .op1 rfl (op_mv (by first | exact (rfl : _ = AV.int _ _) | exact (rfl : _ = AV.bool _) | exact (rfl : _ = AV.str _) | exact (rfl : _ = AV.sl _ _) | exact (rfl : _ = AV.row _ _) | exact (rfl : _ = AV.ptr _ _) | exact (rfl : _ = AV.tup _) | exact (rfl : _ = AV.agg _) | exact (rfl : _ = AV.fn _ _ _) | exact (rfl : _ = AV.nilp) | exact (rfl : _ = AV.mp _) | exact (rfl : _ = AV.vptr _) | exact (rfl : _ = AV.any))) ?_
      refine .op1 rfl (op_arith rfl rfl rfl (by simp only [lo]; omega) (by simp only [hi]; omega)) ?_
      refine .op1 rfl (op_as (by first | exact (rfl : _ = AV.int _ _) | exact (rfl : _ = AV.bool _) | exact (rfl : _ = AV.str _) | exact (rfl : _ = AV.sl _ _) | exact (rfl : _ = AV.row _ _) | exact (rfl : _ = AV.ptr _ _) | exact (rfl : _ = AV.tup _) | exact (rfl : _ = AV.agg _) | exact (rfl : _ = AV.fn _ _ _) | exact (rfl : _ = AV.nilp) | exact (rfl : _ = AV.mp _) | exact (rfl : _ = AV.vptr _) | exact (rfl : _ = AV.any))) ?_
      refine .nil ?_
      dsimp only [putA, List.set, av, List.getD_cons_zero, List.getD_cons_succ, avOf, avLeaf, cellsA, setR, D31, D53, D57, D69, D86, D95, List.take_succ_cons, List.take_zero, List.drop_succ_cons, List.drop_zero, List.length_cons, List.length_nil, List.nil_append, List.cons_append, Nat.reduceAdd, Nat.zero_add]
      refine .ret ?_
      refine ⟨_, _, _, .cons (.tmp _) .nil, .drop st.length (Nat.le_refl _) rfl (fun h => by simpa using h), by simp, ?_⟩
      have e : (4294967295 : Int) - n = ((crcN l : Nat) : Int) := by
        have : n = l.foldl (fun n c => byteN n c.toNat) 4294967295 := by rw [h3, List.take_of_length_le hge]; rfl
        unfold crcN
        rw [← this]
        omega
      show AV.int _ _ = _
      rw [e]
end Rm

namespace Rm
open Go

/-- A varint's value. -/
def vnum : List UInt8 → Nat
  | [] => 0
  | c :: r => c.toNat % 128 + 128 * vnum r
theorem vnum_snoc (a : List UInt8) (c : UInt8) : vnum (a ++ [c]) = vnum a + c.toNat % 128 * 128 ^ a.length := by
  induction a with
  | nil => simp [vnum]
  | cons x a ih =>
    simp only [List.cons_append, vnum, ih, List.length_cons, Nat.pow_succ, Nat.mul_add]
    rw [show c.toNat % 128 * (128 ^ a.length * 128) = 128 * (c.toNat % 128 * 128 ^ a.length) by
      rw [Nat.mul_comm (128 ^ a.length) 128, ← Nat.mul_assoc, ← Nat.mul_assoc, Nat.mul_comm _ 128]]
    omega
theorem vnum_lt : ∀ l : List UInt8, vnum l < 128 ^ l.length
  | [] => by simp [vnum]
  | c :: r => by
    have := vnum_lt r
    simp only [vnum, List.length_cons, Nat.pow_succ]
    omega
/-- Where a varint ends (how many bytes; the error). -/
def vscan (l : List UInt8) : Nat → Nat → Nat × Nat
  | 0, _ => (0, 4)
  | f + 1, i => match l[i]? with
    | none => (0, 3)
    | some c => if (i = 9 ∧ 1 < c.toNat) ∨ (0 < i ∧ c.toNat = 0) then (0, 4) else if c.toNat < 128 then (i + 1, 0) else vscan l f (i + 1)
/-- A varint: its value, its bytes, the error. -/
def varR (l : List UInt8) : Nat × Nat × Nat := if (vscan l 10 0).2 = 0 then (vnum (l.take (vscan l 10 0).1), (vscan l 10 0).1, 0) else (0, 0, (vscan l 10 0).2)

theorem vscan_ok (l : List UInt8) : ∀ f i n, f + i = 10 → vscan l f i = (n, 0) → i < n ∧ n ≤ 10 ∧ n ≤ l.length ∧ vnum (l.take n) < 2 ^ 64
  | 0, i, n, _, h => by simp [vscan] at h
  | f + 1, i, n, hf, h => by
    simp only [vscan] at h
    split at h
    · simp at h
    · rename_i c hc
      have hlt : i < l.length := (List.getElem?_eq_some_iff.1 hc).1
      split at h
      · simp at h
      · rename_i hn
        split at h
        · simp at h
          subst h
          refine ⟨by omega, by omega, by omega, ?_⟩
          rw [List.take_add_one, hc]
          have h1 := vnum_lt (l.take i)
          rw [List.length_take, Nat.min_eq_left (by omega)] at h1
          simp only [Option.toList_some]
          rw [vnum_snoc, List.length_take, Nat.min_eq_left (by omega)]
          rcases Nat.lt_or_ge i 9 with h9 | h9
          · have h2 : vnum (l.take i) + c.toNat % 128 * 128 ^ i < 128 ^ (i + 1) := by
              have h4 : c.toNat % 128 ≤ 127 := by omega
              have : c.toNat % 128 * 128 ^ i ≤ 127 * 128 ^ i := Nat.mul_le_mul_right _ h4
              rw [Nat.pow_succ]; omega
            exact Nat.lt_of_lt_of_le h2 (Nat.le_trans (Nat.pow_le_pow_right (by decide) (show i + 1 ≤ 9 by omega)) (by decide))
          · have : i = 9 := by omega
            subst this
            have : c.toNat % 128 ≤ 1 := by omega
            have : c.toNat % 128 * 128 ^ 9 ≤ 1 * 128 ^ 9 := Nat.mul_le_mul_right _ this
            omega
        · obtain ⟨h1, h2⟩ := vscan_ok l f (i + 1) n (by omega) h
          exact ⟨by omega, h2⟩
theorem vscan_err (l : List UInt8) : ∀ f i, (vscan l f i).2 = 0 ∨ ((vscan l f i).1 = 0 ∧ ((vscan l f i).2 = 3 ∨ (vscan l f i).2 = 4))
  | 0, i => by simp [vscan]
  | f + 1, i => by
    simp only [vscan]
    split
    · simp
    · split
      · simp
      · split
        · simp
        · exact vscan_err l f (i + 1)

/-- A number that is at most 2^31 - 1. -/
def intR (l : List UInt8) : Nat × Nat × Nat := if (varR l).2.2 ≠ 0 then (0, 0, (varR l).2.2) else if 2147483647 < (varR l).1 then (0, 0, 4) else ((varR l).1, (varR l).2.1, 0)

/-- A reader's state: how far it is, its error. Bytes. -/
def rB (b : List UInt8) (k : Int) (s : Nat × Nat) : List UInt8 × Nat × Nat :=
  if s.2 ≠ 0 then ([], s) else if k < 0 then ([], s.1, 4) else if ((b.length - s.1 : Nat) : Int) < k then ([], s.1, 3) else ((b.drop s.1).take k.toNat, s.1 + k.toNat, 0)
/-- A number. -/
def rI (b : List UInt8) (s : Nat × Nat) : Nat × Nat × Nat :=
  if s.2 ≠ 0 then (0, s) else if (intR (b.drop s.1)).2.2 ≠ 0 then (0, s.1, (intR (b.drop s.1)).2.2) else ((intR (b.drop s.1)).1, s.1 + (intR (b.drop s.1)).2.1, 0)

theorem varR_ok {l : List UInt8} (h : (varR l).2.2 = 0) : 0 < (varR l).2.1 ∧ (varR l).2.1 ≤ 10 ∧ (varR l).2.1 ≤ l.length ∧ (varR l).1 < 2 ^ 64 := by
  unfold varR at h ⊢
  split
  · rename_i h0
    obtain ⟨h1, h2, h3, h4⟩ := vscan_ok l 10 0 _ rfl (Prod.ext rfl h0)
    exact ⟨h1, h2, h3, h4⟩
  · rename_i h0
    rw [if_neg h0] at h
    exact absurd h h0
theorem varR_lt (l : List UInt8) : (varR l).1 < 2 ^ 64 := by
  by_cases h : (varR l).2.2 = 0
  · exact (varR_ok h).2.2.2
  · unfold varR at h ⊢
    split
    · rename_i h0; rw [if_pos h0] at h; exact absurd rfl h
    · exact Nat.two_pow_pos 64
theorem varR_err {l : List UInt8} (h : (varR l).2.2 ≠ 0) : (varR l).1 = 0 ∧ (varR l).2.1 = 0 ∧ ((varR l).2.2 = 3 ∨ (varR l).2.2 = 4) := by
  unfold varR at h ⊢
  split
  · rename_i h0; rw [if_pos h0] at h; exact absurd rfl h
  · rename_i h0
    rcases vscan_err l 10 0 with h1 | ⟨_, h1⟩
    · exact absurd h1 h0
    · exact ⟨rfl, rfl, h1⟩
theorem intR_ok {l : List UInt8} (h : (intR l).2.2 = 0) : 0 < (intR l).2.1 ∧ (intR l).2.1 ≤ 10 ∧ (intR l).2.1 ≤ l.length ∧ (intR l).1 ≤ 2147483647 := by
  unfold intR at h ⊢
  split
  · rename_i h0; rw [if_pos h0] at h; exact absurd h h0
  · rename_i h0
    rw [if_neg h0] at h
    split
    · rename_i h1; rw [if_pos h1] at h; simp at h
    · rename_i h1
      obtain ⟨q1, q2, q3, _⟩ := varR_ok (Decidable.not_not.1 h0)
      exact ⟨q1, q2, q3, by omega⟩
theorem intR_le (l : List UInt8) : (intR l).1 ≤ 2147483647 ∧ ((intR l).2.2 = 0 ∨ (intR l).2.2 = 3 ∨ (intR l).2.2 = 4) := by
  unfold intR
  split
  · rename_i h; exact ⟨Nat.zero_le _, .inr (varR_err h).2.2⟩
  · split
    · exact ⟨Nat.zero_le _, .inr (.inr rfl)⟩
    · exact ⟨by show (varR l).1 ≤ _; omega, .inl rfl⟩

/-- The reader stays among its bytes. -/
theorem rB_le {b : List UInt8} {k : Int} {s : Nat × Nat} (h : s.1 ≤ b.length) : (rB b k s).2.1 ≤ b.length ∧ s.1 ≤ (rB b k s).2.1 := by
  unfold rB
  split
  · exact ⟨h, Nat.le_refl _⟩
  · split
    · exact ⟨h, Nat.le_refl _⟩
    · split
      · exact ⟨h, Nat.le_refl _⟩
      · simp only; omega
theorem rB_err {b : List UInt8} {k : Int} {s : Nat × Nat} (h : s.2 ≤ 4) : (rB b k s).2.2 ≤ 4 := by
  unfold rB
  split
  · exact h
  · split
    · simp
    · split <;> simp
theorem rB_len {b : List UInt8} {k : Int} {s : Nat × Nat} : (rB b k s).1.length ≤ b.length - s.1 := by
  unfold rB
  split
  · simp
  · split
    · simp
    · split
      · simp
      · simp only [List.length_take, List.length_drop]; omega
theorem rI_le {b : List UInt8} {s : Nat × Nat} (h : s.1 ≤ b.length) : (rI b s).2.1 ≤ b.length ∧ s.1 ≤ (rI b s).2.1 := by
  unfold rI
  split
  · exact ⟨h, Nat.le_refl _⟩
  · split
    · exact ⟨h, Nat.le_refl _⟩
    · rename_i h1
      have := (intR_ok (Decidable.not_not.1 h1)).2.2.1
      rw [List.length_drop] at this
      simp only; omega
theorem rI_num {b : List UInt8} {s : Nat × Nat} : (rI b s).1 ≤ 2147483647 := by
  unfold rI
  split
  · simp
  · split
    · simp
    · exact (intR_le _).1
end Rm

namespace Rm
open Go Go.Proofs
open Go.RowKit

theorem c42 {S : List UInt8} {a e0 e : Int} : Ctr Tryd.prog mG 42 [] [.agg [.str S, .int .i64 a, .int .i64 e0], .int .i64 e] (fun st' r => st' = [] ∧ r = .agg [.str S, .int .i64 a, .int .i64 e]) := by
  refine Ctr.of_body (E := Ev) Tryd.func42 rfl ?_
  show AGo Ev _ _ [.agg [.str S, .int .i64 a, .int .i64 e0], .int .i64 e, .any, .any, .any, .any, .any, .any] _ _
  refine .seq ?_
  refine .region rfl ?_
  refine .op1 rfl (op_boxA rfl) ?_
  refine .op1 rfl (op_alloc (D := D57) rfl) ?_
  refine .nil ?_
  dsimp only [putA, List.set, av, List.getD_cons_zero, List.getD_cons_succ, avOf, avLeaf, cellsA, setR, D31, D53, D57, D69, D86, D95, List.take_succ_cons, List.take_zero, List.drop_succ_cons, List.drop_zero, List.length_cons, List.length_nil, List.nil_append, List.cons_append, Nat.reduceAdd, Nat.zero_add]
  refine .seq ?_
  refine .region rfl ?_
  refine .op1 rfl (op_mv (by first | exact (rfl : _ = AV.int _ _) | exact (rfl : _ = AV.bool _) | exact (rfl : _ = AV.str _) | exact (rfl : _ = AV.sl _ _) | exact (rfl : _ = AV.row _ _) | exact (rfl : _ = AV.ptr _ _) | exact (rfl : _ = AV.tup _) | exact (rfl : _ = AV.agg _) | exact (rfl : _ = AV.fn _ _ _) | exact (rfl : _ = AV.nilp) | exact (rfl : _ = AV.mp _) | exact (rfl : _ = AV.vptr _) | exact (rfl : _ = AV.any))) ?_
  refine .op1 rfl (op_fieldAddr rfl (D := D57) rfl rfl rfl rfl (by decide)) ?_
  refine .op1 rfl (op_store1 rfl rfl (D := D27) rfl (by first | exact (rfl : _ = AV.int _ _) | exact (rfl : _ = AV.bool _) | exact (rfl : _ = AV.str _) | exact (rfl : _ = AV.sl _ _) | exact (rfl : _ = AV.row _ _) | exact (rfl : _ = AV.ptr _ _) | exact (rfl : _ = AV.tup _) | exact (rfl : _ = AV.agg _) | exact (rfl : _ = AV.fn _ _ _) | exact (rfl : _ = AV.nilp) | exact (rfl : _ = AV.mp _) | exact (rfl : _ = AV.vptr _) | exact (rfl : _ = AV.any)) rfl rfl (Nat.le_of_ble_eq_true rfl) rfl) ?_
  refine .nil ?_
  dsimp only [putA, List.set, av, List.getD_cons_zero, List.getD_cons_succ, avOf, avLeaf, cellsA, setR, D31, D53, D57, D69, D86, D95, List.take_succ_cons, List.take_zero, List.drop_succ_cons, List.drop_zero, List.length_cons, List.length_nil, List.nil_append, List.cons_append, Nat.reduceAdd, Nat.zero_add]
  refine .seq ?_
  refine .region rfl ?_
  refine .op1 rfl (op_load_agg rfl rfl (D := D57) rfl rfl (Nat.le_of_ble_eq_true rfl) rfl) ?_
  refine .op1 rfl (op_storeA rfl rfl (D := D57) rfl rfl rfl rfl rfl) ?_
  refine .nil ?_
  dsimp only [putA, List.set, av, List.getD_cons_zero, List.getD_cons_succ, avOf, avLeaf, cellsA, setR, D31, D53, D57, D69, D86, D95, List.take_succ_cons, List.take_zero, List.drop_succ_cons, List.drop_zero, List.length_cons, List.length_nil, List.nil_append, List.cons_append, Nat.reduceAdd, Nat.zero_add]
  refine .ret ?_
  exact ⟨_, _, _, .cons (.cells _ _ 1 0 _ _ D57 rfl rfl rfl rfl (Nat.le_of_ble_eq_true rfl) rfl) .nil, .drop 0 (Nat.le_refl _) rfl (fun _ => rfl), rfl, rfl⟩

theorem c43 {S : List UInt8} {a n : Nat} {e : Int} (h1 : n ≤ S.length) (h2 : a + n < 2 ^ 62) : Ctr Tryd.prog mG 43 [] [.agg [.str S, .int .i64 a, .int .i64 e], .int .i64 n] (fun st' r => st' = [] ∧ r = .agg [.str (S.drop n), .int .i64 ((a + n : Nat) : Int), .int .i64 e]) := by
  refine Ctr.of_body (E := Ev) Tryd.func43 rfl ?_
  show AGo Ev _ _ [.agg [.str S, .int .i64 a, .int .i64 e], .int .i64 n, .any, .any, .any, .any, .any, .any, .any, .any, .any, .any, .any, .any, .any, .any] _ _
  refine .seq ?_
  refine .region rfl ?_
  refine .op1 rfl (op_boxA rfl) ?_
  refine .op1 rfl (op_alloc (D := D57) rfl) ?_
  refine .nil ?_
  dsimp only [putA, List.set, av, List.getD_cons_zero, List.getD_cons_succ, avOf, avLeaf, cellsA, setR, D31, D53, D57, D69, D86, D95, List.take_succ_cons, List.take_zero, List.drop_succ_cons, List.drop_zero, List.length_cons, List.length_nil, List.nil_append, List.cons_append, Nat.reduceAdd, Nat.zero_add]
  refine .seq ?_
  refine .drawn [11] rfl (by decide) (by decide +kernel) ?_
  refine .pures rfl rfl (fun _ => (op_fieldAddr rfl (D := D57) rfl rfl rfl rfl (by decide))) ?_
  refine .pureAt 0 rfl rfl (by decide +kernel) rfl (op_load rfl rfl (D := D9) rfl rfl rfl) ?_
  refine .pures rfl rfl (fun _ => (op_mv (by first | exact (rfl : _ = AV.int _ _) | exact (rfl : _ = AV.bool _) | exact (rfl : _ = AV.str _) | exact (rfl : _ = AV.sl _ _) | exact (rfl : _ = AV.row _ _) | exact (rfl : _ = AV.ptr _ _) | exact (rfl : _ = AV.tup _) | exact (rfl : _ = AV.agg _) | exact (rfl : _ = AV.fn _ _ _) | exact (rfl : _ = AV.nilp) | exact (rfl : _ = AV.mp _) | exact (rfl : _ = AV.vptr _) | exact (rfl : _ = AV.any)))) ?_
  refine .pures rfl rfl (fun _ => (op_sliceStr (ln := n) (hn := S.length) rfl (S := D9) rfl rfl (.inr ⟨_, _, _, rfl, rfl, by omega, by omega⟩) (.inl ⟨rfl, rfl⟩) h1 (Nat.le_refl _) (r := S.drop n) (by simp))) ?_
  refine .pures rfl rfl (fun _ => (op_fieldAddr rfl (D := D57) rfl rfl rfl rfl (by decide))) ?_
  refine .pureAt 0 rfl rfl (by decide +kernel) rfl (op_load rfl rfl (D := D3) rfl rfl rfl) ?_
  refine .pures rfl rfl (fun _ => (op_mv (by first | exact (rfl : _ = AV.int _ _) | exact (rfl : _ = AV.bool _) | exact (rfl : _ = AV.str _) | exact (rfl : _ = AV.sl _ _) | exact (rfl : _ = AV.row _ _) | exact (rfl : _ = AV.ptr _ _) | exact (rfl : _ = AV.tup _) | exact (rfl : _ = AV.agg _) | exact (rfl : _ = AV.fn _ _ _) | exact (rfl : _ = AV.nilp) | exact (rfl : _ = AV.mp _) | exact (rfl : _ = AV.vptr _) | exact (rfl : _ = AV.any)))) ?_
  refine .pures rfl rfl (fun _ => (op_arith rfl rfl rfl (by simp only [lo]; omega) (by simp only [hi]; omega))) ?_
  refine .pures rfl rfl (fun _ => (op_fieldAddr rfl (D := D57) rfl rfl rfl rfl (by decide))) ?_
  refine .pureAt 0 rfl rfl (by decide +kernel) rfl (op_load rfl rfl (D := D27) rfl rfl rfl) ?_
  refine .pures rfl rfl (fun _ => (op_build1 (D := D57) rfl rfl pl57 (vs := [(0, .str (S.drop n)), (1, .int .i64 (a + n)), (2, .int .i64 e)]) rfl rfl)) ?_
  refine .eff 0 rfl rfl rfl rfl (op_storeA rfl rfl (D := D57) rfl rfl rfl rfl rfl) ?_
  refine .nil rfl rfl ?_
  dsimp only [putA, List.set, av, List.getD_cons_zero, List.getD_cons_succ, avOf, avLeaf, cellsA, setR, D31, D53, D57, D69, D86, D95, List.take_succ_cons, List.take_zero, List.drop_succ_cons, List.drop_zero, List.length_cons, List.length_nil, List.nil_append, List.cons_append, Nat.reduceAdd, Nat.zero_add]
  refine .ret ?_
  exact ⟨_, _, _, .cons (.cells _ _ 1 0 _ _ D57 rfl rfl rfl rfl (Nat.le_of_ble_eq_true rfl) rfl) .nil, .drop 0 (Nat.le_refl _) rfl (fun _ => rfl), rfl, by simp [packA, D57]⟩

theorem c24 {b : List UInt8} {a e : Nat} {k : Int} (ha : a ≤ b.length) (hb : b.length ≤ 1000000) : Ctr Tryd.prog mG 24 [] [.agg [.str (b.drop a), .int .i64 a, .int .i64 e], .int .i64 k] (fun st' r => st' = [] ∧ r = .tup [.str (rB b k (a, e)).1, .agg [.str (b.drop (rB b k (a, e)).2.1), .int .i64 (rB b k (a, e)).2.1, .int .i64 (rB b k (a, e)).2.2]]) := by
  refine Ctr.of_body (E := Ev) Tryd.func24 rfl ?_
  show AGo Ev _ _ [.agg [.str (b.drop a), .int .i64 a, .int .i64 e], .int .i64 k, .any, .any, .any, .any, .any, .any, .any, .any, .any, .any, .any, .any, .any, .any, .any, .any, .any, .any, .any, .any, .any, .any, .any, .any, .any, .any] _ _
  refine .seq ?_
  refine .region rfl ?_
  refine .op1 rfl (op_boxA rfl) ?_
  refine .op1 rfl (op_as (by first | exact (rfl : _ = AV.int _ _) | exact (rfl : _ = AV.bool _) | exact (rfl : _ = AV.str _) | exact (rfl : _ = AV.sl _ _) | exact (rfl : _ = AV.row _ _) | exact (rfl : _ = AV.ptr _ _) | exact (rfl : _ = AV.tup _) | exact (rfl : _ = AV.agg _) | exact (rfl : _ = AV.fn _ _ _) | exact (rfl : _ = AV.nilp) | exact (rfl : _ = AV.mp _) | exact (rfl : _ = AV.vptr _) | exact (rfl : _ = AV.any))) ?_
  refine .op1 rfl (op_alloc (D := D57) rfl) ?_
  refine .nil ?_
  dsimp only [putA, List.set, av, List.getD_cons_zero, List.getD_cons_succ, avOf, avLeaf, cellsA, setR, D31, D53, D57, D69, D86, D95, List.take_succ_cons, List.take_zero, List.drop_succ_cons, List.drop_zero, List.length_cons, List.length_nil, List.nil_append, List.cons_append, Nat.reduceAdd, Nat.zero_add]
  refine .seq ?_
  refine .seq ?_
  refine .region rfl ?_
  refine .op1 rfl (op_fieldAddr rfl (D := D57) rfl rfl rfl rfl (by decide)) ?_
  refine .op1 rfl (op_load rfl rfl (D := D27) rfl rfl rfl) ?_
  refine .op1 rfl (op_bin rfl rfl rfl) ?_
  refine .nil ?_
  dsimp only [putA, List.set, av, List.getD_cons_zero, List.getD_cons_succ, avOf, avLeaf, cellsA, setR, D31, D53, D57, D69, D86, D95, List.take_succ_cons, List.take_zero, List.drop_succ_cons, List.drop_zero, List.length_cons, List.length_nil, List.nil_append, List.cons_append, Nat.reduceAdd, Nat.zero_add]
  refine .cond rfl (fun h => ?_) (fun h => ?_)   -- t8
  · have he : e ≠ 0 := by simp at h; omega
    refine .seq ?_
    refine .drawn [2] rfl (by decide) (by decide +kernel) ?_
    refine .pureAt 0 rfl rfl (by decide +kernel) rfl (op_load_agg rfl rfl (D := D57) rfl rfl (Nat.le_of_ble_eq_true rfl) rfl) ?_
    refine .pures rfl rfl (fun _ => (op_as (by first | exact (rfl : _ = AV.int _ _) | exact (rfl : _ = AV.bool _) | exact (rfl : _ = AV.str _) | exact (rfl : _ = AV.sl _ _) | exact (rfl : _ = AV.row _ _) | exact (rfl : _ = AV.ptr _ _) | exact (rfl : _ = AV.tup _) | exact (rfl : _ = AV.agg _) | exact (rfl : _ = AV.fn _ _ _) | exact (rfl : _ = AV.nilp) | exact (rfl : _ = AV.mp _) | exact (rfl : _ = AV.vptr _) | exact (rfl : _ = AV.any)))) ?_
    refine .eff 0 rfl rfl rfl rfl (op_storeA rfl rfl (D := D57) rfl rfl rfl rfl rfl) ?_
    refine .nil rfl rfl ?_
    dsimp only [putA, List.set, av, List.getD_cons_zero, List.getD_cons_succ, avOf, avLeaf, cellsA, setR, D31, D53, D57, D69, D86, D95, List.take_succ_cons, List.take_zero, List.drop_succ_cons, List.drop_zero, List.length_cons, List.length_nil, List.nil_append, List.cons_append, Nat.reduceAdd, Nat.zero_add]
    refine .ret ?_
    refine ⟨_, _, _, .cons (.tmp _) (.cons (.cells _ _ 1 0 _ _ D57 rfl rfl rfl rfl (Nat.le_of_ble_eq_true rfl) rfl) .nil), .drop 0 (Nat.le_refl _) rfl (fun _ => rfl), rfl, ?_⟩
    simp [rB, he, packA, D57]
  · have he : e = 0 := by simp at h; omega
    subst he
    refine .skip ?_
    refine .seq ?_
    refine .seq ?_
    refine .region rfl ?_
    refine .op1 rfl (op_mv (by first | exact (rfl : _ = AV.int _ _) | exact (rfl : _ = AV.bool _) | exact (rfl : _ = AV.str _) | exact (rfl : _ = AV.sl _ _) | exact (rfl : _ = AV.row _ _) | exact (rfl : _ = AV.ptr _ _) | exact (rfl : _ = AV.tup _) | exact (rfl : _ = AV.agg _) | exact (rfl : _ = AV.fn _ _ _) | exact (rfl : _ = AV.nilp) | exact (rfl : _ = AV.mp _) | exact (rfl : _ = AV.vptr _) | exact (rfl : _ = AV.any))) ?_
    refine .op1 rfl (op_bin rfl rfl rfl) ?_
    refine .nil ?_
    dsimp only [putA, List.set, av, List.getD_cons_zero, List.getD_cons_succ, avOf, avLeaf, cellsA, setR, D31, D53, D57, D69, D86, D95, List.take_succ_cons, List.take_zero, List.drop_succ_cons, List.drop_zero, List.length_cons, List.length_nil, List.nil_append, List.cons_append, Nat.reduceAdd, Nat.zero_add]
    refine .cond rfl (fun h => ?_) (fun h => ?_)   -- t11
    · have hk : k < 0 := by simpa using h
      refine .seq ?_
      refine .region rfl ?_
      refine .op1 rfl (op_load_agg rfl rfl (D := D57) rfl rfl (Nat.le_of_ble_eq_true rfl) rfl) ?_
      refine .op1 rfl (op_callP Tryd.func42 rfl rfl rfl rfl rfl c42 rfl) ?_
      refine .op1 rfl (op_as (by first | exact (rfl : _ = AV.int _ _) | exact (rfl : _ = AV.bool _) | exact (rfl : _ = AV.str _) | exact (rfl : _ = AV.sl _ _) | exact (rfl : _ = AV.row _ _) | exact (rfl : _ = AV.ptr _ _) | exact (rfl : _ = AV.tup _) | exact (rfl : _ = AV.agg _) | exact (rfl : _ = AV.fn _ _ _) | exact (rfl : _ = AV.nilp) | exact (rfl : _ = AV.mp _) | exact (rfl : _ = AV.vptr _) | exact (rfl : _ = AV.any))) ?_
      refine .op1 rfl (op_storeA rfl rfl (D := D57) rfl rfl rfl rfl rfl) ?_
      refine .nil ?_
      dsimp only [putA, List.set, av, List.getD_cons_zero, List.getD_cons_succ, avOf, avLeaf, cellsA, setR, D31, D53, D57, D69, D86, D95, List.take_succ_cons, List.take_zero, List.drop_succ_cons, List.drop_zero, List.length_cons, List.length_nil, List.nil_append, List.cons_append, Nat.reduceAdd, Nat.zero_add]
      refine .ret ?_
      refine ⟨_, _, _, .cons (.tmp _) (.cons (.cells _ _ 1 0 _ _ D57 rfl rfl rfl rfl (Nat.le_of_ble_eq_true rfl) rfl) .nil), .drop 0 (Nat.le_refl _) rfl (fun _ => rfl), rfl, ?_⟩
      simp [rB, hk, packA, D57]
    · have hk : ¬ k < 0 := by simpa using h
      obtain ⟨n, rfl⟩ : ∃ n : Nat, k = n := ⟨k.toNat, by omega⟩
      refine .skip ?_
      refine .seq ?_
      refine .seq ?_
      refine .region rfl ?_
      refine .op1 rfl (op_mv (by first | exact (rfl : _ = AV.int _ _) | exact (rfl : _ = AV.bool _) | exact (rfl : _ = AV.str _) | exact (rfl : _ = AV.sl _ _) | exact (rfl : _ = AV.row _ _) | exact (rfl : _ = AV.ptr _ _) | exact (rfl : _ = AV.tup _) | exact (rfl : _ = AV.agg _) | exact (rfl : _ = AV.fn _ _ _) | exact (rfl : _ = AV.nilp) | exact (rfl : _ = AV.mp _) | exact (rfl : _ = AV.vptr _) | exact (rfl : _ = AV.any))) ?_
      refine .op1 rfl (op_fieldAddr rfl (D := D57) rfl rfl rfl rfl (by decide)) ?_
      refine .op1 rfl (op_load rfl rfl (D := D9) rfl rfl rfl) ?_
      refine .op1 rfl (op_lenStr rfl (S := D9) rfl rfl) ?_
      refine .op1 rfl (op_bin rfl rfl rfl) ?_
      refine .nil ?_
      dsimp only [putA, List.set, av, List.getD_cons_zero, List.getD_cons_succ, avOf, avLeaf, cellsA, setR, D31, D53, D57, D69, D86, D95, List.take_succ_cons, List.take_zero, List.drop_succ_cons, List.drop_zero, List.length_cons, List.length_nil, List.nil_append, List.cons_append, Nat.reduceAdd, Nat.zero_add]
      refine .cond rfl (fun h => ?_) (fun h => ?_)   -- t18
      · have hn : b.length - a < n := by simp at h; omega
        refine .seq ?_
        refine .region rfl ?_
        refine .op1 rfl (op_load_agg rfl rfl (D := D57) rfl rfl (Nat.le_of_ble_eq_true rfl) rfl) ?_
        refine .op1 rfl (op_callP Tryd.func42 rfl rfl rfl rfl rfl c42 rfl) ?_
        refine .op1 rfl (op_as (by first | exact (rfl : _ = AV.int _ _) | exact (rfl : _ = AV.bool _) | exact (rfl : _ = AV.str _) | exact (rfl : _ = AV.sl _ _) | exact (rfl : _ = AV.row _ _) | exact (rfl : _ = AV.ptr _ _) | exact (rfl : _ = AV.tup _) | exact (rfl : _ = AV.agg _) | exact (rfl : _ = AV.fn _ _ _) | exact (rfl : _ = AV.nilp) | exact (rfl : _ = AV.mp _) | exact (rfl : _ = AV.vptr _) | exact (rfl : _ = AV.any))) ?_
        refine .op1 rfl (op_storeA rfl rfl (D := D57) rfl rfl rfl rfl rfl) ?_
        refine .nil ?_
        dsimp only [putA, List.set, av, List.getD_cons_zero, List.getD_cons_succ, avOf, avLeaf, cellsA, setR, D31, D53, D57, D69, D86, D95, List.take_succ_cons, List.take_zero, List.drop_succ_cons, List.drop_zero, List.length_cons, List.length_nil, List.nil_append, List.cons_append, Nat.reduceAdd, Nat.zero_add]
        refine .ret ?_
        refine ⟨_, _, _, .cons (.tmp _) (.cons (.cells _ _ 1 0 _ _ D57 rfl rfl rfl rfl (Nat.le_of_ble_eq_true rfl) rfl) .nil), .drop 0 (Nat.le_refl _) rfl (fun _ => rfl), rfl, ?_⟩
        simp [rB, hn, hk, packA, D57]
      · have hn : ¬ b.length - a < n := by simp at h; omega
        have hn2 : n ≤ (b.drop a).length := by simp; omega
        refine .skip ?_
        refine .seq ?_
        refine .drawn [8] rfl (by decide) (by decide +kernel) ?_
        refine .pures rfl rfl (fun _ => (op_fieldAddr rfl (D := D57) rfl rfl rfl rfl (by decide))) ?_
        refine .pureAt 0 rfl rfl (by decide +kernel) rfl (op_load rfl rfl (D := D9) rfl rfl rfl) ?_
        refine .pures rfl rfl (fun _ => (op_mv (by first | exact (rfl : _ = AV.int _ _) | exact (rfl : _ = AV.bool _) | exact (rfl : _ = AV.str _) | exact (rfl : _ = AV.sl _ _) | exact (rfl : _ = AV.row _ _) | exact (rfl : _ = AV.ptr _ _) | exact (rfl : _ = AV.tup _) | exact (rfl : _ = AV.agg _) | exact (rfl : _ = AV.fn _ _ _) | exact (rfl : _ = AV.nilp) | exact (rfl : _ = AV.mp _) | exact (rfl : _ = AV.vptr _) | exact (rfl : _ = AV.any)))) ?_
        refine .pures rfl rfl (fun _ => (op_sliceStr (ln := 0) (hn := n) rfl (S := D9) rfl rfl (.inl ⟨rfl, rfl⟩) (.inr ⟨_, _, _, rfl, rfl, by omega, by omega⟩) (Nat.zero_le _) hn2 (r := (b.drop a).take n) (by simp))) ?_
        refine .pureAt 0 rfl rfl (by decide +kernel) rfl (op_load_agg rfl rfl (D := D57) rfl rfl (Nat.le_of_ble_eq_true rfl) rfl) ?_
        refine .pures rfl rfl (fun _ => (op_mv (by first | exact (rfl : _ = AV.int _ _) | exact (rfl : _ = AV.bool _) | exact (rfl : _ = AV.str _) | exact (rfl : _ = AV.sl _ _) | exact (rfl : _ = AV.row _ _) | exact (rfl : _ = AV.ptr _ _) | exact (rfl : _ = AV.tup _) | exact (rfl : _ = AV.agg _) | exact (rfl : _ = AV.fn _ _ _) | exact (rfl : _ = AV.nilp) | exact (rfl : _ = AV.mp _) | exact (rfl : _ = AV.vptr _) | exact (rfl : _ = AV.any)))) ?_
        refine .pureAt 0 rfl rfl (by decide +kernel) rfl (op_callP Tryd.func43 rfl rfl rfl rfl rfl (c43 hn2 (by omega)) rfl) ?_
        refine .pures rfl rfl (fun _ => (op_as (by first | exact (rfl : _ = AV.int _ _) | exact (rfl : _ = AV.bool _) | exact (rfl : _ = AV.str _) | exact (rfl : _ = AV.sl _ _) | exact (rfl : _ = AV.row _ _) | exact (rfl : _ = AV.ptr _ _) | exact (rfl : _ = AV.tup _) | exact (rfl : _ = AV.agg _) | exact (rfl : _ = AV.fn _ _ _) | exact (rfl : _ = AV.nilp) | exact (rfl : _ = AV.mp _) | exact (rfl : _ = AV.vptr _) | exact (rfl : _ = AV.any)))) ?_
        refine .eff 0 rfl rfl rfl rfl (op_storeA rfl rfl (D := D57) rfl rfl rfl rfl rfl) ?_
        refine .nil rfl rfl ?_
        dsimp only [putA, List.set, av, List.getD_cons_zero, List.getD_cons_succ, avOf, avLeaf, cellsA, setR, D31, D53, D57, D69, D86, D95, List.take_succ_cons, List.take_zero, List.drop_succ_cons, List.drop_zero, List.length_cons, List.length_nil, List.nil_append, List.cons_append, Nat.reduceAdd, Nat.zero_add]
        refine .ret ?_
        refine ⟨_, _, _, .cons (.tmp _) (.cons (.cells _ _ 1 0 _ _ D57 rfl rfl rfl rfl (Nat.le_of_ble_eq_true rfl) rfl) .nil), .drop 0 (Nat.le_refl _) rfl (fun _ => rfl), rfl, ?_⟩
        have e1 : (rB b (n : Int) (a, 0)) = ((b.drop a).take n, a + n, 0) := by
          unfold rB
          rw [if_neg (by simp), if_neg hk, if_neg (by simp only; omega)]
          simp
        rw [e1]
        simp [packA, D57]
end Rm

namespace Rm
open Go Go.Proofs
open Go.RowKit
set_option maxHeartbeats 4000000

theorem vnum_drop {l : List UInt8} {n j : Nat} {c : UInt8} (hj : j < n) (hc : l[j]? = some c) : vnum ((l.take n).drop j) = c.toNat % 128 + 128 * vnum ((l.take n).drop (j + 1)) := by
  have hlt := (List.getElem?_eq_some_iff.1 hc).1
  have he := (List.getElem?_eq_some_iff.1 hc).2
  have h1 : j < (l.take n).length := by simp; omega
  rw [List.drop_eq_getElem_cons h1]
  simp only [vnum, List.getElem_take, he]
theorem vnum_drop_le {l : List UInt8} (j : Nat) : vnum (l.drop j) ≤ vnum l := by
  induction j generalizing l with
  | zero => simp
  | succ j ih =>
    cases l with
    | nil => simp
    | cons c r =>
      have := ih (l := r)
      simp only [List.drop_succ_cons, vnum]
      omega

theorem vscan_zero (l : List UInt8) (i : Nat) : vscan l 0 i = (0, 4) := rfl
theorem vscan_succ (l : List UInt8) (f i : Nat) : vscan l (f + 1) i = match l[i]? with
    | none => (0, 3)
    | some c => if (i = 9 ∧ 1 < c.toNat) ∨ (0 < i ∧ c.toNat = 0) then (0, 4) else if c.toNat < 128 then (i + 1, 0) else vscan l f (i + 1) := rfl
theorem c44 {l : List UInt8} (_hl : l.length ≤ 1000000) : Ctr Tryd.prog mG 44 [] [.str l] (fun st' r => st' = [] ∧ r = .tup [.int .u64 (varR l).1, .int .i64 (varR l).2.1, .int .i64 (varR l).2.2]) := by
  refine Ctr.of_body (E := Ev) Tryd.func44 rfl ?_
  show AGo Ev _ _ [.str l, .any, .any, .any, .any, .any, .any, .any, .any, .any, .any, .any, .any, .any, .any, .any, .any, .any, .any, .any, .any, .any, .any, .any, .any, .any, .any, .any, .any, .any, .any, .any, .any, .any, .any, .any, .any, .any, .any, .any, .any, .any, .any, .any, .any, .any, .any, .any, .any, .any, .any, .any, .any, .any, .any] _ _
  refine .seq ?_
  refine .region rfl ?_
  refine .op1 rfl (op_as (by first | exact (rfl : _ = AV.int _ _) | exact (rfl : _ = AV.bool _) | exact (rfl : _ = AV.str _) | exact (rfl : _ = AV.sl _ _) | exact (rfl : _ = AV.row _ _) | exact (rfl : _ = AV.ptr _ _) | exact (rfl : _ = AV.tup _) | exact (rfl : _ = AV.agg _) | exact (rfl : _ = AV.fn _ _ _) | exact (rfl : _ = AV.nilp) | exact (rfl : _ = AV.mp _) | exact (rfl : _ = AV.vptr _) | exact (rfl : _ = AV.any))) ?_
  refine .op1 rfl (op_as (by first | exact (rfl : _ = AV.int _ _) | exact (rfl : _ = AV.bool _) | exact (rfl : _ = AV.str _) | exact (rfl : _ = AV.sl _ _) | exact (rfl : _ = AV.row _ _) | exact (rfl : _ = AV.ptr _ _) | exact (rfl : _ = AV.tup _) | exact (rfl : _ = AV.agg _) | exact (rfl : _ = AV.fn _ _ _) | exact (rfl : _ = AV.nilp) | exact (rfl : _ = AV.mp _) | exact (rfl : _ = AV.vptr _) | exact (rfl : _ = AV.any))) ?_
  refine .op1 rfl (op_as (by first | exact (rfl : _ = AV.int _ _) | exact (rfl : _ = AV.bool _) | exact (rfl : _ = AV.str _) | exact (rfl : _ = AV.sl _ _) | exact (rfl : _ = AV.row _ _) | exact (rfl : _ = AV.ptr _ _) | exact (rfl : _ = AV.tup _) | exact (rfl : _ = AV.agg _) | exact (rfl : _ = AV.fn _ _ _) | exact (rfl : _ = AV.nilp) | exact (rfl : _ = AV.mp _) | exact (rfl : _ = AV.vptr _) | exact (rfl : _ = AV.any))) ?_
  refine .nil ?_
  dsimp only [putA, List.set, av, List.getD_cons_zero, List.getD_cons_succ, avOf, avLeaf, cellsA, setR, D31, D53, D57, D69, D86, D95, List.take_succ_cons, List.take_zero, List.drop_succ_cons, List.drop_zero, List.length_cons, List.length_nil, List.nil_append, List.cons_append, Nat.reduceAdd, Nat.zero_add]
  refine .seq ?_
  refine .seq ?_
  refine .region rfl ?_
  refine .op1 rfl (op_as (by first | exact (rfl : _ = AV.int _ _) | exact (rfl : _ = AV.bool _) | exact (rfl : _ = AV.str _) | exact (rfl : _ = AV.sl _ _) | exact (rfl : _ = AV.row _ _) | exact (rfl : _ = AV.ptr _ _) | exact (rfl : _ = AV.tup _) | exact (rfl : _ = AV.agg _) | exact (rfl : _ = AV.fn _ _ _) | exact (rfl : _ = AV.nilp) | exact (rfl : _ = AV.mp _) | exact (rfl : _ = AV.vptr _) | exact (rfl : _ = AV.any))) ?_
  refine .nil ?_
  dsimp only [putA, List.set, av, List.getD_cons_zero, List.getD_cons_succ, avOf, avLeaf, cellsA, setR, D31, D53, D57, D69, D86, D95, List.take_succ_cons, List.take_zero, List.drop_succ_cons, List.drop_zero, List.length_cons, List.length_nil, List.nil_append, List.cons_append, Nat.reduceAdd, Nat.zero_add]
  refine .block ?_
  refine .only (fun i => i == 0 || i == 5) ?_
  refine .loop (σ := Nat) 0 (fun i => i ≤ 10 ∧ vscan l (10 - i) i = vscan l 10 0) (fun i => 10 - i) (fun i => [.str l, .any, .any, .any, .any, .int .i64 ((i + 1 : Nat) : Int), .any, .any, .any, .any, .any, .any, .any, .any, .any, .any, .any, .any, .any, .any, .any, .any, .any, .any, .any, .any, .any, .any, .any, .any, .any, .any, .any, .any, .any, .any, .any, .any, .any, .any, .any, .any, .any, .any, .any, .any, .any, .any, .any, .any, .any, .any, .any, .any, .any]) (fun _ => []) ⟨Nat.zero_le _, rfl⟩ rfl rfl ?_
  rintro i ⟨hle10, hv⟩ again
  dsimp only at hle10 hv again ⊢
  refine .seq ?_
  refine .seq ?_
  refine .region rfl ?_
  refine .op1 rfl (op_mv (by first | exact (rfl : _ = AV.int _ _) | exact (rfl : _ = AV.bool _) | exact (rfl : _ = AV.str _) | exact (rfl : _ = AV.sl _ _) | exact (rfl : _ = AV.row _ _) | exact (rfl : _ = AV.ptr _ _) | exact (rfl : _ = AV.tup _) | exact (rfl : _ = AV.agg _) | exact (rfl : _ = AV.fn _ _ _) | exact (rfl : _ = AV.nilp) | exact (rfl : _ = AV.mp _) | exact (rfl : _ = AV.vptr _) | exact (rfl : _ = AV.any))) ?_
  refine .op1 rfl (op_bin rfl rfl rfl) ?_
  refine .nil ?_
  dsimp only [putA, List.set, av, List.getD_cons_zero, List.getD_cons_succ, avOf, avLeaf, cellsA, setR, D31, D53, D57, D69, D86, D95, List.take_succ_cons, List.take_zero, List.drop_succ_cons, List.drop_zero, List.length_cons, List.length_nil, List.nil_append, List.cons_append, Nat.reduceAdd, Nat.zero_add]
  refine .cond rfl (fun h => ?_) (fun h => ?_)   -- t9
  · have hi10 : i < 10 := by simp at h; omega
    obtain ⟨f, hf⟩ : ∃ f, 10 - i = f + 1 := ⟨9 - i, by omega⟩
    rw [hf, vscan_succ l f i] at hv
    refine .skip ?_
    refine .seq ?_
    refine .block ?_
    refine .seq ?_
    refine .seq ?_
    refine .region rfl ?_
    refine .op1 rfl (op_mv (by first | exact (rfl : _ = AV.int _ _) | exact (rfl : _ = AV.bool _) | exact (rfl : _ = AV.str _) | exact (rfl : _ = AV.sl _ _) | exact (rfl : _ = AV.row _ _) | exact (rfl : _ = AV.ptr _ _) | exact (rfl : _ = AV.tup _) | exact (rfl : _ = AV.agg _) | exact (rfl : _ = AV.fn _ _ _) | exact (rfl : _ = AV.nilp) | exact (rfl : _ = AV.mp _) | exact (rfl : _ = AV.vptr _) | exact (rfl : _ = AV.any))) ?_
    refine .op1 rfl (op_mv (by first | exact (rfl : _ = AV.int _ _) | exact (rfl : _ = AV.bool _) | exact (rfl : _ = AV.str _) | exact (rfl : _ = AV.sl _ _) | exact (rfl : _ = AV.row _ _) | exact (rfl : _ = AV.ptr _ _) | exact (rfl : _ = AV.tup _) | exact (rfl : _ = AV.agg _) | exact (rfl : _ = AV.fn _ _ _) | exact (rfl : _ = AV.nilp) | exact (rfl : _ = AV.mp _) | exact (rfl : _ = AV.vptr _) | exact (rfl : _ = AV.any))) ?_
    refine .op1 rfl (op_lenStr rfl (S := D9) rfl rfl) ?_
    refine .op1 rfl (op_bin rfl rfl rfl) ?_
    refine .nil ?_
    dsimp only [putA, List.set, av, List.getD_cons_zero, List.getD_cons_succ, avOf, avLeaf, cellsA, setR, D31, D53, D57, D69, D86, D95, List.take_succ_cons, List.take_zero, List.drop_succ_cons, List.drop_zero, List.length_cons, List.length_nil, List.nil_append, List.cons_append, Nat.reduceAdd, Nat.zero_add]
    refine .cond rfl (fun h => ?_) (fun h => ?_)   -- t15
    · have hlen : l[i]? = none := by simp at h; simp; omega
      rw [hlen] at hv
      simp only at hv
      refine .seq ?_
      refine .region rfl ?_
      refine .op1 rfl (op_as (by first | exact (rfl : _ = AV.int _ _) | exact (rfl : _ = AV.bool _) | exact (rfl : _ = AV.str _) | exact (rfl : _ = AV.sl _ _) | exact (rfl : _ = AV.row _ _) | exact (rfl : _ = AV.ptr _ _) | exact (rfl : _ = AV.tup _) | exact (rfl : _ = AV.agg _) | exact (rfl : _ = AV.fn _ _ _) | exact (rfl : _ = AV.nilp) | exact (rfl : _ = AV.mp _) | exact (rfl : _ = AV.vptr _) | exact (rfl : _ = AV.any))) ?_
      refine .op1 rfl (op_as (by first | exact (rfl : _ = AV.int _ _) | exact (rfl : _ = AV.bool _) | exact (rfl : _ = AV.str _) | exact (rfl : _ = AV.sl _ _) | exact (rfl : _ = AV.row _ _) | exact (rfl : _ = AV.ptr _ _) | exact (rfl : _ = AV.tup _) | exact (rfl : _ = AV.agg _) | exact (rfl : _ = AV.fn _ _ _) | exact (rfl : _ = AV.nilp) | exact (rfl : _ = AV.mp _) | exact (rfl : _ = AV.vptr _) | exact (rfl : _ = AV.any))) ?_
      refine .op1 rfl (op_as (by first | exact (rfl : _ = AV.int _ _) | exact (rfl : _ = AV.bool _) | exact (rfl : _ = AV.str _) | exact (rfl : _ = AV.sl _ _) | exact (rfl : _ = AV.row _ _) | exact (rfl : _ = AV.ptr _ _) | exact (rfl : _ = AV.tup _) | exact (rfl : _ = AV.agg _) | exact (rfl : _ = AV.fn _ _ _) | exact (rfl : _ = AV.nilp) | exact (rfl : _ = AV.mp _) | exact (rfl : _ = AV.vptr _) | exact (rfl : _ = AV.any))) ?_
      refine .nil ?_
      dsimp only [putA, List.set, av, List.getD_cons_zero, List.getD_cons_succ, avOf, avLeaf, cellsA, setR, D31, D53, D57, D69, D86, D95, List.take_succ_cons, List.take_zero, List.drop_succ_cons, List.drop_zero, List.length_cons, List.length_nil, List.nil_append, List.cons_append, Nat.reduceAdd, Nat.zero_add]
      refine .ret ?_
      exact ⟨_, _, _, .cons (.tmp _) (.cons (.tmp _) (.cons (.tmp _) .nil)), .drop 0 (Nat.le_refl _) rfl (fun _ => rfl), rfl, by simp [packA, varR, ← hv]⟩
    · have hlt : i < l.length := by simp at h; omega
      obtain ⟨c, hc⟩ : ∃ c, l[i]? = some c := ⟨l[i], by simp [hlt]⟩
      have hcb := c.toNat_lt
      have hat : l[(((i + 1 : Nat) : Int) - 1).toNat]? = some c := by rw [show (((i + 1 : Nat) : Int) - 1).toNat = i by omega]; exact hc
      have h0 : 0 ≤ ((i + 1 : Nat) : Int) - 1 := by omega
      rw [hc] at hv
      simp only at hv
      refine .skip ?_
      refine .seq ?_
      refine .seq ?_
      refine .cut (σ := Bool) (fun t => t = true ↔ ((i = 9 ∧ 1 < c.toNat) ∨ (0 < i ∧ c.toNat = 0))) (fun t => [.str l, .any, .any, .any, .any, .int .i64 ((i + 1 : Nat) : Int), .any, .any, .any, .any, .any, .any, .any, .any, .any, .any, .any, .any, .any, .any, .any, .any, .any, .any, .any, .any, .any, .any, .any, .any, .any, .any, .any, .bool t, .any, .any, .any, .any, .any, .any, .any, .any, .any, .any, .any, .any, .any, .any, .any, .any, .any, .any, .any, .any, .any]) (fun _ => []) (fun t ht => ?_) (fun cont => ?_)
      · refine .cond rfl (fun h => ?_) (fun h => ?_)   -- t33
        · subst h
          rw [if_pos (ht.1 rfl)] at hv
          refine .seq ?_
          refine .region rfl ?_
          refine .op1 rfl (op_as (by first | exact (rfl : _ = AV.int _ _) | exact (rfl : _ = AV.bool _) | exact (rfl : _ = AV.str _) | exact (rfl : _ = AV.sl _ _) | exact (rfl : _ = AV.row _ _) | exact (rfl : _ = AV.ptr _ _) | exact (rfl : _ = AV.tup _) | exact (rfl : _ = AV.agg _) | exact (rfl : _ = AV.fn _ _ _) | exact (rfl : _ = AV.nilp) | exact (rfl : _ = AV.mp _) | exact (rfl : _ = AV.vptr _) | exact (rfl : _ = AV.any))) ?_
          refine .op1 rfl (op_as (by first | exact (rfl : _ = AV.int _ _) | exact (rfl : _ = AV.bool _) | exact (rfl : _ = AV.str _) | exact (rfl : _ = AV.sl _ _) | exact (rfl : _ = AV.row _ _) | exact (rfl : _ = AV.ptr _ _) | exact (rfl : _ = AV.tup _) | exact (rfl : _ = AV.agg _) | exact (rfl : _ = AV.fn _ _ _) | exact (rfl : _ = AV.nilp) | exact (rfl : _ = AV.mp _) | exact (rfl : _ = AV.vptr _) | exact (rfl : _ = AV.any))) ?_
          refine .op1 rfl (op_as (by first | exact (rfl : _ = AV.int _ _) | exact (rfl : _ = AV.bool _) | exact (rfl : _ = AV.str _) | exact (rfl : _ = AV.sl _ _) | exact (rfl : _ = AV.row _ _) | exact (rfl : _ = AV.ptr _ _) | exact (rfl : _ = AV.tup _) | exact (rfl : _ = AV.agg _) | exact (rfl : _ = AV.fn _ _ _) | exact (rfl : _ = AV.nilp) | exact (rfl : _ = AV.mp _) | exact (rfl : _ = AV.vptr _) | exact (rfl : _ = AV.any))) ?_
          refine .nil ?_
          dsimp only [putA, List.set, av, List.getD_cons_zero, List.getD_cons_succ, avOf, avLeaf, cellsA, setR, D31, D53, D57, D69, D86, D95, List.take_succ_cons, List.take_zero, List.drop_succ_cons, List.drop_zero, List.length_cons, List.length_nil, List.nil_append, List.cons_append, Nat.reduceAdd, Nat.zero_add]
          refine .ret ?_
          exact ⟨_, _, _, .cons (.tmp _) (.cons (.tmp _) (.cons (.tmp _) .nil)), .drop 0 (Nat.le_refl _) rfl (fun _ => rfl), rfl, by simp [packA, varR, ← hv]⟩
        · subst h
          rw [if_neg (fun q => by have := ht.2 q; cases this)] at hv
          refine .skip ?_
          refine .seq ?_
          refine .seq ?_
          refine .region rfl ?_
          refine .op1 rfl (op_mv (by first | exact (rfl : _ = AV.int _ _) | exact (rfl : _ = AV.bool _) | exact (rfl : _ = AV.str _) | exact (rfl : _ = AV.sl _ _) | exact (rfl : _ = AV.row _ _) | exact (rfl : _ = AV.ptr _ _) | exact (rfl : _ = AV.tup _) | exact (rfl : _ = AV.agg _) | exact (rfl : _ = AV.fn _ _ _) | exact (rfl : _ = AV.nilp) | exact (rfl : _ = AV.mp _) | exact (rfl : _ = AV.vptr _) | exact (rfl : _ = AV.any))) ?_
          refine .op1 rfl (op_mv (by first | exact (rfl : _ = AV.int _ _) | exact (rfl : _ = AV.bool _) | exact (rfl : _ = AV.str _) | exact (rfl : _ = AV.sl _ _) | exact (rfl : _ = AV.row _ _) | exact (rfl : _ = AV.ptr _ _) | exact (rfl : _ = AV.tup _) | exact (rfl : _ = AV.agg _) | exact (rfl : _ = AV.fn _ _ _) | exact (rfl : _ = AV.nilp) | exact (rfl : _ = AV.mp _) | exact (rfl : _ = AV.vptr _) | exact (rfl : _ = AV.any))) ?_
          refine .op1 rfl (op_arith rfl rfl rfl (by simp only [lo]; omega) (by simp only [hi]; omega)) ?_
          refine .op1 rfl (op_indexStr rfl rfl (S := D9) rfl rfl h0 hat) ?_
          refine .op1 rfl (op_bin rfl rfl rfl) ?_
          refine .nil ?_
          dsimp only [putA, List.set, av, List.getD_cons_zero, List.getD_cons_succ, avOf, avLeaf, cellsA, setR, D31, D53, D57, D69, D86, D95, List.take_succ_cons, List.take_zero, List.drop_succ_cons, List.drop_zero, List.length_cons, List.length_nil, List.nil_append, List.cons_append, Nat.reduceAdd, Nat.zero_add]
          refine .cond rfl (fun h => ?_) (fun h => ?_)   -- t38
          · have h128 : ¬ c.toNat < 128 := by simp at h; omega
            rw [if_neg h128] at hv
            refine .exit rfl ?_
            refine .region rfl ?_
            refine .op1 rfl (op_mv (by first | exact (rfl : _ = AV.int _ _) | exact (rfl : _ = AV.bool _) | exact (rfl : _ = AV.str _) | exact (rfl : _ = AV.sl _ _) | exact (rfl : _ = AV.row _ _) | exact (rfl : _ = AV.ptr _ _) | exact (rfl : _ = AV.tup _) | exact (rfl : _ = AV.agg _) | exact (rfl : _ = AV.fn _ _ _) | exact (rfl : _ = AV.nilp) | exact (rfl : _ = AV.mp _) | exact (rfl : _ = AV.vptr _) | exact (rfl : _ = AV.any))) ?_
            refine .op1 rfl (op_arith rfl rfl rfl (by simp only [lo]; omega) (by simp only [hi]; omega)) ?_
            refine .op1 rfl (op_as (by first | exact (rfl : _ = AV.int _ _) | exact (rfl : _ = AV.bool _) | exact (rfl : _ = AV.str _) | exact (rfl : _ = AV.sl _ _) | exact (rfl : _ = AV.row _ _) | exact (rfl : _ = AV.ptr _ _) | exact (rfl : _ = AV.tup _) | exact (rfl : _ = AV.agg _) | exact (rfl : _ = AV.fn _ _ _) | exact (rfl : _ = AV.nilp) | exact (rfl : _ = AV.mp _) | exact (rfl : _ = AV.vptr _) | exact (rfl : _ = AV.any))) ?_
            refine .nil ?_
            dsimp only [putA, List.set, av, List.getD_cons_zero, List.getD_cons_succ, avOf, avLeaf, cellsA, setR, D31, D53, D57, D69, D86, D95, List.take_succ_cons, List.take_zero, List.drop_succ_cons, List.drop_zero, List.length_cons, List.length_nil, List.nil_append, List.cons_append, Nat.reduceAdd, Nat.zero_add]
            refine .only (fun i => i == 0 || i == 5) ?_
            rw [show ((i + 1 : Nat) : Int) + 1 = ((i + 1 + 1 : Nat) : Int) by omega]
            exact again (i + 1) ⟨by omega, by rw [show 10 - (i + 1) = f by omega]; exact hv⟩ (by omega)
          · have h128 : c.toNat < 128 := by simp at h; omega
            rw [if_pos h128] at hv
            have hok := vscan_ok l 10 0 (i + 1) rfl hv.symm
            refine .skip ?_
            refine .seq ?_
            refine .region rfl ?_
            refine .op1 rfl (op_as (by first | exact (rfl : _ = AV.int _ _) | exact (rfl : _ = AV.bool _) | exact (rfl : _ = AV.str _) | exact (rfl : _ = AV.sl _ _) | exact (rfl : _ = AV.row _ _) | exact (rfl : _ = AV.ptr _ _) | exact (rfl : _ = AV.tup _) | exact (rfl : _ = AV.agg _) | exact (rfl : _ = AV.fn _ _ _) | exact (rfl : _ = AV.nilp) | exact (rfl : _ = AV.mp _) | exact (rfl : _ = AV.vptr _) | exact (rfl : _ = AV.any))) ?_
            refine .nil ?_
            dsimp only [putA, List.set, av, List.getD_cons_zero, List.getD_cons_succ, avOf, avLeaf, cellsA, setR, D31, D53, D57, D69, D86, D95, List.take_succ_cons, List.take_zero, List.drop_succ_cons, List.drop_zero, List.length_cons, List.length_nil, List.nil_append, List.cons_append, Nat.reduceAdd, Nat.zero_add]
            refine .seq ?_
            refine .seq ?_
            refine .region rfl ?_
            refine .op1 rfl (op_mv (by first | exact (rfl : _ = AV.int _ _) | exact (rfl : _ = AV.bool _) | exact (rfl : _ = AV.str _) | exact (rfl : _ = AV.sl _ _) | exact (rfl : _ = AV.row _ _) | exact (rfl : _ = AV.ptr _ _) | exact (rfl : _ = AV.tup _) | exact (rfl : _ = AV.agg _) | exact (rfl : _ = AV.fn _ _ _) | exact (rfl : _ = AV.nilp) | exact (rfl : _ = AV.mp _) | exact (rfl : _ = AV.vptr _) | exact (rfl : _ = AV.any))) ?_
            refine .op1 rfl (op_arith rfl rfl rfl (by simp only [lo]; omega) (by simp only [hi]; omega)) ?_
            refine .op1 rfl (op_as (by first | exact (rfl : _ = AV.int _ _) | exact (rfl : _ = AV.bool _) | exact (rfl : _ = AV.str _) | exact (rfl : _ = AV.sl _ _) | exact (rfl : _ = AV.row _ _) | exact (rfl : _ = AV.ptr _ _) | exact (rfl : _ = AV.tup _) | exact (rfl : _ = AV.agg _) | exact (rfl : _ = AV.fn _ _ _) | exact (rfl : _ = AV.nilp) | exact (rfl : _ = AV.mp _) | exact (rfl : _ = AV.vptr _) | exact (rfl : _ = AV.any))) ?_
            refine .nil ?_
            dsimp only [putA, List.set, av, List.getD_cons_zero, List.getD_cons_succ, avOf, avLeaf, cellsA, setR, D31, D53, D57, D69, D86, D95, List.take_succ_cons, List.take_zero, List.drop_succ_cons, List.drop_zero, List.length_cons, List.length_nil, List.nil_append, List.cons_append, Nat.reduceAdd, Nat.zero_add]
            refine .block ?_
            refine .only (fun i => i == 0 || i == 5 || i == 6 || i == 7) ?_
            rw [show ((i + 1 : Nat) : Int) - 1 = ((i + 1 : Nat) : Int) - 1 by rfl]
            refine .loop (σ := Nat) (i + 1) (fun j => j ≤ i + 1) (fun j => j) (fun j => [.str l, .any, .any, .any, .any, .int .i64 ((i + 1 : Nat) : Int), .int .u64 (vnum ((l.take (i + 1)).drop j)), .int .i64 ((j : Int) - 1), .any, .any, .any, .any, .any, .any, .any, .any, .any, .any, .any, .any, .any, .any, .any, .any, .any, .any, .any, .any, .any, .any, .any, .any, .any, .any, .any, .any, .any, .any, .any, .any, .any, .any, .any, .any, .any, .any, .any, .any, .any, .any, .any, .any, .any, .any, .any]) (fun _ => []) (Nat.le_refl _) ?_ rfl ?_
            · have : (l.take (i + 1)).drop (i + 1) = [] := by simp
              simp only [this]
              rfl
            rintro j hj again2
            dsimp only at hj again2 ⊢
            refine .seq ?_
            refine .seq ?_
            refine .region rfl ?_
            refine .op1 rfl (op_mv (by first | exact (rfl : _ = AV.int _ _) | exact (rfl : _ = AV.bool _) | exact (rfl : _ = AV.str _) | exact (rfl : _ = AV.sl _ _) | exact (rfl : _ = AV.row _ _) | exact (rfl : _ = AV.ptr _ _) | exact (rfl : _ = AV.tup _) | exact (rfl : _ = AV.agg _) | exact (rfl : _ = AV.fn _ _ _) | exact (rfl : _ = AV.nilp) | exact (rfl : _ = AV.mp _) | exact (rfl : _ = AV.vptr _) | exact (rfl : _ = AV.any))) ?_
            refine .op1 rfl (op_bin rfl rfl rfl) ?_
            refine .nil ?_
            dsimp only [putA, List.set, av, List.getD_cons_zero, List.getD_cons_succ, avOf, avLeaf, cellsA, setR, D31, D53, D57, D69, D86, D95, List.take_succ_cons, List.take_zero, List.drop_succ_cons, List.drop_zero, List.length_cons, List.length_nil, List.nil_append, List.cons_append, Nat.reduceAdd, Nat.zero_add]
            refine .cond rfl (fun h => ?_) (fun h => ?_)   -- t42
            · obtain ⟨j, rfl⟩ : ∃ j', j = j' + 1 := ⟨j - 1, by simp at h; omega⟩
              obtain ⟨d, hd⟩ : ∃ d, l[j]? = some d := ⟨l[j], by rw [List.getElem?_eq_getElem]⟩
              have hdat : l[(((j + 1 : Nat) : Int) - 1).toNat]? = some d := by rw [show (((j + 1 : Nat) : Int) - 1).toNat = j by omega]; exact hd
              have hdb := d.toNat_lt
              have hvd := vnum_drop (n := i + 1) (show j < i + 1 by omega) hd
              have hle := vnum_drop_le (l := l.take (i + 1)) j
              have hbig := hok.2.2.2
              have h00 : 0 ≤ ((j + 1 : Nat) : Int) - 1 := by omega
              refine .skip ?_
              refine .seq ?_
              refine .block ?_
              refine .region rfl ?_
              refine .op1 rfl (op_mv (by first | exact (rfl : _ = AV.int _ _) | exact (rfl : _ = AV.bool _) | exact (rfl : _ = AV.str _) | exact (rfl : _ = AV.sl _ _) | exact (rfl : _ = AV.row _ _) | exact (rfl : _ = AV.ptr _ _) | exact (rfl : _ = AV.tup _) | exact (rfl : _ = AV.agg _) | exact (rfl : _ = AV.fn _ _ _) | exact (rfl : _ = AV.nilp) | exact (rfl : _ = AV.mp _) | exact (rfl : _ = AV.vptr _) | exact (rfl : _ = AV.any))) ?_
              refine .op1 rfl (op_arith rfl rfl rfl (by simp only [lo]; omega) (by simp only [hi]; omega)) ?_
              refine .op1 rfl (op_mv (by first | exact (rfl : _ = AV.int _ _) | exact (rfl : _ = AV.bool _) | exact (rfl : _ = AV.str _) | exact (rfl : _ = AV.sl _ _) | exact (rfl : _ = AV.row _ _) | exact (rfl : _ = AV.ptr _ _) | exact (rfl : _ = AV.tup _) | exact (rfl : _ = AV.agg _) | exact (rfl : _ = AV.fn _ _ _) | exact (rfl : _ = AV.nilp) | exact (rfl : _ = AV.mp _) | exact (rfl : _ = AV.vptr _) | exact (rfl : _ = AV.any))) ?_
              refine .op1 rfl (op_mv (by first | exact (rfl : _ = AV.int _ _) | exact (rfl : _ = AV.bool _) | exact (rfl : _ = AV.str _) | exact (rfl : _ = AV.sl _ _) | exact (rfl : _ = AV.row _ _) | exact (rfl : _ = AV.ptr _ _) | exact (rfl : _ = AV.tup _) | exact (rfl : _ = AV.agg _) | exact (rfl : _ = AV.fn _ _ _) | exact (rfl : _ = AV.nilp) | exact (rfl : _ = AV.mp _) | exact (rfl : _ = AV.vptr _) | exact (rfl : _ = AV.any))) ?_
              refine .op1 rfl (op_indexStr rfl rfl (S := D9) rfl rfl h00 hdat) ?_
              refine .op1 rfl (op_rem rfl rfl (by omega) (by omega)) ?_
              refine .op1 rfl (op_convInt (r := (d.toNat : Int) % 128) rfl (S := D5) (D := D46) rfl rfl rfl (wrap_in (by simp only [lo]; omega) (by simp only [hi]; omega))) ?_
              refine .op1 rfl (op_arith rfl rfl rfl (by simp only [lo]; omega) (by simp only [hi]; omega)) ?_
              refine .op1 rfl (op_as (by first | exact (rfl : _ = AV.int _ _) | exact (rfl : _ = AV.bool _) | exact (rfl : _ = AV.str _) | exact (rfl : _ = AV.sl _ _) | exact (rfl : _ = AV.row _ _) | exact (rfl : _ = AV.ptr _ _) | exact (rfl : _ = AV.tup _) | exact (rfl : _ = AV.agg _) | exact (rfl : _ = AV.fn _ _ _) | exact (rfl : _ = AV.nilp) | exact (rfl : _ = AV.mp _) | exact (rfl : _ = AV.vptr _) | exact (rfl : _ = AV.any))) ?_
              refine .nil ?_
              dsimp only [putA, List.set, av, List.getD_cons_zero, List.getD_cons_succ, avOf, avLeaf, cellsA, setR, D31, D53, D57, D69, D86, D95, List.take_succ_cons, List.take_zero, List.drop_succ_cons, List.drop_zero, List.length_cons, List.length_nil, List.nil_append, List.cons_append, Nat.reduceAdd, Nat.zero_add]
              refine .inBlock ?_
              refine .region rfl ?_
              refine .op1 rfl (op_mv (by first | exact (rfl : _ = AV.int _ _) | exact (rfl : _ = AV.bool _) | exact (rfl : _ = AV.str _) | exact (rfl : _ = AV.sl _ _) | exact (rfl : _ = AV.row _ _) | exact (rfl : _ = AV.ptr _ _) | exact (rfl : _ = AV.tup _) | exact (rfl : _ = AV.agg _) | exact (rfl : _ = AV.fn _ _ _) | exact (rfl : _ = AV.nilp) | exact (rfl : _ = AV.mp _) | exact (rfl : _ = AV.vptr _) | exact (rfl : _ = AV.any))) ?_
              refine .op1 rfl (op_arith rfl rfl rfl (by simp only [lo]; omega) (by simp only [hi]; omega)) ?_
              refine .op1 rfl (op_as (by first | exact (rfl : _ = AV.int _ _) | exact (rfl : _ = AV.bool _) | exact (rfl : _ = AV.str _) | exact (rfl : _ = AV.sl _ _) | exact (rfl : _ = AV.row _ _) | exact (rfl : _ = AV.ptr _ _) | exact (rfl : _ = AV.tup _) | exact (rfl : _ = AV.agg _) | exact (rfl : _ = AV.fn _ _ _) | exact (rfl : _ = AV.nilp) | exact (rfl : _ = AV.mp _) | exact (rfl : _ = AV.vptr _) | exact (rfl : _ = AV.any))) ?_
              refine .nil ?_
              dsimp only [putA, List.set, av, List.getD_cons_zero, List.getD_cons_succ, avOf, avLeaf, cellsA, setR, D31, D53, D57, D69, D86, D95, List.take_succ_cons, List.take_zero, List.drop_succ_cons, List.drop_zero, List.length_cons, List.length_nil, List.nil_append, List.cons_append, Nat.reduceAdd, Nat.zero_add]
              refine .only (fun i => i == 0 || i == 5 || i == 6 || i == 7) ?_
              have e1 : ((vnum ((l.take (i + 1)).drop (j + 1)) : Nat) : Int) * 128 + (d.toNat : Int) % 128 = ((vnum ((l.take (i + 1)).drop j) : Nat) : Int) := by rw [hvd]; omega
              rw [e1, show ((j + 1 : Nat) : Int) - 1 - 1 = (j : Int) - 1 by omega]
              exact again2 j (by omega) (by omega)
            · have hj0 : j = 0 := by simp at h; omega
              subst hj0
              refine .exit rfl ?_
              refine .seq ?_
              refine .region rfl ?_
              refine .op1 rfl (op_mv (by first | exact (rfl : _ = AV.int _ _) | exact (rfl : _ = AV.bool _) | exact (rfl : _ = AV.str _) | exact (rfl : _ = AV.sl _ _) | exact (rfl : _ = AV.row _ _) | exact (rfl : _ = AV.ptr _ _) | exact (rfl : _ = AV.tup _) | exact (rfl : _ = AV.agg _) | exact (rfl : _ = AV.fn _ _ _) | exact (rfl : _ = AV.nilp) | exact (rfl : _ = AV.mp _) | exact (rfl : _ = AV.vptr _) | exact (rfl : _ = AV.any))) ?_
              refine .op1 rfl (op_mv (by first | exact (rfl : _ = AV.int _ _) | exact (rfl : _ = AV.bool _) | exact (rfl : _ = AV.str _) | exact (rfl : _ = AV.sl _ _) | exact (rfl : _ = AV.row _ _) | exact (rfl : _ = AV.ptr _ _) | exact (rfl : _ = AV.tup _) | exact (rfl : _ = AV.agg _) | exact (rfl : _ = AV.fn _ _ _) | exact (rfl : _ = AV.nilp) | exact (rfl : _ = AV.mp _) | exact (rfl : _ = AV.vptr _) | exact (rfl : _ = AV.any))) ?_
              refine .op1 rfl (op_as (by first | exact (rfl : _ = AV.int _ _) | exact (rfl : _ = AV.bool _) | exact (rfl : _ = AV.str _) | exact (rfl : _ = AV.sl _ _) | exact (rfl : _ = AV.row _ _) | exact (rfl : _ = AV.ptr _ _) | exact (rfl : _ = AV.tup _) | exact (rfl : _ = AV.agg _) | exact (rfl : _ = AV.fn _ _ _) | exact (rfl : _ = AV.nilp) | exact (rfl : _ = AV.mp _) | exact (rfl : _ = AV.vptr _) | exact (rfl : _ = AV.any))) ?_
              refine .op1 rfl (op_as (by first | exact (rfl : _ = AV.int _ _) | exact (rfl : _ = AV.bool _) | exact (rfl : _ = AV.str _) | exact (rfl : _ = AV.sl _ _) | exact (rfl : _ = AV.row _ _) | exact (rfl : _ = AV.ptr _ _) | exact (rfl : _ = AV.tup _) | exact (rfl : _ = AV.agg _) | exact (rfl : _ = AV.fn _ _ _) | exact (rfl : _ = AV.nilp) | exact (rfl : _ = AV.mp _) | exact (rfl : _ = AV.vptr _) | exact (rfl : _ = AV.any))) ?_
              refine .op1 rfl (op_as (by first | exact (rfl : _ = AV.int _ _) | exact (rfl : _ = AV.bool _) | exact (rfl : _ = AV.str _) | exact (rfl : _ = AV.sl _ _) | exact (rfl : _ = AV.row _ _) | exact (rfl : _ = AV.ptr _ _) | exact (rfl : _ = AV.tup _) | exact (rfl : _ = AV.agg _) | exact (rfl : _ = AV.fn _ _ _) | exact (rfl : _ = AV.nilp) | exact (rfl : _ = AV.mp _) | exact (rfl : _ = AV.vptr _) | exact (rfl : _ = AV.any))) ?_
              refine .nil ?_
              dsimp only [putA, List.set, av, List.getD_cons_zero, List.getD_cons_succ, avOf, avLeaf, cellsA, setR, D31, D53, D57, D69, D86, D95, List.take_succ_cons, List.take_zero, List.drop_succ_cons, List.drop_zero, List.length_cons, List.length_nil, List.nil_append, List.cons_append, Nat.reduceAdd, Nat.zero_add]
              refine .ret ?_
              exact ⟨_, _, _, .cons (.tmp _) (.cons (.tmp _) (.cons (.tmp _) .nil)), .drop 0 (Nat.le_refl _) rfl (fun _ => rfl), rfl, by simp [packA, varR, ← hv]⟩
      · by_cases h9 : i = 9
        · subst h9
          refine .region rfl ?_
          refine .op1 rfl (op_mv (by first | exact (rfl : _ = AV.int _ _) | exact (rfl : _ = AV.bool _) | exact (rfl : _ = AV.str _) | exact (rfl : _ = AV.sl _ _) | exact (rfl : _ = AV.row _ _) | exact (rfl : _ = AV.ptr _ _) | exact (rfl : _ = AV.tup _) | exact (rfl : _ = AV.agg _) | exact (rfl : _ = AV.fn _ _ _) | exact (rfl : _ = AV.nilp) | exact (rfl : _ = AV.mp _) | exact (rfl : _ = AV.vptr _) | exact (rfl : _ = AV.any))) ?_
          refine .op1 rfl (op_bin rfl rfl rfl) ?_
          refine .op1 rfl (op_mv (by first | exact (rfl : _ = AV.int _ _) | exact (rfl : _ = AV.bool _) | exact (rfl : _ = AV.str _) | exact (rfl : _ = AV.sl _ _) | exact (rfl : _ = AV.row _ _) | exact (rfl : _ = AV.ptr _ _) | exact (rfl : _ = AV.tup _) | exact (rfl : _ = AV.agg _) | exact (rfl : _ = AV.fn _ _ _) | exact (rfl : _ = AV.nilp) | exact (rfl : _ = AV.mp _) | exact (rfl : _ = AV.vptr _) | exact (rfl : _ = AV.any))) ?_
          refine .yes1 rfl rfl rfl (op_mv (by first | exact (rfl : _ = AV.int _ _) | exact (rfl : _ = AV.bool _) | exact (rfl : _ = AV.str _) | exact (rfl : _ = AV.sl _ _) | exact (rfl : _ = AV.row _ _) | exact (rfl : _ = AV.ptr _ _) | exact (rfl : _ = AV.tup _) | exact (rfl : _ = AV.agg _) | exact (rfl : _ = AV.fn _ _ _) | exact (rfl : _ = AV.nilp) | exact (rfl : _ = AV.mp _) | exact (rfl : _ = AV.vptr _) | exact (rfl : _ = AV.any))) ?_
          refine .yes1 rfl rfl rfl (op_indexStr rfl rfl (S := D9) rfl rfl (i := 9) (by decide) hc) ?_
          refine .yes1 rfl rfl rfl (op_bin rfl rfl rfl) ?_
          refine .op1 rfl (op_pick rfl (by first | exact (rfl : _ = AV.int _ _) | exact (rfl : _ = AV.bool _) | exact (rfl : _ = AV.str _) | exact (rfl : _ = AV.sl _ _) | exact (rfl : _ = AV.row _ _) | exact (rfl : _ = AV.ptr _ _) | exact (rfl : _ = AV.tup _) | exact (rfl : _ = AV.agg _) | exact (rfl : _ = AV.fn _ _ _) | exact (rfl : _ = AV.nilp) | exact (rfl : _ = AV.mp _) | exact (rfl : _ = AV.vptr _) | exact (rfl : _ = AV.any))) ?_
          refine .op1 rfl (op_mv (by first | exact (rfl : _ = AV.int _ _) | exact (rfl : _ = AV.bool _) | exact (rfl : _ = AV.str _) | exact (rfl : _ = AV.sl _ _) | exact (rfl : _ = AV.row _ _) | exact (rfl : _ = AV.ptr _ _) | exact (rfl : _ = AV.tup _) | exact (rfl : _ = AV.agg _) | exact (rfl : _ = AV.fn _ _ _) | exact (rfl : _ = AV.nilp) | exact (rfl : _ = AV.mp _) | exact (rfl : _ = AV.vptr _) | exact (rfl : _ = AV.any))) ?_
          by_cases hc1 : 1 < c.toNat
          · have e : decide (1 < (c.toNat : Int)) = true := by simp; omega
            dsimp only [putA, List.set]
            rw [e]
            refine .no rfl rfl rfl ?_
            refine .no rfl rfl rfl ?_
            refine .no rfl rfl rfl ?_
            refine .no rfl rfl rfl ?_
            refine .no rfl rfl rfl ?_
            refine .no rfl rfl rfl ?_
            refine .no rfl rfl rfl ?_
            refine .no rfl rfl rfl ?_
            refine .no rfl rfl rfl ?_
            refine .op1 rfl (op_pick rfl (by first | exact (rfl : _ = AV.int _ _) | exact (rfl : _ = AV.bool _) | exact (rfl : _ = AV.str _) | exact (rfl : _ = AV.sl _ _) | exact (rfl : _ = AV.row _ _) | exact (rfl : _ = AV.ptr _ _) | exact (rfl : _ = AV.tup _) | exact (rfl : _ = AV.agg _) | exact (rfl : _ = AV.fn _ _ _) | exact (rfl : _ = AV.nilp) | exact (rfl : _ = AV.mp _) | exact (rfl : _ = AV.vptr _) | exact (rfl : _ = AV.any))) ?_
            refine .nil ?_
            refine .only (fun i => i == 0 || i == 5 || i == 33) ?_
            exact cont true (by simp [hc1])
          · have e : decide (1 < (c.toNat : Int)) = false := by simp; omega
            dsimp only [putA, List.set]
            rw [e]
            refine .yes1 rfl rfl rfl (op_mv (by first | exact (rfl : _ = AV.int _ _) | exact (rfl : _ = AV.bool _) | exact (rfl : _ = AV.str _) | exact (rfl : _ = AV.sl _ _) | exact (rfl : _ = AV.row _ _) | exact (rfl : _ = AV.ptr _ _) | exact (rfl : _ = AV.tup _) | exact (rfl : _ = AV.agg _) | exact (rfl : _ = AV.fn _ _ _) | exact (rfl : _ = AV.nilp) | exact (rfl : _ = AV.mp _) | exact (rfl : _ = AV.vptr _) | exact (rfl : _ = AV.any))) ?_
            refine .yes1 rfl rfl rfl (op_bin rfl rfl rfl) ?_
            refine .yes1 rfl rfl rfl (op_mv (by first | exact (rfl : _ = AV.int _ _) | exact (rfl : _ = AV.bool _) | exact (rfl : _ = AV.str _) | exact (rfl : _ = AV.sl _ _) | exact (rfl : _ = AV.row _ _) | exact (rfl : _ = AV.ptr _ _) | exact (rfl : _ = AV.tup _) | exact (rfl : _ = AV.agg _) | exact (rfl : _ = AV.fn _ _ _) | exact (rfl : _ = AV.nilp) | exact (rfl : _ = AV.mp _) | exact (rfl : _ = AV.vptr _) | exact (rfl : _ = AV.any))) ?_
            refine .yes1 rfl rfl rfl (op_mv (by first | exact (rfl : _ = AV.int _ _) | exact (rfl : _ = AV.bool _) | exact (rfl : _ = AV.str _) | exact (rfl : _ = AV.sl _ _) | exact (rfl : _ = AV.row _ _) | exact (rfl : _ = AV.ptr _ _) | exact (rfl : _ = AV.tup _) | exact (rfl : _ = AV.agg _) | exact (rfl : _ = AV.fn _ _ _) | exact (rfl : _ = AV.nilp) | exact (rfl : _ = AV.mp _) | exact (rfl : _ = AV.vptr _) | exact (rfl : _ = AV.any))) ?_
            refine .yes1 rfl rfl rfl (op_mv (by first | exact (rfl : _ = AV.int _ _) | exact (rfl : _ = AV.bool _) | exact (rfl : _ = AV.str _) | exact (rfl : _ = AV.sl _ _) | exact (rfl : _ = AV.row _ _) | exact (rfl : _ = AV.ptr _ _) | exact (rfl : _ = AV.tup _) | exact (rfl : _ = AV.agg _) | exact (rfl : _ = AV.fn _ _ _) | exact (rfl : _ = AV.nilp) | exact (rfl : _ = AV.mp _) | exact (rfl : _ = AV.vptr _) | exact (rfl : _ = AV.any))) ?_
            refine .yes1 rfl rfl rfl (op_arith rfl rfl rfl (by simp only [lo]; omega) (by simp only [hi]; omega)) ?_
            refine .yes1 rfl rfl rfl (op_indexStr rfl rfl (S := D9) rfl rfl h0 hat) ?_
            refine .yes1 rfl rfl rfl (op_bin rfl rfl rfl) ?_
            refine .yes1 rfl rfl rfl (op_pick rfl (by first | exact (rfl : _ = AV.int _ _) | exact (rfl : _ = AV.bool _) | exact (rfl : _ = AV.str _) | exact (rfl : _ = AV.sl _ _) | exact (rfl : _ = AV.row _ _) | exact (rfl : _ = AV.ptr _ _) | exact (rfl : _ = AV.tup _) | exact (rfl : _ = AV.agg _) | exact (rfl : _ = AV.fn _ _ _) | exact (rfl : _ = AV.nilp) | exact (rfl : _ = AV.mp _) | exact (rfl : _ = AV.vptr _) | exact (rfl : _ = AV.any))) ?_
            refine .op1 rfl (op_pick rfl (by first | exact (rfl : _ = AV.int _ _) | exact (rfl : _ = AV.bool _) | exact (rfl : _ = AV.str _) | exact (rfl : _ = AV.sl _ _) | exact (rfl : _ = AV.row _ _) | exact (rfl : _ = AV.ptr _ _) | exact (rfl : _ = AV.tup _) | exact (rfl : _ = AV.agg _) | exact (rfl : _ = AV.fn _ _ _) | exact (rfl : _ = AV.nilp) | exact (rfl : _ = AV.mp _) | exact (rfl : _ = AV.vptr _) | exact (rfl : _ = AV.any))) ?_
            refine .nil ?_
            refine .only (fun i => i == 0 || i == 5 || i == 33) ?_
            exact cont ((c.toNat : Int) == 0) (by simp [hc1])
        · have e9 : (((i + 1 : Nat) : Int) == 10) = false := by simp; omega
          refine .region rfl ?_
          refine .op1 rfl (op_mv (by first | exact (rfl : _ = AV.int _ _) | exact (rfl : _ = AV.bool _) | exact (rfl : _ = AV.str _) | exact (rfl : _ = AV.sl _ _) | exact (rfl : _ = AV.row _ _) | exact (rfl : _ = AV.ptr _ _) | exact (rfl : _ = AV.tup _) | exact (rfl : _ = AV.agg _) | exact (rfl : _ = AV.fn _ _ _) | exact (rfl : _ = AV.nilp) | exact (rfl : _ = AV.mp _) | exact (rfl : _ = AV.vptr _) | exact (rfl : _ = AV.any))) ?_
          refine .op1 rfl (op_bin rfl rfl rfl) ?_
          dsimp only [putA, List.set]
          rw [e9]
          refine .op1 rfl (op_mv (by first | exact (rfl : _ = AV.int _ _) | exact (rfl : _ = AV.bool _) | exact (rfl : _ = AV.str _) | exact (rfl : _ = AV.sl _ _) | exact (rfl : _ = AV.row _ _) | exact (rfl : _ = AV.ptr _ _) | exact (rfl : _ = AV.tup _) | exact (rfl : _ = AV.agg _) | exact (rfl : _ = AV.fn _ _ _) | exact (rfl : _ = AV.nilp) | exact (rfl : _ = AV.mp _) | exact (rfl : _ = AV.vptr _) | exact (rfl : _ = AV.any))) ?_
          refine .no rfl rfl rfl ?_
          refine .no rfl rfl rfl ?_
          refine .no rfl rfl rfl ?_
          refine .op1 rfl (op_pick rfl (by first | exact (rfl : _ = AV.int _ _) | exact (rfl : _ = AV.bool _) | exact (rfl : _ = AV.str _) | exact (rfl : _ = AV.sl _ _) | exact (rfl : _ = AV.row _ _) | exact (rfl : _ = AV.ptr _ _) | exact (rfl : _ = AV.tup _) | exact (rfl : _ = AV.agg _) | exact (rfl : _ = AV.fn _ _ _) | exact (rfl : _ = AV.nilp) | exact (rfl : _ = AV.mp _) | exact (rfl : _ = AV.vptr _) | exact (rfl : _ = AV.any))) ?_
          refine .op1 rfl (op_mv (by first | exact (rfl : _ = AV.int _ _) | exact (rfl : _ = AV.bool _) | exact (rfl : _ = AV.str _) | exact (rfl : _ = AV.sl _ _) | exact (rfl : _ = AV.row _ _) | exact (rfl : _ = AV.ptr _ _) | exact (rfl : _ = AV.tup _) | exact (rfl : _ = AV.agg _) | exact (rfl : _ = AV.fn _ _ _) | exact (rfl : _ = AV.nilp) | exact (rfl : _ = AV.mp _) | exact (rfl : _ = AV.vptr _) | exact (rfl : _ = AV.any))) ?_
          by_cases hi0 : i = 0
          · subst hi0
            have e1 : decide (1 < ((0 + 1 : Nat) : Int)) = false := by decide
            refine .yes1 rfl rfl rfl (op_mv (by first | exact (rfl : _ = AV.int _ _) | exact (rfl : _ = AV.bool _) | exact (rfl : _ = AV.str _) | exact (rfl : _ = AV.sl _ _) | exact (rfl : _ = AV.row _ _) | exact (rfl : _ = AV.ptr _ _) | exact (rfl : _ = AV.tup _) | exact (rfl : _ = AV.agg _) | exact (rfl : _ = AV.fn _ _ _) | exact (rfl : _ = AV.nilp) | exact (rfl : _ = AV.mp _) | exact (rfl : _ = AV.vptr _) | exact (rfl : _ = AV.any))) ?_
            refine .yes1 rfl rfl rfl (op_bin rfl rfl rfl) ?_
            dsimp only [putA, List.set]
            rw [e1]
            refine .yes1 rfl rfl rfl (op_mv (by first | exact (rfl : _ = AV.int _ _) | exact (rfl : _ = AV.bool _) | exact (rfl : _ = AV.str _) | exact (rfl : _ = AV.sl _ _) | exact (rfl : _ = AV.row _ _) | exact (rfl : _ = AV.ptr _ _) | exact (rfl : _ = AV.tup _) | exact (rfl : _ = AV.agg _) | exact (rfl : _ = AV.fn _ _ _) | exact (rfl : _ = AV.nilp) | exact (rfl : _ = AV.mp _) | exact (rfl : _ = AV.vptr _) | exact (rfl : _ = AV.any))) ?_
            refine .no rfl rfl rfl ?_
            refine .no rfl rfl rfl ?_
            refine .no rfl rfl rfl ?_
            refine .no rfl rfl rfl ?_
            refine .no rfl rfl rfl ?_
            refine .yes1 rfl rfl rfl (op_pick rfl (by first | exact (rfl : _ = AV.int _ _) | exact (rfl : _ = AV.bool _) | exact (rfl : _ = AV.str _) | exact (rfl : _ = AV.sl _ _) | exact (rfl : _ = AV.row _ _) | exact (rfl : _ = AV.ptr _ _) | exact (rfl : _ = AV.tup _) | exact (rfl : _ = AV.agg _) | exact (rfl : _ = AV.fn _ _ _) | exact (rfl : _ = AV.nilp) | exact (rfl : _ = AV.mp _) | exact (rfl : _ = AV.vptr _) | exact (rfl : _ = AV.any))) ?_
            refine .op1 rfl (op_pick rfl (by first | exact (rfl : _ = AV.int _ _) | exact (rfl : _ = AV.bool _) | exact (rfl : _ = AV.str _) | exact (rfl : _ = AV.sl _ _) | exact (rfl : _ = AV.row _ _) | exact (rfl : _ = AV.ptr _ _) | exact (rfl : _ = AV.tup _) | exact (rfl : _ = AV.agg _) | exact (rfl : _ = AV.fn _ _ _) | exact (rfl : _ = AV.nilp) | exact (rfl : _ = AV.mp _) | exact (rfl : _ = AV.vptr _) | exact (rfl : _ = AV.any))) ?_
            refine .nil ?_
            refine .only (fun i => i == 0 || i == 5 || i == 33) ?_
            exact cont false (by simp)
          · have e1 : decide (1 < ((i + 1 : Nat) : Int)) = true := by simp; omega
            refine .yes1 rfl rfl rfl (op_mv (by first | exact (rfl : _ = AV.int _ _) | exact (rfl : _ = AV.bool _) | exact (rfl : _ = AV.str _) | exact (rfl : _ = AV.sl _ _) | exact (rfl : _ = AV.row _ _) | exact (rfl : _ = AV.ptr _ _) | exact (rfl : _ = AV.tup _) | exact (rfl : _ = AV.agg _) | exact (rfl : _ = AV.fn _ _ _) | exact (rfl : _ = AV.nilp) | exact (rfl : _ = AV.mp _) | exact (rfl : _ = AV.vptr _) | exact (rfl : _ = AV.any))) ?_
            refine .yes1 rfl rfl rfl (op_bin rfl rfl rfl) ?_
            dsimp only [putA, List.set]
            rw [e1]
            refine .yes1 rfl rfl rfl (op_mv (by first | exact (rfl : _ = AV.int _ _) | exact (rfl : _ = AV.bool _) | exact (rfl : _ = AV.str _) | exact (rfl : _ = AV.sl _ _) | exact (rfl : _ = AV.row _ _) | exact (rfl : _ = AV.ptr _ _) | exact (rfl : _ = AV.tup _) | exact (rfl : _ = AV.agg _) | exact (rfl : _ = AV.fn _ _ _) | exact (rfl : _ = AV.nilp) | exact (rfl : _ = AV.mp _) | exact (rfl : _ = AV.vptr _) | exact (rfl : _ = AV.any))) ?_
            refine .yes1 rfl rfl rfl (op_mv (by first | exact (rfl : _ = AV.int _ _) | exact (rfl : _ = AV.bool _) | exact (rfl : _ = AV.str _) | exact (rfl : _ = AV.sl _ _) | exact (rfl : _ = AV.row _ _) | exact (rfl : _ = AV.ptr _ _) | exact (rfl : _ = AV.tup _) | exact (rfl : _ = AV.agg _) | exact (rfl : _ = AV.fn _ _ _) | exact (rfl : _ = AV.nilp) | exact (rfl : _ = AV.mp _) | exact (rfl : _ = AV.vptr _) | exact (rfl : _ = AV.any))) ?_
            refine .yes1 rfl rfl rfl (op_mv (by first | exact (rfl : _ = AV.int _ _) | exact (rfl : _ = AV.bool _) | exact (rfl : _ = AV.str _) | exact (rfl : _ = AV.sl _ _) | exact (rfl : _ = AV.row _ _) | exact (rfl : _ = AV.ptr _ _) | exact (rfl : _ = AV.tup _) | exact (rfl : _ = AV.agg _) | exact (rfl : _ = AV.fn _ _ _) | exact (rfl : _ = AV.nilp) | exact (rfl : _ = AV.mp _) | exact (rfl : _ = AV.vptr _) | exact (rfl : _ = AV.any))) ?_
            refine .yes1 rfl rfl rfl (op_arith rfl rfl rfl (by simp only [lo]; omega) (by simp only [hi]; omega)) ?_
            refine .yes1 rfl rfl rfl (op_indexStr rfl rfl (S := D9) rfl rfl h0 hat) ?_
            refine .yes1 rfl rfl rfl (op_bin rfl rfl rfl) ?_
            refine .yes1 rfl rfl rfl (op_pick rfl (by first | exact (rfl : _ = AV.int _ _) | exact (rfl : _ = AV.bool _) | exact (rfl : _ = AV.str _) | exact (rfl : _ = AV.sl _ _) | exact (rfl : _ = AV.row _ _) | exact (rfl : _ = AV.ptr _ _) | exact (rfl : _ = AV.tup _) | exact (rfl : _ = AV.agg _) | exact (rfl : _ = AV.fn _ _ _) | exact (rfl : _ = AV.nilp) | exact (rfl : _ = AV.mp _) | exact (rfl : _ = AV.vptr _) | exact (rfl : _ = AV.any))) ?_
            refine .op1 rfl (op_pick rfl (by first | exact (rfl : _ = AV.int _ _) | exact (rfl : _ = AV.bool _) | exact (rfl : _ = AV.str _) | exact (rfl : _ = AV.sl _ _) | exact (rfl : _ = AV.row _ _) | exact (rfl : _ = AV.ptr _ _) | exact (rfl : _ = AV.tup _) | exact (rfl : _ = AV.agg _) | exact (rfl : _ = AV.fn _ _ _) | exact (rfl : _ = AV.nilp) | exact (rfl : _ = AV.mp _) | exact (rfl : _ = AV.vptr _) | exact (rfl : _ = AV.any))) ?_
            refine .nil ?_
            refine .only (fun i => i == 0 || i == 5 || i == 33) ?_
            exact cont ((c.toNat : Int) == 0) (by simp [h9]; omega)
  · have hi10 : i = 10 := by simp at h; omega
    subst hi10
    rw [show 10 - 10 = 0 from rfl, vscan_zero l 10] at hv
    refine .exit rfl ?_
    refine .seq ?_
    refine .region rfl ?_
    refine .op1 rfl (op_as (by first | exact (rfl : _ = AV.int _ _) | exact (rfl : _ = AV.bool _) | exact (rfl : _ = AV.str _) | exact (rfl : _ = AV.sl _ _) | exact (rfl : _ = AV.row _ _) | exact (rfl : _ = AV.ptr _ _) | exact (rfl : _ = AV.tup _) | exact (rfl : _ = AV.agg _) | exact (rfl : _ = AV.fn _ _ _) | exact (rfl : _ = AV.nilp) | exact (rfl : _ = AV.mp _) | exact (rfl : _ = AV.vptr _) | exact (rfl : _ = AV.any))) ?_
    refine .op1 rfl (op_as (by first | exact (rfl : _ = AV.int _ _) | exact (rfl : _ = AV.bool _) | exact (rfl : _ = AV.str _) | exact (rfl : _ = AV.sl _ _) | exact (rfl : _ = AV.row _ _) | exact (rfl : _ = AV.ptr _ _) | exact (rfl : _ = AV.tup _) | exact (rfl : _ = AV.agg _) | exact (rfl : _ = AV.fn _ _ _) | exact (rfl : _ = AV.nilp) | exact (rfl : _ = AV.mp _) | exact (rfl : _ = AV.vptr _) | exact (rfl : _ = AV.any))) ?_
    refine .op1 rfl (op_as (by first | exact (rfl : _ = AV.int _ _) | exact (rfl : _ = AV.bool _) | exact (rfl : _ = AV.str _) | exact (rfl : _ = AV.sl _ _) | exact (rfl : _ = AV.row _ _) | exact (rfl : _ = AV.ptr _ _) | exact (rfl : _ = AV.tup _) | exact (rfl : _ = AV.agg _) | exact (rfl : _ = AV.fn _ _ _) | exact (rfl : _ = AV.nilp) | exact (rfl : _ = AV.mp _) | exact (rfl : _ = AV.vptr _) | exact (rfl : _ = AV.any))) ?_
    refine .nil ?_
    dsimp only [putA, List.set, av, List.getD_cons_zero, List.getD_cons_succ, avOf, avLeaf, cellsA, setR, D31, D53, D57, D69, D86, D95, List.take_succ_cons, List.take_zero, List.drop_succ_cons, List.drop_zero, List.length_cons, List.length_nil, List.nil_append, List.cons_append, Nat.reduceAdd, Nat.zero_add]
    refine .ret ?_
    exact ⟨_, _, _, .cons (.tmp _) (.cons (.tmp _) (.cons (.tmp _) .nil)), .drop 0 (Nat.le_refl _) rfl (fun _ => rfl), rfl, by simp [packA, varR, ← hv]⟩
end Rm

namespace Rm
open Go Go.Proofs
open Go.RowKit
set_option maxHeartbeats 4000000

theorem c25 {b : List UInt8} {a e : Nat} (ha : a ≤ b.length) (hb : b.length ≤ 1000000) : Ctr Tryd.prog mG 25 [] [.agg [.str (b.drop a), .int .i64 a, .int .i64 e], .int .u64 2147483647] (fun st' r => st' = [] ∧ r = .tup [.int .u64 (rI b (a, e)).1, .agg [.str (b.drop (rI b (a, e)).2.1), .int .i64 (rI b (a, e)).2.1, .int .i64 (rI b (a, e)).2.2]]) := by
  refine Ctr.of_body (E := Ev) Tryd.func25 rfl ?_
  show AGo Ev _ _ [.agg [.str (b.drop a), .int .i64 a, .int .i64 e], .int .u64 2147483647, .any, .any, .any, .any, .any, .any, .any, .any, .any, .any, .any, .any, .any, .any, .any, .any, .any, .any, .any, .any, .any, .any, .any, .any, .any, .any, .any, .any, .any, .any, .any, .any] _ _
  refine .seq ?_
  refine .region rfl ?_
  refine .op1 rfl (op_boxA rfl) ?_
  refine .op1 rfl (op_as (by first | exact (rfl : _ = AV.int _ _) | exact (rfl : _ = AV.bool _) | exact (rfl : _ = AV.str _) | exact (rfl : _ = AV.sl _ _) | exact (rfl : _ = AV.row _ _) | exact (rfl : _ = AV.ptr _ _) | exact (rfl : _ = AV.tup _) | exact (rfl : _ = AV.agg _) | exact (rfl : _ = AV.fn _ _ _) | exact (rfl : _ = AV.nilp) | exact (rfl : _ = AV.mp _) | exact (rfl : _ = AV.vptr _) | exact (rfl : _ = AV.any))) ?_
  refine .op1 rfl (op_alloc (D := D57) rfl) ?_
  refine .nil ?_
  dsimp only [putA, List.set, av, List.getD_cons_zero, List.getD_cons_succ, avOf, avLeaf, cellsA, setR, D31, D53, D57, D69, D86, D95, List.take_succ_cons, List.take_zero, List.drop_succ_cons, List.drop_zero, List.length_cons, List.length_nil, List.nil_append, List.cons_append, Nat.reduceAdd, Nat.zero_add]
  refine .seq ?_
  refine .seq ?_
  refine .region rfl ?_
  refine .op1 rfl (op_fieldAddr rfl (D := D57) rfl rfl rfl rfl (by decide)) ?_
  refine .op1 rfl (op_load rfl rfl (D := D27) rfl rfl rfl) ?_
  refine .op1 rfl (op_bin rfl rfl rfl) ?_
  refine .nil ?_
  dsimp only [putA, List.set, av, List.getD_cons_zero, List.getD_cons_succ, avOf, avLeaf, cellsA, setR, D31, D53, D57, D69, D86, D95, List.take_succ_cons, List.take_zero, List.drop_succ_cons, List.drop_zero, List.length_cons, List.length_nil, List.nil_append, List.cons_append, Nat.reduceAdd, Nat.zero_add]
  refine .cond rfl (fun h => ?_) (fun h => ?_)   -- t11
  · have he : e ≠ 0 := by simp at h; omega
    refine .seq ?_
    refine .drawn [2] rfl (by decide) (by decide +kernel) ?_
    refine .pureAt 0 rfl rfl (by decide +kernel) rfl (op_load_agg rfl rfl (D := D57) rfl rfl (Nat.le_of_ble_eq_true rfl) rfl) ?_
    refine .pures rfl rfl (fun _ => (op_as (by first | exact (rfl : _ = AV.int _ _) | exact (rfl : _ = AV.bool _) | exact (rfl : _ = AV.str _) | exact (rfl : _ = AV.sl _ _) | exact (rfl : _ = AV.row _ _) | exact (rfl : _ = AV.ptr _ _) | exact (rfl : _ = AV.tup _) | exact (rfl : _ = AV.agg _) | exact (rfl : _ = AV.fn _ _ _) | exact (rfl : _ = AV.nilp) | exact (rfl : _ = AV.mp _) | exact (rfl : _ = AV.vptr _) | exact (rfl : _ = AV.any)))) ?_
    refine .eff 0 rfl rfl rfl rfl (op_storeA rfl rfl (D := D57) rfl rfl rfl rfl rfl) ?_
    refine .nil rfl rfl ?_
    dsimp only [putA, List.set, av, List.getD_cons_zero, List.getD_cons_succ, avOf, avLeaf, cellsA, setR, D31, D53, D57, D69, D86, D95, List.take_succ_cons, List.take_zero, List.drop_succ_cons, List.drop_zero, List.length_cons, List.length_nil, List.nil_append, List.cons_append, Nat.reduceAdd, Nat.zero_add]
    refine .ret ?_
    refine ⟨_, _, _, .cons (.tmp _) (.cons (.cells _ _ 1 0 _ _ D57 rfl rfl rfl rfl (Nat.le_of_ble_eq_true rfl) rfl) .nil), .drop 0 (Nat.le_refl _) rfl (fun _ => rfl), rfl, ?_⟩
    simp [rI, he, packA, D57]
  · have he : e = 0 := by simp at h; omega
    subst he
    refine .skip ?_
    refine .seq ?_
    refine .region rfl ?_
    refine .op1 rfl (op_fieldAddr rfl (D := D57) rfl rfl rfl rfl (by decide)) ?_
    refine .op1 rfl (op_load rfl rfl (D := D9) rfl rfl rfl) ?_
    refine .op1 rfl (op_callP Tryd.func44 rfl rfl rfl rfl rfl (c44 (by simp; omega)) rfl) ?_
    refine .op1 rfl (op_mv (by first | exact (rfl : _ = AV.int _ _) | exact (rfl : _ = AV.bool _) | exact (rfl : _ = AV.str _) | exact (rfl : _ = AV.sl _ _) | exact (rfl : _ = AV.row _ _) | exact (rfl : _ = AV.ptr _ _) | exact (rfl : _ = AV.tup _) | exact (rfl : _ = AV.agg _) | exact (rfl : _ = AV.fn _ _ _) | exact (rfl : _ = AV.nilp) | exact (rfl : _ = AV.mp _) | exact (rfl : _ = AV.vptr _) | exact (rfl : _ = AV.any))) ?_
    refine .op1 rfl (op_extract rfl rfl) ?_
    refine .op1 rfl (op_extract rfl rfl) ?_
    refine .op1 rfl (op_extract rfl rfl) ?_
    refine .op1 rfl (op_as (by first | exact (rfl : _ = AV.int _ _) | exact (rfl : _ = AV.bool _) | exact (rfl : _ = AV.str _) | exact (rfl : _ = AV.sl _ _) | exact (rfl : _ = AV.row _ _) | exact (rfl : _ = AV.ptr _ _) | exact (rfl : _ = AV.tup _) | exact (rfl : _ = AV.agg _) | exact (rfl : _ = AV.fn _ _ _) | exact (rfl : _ = AV.nilp) | exact (rfl : _ = AV.mp _) | exact (rfl : _ = AV.vptr _) | exact (rfl : _ = AV.any))) ?_
    refine .op1 rfl (op_as (by first | exact (rfl : _ = AV.int _ _) | exact (rfl : _ = AV.bool _) | exact (rfl : _ = AV.str _) | exact (rfl : _ = AV.sl _ _) | exact (rfl : _ = AV.row _ _) | exact (rfl : _ = AV.ptr _ _) | exact (rfl : _ = AV.tup _) | exact (rfl : _ = AV.agg _) | exact (rfl : _ = AV.fn _ _ _) | exact (rfl : _ = AV.nilp) | exact (rfl : _ = AV.mp _) | exact (rfl : _ = AV.vptr _) | exact (rfl : _ = AV.any))) ?_
    refine .op1 rfl (op_as (by first | exact (rfl : _ = AV.int _ _) | exact (rfl : _ = AV.bool _) | exact (rfl : _ = AV.str _) | exact (rfl : _ = AV.sl _ _) | exact (rfl : _ = AV.row _ _) | exact (rfl : _ = AV.ptr _ _) | exact (rfl : _ = AV.tup _) | exact (rfl : _ = AV.agg _) | exact (rfl : _ = AV.fn _ _ _) | exact (rfl : _ = AV.nilp) | exact (rfl : _ = AV.mp _) | exact (rfl : _ = AV.vptr _) | exact (rfl : _ = AV.any))) ?_
    refine .nil ?_
    dsimp only [putA, List.set, av, List.getD_cons_zero, List.getD_cons_succ, avOf, avLeaf, cellsA, setR, D31, D53, D57, D69, D86, D95, List.take_succ_cons, List.take_zero, List.drop_succ_cons, List.drop_zero, List.length_cons, List.length_nil, List.nil_append, List.cons_append, Nat.reduceAdd, Nat.zero_add]
    refine .seq ?_
    refine .seq ?_
    refine .region rfl ?_
    refine .op1 rfl (op_mv (by first | exact (rfl : _ = AV.int _ _) | exact (rfl : _ = AV.bool _) | exact (rfl : _ = AV.str _) | exact (rfl : _ = AV.sl _ _) | exact (rfl : _ = AV.row _ _) | exact (rfl : _ = AV.ptr _ _) | exact (rfl : _ = AV.tup _) | exact (rfl : _ = AV.agg _) | exact (rfl : _ = AV.fn _ _ _) | exact (rfl : _ = AV.nilp) | exact (rfl : _ = AV.mp _) | exact (rfl : _ = AV.vptr _) | exact (rfl : _ = AV.any))) ?_
    refine .op1 rfl (op_bin rfl rfl rfl) ?_
    refine .nil ?_
    dsimp only [putA, List.set, av, List.getD_cons_zero, List.getD_cons_succ, avOf, avLeaf, cellsA, setR, D31, D53, D57, D69, D86, D95, List.take_succ_cons, List.take_zero, List.drop_succ_cons, List.drop_zero, List.length_cons, List.length_nil, List.nil_append, List.cons_append, Nat.reduceAdd, Nat.zero_add]
    refine .cond rfl (fun h => ?_) (fun h => ?_)   -- t21
    · have he : (varR (b.drop a)).2.2 ≠ 0 := by simp at h; omega
      refine .seq ?_
      refine .region rfl ?_
      refine .op1 rfl (op_load_agg rfl rfl (D := D57) rfl rfl (Nat.le_of_ble_eq_true rfl) rfl) ?_
      refine .op1 rfl (op_mv (by first | exact (rfl : _ = AV.int _ _) | exact (rfl : _ = AV.bool _) | exact (rfl : _ = AV.str _) | exact (rfl : _ = AV.sl _ _) | exact (rfl : _ = AV.row _ _) | exact (rfl : _ = AV.ptr _ _) | exact (rfl : _ = AV.tup _) | exact (rfl : _ = AV.agg _) | exact (rfl : _ = AV.fn _ _ _) | exact (rfl : _ = AV.nilp) | exact (rfl : _ = AV.mp _) | exact (rfl : _ = AV.vptr _) | exact (rfl : _ = AV.any))) ?_
      refine .op1 rfl (op_callP Tryd.func42 rfl rfl rfl rfl rfl c42 rfl) ?_
      refine .op1 rfl (op_as (by first | exact (rfl : _ = AV.int _ _) | exact (rfl : _ = AV.bool _) | exact (rfl : _ = AV.str _) | exact (rfl : _ = AV.sl _ _) | exact (rfl : _ = AV.row _ _) | exact (rfl : _ = AV.ptr _ _) | exact (rfl : _ = AV.tup _) | exact (rfl : _ = AV.agg _) | exact (rfl : _ = AV.fn _ _ _) | exact (rfl : _ = AV.nilp) | exact (rfl : _ = AV.mp _) | exact (rfl : _ = AV.vptr _) | exact (rfl : _ = AV.any))) ?_
      refine .op1 rfl (op_storeA rfl rfl (D := D57) rfl rfl rfl rfl rfl) ?_
      refine .nil ?_
      dsimp only [putA, List.set, av, List.getD_cons_zero, List.getD_cons_succ, avOf, avLeaf, cellsA, setR, D31, D53, D57, D69, D86, D95, List.take_succ_cons, List.take_zero, List.drop_succ_cons, List.drop_zero, List.length_cons, List.length_nil, List.nil_append, List.cons_append, Nat.reduceAdd, Nat.zero_add]
      refine .ret ?_
      refine ⟨_, _, _, .cons (.tmp _) (.cons (.cells _ _ 1 0 _ _ D57 rfl rfl rfl rfl (Nat.le_of_ble_eq_true rfl) rfl) .nil), .drop 0 (Nat.le_refl _) rfl (fun _ => rfl), rfl, ?_⟩
      simp [rI, intR, he, packA, D57]
    · have he : (varR (b.drop a)).2.2 = 0 := by simp at h; omega
      refine .skip ?_
      refine .seq ?_
      refine .seq ?_
      refine .region rfl ?_
      refine .op1 rfl (op_mv (by first | exact (rfl : _ = AV.int _ _) | exact (rfl : _ = AV.bool _) | exact (rfl : _ = AV.str _) | exact (rfl : _ = AV.sl _ _) | exact (rfl : _ = AV.row _ _) | exact (rfl : _ = AV.ptr _ _) | exact (rfl : _ = AV.tup _) | exact (rfl : _ = AV.agg _) | exact (rfl : _ = AV.fn _ _ _) | exact (rfl : _ = AV.nilp) | exact (rfl : _ = AV.mp _) | exact (rfl : _ = AV.vptr _) | exact (rfl : _ = AV.any))) ?_
      refine .op1 rfl (op_mv (by first | exact (rfl : _ = AV.int _ _) | exact (rfl : _ = AV.bool _) | exact (rfl : _ = AV.str _) | exact (rfl : _ = AV.sl _ _) | exact (rfl : _ = AV.row _ _) | exact (rfl : _ = AV.ptr _ _) | exact (rfl : _ = AV.tup _) | exact (rfl : _ = AV.agg _) | exact (rfl : _ = AV.fn _ _ _) | exact (rfl : _ = AV.nilp) | exact (rfl : _ = AV.mp _) | exact (rfl : _ = AV.vptr _) | exact (rfl : _ = AV.any))) ?_
      refine .op1 rfl (op_bin rfl rfl rfl) ?_
      refine .nil ?_
      dsimp only [putA, List.set, av, List.getD_cons_zero, List.getD_cons_succ, avOf, avLeaf, cellsA, setR, D31, D53, D57, D69, D86, D95, List.take_succ_cons, List.take_zero, List.drop_succ_cons, List.drop_zero, List.length_cons, List.length_nil, List.nil_append, List.cons_append, Nat.reduceAdd, Nat.zero_add]
      refine .cond rfl (fun h => ?_) (fun h => ?_)   -- t27
      · have hb : 2147483647 < (varR (b.drop a)).1 := by simp at h; omega
        refine .seq ?_
        refine .region rfl ?_
        refine .op1 rfl (op_load_agg rfl rfl (D := D57) rfl rfl (Nat.le_of_ble_eq_true rfl) rfl) ?_
        refine .op1 rfl (op_callP Tryd.func42 rfl rfl rfl rfl rfl c42 rfl) ?_
        refine .op1 rfl (op_as (by first | exact (rfl : _ = AV.int _ _) | exact (rfl : _ = AV.bool _) | exact (rfl : _ = AV.str _) | exact (rfl : _ = AV.sl _ _) | exact (rfl : _ = AV.row _ _) | exact (rfl : _ = AV.ptr _ _) | exact (rfl : _ = AV.tup _) | exact (rfl : _ = AV.agg _) | exact (rfl : _ = AV.fn _ _ _) | exact (rfl : _ = AV.nilp) | exact (rfl : _ = AV.mp _) | exact (rfl : _ = AV.vptr _) | exact (rfl : _ = AV.any))) ?_
        refine .op1 rfl (op_storeA rfl rfl (D := D57) rfl rfl rfl rfl rfl) ?_
        refine .nil ?_
        dsimp only [putA, List.set, av, List.getD_cons_zero, List.getD_cons_succ, avOf, avLeaf, cellsA, setR, D31, D53, D57, D69, D86, D95, List.take_succ_cons, List.take_zero, List.drop_succ_cons, List.drop_zero, List.length_cons, List.length_nil, List.nil_append, List.cons_append, Nat.reduceAdd, Nat.zero_add]
        refine .ret ?_
        refine ⟨_, _, _, .cons (.tmp _) (.cons (.cells _ _ 1 0 _ _ D57 rfl rfl rfl rfl (Nat.le_of_ble_eq_true rfl) rfl) .nil), .drop 0 (Nat.le_refl _) rfl (fun _ => rfl), rfl, ?_⟩
        simp [rI, intR, he, hb, packA, D57]
      · have hb : ¬ 2147483647 < (varR (b.drop a)).1 := by simp at h; omega
        have hok := varR_ok he
        refine .skip ?_
        refine .seq ?_
        refine .region rfl ?_
        refine .op1 rfl (op_mv (by first | exact (rfl : _ = AV.int _ _) | exact (rfl : _ = AV.bool _) | exact (rfl : _ = AV.str _) | exact (rfl : _ = AV.sl _ _) | exact (rfl : _ = AV.row _ _) | exact (rfl : _ = AV.ptr _ _) | exact (rfl : _ = AV.tup _) | exact (rfl : _ = AV.agg _) | exact (rfl : _ = AV.fn _ _ _) | exact (rfl : _ = AV.nilp) | exact (rfl : _ = AV.mp _) | exact (rfl : _ = AV.vptr _) | exact (rfl : _ = AV.any))) ?_
        refine .op1 rfl (op_load_agg rfl rfl (D := D57) rfl rfl (Nat.le_of_ble_eq_true rfl) rfl) ?_
        refine .op1 rfl (op_mv (by first | exact (rfl : _ = AV.int _ _) | exact (rfl : _ = AV.bool _) | exact (rfl : _ = AV.str _) | exact (rfl : _ = AV.sl _ _) | exact (rfl : _ = AV.row _ _) | exact (rfl : _ = AV.ptr _ _) | exact (rfl : _ = AV.tup _) | exact (rfl : _ = AV.agg _) | exact (rfl : _ = AV.fn _ _ _) | exact (rfl : _ = AV.nilp) | exact (rfl : _ = AV.mp _) | exact (rfl : _ = AV.vptr _) | exact (rfl : _ = AV.any))) ?_
        refine .op1 rfl (op_callP Tryd.func43 rfl rfl rfl rfl rfl (c43 hok.2.2.1 (by have := hok.2.1; omega)) rfl) ?_
        refine .op1 rfl (op_as (by first | exact (rfl : _ = AV.int _ _) | exact (rfl : _ = AV.bool _) | exact (rfl : _ = AV.str _) | exact (rfl : _ = AV.sl _ _) | exact (rfl : _ = AV.row _ _) | exact (rfl : _ = AV.ptr _ _) | exact (rfl : _ = AV.tup _) | exact (rfl : _ = AV.agg _) | exact (rfl : _ = AV.fn _ _ _) | exact (rfl : _ = AV.nilp) | exact (rfl : _ = AV.mp _) | exact (rfl : _ = AV.vptr _) | exact (rfl : _ = AV.any))) ?_
        refine .op1 rfl (op_storeA rfl rfl (D := D57) rfl rfl rfl rfl rfl) ?_
        refine .nil ?_
        dsimp only [putA, List.set, av, List.getD_cons_zero, List.getD_cons_succ, avOf, avLeaf, cellsA, setR, D31, D53, D57, D69, D86, D95, List.take_succ_cons, List.take_zero, List.drop_succ_cons, List.drop_zero, List.length_cons, List.length_nil, List.nil_append, List.cons_append, Nat.reduceAdd, Nat.zero_add]
        refine .ret ?_
        refine ⟨_, _, _, .cons (.tmp _) (.cons (.cells _ _ 1 0 _ _ D57 rfl rfl rfl rfl (Nat.le_of_ble_eq_true rfl) rfl) .nil), .drop 0 (Nat.le_refl _) rfl (fun _ => rfl), rfl, ?_⟩
        simp [rI, intR, he, hb, packA, D57]
end Rm

namespace Rm
open Go

structure Rd where
  kind : UInt8 := 0
  packed : Bool := false
  size : Nat := 0
  body : List UInt8 := []
  next : Nat := 0
/-- What is wrong about sizes. -/
def badN (packed : Bool) (n size : Nat) : Prop := (packed = false ∧ n ≠ size) ∨ (packed = true ∧ size ≤ n)
instance (packed : Bool) (n size : Nat) : Decidable (badN packed n size) := by unfold badN; exact inferInstance
/-- The chunk that stands at the beginning of bytes (they begin at a place). -/
def readC (c : List UInt8) (at_ : Nat) : Rd × Nat :=
  let s := rB c 1 (0, 0)
  let t := rB c 1 s.2
  if t.2.2 ≠ 0 then ({}, t.2.2) else
  let how := (t.1.getD 0 0).toNat
  if 1 < how then ({}, 4) else
  let z := rI c t.2
  let n := rI c z.2
  if n.2.2 ≠ 0 then ({}, n.2.2) else
  if badN (decide (how = 1)) n.1 z.1 then ({}, 4) else
  let bd := rB c n.1 n.2
  let f := rB c 4 bd.2
  if f.2.2 ≠ 0 then ({}, f.2.2) else
  if fixB (crcN (c.take bd.2.1)) ≠ f.1 then ({}, 5) else
  ({ kind := s.1.getD 0 0, packed := decide (how = 1), size := z.1, body := bd.1, next := at_ + f.2.1 }, 0)
def readS (b : List UInt8) (at_ : Int) : Rd × Nat :=
  if at_ < 0 ∨ (b.length : Int) < at_ then ({}, 2) else readC (b.drop at_.toNat) at_.toNat

theorem rB_one {c : List UInt8} {s : Nat × Nat} {o : List UInt8} {a : Nat} (h : rB c 1 s = (o, a, 0)) : s.2 = 0 ∧ a = s.1 + 1 ∧ ∃ x, o = [x] ∧ c[s.1]? = some x := by
  unfold rB at h
  split at h
  · rename_i h0; simp at h; exact absurd (by rw [h.2]) h0
  · rename_i h0
    rw [if_neg (by decide)] at h
    split at h
    · simp at h
    · rename_i hl
      simp only [Int.toNat_one, Prod.mk.injEq, and_true] at h
      obtain ⟨h1, h2⟩ := h
      have hlt : s.1 < c.length := by omega
      refine ⟨Decidable.not_not.1 h0, h2.symm, c[s.1], ?_, by simp [hlt]⟩
      rw [← h1, List.drop_eq_getElem_cons hlt]
      simp only [List.take_succ_cons, List.take_zero]
theorem rB_stay {c : List UInt8} {k : Int} {s : Nat × Nat} (h : s.2 ≠ 0) : rB c k s = ([], s) := by
  unfold rB; rw [if_pos h]
theorem rI_stay {c : List UInt8} {s : Nat × Nat} (h : s.2 ≠ 0) : rI c s = (0, s) := by
  unfold rI; rw [if_pos h]
end Rm
