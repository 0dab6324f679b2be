/- Walks: chunk.Put. A literal's bytes as text: they are not written any more. Walks: wakes. Walks: the laws ChunkPuts and ChunkTakes. -/
import Derived.Test.YtibfijfogkfphaaDoorG9

namespace Rm
open Go Go.Proofs
open Go.RowKit
set_option maxHeartbeats 8000000

theorem c15n {st : List Ob} {oT oF o v fromN : Nat} {l : List UInt8} (hT : st[oT]? = some (.var [.row o v])) (hF : st[oF]? = some (.var [.int .i64 fromN])) (ho : st[o]? = some (.row v 1 (bs l) false)) (hf : fromN ≤ l.length) (hl : l.length ≤ 1000000) :
    Ctr Tryd.prog mG 15 st [.ptr oT 0, .ptr oF 0] (fun st' r => st' = st.set o (.row v 1 (bs l) true) ∧ r = .int .u32 (crcN (l.drop fromN))) := by
  have := c15 hT hF ho hf hl
  rw [crcI_nat] at this
  exact this
theorem putS_eq (kind : UInt8) (data : List UInt8) : putS kind data = (([kind, (if (packS data).length < data.length then 1 else 0 : UInt8)] ++ varB data.length ++ varB (if (packS data).length < data.length then packS data else data).length ++ (if (packS data).length < data.length then packS data else data)) ++ fixB (crcN ([kind, (if (packS data).length < data.length then 1 else 0 : UInt8)] ++ varB data.length ++ varB (if (packS data).length < data.length then packS data else data).length ++ (if (packS data).length < data.length then packS data else data)))) := rfl

theorem c7 {clip clip2 : Bool} {ahead data : List UInt8} {kind : UInt8} (ha : ahead.length ≤ 100000) (hd : data.length ≤ 40000) :
    Ctr Tryd.prog mG 7 [] [.sl clip (bs ahead), .int .u8 kind.toNat, .sl clip2 (bs data)] (fun st' r => st' = [.row 0 1 (bs (ahead ++ putS kind data)) false] ∧ r = .row 0 0) := by
  rw [putS_eq]
  obtain ⟨how, hhow⟩ : ∃ x : UInt8, (if (packS data).length < data.length then 1 else 0 : UInt8) = x := ⟨_, rfl⟩
  obtain ⟨body, hbody⟩ : ∃ x, (if (packS data).length < data.length then packS data else data) = x := ⟨_, rfl⟩
  rw [hhow, hbody]
  have hbl : body.length ≤ data.length := by rw [← hbody]; split <;> omega
  have hkb := kind.toNat_lt
  have hhb := how.toNat_lt
  have v1 := varB_lt64 (n := data.length) (by omega)
  have v2 := varB_lt64 (n := body.length) (by omega)
  refine Ctr.of_bodyO (E := Ev) (n := 48) Tryd.func7 rfl rfl (Nat.le_of_ble_eq_true rfl) ?_
  show AGo Ev _ _ (lst 48 [(0, .sl clip (bs ahead)), (1, .int .u8 kind.toNat), (2, .sl clip2 (bs data))]) _ _
  refine .seq ?_
  refine .region rfl ?_
  refine .o1 rfl rfl (op_as (by first | exact (rfl : _ = AV.sl _ _) | exact (rfl : _ = AV.row _ _))) ?_
  refine .nil ?_
  refine .seq ?_
  refine .region rfl ?_
  refine .o1 rfl rfl (op_mv (by first | exact (rfl : _ = AV.sl _ _) | exact (rfl : _ = AV.row _ _))) ?_
  refine .o1 rfl rfl (op_as (rfl : _ = AV.int _ _)) ?_
  refine .o1 rfl rfl (op_as (by first | exact (rfl : _ = AV.sl _ _) | exact (rfl : _ = AV.row _ _))) ?_
  refine .nil ?_
  refine .seq ?_
  refine .cut (σ := Bool) (fun _ => True) (fun cl => lst 48 [(0, .sl clip (bs ahead)), (1, .int .u8 kind.toNat), (2, .sl clip2 (bs data)), (7, .int .u8 how.toNat), (8, .sl cl (bs body))]) (fun _ => [.row 0 1 (bs (packS data)) true]) (fun cl _ => ?_) (fun cont => ?_)
  · obtain ⟨pks, hpks⟩ : ∃ x, packS data = x := ⟨_, rfl⟩
    rw [hpks]
    refine .seq ?_
    refine .region rfl ?_
    refine .o1 rfl rfl (op_mv (by first | exact (rfl : _ = AV.sl _ _) | exact (rfl : _ = AV.row _ _))) ?_
    refine .o1 rfl rfl (op_callJ Tryd.func14 rfl rfl rfl rfl (c14 (l := ahead) (by omega))) ?_
    refine .o1 rfl rfl (op_alloc (D := D22) rfl) ?_
    refine .o0 rfl rfl (op_store1 rfl rfl (D := D22) rfl (rfl : _ = AV.row _ _) rfl rfl (Nat.le_of_ble_eq_true rfl) rfl) ?_
    refine .nil ?_
    show AGo _ _ _ _ [.row 0 1 (bs pks) true, .row 0 1 (bs ahead) false, .var [.row 1 0]] _
    refine .seq ?_
    refine .region rfl ?_
    refine .o1 rfl rfl (op_load rfl rfl (D := D22) rfl rfl rfl) ?_
    refine .o1 rfl rfl (op_lenRow rfl rfl (S := D22) rfl rfl) ?_
    refine .o1 rfl rfl (op_alloc (D := D3) rfl) ?_
    refine .o0 rfl rfl (op_store1 rfl rfl (D := D3) rfl (by first | exact (rfl : _ = AV.int _ _) | exact (rfl : _ = AV.bool _) | exact (rfl : _ = AV.str _) | exact (rfl : _ = AV.sl _ _) | exact (rfl : _ = AV.row _ _) | exact (rfl : _ = AV.ptr _ _) | exact (rfl : _ = AV.tup _) | exact (rfl : _ = AV.agg _) | exact (rfl : _ = AV.fn _ _ _) | exact (rfl : _ = AV.nilp) | exact (rfl : _ = AV.mp _) | exact (rfl : _ = AV.vptr _) | exact (rfl : _ = AV.any)) rfl rfl (Nat.le_of_ble_eq_true rfl) rfl) ?_
    refine .nil ?_
    rw [bs_length]
    show AGo _ _ _ _ [.row 0 1 (bs pks) true, .row 0 1 (bs ahead) false, .var [.row 1 0], .var [.int .i64 ahead.length]] _
    refine .seq ?_
    refine .region rfl ?_
    refine .o1 rfl rfl op_makeFunc ?_
    refine .o1 rfl rfl (op_as (rfl : _ = AV.fn _ _ _)) ?_
    refine .nil ?_
    refine .keep [1, 2, 7, 8, 10, 11, 12] ?_
    refine .seq ?_
    refine .region rfl ?_
    refine .o1 rfl rfl (op_load rfl rfl (D := D22) rfl rfl rfl) ?_
    refine .o1 rfl rfl (op_mv (rfl : _ = AV.int _ _)) ?_
    refine .o1 rfl rfl (op_mv (rfl : _ = AV.int _ _)) ?_
    refine .o1 rfl rfl (op_lit (S := D22) (D := D5) (vs := [.int .u8 kind.toNat, .int .u8 how.toNat]) rfl rfl rfl rfl rfl (by decide) rfl ⟨rfl, rfl⟩) ?_
    refine .o1 rfl rfl (op_appB (l2 := [kind, how]) rfl rfl (.sl _ _) (by simp; omega)) ?_
    refine .o0 rfl rfl (op_store1 rfl rfl (D := D22) rfl (rfl : _ = AV.row _ _) rfl rfl (Nat.le_of_ble_eq_true rfl) rfl) ?_
    refine .nil ?_
    obtain ⟨l1, hl1⟩ : ∃ x, ahead ++ [kind, how] = x := ⟨_, rfl⟩
    have hl1l : l1.length = ahead.length + 2 := by rw [← hl1]; simp
    show AGo _ _ _ _ [.row 0 1 (bs pks) true, .row 1 1 (bs (ahead ++ [kind, how])) false, .var [.row 1 1], .var [.int .i64 ahead.length]] _
    rw [hl1]
    refine .seq ?_
    refine .region rfl ?_
    refine .o1 rfl rfl (op_load rfl rfl (D := D22) rfl rfl rfl) ?_
    refine .o1 rfl rfl (op_mv (by first | exact (rfl : _ = AV.sl _ _) | exact (rfl : _ = AV.row _ _))) ?_
    refine .o1 rfl rfl (op_lenSl rfl (S := D22) rfl rfl) ?_
    refine .o1 rfl rfl (op_convInt (r := (data.length : Int)) rfl (S := D3) (D := D46) rfl rfl rfl (by rw [bs_length]; exact wrap_in (by simp only [lo]; omega) (by simp only [hi]; omega))) ?_
    refine .o1 rfl rfl (op_callJ Tryd.func17 rfl rfl rfl rfl (c17 (o := 1) (n0 := data.length) rfl (by omega) (by omega))) ?_
    refine .o0 rfl rfl (op_store1 rfl rfl (D := D22) rfl (rfl : _ = AV.row _ _) rfl rfl (Nat.le_of_ble_eq_true rfl) rfl) ?_
    refine .nil ?_
    obtain ⟨n1, hn1⟩ : ∃ x, 1 + 1 + (varB data.length).length = x := ⟨_, rfl⟩
    obtain ⟨l2, hl2⟩ : ∃ x, l1 ++ varB data.length = x := ⟨_, rfl⟩
    have hl2l : l2.length = l1.length + (varB data.length).length := by rw [← hl2]; simp
    show AGo _ _ _ _ [.row 0 1 (bs pks) true, .row (1 + 1 + (varB data.length).length) 1 (bs (l1 ++ varB data.length)) false, .var [.row 1 (1 + 1 + (varB data.length).length)], .var [.int .i64 ahead.length]] _
    rw [hl2, hn1]
    refine .keep [1, 2, 7, 8, 10, 11, 12] ?_
    refine .seq ?_
    refine .region rfl ?_
    refine .o1 rfl rfl (op_load rfl rfl (D := D22) rfl rfl rfl) ?_
    refine .o1 rfl rfl (op_mv (by first | exact (rfl : _ = AV.sl _ _) | exact (rfl : _ = AV.row _ _))) ?_
    refine .o1 rfl rfl (op_lenSl rfl (S := D22) rfl rfl) ?_
    refine .o1 rfl rfl (op_convInt (r := (body.length : Int)) rfl (S := D3) (D := D46) rfl rfl rfl (by rw [bs_length]; exact wrap_in (by simp only [lo]; omega) (by simp only [hi]; omega))) ?_
    refine .o1 rfl rfl (op_callJ Tryd.func17 rfl rfl rfl rfl (c17 (o := 1) (n0 := body.length) rfl (by omega) (by omega))) ?_
    refine .o1 rfl rfl (op_mv (by first | exact (rfl : _ = AV.sl _ _) | exact (rfl : _ = AV.row _ _))) ?_
    refine .o1 rfl rfl (op_appB rfl rfl (.sl _ _) (by simp; omega)) ?_
    refine .o0 rfl rfl (op_store1 rfl rfl (D := D22) rfl (rfl : _ = AV.row _ _) rfl rfl (Nat.le_of_ble_eq_true rfl) rfl) ?_
    refine .nil ?_
    obtain ⟨n2, hn2⟩ : ∃ x, n1 + 1 + (varB body.length).length + 1 = x := ⟨_, rfl⟩
    obtain ⟨l3, hl3⟩ : ∃ x, l2 ++ varB body.length ++ body = x := ⟨_, rfl⟩
    have hl3l : l3.length = l2.length + (varB body.length).length + body.length := by rw [← hl3]; simp; omega
    show AGo _ _ _ _ [.row 0 1 (bs pks) true, .row (n1 + 1 + (varB body.length).length + 1) 1 (bs (l2 ++ varB body.length ++ body)) false, .var [.row 1 (n1 + 1 + (varB body.length).length + 1)], .var [.int .i64 ahead.length]] _
    rw [hl3, hn2]
    refine .keep [10, 11, 12] ?_
    have hdrop : l3.drop ahead.length = [kind, how] ++ varB data.length ++ varB body.length ++ body := by
      rw [← hl3, ← hl2, ← hl1]
      simp only [List.append_assoc]
      rw [List.drop_left]
    have hcat : l3 = ahead ++ ([kind, how] ++ varB data.length ++ varB body.length ++ body) := by
      rw [← hl3, ← hl2, ← hl1]
      simp only [List.append_assoc]
    refine .seq ?_
    refine .drawnJ 1 (fun st => st[2]? = some (.var [.row 1 n2])) [2, 3] rfl (by decide) (by decide +kernel) rfl ?_
    refine .dJ rfl rfl rfl (by decide +kernel) (fun _ hJ => (op_load rfl hJ (D := D22) rfl rfl rfl)) ?_
    refine .ds rfl rfl rfl (fun _ => (op_mv (rfl : _ = AV.fn _ _ _))) ?_
    refine .deJ 0 rfl rfl rfl rfl rfl (op_callJ Tryd.func15 rfl rfl rfl rfl (c15n (oT := 2) (oF := 3) (o := 1) (v := n2) (fromN := ahead.length) (l := l3) rfl rfl rfl (by omega) (by omega))) (fun _ => rfl) ?_
    refine .deJ 1 rfl rfl rfl rfl rfl (op_callJ Tryd.func18 rfl rfl rfl rfl (c18 (o := 1) (ver := n2) (n := crcN (l3.drop ahead.length)) (l := l3) rfl (by omega))) (fun h => absurd h (by decide)) ?_
    refine .ds rfl rfl rfl (fun _ => (op_as (rfl : _ = AV.row _ _))) ?_
    refine .nil rfl rfl ?_
    refine .ret ?_
    refine ⟨_, _, _, .cons (.tmpO _ rfl) .nil, .row (.row 0 0) 4 0 1 (bs (l3 ++ fixB (crcN (l3.drop ahead.length)))) false rfl (Nat.zero_le _) (fun _ => rfl) (okLL_bs _ _) .row, ?_, rfl⟩
    rw [hdrop, hcat]
    simp only [List.append_assoc]
    rfl
  · refine .seq ?_
    refine .region rfl ?_
    refine .o1 rfl rfl (op_mv (by first | exact (rfl : _ = AV.sl _ _) | exact (rfl : _ = AV.row _ _))) ?_
    refine .o1 rfl rfl (op_callJ Tryd.func13 rfl rfl rfl rfl (c13 hd)) ?_
    refine .o1 rfl rfl (op_as (rfl : _ = AV.row _ _)) ?_
    refine .nil ?_
    refine .seq ?_
    refine .region rfl ?_
    refine .o1 rfl rfl (op_mv (rfl : _ = AV.row _ _)) ?_
    refine .o1 rfl rfl (op_lenRow rfl rfl (S := D22) rfl rfl) ?_
    refine .o1 rfl rfl (op_mv (by first | exact (rfl : _ = AV.sl _ _) | exact (rfl : _ = AV.row _ _))) ?_
    refine .o1 rfl rfl (op_lenSl rfl (S := D22) rfl rfl) ?_
    refine .o1 rfl rfl (op_bin rfl rfl rfl) ?_
    refine .nil ?_
    refine .condO rfl (fun h => ?_) (fun h => ?_)   -- t20
    · have hc : (packS data).length < data.length := by simp [bs_length] at h; omega
      rw [if_pos hc] at hhow hbody
      subst hhow; subst hbody
      refine .region rfl ?_
      refine .o1 rfl rfl (op_mv (rfl : _ = AV.row _ _)) ?_
      refine .o1 rfl rfl (op_as (rfl : _ = AV.int _ _)) ?_
      refine .o1 rfl rfl (op_as (rfl : _ = AV.row _ _)) ?_
      refine .nil ?_
      refine .lend (o := 0) (ver := 0) (sz := 1) (es := bs (packS data)) rfl ?_
      refine .viewO (o := 0) (ver := 0) (sz := 1) (es := bs (packS data)) 8 rfl rfl ?_
      refine .keep [0, 1, 2, 7, 8] ?_
      exact cont false trivial
    · have hc : ¬ (packS data).length < data.length := by simp [bs_length] at h; omega
      rw [if_neg hc] at hhow hbody
      subst hhow; subst hbody
      refine .skip ?_
      refine .lend (o := 0) (ver := 0) (sz := 1) (es := bs (packS data)) rfl ?_
      refine .keep [0, 1, 2, 7, 8] ?_
      exact cont clip2 trivial
end Rm

namespace Rm
open Go Go.Proofs
open Go.RowKit
section
variable {g : Operand → AV} {st : List Ob} {d : Option Tmp} {t : TypeId} {p : String} {af : Array Edge} {gd : Option (Nat × Bool)}
theorem freeze_heap {w : World} {b n : Nat} {us : Array Value} {tt : TypeId} (hh : w.heap[b]? = some (.cells us tt (0, 0))) : (w.freeze ⟨b, n, none⟩ 1).heap[b]? = some (.cells us tt (n, n + 1)) ∧ (∀ r, r ≠ b → (w.freeze ⟨b, n, none⟩ 1).heap[r]? = w.heap[r]?) ∧ (w.freeze ⟨b, n, none⟩ 1).heap.size = w.heap.size ∧ (w.freeze ⟨b, n, none⟩ 1).os = w.os ∧ (w.freeze ⟨b, n, none⟩ 1).tape = w.tape ∧ (w.freeze ⟨b, n, none⟩ 1).output = w.output := by
  unfold World.freeze
  rw [if_neg (by decide)]
  refine ⟨?_, fun r hr => ?_, by simp, rfl, rfl, rfl⟩
  · rw [Array.getElem?_modify, if_pos rfl, hh]
    simp
  · rw [Array.getElem?_modify, if_neg (Ne.symm hr)]
theorem op_convRow {x : Operand} {o ver : Nat} {l : List UInt8} (hx : g x = .row o ver) (ho : st[o]? = some (.row ver 1 (bs l) false)) (hl : l ≠ []) : OpOk Ev ⟨d, .convert 22 22 x, t, p, af, gd⟩ g st (Just (.sl false (bs l)) (st.set o .dead)) :=
  .run fun C β m fr a w hG hrel hg => by
    have h0 := hg x (by simp [Op.operands])
    rw [hx] at h0
    obtain ⟨bv, hb, hf, hlv, hq, hs⟩ := h0.row_inv
    rcases hrel.inv.obj o _ _ hb ho with ⟨hnil, _⟩ | ⟨b, c, us, tt, rfl, hh, _⟩
    · exact absurd (by simpa [bs] using hnil) hl
    · have hv : a.eval x = .slice (some ⟨b, 0, none⟩) (bs l).length c := hq rfl
      obtain ⟨m', hle, hrel', hview⟩ := hrel.lend ho
      have hk := hrel'.kill o
      rw [List.set_set] at hk
      obtain ⟨f1, f2, f3, f4, f5, f6⟩ := freeze_heap (n := us.size) hh
      have hup := hk.update (o := o) (b := b) (ob := .dead) (w' := w.freeze ⟨b, us.size, none⟩ 1) hb rfl f4 f5 f6 (fun i v e => by
        have := hk.inv.mem b i v e
        simpa [World.cell?, hh, f1] using this) f2 (by rw [f3]; exact Nat.le_refl _) trivial
      rw [List.set_set] at hup
      refine ⟨a.eval x, _, β, m', _, _, ?_, ⟨rfl, rfl⟩, hup, hview _ h0⟩
      have h22 : Ev.P.underlying 22 = some (.slice 5) := Tryd.underlying22
      have h5 : Ev.P.underlying 5 = some (.int .u8) := Tryd.underlying5
      simp [execOp, convert, run_underlying h22, run_underlying h5, hv, markStringish, World.shape?, hh, Result.andThen]
end

/-! ### A chunk that is known -/
def kb : List UInt8 := [120, 121, 7, 0, 1, 1, 97, 86, 110, 33, 181]
def kb2 : List UInt8 := [120, 121, 7, 0, 1, 1, 98, 86, 110, 33, 181]
theorem known_put : [120, 121] ++ putS 7 [97] = kb := by
  have h1 : packS [97] = [0, 97] := by decide +kernel
  have h2 : varB 1 = [1] := varB_lt (by decide)
  rw [putS_eq, h1]
  simp only [List.length_cons, List.length_nil]
  rw [if_neg (by decide), if_neg (by decide), show varB (0 + 1) = [1] from h2]
  decide +kernel
theorem known_take : takeS kb 2 5 = (7, [97], 11, 0) := by decide +kernel
theorem known_read : (readS kb 2).2 = 0 ∧ (readS kb 2).1.kind = 7 ∧ (readS kb 2).1.next = 11 := by decide +kernel
theorem known_bad : (readS kb2 2).2 = 5 := by decide +kernel
theorem kb_len : kb.length ≤ 100000 ∧ kb2.length ≤ 100000 := by decide +kernel
end Rm

namespace Rm
open Go Go.Proofs
open Go.RowKit
set_option maxHeartbeats 8000000

theorem c6 : Ctr Tryd.prog mG 6 [] [] (fun st' r => st' = [] ∧ r = .bool true) := by
  refine Ctr.of_bodyO (E := Ev) (n := 72) Tryd.func6 rfl rfl (Nat.le_of_ble_eq_true rfl) ?_
  show AGo Ev _ _ (lst 72 []) _ _
  refine .seq ?_
  refine .region rfl ?_
  refine .o1 rfl rfl (op_as (rfl : _ = AV.bool _)) ?_
  refine .nil ?_
  refine .seq ?_
  refine .region rfl ?_
  refine .o1 rfl rfl (op_buildRow (S := D22) (D := D5) (es := bs [120, 121]) rfl rfl rfl rfl (by decide) (by decide) rfl (bs_one _) rfl) ?_
  refine .o1 rfl rfl (op_convRow (l := [120, 121]) rfl rfl (by decide)) ?_
  refine .o1 rfl rfl (op_buildRow (S := D22) (D := D5) (es := bs [97]) rfl rfl rfl rfl (by decide) (by decide) rfl (bs_one _) rfl) ?_
  refine .o1 rfl rfl (op_convRow (l := [97]) rfl rfl (by decide)) ?_
  have hc7 := c7 (clip := false) (clip2 := false) (ahead := [120, 121]) (data := [97]) (kind := 7) (by simp) (by simp)
  rw [known_put] at hc7
  refine .o1 rfl rfl (op_callK (y := .row 2 0) Tryd.func7 rfl rfl rfl (BorL.same0 rfl) hc7 (fun ob hob => by simp at hob; subst hob; exact plain_bs _ _) (.row 0 0)) ?_
  try dsimp only [List.set, setR, D31, D53, D57, D69, D86, D95, D22, D3, D9, List.take_succ_cons, List.take_zero, List.drop_succ_cons, List.drop_zero, List.length_cons, List.length_nil, List.nil_append, List.cons_append, Nat.reduceAdd, Nat.zero_add]
  refine .o1 rfl rfl (op_as (rfl : _ = AV.row _ _)) ?_
  refine .nil ?_
  refine .keep [1] ?_
  show AGo _ _ _ (lst 72 [(1, .row 2 0)]) [.dead, .dead, .row 0 1 (bs kb) false] _
  have hc11 := c11 (clip := false) (b := kb) (at_ := 2) (most := 5) kb_len.1
  rw [known_take] at hc11
  have hc9 := c9 (clip := false) (b := kb) (at_ := 2) kb_len.1
  rw [known_read.1, known_read.2.1, known_read.2.2] at hc9
  refine .seq ?_
  refine .region rfl ?_
  refine .o1 rfl rfl (op_mv (rfl : _ = AV.row _ _)) ?_
  refine .o1 rfl rfl (op_callK (y := .tup [.int .u8 7, .row 3 0, .int .i64 11, .int .i64 0]) Tryd.func11 rfl rfl rfl (.row (es := bs kb) rfl (okLL_bs _ _) (.same rfl (.same rfl .nil))) hc11 (fun ob hob => by simp [tkRes] at hob; subst hob; exact plain_bs _ _) (.tupL (.cons (.same _ rfl) (.cons (.row 0 0) (.cons (.same _ rfl) (.cons (.same _ rfl) .nil)))))) ?_
  refine .o1 rfl rfl (op_mv (by first | exact (rfl : _ = AV.int _ _) | exact (rfl : _ = AV.bool _) | exact (rfl : _ = AV.str _) | exact (rfl : _ = AV.sl _ _) | exact (rfl : _ = AV.row _ _) | exact (rfl : _ = AV.ptr _ _) | exact (rfl : _ = AV.tup _) | exact (rfl : _ = AV.agg _) | exact (rfl : _ = AV.fn _ _ _) | exact (rfl : _ = AV.nilp) | exact (rfl : _ = AV.mp _) | exact (rfl : _ = AV.vptr _) | exact (rfl : _ = AV.any))) ?_
  refine .o1 rfl rfl (op_extract rfl rfl) ?_
  refine .o1 rfl rfl (op_extract rfl rfl) ?_
  refine .o1 rfl rfl (op_extract rfl rfl) ?_
  refine .o1 rfl rfl (op_extract rfl rfl) ?_
  refine .o1 rfl rfl (op_as (rfl : _ = AV.int _ _)) ?_
  refine .o1 rfl rfl (op_as (rfl : _ = AV.row _ _)) ?_
  refine .o1 rfl rfl (op_as (rfl : _ = AV.int _ _)) ?_
  refine .o1 rfl rfl (op_as (rfl : _ = AV.int _ _)) ?_
  refine .nil ?_
  try dsimp only [List.set, setR, D31, D53, D57, D69, D86, D95, D22, D3, D9, List.take_succ_cons, List.take_zero, List.drop_succ_cons, List.drop_zero, List.length_cons, List.length_nil, List.nil_append, List.cons_append, Nat.reduceAdd, Nat.zero_add]
  refine .keep [1, 2, 3, 4, 5] ?_
  show AGo _ _ _ (lst 72 [(1, .row 2 0), (2, .int .u8 7), (3, .row 3 0), (4, .int .i64 11), (5, .int .i64 0)]) [.dead, .dead, .row 0 1 (bs kb) false, .row 0 1 (bs [97]) false] _
  refine .seq ?_
  refine .region rfl ?_
  refine .o1 rfl rfl (op_mv (rfl : _ = AV.row _ _)) ?_
  refine .o1 rfl rfl (op_callK (y := .tup [.int .u8 7, .int .i64 11, .int .i64 0]) Tryd.func9 rfl rfl rfl (.row (es := bs kb) rfl (okLL_bs _ _) (.same rfl .nil)) hc9 (fun ob hob => by simp at hob) (.same _ rfl)) ?_
  refine .o1 rfl rfl (op_mv (by first | exact (rfl : _ = AV.int _ _) | exact (rfl : _ = AV.bool _) | exact (rfl : _ = AV.str _) | exact (rfl : _ = AV.sl _ _) | exact (rfl : _ = AV.row _ _) | exact (rfl : _ = AV.ptr _ _) | exact (rfl : _ = AV.tup _) | exact (rfl : _ = AV.agg _) | exact (rfl : _ = AV.fn _ _ _) | exact (rfl : _ = AV.nilp) | exact (rfl : _ = AV.mp _) | exact (rfl : _ = AV.vptr _) | exact (rfl : _ = AV.any))) ?_
  refine .o1 rfl rfl (op_extract rfl rfl) ?_
  refine .o1 rfl rfl (op_extract rfl rfl) ?_
  refine .o1 rfl rfl (op_extract rfl rfl) ?_
  refine .o1 rfl rfl (op_as (rfl : _ = AV.int _ _)) ?_
  refine .o1 rfl rfl (op_as (rfl : _ = AV.int _ _)) ?_
  refine .o1 rfl rfl (op_as (rfl : _ = AV.int _ _)) ?_
  refine .nil ?_
  try dsimp only [List.set, setR, D31, D53, D57, D69, D86, D95, D22, D3, D9, List.take_succ_cons, List.take_zero, List.drop_succ_cons, List.drop_zero, List.length_cons, List.length_nil, List.nil_append, List.cons_append, Nat.reduceAdd, Nat.zero_add]
  refine .keep [1, 2, 3, 4, 5, 6, 7, 8] ?_
  show AGo _ _ _ (lst 72 [(1, .row 2 0), (2, .int .u8 7), (3, .row 3 0), (4, .int .i64 11), (5, .int .i64 0), (6, .int .u8 7), (7, .int .i64 11), (8, .int .i64 0)]) [.dead, .dead, .row 0 1 (bs kb) false, .row 0 1 (bs [97]) false] _
  refine .seq ?_
  refine .seq ?_
  refine .region rfl ?_
  refine .o1 rfl rfl (op_mv (rfl : _ = AV.row _ _)) ?_
  refine .o1 rfl rfl (op_lenRow rfl rfl (S := D22) rfl rfl) ?_
  refine .o1 rfl rfl (op_bin rfl rfl rfl) ?_
  refine .nil ?_
  refine .condO (t := false) rfl (fun h => by cases h) (fun _ => ?_)   -- t32
  refine .skip ?_
  refine .seq ?_
  refine .region rfl ?_
  refine .o1 rfl rfl (op_mv (rfl : _ = AV.row _ _)) ?_
  refine .o1 rfl rfl (op_indexAddr_row (k := .i64) (i := 6) rfl rfl rfl (S := D22) rfl rfl (D := D5) rfl rfl (by decide) (by decide)) ?_
  refine .o0 rfl rfl (op_store_r rfl rfl (D := D5) rfl (rfl : _ = AV.int .u8 98) rfl rfl (by decide)) ?_
  refine .nil ?_
  show AGo _ _ _ _ [.dead, .dead, .row 0 1 (bs kb2) false, .row 0 1 (bs [97]) false] _
  have hc9b := c9 (clip := false) (b := kb2) (at_ := 2) kb_len.2
  rw [known_bad, readS_zero (by rw [known_bad]; decide)] at hc9b
  refine .seq ?_
  refine .region rfl ?_
  refine .o1 rfl rfl (op_mv (rfl : _ = AV.row _ _)) ?_
  refine .o1 rfl rfl (op_callK (y := .tup [.int .u8 0, .int .i64 0, .int .i64 5]) Tryd.func9 rfl rfl rfl (.row (es := bs kb2) rfl (okLL_bs _ _) (.same rfl .nil)) hc9b (fun ob hob => by simp at hob) (.same _ rfl)) ?_
  refine .o1 rfl rfl (op_mv (by first | exact (rfl : _ = AV.int _ _) | exact (rfl : _ = AV.bool _) | exact (rfl : _ = AV.str _) | exact (rfl : _ = AV.sl _ _) | exact (rfl : _ = AV.row _ _) | exact (rfl : _ = AV.ptr _ _) | exact (rfl : _ = AV.tup _) | exact (rfl : _ = AV.agg _) | exact (rfl : _ = AV.fn _ _ _) | exact (rfl : _ = AV.nilp) | exact (rfl : _ = AV.mp _) | exact (rfl : _ = AV.vptr _) | exact (rfl : _ = AV.any))) ?_
  refine .o1 rfl rfl (op_extract rfl rfl) ?_
  refine .o1 rfl rfl (op_extract rfl rfl) ?_
  refine .o1 rfl rfl (op_extract rfl rfl) ?_
  refine .o1 rfl rfl (op_as (rfl : _ = AV.int _ _)) ?_
  refine .o1 rfl rfl (op_as (rfl : _ = AV.int _ _)) ?_
  refine .o1 rfl rfl (op_as (rfl : _ = AV.int _ _)) ?_
  refine .nil ?_
  try dsimp only [List.set, setR, D31, D53, D57, D69, D86, D95, D22, D3, D9, List.take_succ_cons, List.take_zero, List.drop_succ_cons, List.drop_zero, List.length_cons, List.length_nil, List.nil_append, List.cons_append, Nat.reduceAdd, Nat.zero_add]
  refine .keep [2, 3, 4, 5, 6, 7, 8, 11] ?_
  show AGo _ _ _ (lst 72 [(2, .int .u8 7), (3, .row 3 0), (4, .int .i64 11), (5, .int .i64 0), (6, .int .u8 7), (7, .int .i64 11), (8, .int .i64 0), (11, .int .i64 5)]) [.dead, .dead, .row 0 1 (bs kb2) false, .row 0 1 (bs [97]) false] _
  refine .seq ?_
  refine .region rfl ?_
  refine .o1 rfl rfl (op_mv (rfl : _ = AV.int _ _)) ?_
  refine .o1 rfl rfl (op_bin rfl rfl rfl) ?_
  refine .o1 rfl rfl (op_mv (rfl : _ = AV.bool _)) ?_
  refine .oy rfl rfl rfl rfl (op_mv (rfl : _ = AV.int _ _)) ?_
  refine .oy rfl rfl rfl rfl (op_bin rfl rfl rfl) ?_
  refine .o1 rfl rfl (op_pick rfl (rfl : _ = AV.bool _)) ?_
  refine .o1 rfl rfl (op_mv (rfl : _ = AV.bool _)) ?_
  refine .oy rfl rfl rfl rfl (op_mv (rfl : _ = AV.row _ _)) ?_
  refine .oy rfl rfl rfl rfl (op_string (l := [97]) (.row _ _ _ _ _ rfl) (S := D22) rfl rfl (B := D5) rfl rfl (D := D9) rfl rfl) ?_
  refine .oy rfl rfl rfl rfl (op_strEq rfl rfl) ?_
  refine .o1 rfl rfl (op_pick rfl (rfl : _ = AV.bool _)) ?_
  refine .o1 rfl rfl (op_mv (rfl : _ = AV.bool _)) ?_
  refine .oy rfl rfl rfl rfl (op_mv (rfl : _ = AV.int _ _)) ?_
  refine .oy rfl rfl rfl rfl (op_bin rfl rfl rfl) ?_
  refine .o1 rfl rfl (op_pick rfl (rfl : _ = AV.bool _)) ?_
  refine .o1 rfl rfl (op_mv (rfl : _ = AV.bool _)) ?_
  refine .oy rfl rfl rfl rfl (op_mv (rfl : _ = AV.int _ _)) ?_
  refine .oy rfl rfl rfl rfl (op_bin rfl rfl rfl) ?_
  refine .o1 rfl rfl (op_pick rfl (rfl : _ = AV.bool _)) ?_
  refine .o1 rfl rfl (op_mv (rfl : _ = AV.bool _)) ?_
  refine .oy rfl rfl rfl rfl (op_mv (rfl : _ = AV.int _ _)) ?_
  refine .oy rfl rfl rfl rfl (op_bin rfl rfl rfl) ?_
  refine .o1 rfl rfl (op_pick rfl (rfl : _ = AV.bool _)) ?_
  refine .o1 rfl rfl (op_mv (rfl : _ = AV.bool _)) ?_
  refine .oy rfl rfl rfl rfl (op_mv (rfl : _ = AV.int _ _)) ?_
  refine .oy rfl rfl rfl rfl (op_bin rfl rfl rfl) ?_
  refine .o1 rfl rfl (op_pick rfl (rfl : _ = AV.bool _)) ?_
  refine .o1 rfl rfl (op_mv (rfl : _ = AV.bool _)) ?_
  refine .oy rfl rfl rfl rfl (op_mv (rfl : _ = AV.int _ _)) ?_
  refine .oy rfl rfl rfl rfl (op_bin rfl rfl rfl) ?_
  refine .o1 rfl rfl (op_pick rfl (rfl : _ = AV.bool _)) ?_
  refine .o1 rfl rfl (op_as (rfl : _ = AV.bool _)) ?_
  refine .nil ?_
  refine .ret ?_
  exact ⟨_, _, _, .cons (.tmpO _ rfl) .nil, .drop 0 (Nat.le_refl _) rfl (fun _ => rfl), rfl, rfl⟩
end Rm

namespace Rm
open Go Go.Proofs
open Go.RowKit
set_option maxHeartbeats 8000000

theorem ok_sl1 (clip : Bool) (l : List UInt8) : okA 0 (.sl clip (bs l)) = true := by simp [okA, okLL_bs]
theorem c3 {cl1 cl2 : Bool} {ahead data : List UInt8} {kind : UInt8} : Ctr Tryd.prog mG 3 [] [.sl cl1 (bs ahead), .sl cl2 (bs data), .int .u8 kind.toNat] (fun st' r => st' = [] ∧ r = .bool true) := by
  refine Ctr.of_bodyO (E := Ev) (n := 42) Tryd.func3 rfl rfl (Nat.le_of_ble_eq_true rfl) ?_
  show AGo Ev _ _ (lst 42 [(0, .sl cl1 (bs ahead)), (1, .sl cl2 (bs data)), (2, .int .u8 kind.toNat)]) _ _
  refine .seq ?_
  refine .region rfl ?_
  refine .o1 rfl rfl (op_as (rfl : _ = AV.bool _)) ?_
  refine .nil ?_
  refine .seq ?_
  refine .seq ?_
  refine .cut (σ := Bool) (fun t => t = true ↔ (2000 < ahead.length ∨ 2000 < data.length)) (fun t => lst 42 [(0, .sl cl1 (bs ahead)), (1, .sl cl2 (bs data)), (2, .int .u8 kind.toNat), (16, .bool t)]) (fun _ => []) (fun t ht => ?_) (fun cont => ?_)
  · refine .condO rfl (fun h => ?_) (fun h => ?_)   -- t16
    · refine .seq ?_
      refine .region rfl ?_
      refine .o1 rfl rfl (op_callP Tryd.func6 rfl rfl rfl rfl rfl c6 rfl) ?_
      refine .o1 rfl rfl (op_as (rfl : _ = AV.bool _)) ?_
      refine .nil ?_
      try dsimp only [List.set, setR, D31, D53, D57, D69, D86, D95, D22, D3, D9, List.take_succ_cons, List.take_zero, List.drop_succ_cons, List.drop_zero, List.length_cons, List.length_nil, List.nil_append, List.cons_append, Nat.reduceAdd, Nat.zero_add]
      refine .ret ?_
      exact ⟨_, _, _, .cons (.tmpO _ rfl) .nil, .drop 0 (Nat.le_refl _) rfl (fun _ => rfl), rfl, rfl⟩
    · subst h
      have hsm : ¬ (2000 < ahead.length ∨ 2000 < data.length) := fun q => by have := ht.2 q; cases this
      refine .skip ?_
      refine .seq ?_
      refine .region rfl ?_
      refine .o1 rfl rfl (op_mv (rfl : _ = AV.sl _ _)) ?_
      refine .o1 rfl rfl (op_string (l := ahead) (.sl _ _) (S := D22) rfl rfl (B := D5) rfl rfl (D := D9) rfl rfl) ?_
      refine .o1 rfl rfl (op_as (rfl : _ = AV.str _)) ?_
      refine .nil ?_
      refine .seq ?_
      refine .region rfl ?_
      refine .o1 rfl rfl (op_mv (rfl : _ = AV.sl _ _)) ?_
      refine .o1 rfl rfl (op_mv (rfl : _ = AV.int _ _)) ?_
      refine .o1 rfl rfl (op_mv (rfl : _ = AV.sl _ _)) ?_
      refine .o1 rfl rfl (op_callJ Tryd.func7 rfl rfl rfl rfl (c7 (ahead := ahead) (data := data) (kind := kind) (by omega) (by omega))) ?_
      refine .o1 rfl rfl (op_as (rfl : _ = AV.row _ _)) ?_
      refine .nil ?_
      try dsimp only [List.set, setR, D31, D53, D57, D69, D86, D95, D22, D3, D9, List.take_succ_cons, List.take_zero, List.drop_succ_cons, List.drop_zero, List.length_cons, List.length_nil, List.nil_append, List.cons_append, Nat.reduceAdd, Nat.zero_add]
      have hpl : (putS kind data).length ≤ 200000 := by
        rw [putS_eq]
        have v1 := varB_lt64 (n := data.length) (by omega)
        have v2 := varB_lt64 (n := (if (packS data).length < data.length then packS data else data).length) (by split <;> omega)
        have v3 : (if (packS data).length < data.length then packS data else data).length ≤ data.length := by split <;> omega
        simp only [List.length_append, List.length_cons, List.length_nil, fixB]
        omega
      refine .keep [0, 1, 2, 7, 8] ?_
      refine .seq ?_
      refine .drawn [] rfl (by decide) (by decide +kernel) ?_
      refine .ds rfl rfl rfl (fun _ => (op_mv (rfl : _ = AV.row _ _))) ?_
      refine .dp 0 rfl rfl rfl (by decide +kernel) rfl (op_string (l := ahead ++ putS kind data) (.row _ _ _ _ _ rfl) (S := D22) rfl rfl (B := D5) rfl rfl (D := D9) rfl rfl) ?_
      refine .ds rfl rfl rfl (fun _ => (op_mv (rfl : _ = AV.str _))) ?_
      refine .ds rfl rfl rfl (fun _ => (op_mv (rfl : _ = AV.int _ _))) ?_
      refine .ds rfl rfl rfl (fun _ => (op_mv (rfl : _ = AV.sl _ _))) ?_
      refine .dp 0 rfl rfl rfl (by decide +kernel) rfl (op_string (l := data) (.sl _ _) (S := D22) rfl rfl (B := D5) rfl rfl (D := D9) rfl rfl) ?_
      refine .dp 0 rfl rfl rfl (by decide +kernel) rfl (op_callP Tryd.func8 rfl rfl rfl rfl rfl (c8 (kind := kind) (data := data) (by omega)) rfl) ?_
      refine .ds rfl rfl rfl (fun _ => (op_strAdd rfl rfl (by omega))) ?_
      try dsimp only [List.set, setR, D31, D53, D57, D69, D86, D95, D22, D3, D9, List.take_succ_cons, List.take_zero, List.drop_succ_cons, List.drop_zero, List.length_cons, List.length_nil, List.nil_append, List.cons_append, Nat.reduceAdd, Nat.zero_add]
      refine .ds rfl rfl rfl (fun _ => (op_strEq rfl rfl)) ?_
      rw [beq_self_eq_true]
      refine .ds rfl rfl rfl (fun _ => (op_mv (rfl : _ = AV.bool _))) ?_
      refine .dys rfl rfl rfl rfl rfl (fun _ => (op_mv (rfl : _ = AV.sl _ _))) ?_
      refine .dy 0 rfl rfl rfl rfl rfl (by decide +kernel) rfl (op_string (l := ahead) (.sl _ _) (S := D22) rfl rfl (B := D5) rfl rfl (D := D9) rfl rfl) ?_
      refine .dys rfl rfl rfl rfl rfl (fun _ => (op_mv (rfl : _ = AV.str _))) ?_
      refine .dys rfl rfl rfl rfl rfl (fun _ => (op_strEq rfl rfl)) ?_
      rw [beq_self_eq_true]
      refine .ds rfl rfl rfl (fun _ => (op_pick rfl (rfl : _ = AV.bool _))) ?_
      refine .ds rfl rfl rfl (fun _ => (op_mv (rfl : _ = AV.bool _))) ?_
      refine .dy 0 rfl rfl rfl rfl rfl (by decide +kernel) rfl (op_callP Tryd.func6 rfl rfl rfl rfl rfl c6 rfl) ?_
      refine .ds rfl rfl rfl (fun _ => (op_pick rfl (rfl : _ = AV.bool _))) ?_
      refine .ds rfl rfl rfl (fun _ => (op_as (rfl : _ = AV.bool _))) ?_
      try dsimp only [List.set, setR, D31, D53, D57, D69, D86, D95, D22, D3, D9, List.take_succ_cons, List.take_zero, List.drop_succ_cons, List.drop_zero, List.length_cons, List.length_nil, List.nil_append, List.cons_append, Nat.reduceAdd, Nat.zero_add]
      refine .nil rfl rfl ?_
      refine .ret ?_
      exact ⟨_, _, _, .cons (.tmpO _ rfl) .nil, .drop 0 (Nat.le_refl _) rfl (fun _ => rfl), rfl, rfl⟩
  · refine .region rfl ?_
    refine .o1 rfl rfl (op_mv (rfl : _ = AV.sl _ _)) ?_
    refine .o1 rfl rfl (op_lenSl rfl (S := D22) rfl rfl) ?_
    refine .o1 rfl rfl (op_bin rfl rfl rfl) ?_
    by_cases h1 : 2000 < ahead.length
    · rw [show decide (2000 < ((bs ahead).length : Int)) = true by simp [bs_length]; omega]
      refine .o1 rfl rfl (op_mv (rfl : _ = AV.bool _)) ?_
      refine .on rfl rfl rfl rfl ?_
      refine .on rfl rfl rfl rfl ?_
      refine .on rfl rfl rfl rfl ?_
      refine .o1 rfl rfl (op_pick rfl (rfl : _ = AV.bool _)) ?_
      refine .nil ?_
      refine .keep [0, 1, 2, 16] ?_
      exact cont true (by simp [h1])
    · rw [show decide (2000 < ((bs ahead).length : Int)) = false by simp [bs_length]; omega]
      refine .o1 rfl rfl (op_mv (rfl : _ = AV.bool _)) ?_
      refine .oy rfl rfl rfl rfl (op_mv (rfl : _ = AV.sl _ _)) ?_
      refine .oy rfl rfl rfl rfl (op_lenSl rfl (S := D22) rfl rfl) ?_
      refine .oy rfl rfl rfl rfl (op_bin rfl rfl rfl) ?_
      refine .o1 rfl rfl (op_pick rfl (rfl : _ = AV.bool _)) ?_
      refine .nil ?_
      refine .keep [0, 1, 2, 16] ?_
      exact cont (decide (2000 < ((bs data).length : Int))) (by simp [h1, bs_length]; omega)

theorem takeS_err {b : List UInt8} {at_ most : Int} (h : (takeS b at_ most).2.2.2 ≠ 0) : takeS b at_ most = (0, [], 0, (takeS b at_ most).2.2.2) := by
  unfold takeS at h ⊢
  simp only at h ⊢
  split
  · rfl
  · rename_i q; rw [if_neg q] at h
    split
    · rfl
    · rename_i q; rw [if_neg q] at h
      split
      · rename_i q; rw [if_pos q] at h; exact absurd rfl h
      · rename_i q; rw [if_neg q] at h
        split
        · rfl
        · rename_i q; rw [if_neg q] at h; exact absurd rfl h

theorem c4 {s : List UInt8} {at_ most : Int} : Ctr Tryd.prog mG 4 [] [.str s, .int .i64 at_, .int .i64 most] (fun st' r => st' = [] ∧ r = .bool true) := by
  refine Ctr.of_bodyO (E := Ev) (n := 92) Tryd.func4 rfl rfl (Nat.le_of_ble_eq_true rfl) ?_
  show AGo Ev _ _ (lst 92 [(0, .str s), (1, .int .i64 at_), (2, .int .i64 most)]) _ _
  refine .seq ?_
  refine .region rfl ?_
  refine .o1 rfl rfl (op_as (rfl : _ = AV.bool _)) ?_
  refine .nil ?_
  refine .seq ?_
  refine .seq ?_
  refine .region rfl ?_
  refine .o1 rfl rfl (op_mv (rfl : _ = AV.str _)) ?_
  refine .o1 rfl rfl (op_lenStr rfl (S := D9) rfl rfl) ?_
  refine .o1 rfl rfl (op_bin rfl rfl rfl) ?_
  refine .nil ?_
  refine .condO rfl (fun h => ?_) (fun h => ?_)   -- t20
  · refine .seq ?_
    refine .region rfl ?_
    refine .o1 rfl rfl (op_callP Tryd.func6 rfl rfl rfl rfl rfl c6 rfl) ?_
    refine .o1 rfl rfl (op_as (rfl : _ = AV.bool _)) ?_
    refine .nil ?_
    try dsimp only [List.set, setR, D31, D53, D57, D69, D86, D95, D22, D3, D9, List.take_succ_cons, List.take_zero, List.drop_succ_cons, List.drop_zero, List.length_cons, List.length_nil, List.nil_append, List.cons_append, Nat.reduceAdd, Nat.zero_add]
    refine .ret ?_
    exact ⟨_, _, _, .cons (.tmpO _ rfl) .nil, .drop 0 (Nat.le_refl _) rfl (fun _ => rfl), rfl, rfl⟩
  · have hsl : s.length ≤ 4000 := by simp at h; omega
    have hc9 := c9 (clip := false) (b := s) (at_ := at_) (by omega)
    have hc10 := c10 (b := s) (at_ := at_) (by omega)
    obtain ⟨⟨kd, pk, sz, bd, nx⟩, er, hr⟩ : ∃ x e, readS s at_ = (x, e) := ⟨_, _, rfl⟩
    rw [hr] at hc9 hc10
    have hc11 := c11 (clip := false) (b := s) (at_ := at_) (most := most) (by omega)
    have hc12 := c12 (b := s) (at_ := at_) (most := most) (by omega)
    have hterr := takeS_err (b := s) (at_ := at_) (most := most)
    obtain ⟨tk, td, tn, te, ht⟩ : ∃ a b c d, takeS s at_ most = (a, b, c, d) := ⟨_, _, _, _, rfl⟩
    rw [ht] at hc11 hc12 hterr
    simp only at hc9 hc10 hc12 hterr
    refine .skip ?_
    refine .seq ?_
    refine .region rfl ?_
    refine .o1 rfl rfl (op_mv (rfl : _ = AV.str _)) ?_
    refine .o1 rfl rfl (op_bytes (l := s) rfl (S := D9) rfl rfl (D := D22) rfl rfl (B := D5) rfl rfl) ?_
    refine .o1 rfl rfl (op_mv (rfl : _ = AV.int _ _)) ?_
    refine .o1 rfl rfl (op_callJ Tryd.func9 rfl rfl rfl rfl hc9) ?_
    refine .o1 rfl rfl (op_mv (by first | exact (rfl : _ = AV.int _ _) | exact (rfl : _ = AV.bool _) | exact (rfl : _ = AV.str _) | exact (rfl : _ = AV.sl _ _) | exact (rfl : _ = AV.row _ _) | exact (rfl : _ = AV.ptr _ _) | exact (rfl : _ = AV.tup _) | exact (rfl : _ = AV.agg _) | exact (rfl : _ = AV.fn _ _ _) | exact (rfl : _ = AV.nilp) | exact (rfl : _ = AV.mp _) | exact (rfl : _ = AV.vptr _) | exact (rfl : _ = AV.any))) ?_
    refine .o1 rfl rfl (op_extract rfl rfl) ?_
    refine .o1 rfl rfl (op_extract rfl rfl) ?_
    refine .o1 rfl rfl (op_extract rfl rfl) ?_
    refine .o1 rfl rfl (op_as (rfl : _ = AV.int _ _)) ?_
    refine .o1 rfl rfl (op_as (rfl : _ = AV.int _ _)) ?_
    refine .o1 rfl rfl (op_as (rfl : _ = AV.int _ _)) ?_
    refine .nil ?_
    try dsimp only [List.set, setR, D31, D53, D57, D69, D86, D95, D22, D3, D9, List.take_succ_cons, List.take_zero, List.drop_succ_cons, List.drop_zero, List.length_cons, List.length_nil, List.nil_append, List.cons_append, Nat.reduceAdd, Nat.zero_add]
    refine .seq ?_
    refine .region rfl ?_
    refine .o1 rfl rfl (op_mv (rfl : _ = AV.str _)) ?_
    refine .o1 rfl rfl (op_mv (rfl : _ = AV.int _ _)) ?_
    refine .o1 rfl rfl (op_callP Tryd.func10 rfl rfl rfl rfl rfl hc10 rfl) ?_
    refine .o1 rfl rfl (op_mv (by first | exact (rfl : _ = AV.int _ _) | exact (rfl : _ = AV.bool _) | exact (rfl : _ = AV.str _) | exact (rfl : _ = AV.sl _ _) | exact (rfl : _ = AV.row _ _) | exact (rfl : _ = AV.ptr _ _) | exact (rfl : _ = AV.tup _) | exact (rfl : _ = AV.agg _) | exact (rfl : _ = AV.fn _ _ _) | exact (rfl : _ = AV.nilp) | exact (rfl : _ = AV.mp _) | exact (rfl : _ = AV.vptr _) | exact (rfl : _ = AV.any))) ?_
    refine .o1 rfl rfl (op_extract rfl rfl) ?_
    refine .o1 rfl rfl (op_extract rfl rfl) ?_
    refine .o1 rfl rfl (op_alloc (D := D31) rfl) ?_
    refine .o0 rfl rfl (op_storeA rfl rfl (D := D31) rfl rfl rfl rfl rfl) ?_
    refine .o1 rfl rfl (op_as (rfl : _ = AV.int _ _)) ?_
    refine .nil ?_
    try dsimp only [List.set, setR, D31, D53, D57, D69, D86, D95, D22, D3, D9, List.take_succ_cons, List.take_zero, List.drop_succ_cons, List.drop_zero, List.length_cons, List.length_nil, List.nil_append, List.cons_append, Nat.reduceAdd, Nat.zero_add]
    refine .keep [0, 1, 2, 7, 8, 9, 10, 11] ?_
    refine .seq ?_
    refine .seq ?_
    refine .region rfl ?_
    refine .o1 rfl rfl (op_mv (rfl : _ = AV.int _ _)) ?_
    refine .o1 rfl rfl (op_fieldAddr rfl (D := D31) rfl rfl rfl rfl (by decide)) ?_
    refine .o1 rfl rfl (op_load rfl rfl (D := D5) rfl rfl rfl) ?_
    refine .o1 rfl rfl (op_bin rfl rfl rfl) ?_
    rw [bne_self_eq_false]
    refine .o1 rfl rfl (op_mv (rfl : _ = AV.bool _)) ?_
    refine .oy rfl rfl rfl rfl (op_mv (rfl : _ = AV.int _ _)) ?_
    refine .oy rfl rfl rfl rfl (op_fieldAddr rfl (D := D31) rfl rfl rfl rfl (by decide)) ?_
    refine .oy rfl rfl rfl rfl (op_load rfl rfl (D := D3) rfl rfl rfl) ?_
    refine .oy rfl rfl rfl rfl (op_bin rfl rfl rfl) ?_
    rw [bne_self_eq_false]
    refine .o1 rfl rfl (op_pick rfl (rfl : _ = AV.bool _)) ?_
    refine .o1 rfl rfl (op_mv (rfl : _ = AV.bool _)) ?_
    refine .oy rfl rfl rfl rfl (op_mv (rfl : _ = AV.int _ _)) ?_
    refine .oy rfl rfl rfl rfl (op_mv (rfl : _ = AV.int _ _)) ?_
    refine .oy rfl rfl rfl rfl (op_bin rfl rfl rfl) ?_
    rw [bne_self_eq_false]
    refine .o1 rfl rfl (op_pick rfl (rfl : _ = AV.bool _)) ?_
    refine .nil ?_
    refine .condO rfl (fun h => by cases h) (fun _ => ?_)   -- t50
    refine .skip ?_
    refine .keep [0, 1, 2] ?_
    refine .seq ?_
    by_cases he : te = 0
    · subst he
      refine .region rfl ?_
      refine .o1 rfl rfl (op_mv (rfl : _ = AV.str _)) ?_
      refine .o1 rfl rfl (op_bytes (l := s) rfl (S := D9) rfl rfl (D := D22) rfl rfl (B := D5) rfl rfl) ?_
      refine .o1 rfl rfl (op_mv (rfl : _ = AV.int _ _)) ?_
      refine .o1 rfl rfl (op_mv (rfl : _ = AV.int _ _)) ?_
      refine .o1 rfl rfl (op_callK (y := .tup [.int .u8 tk, .row 1 0, .int .i64 tn, .int .i64 0]) Tryd.func11 rfl rfl rfl (.same (ok_sl1 _ _) (.same rfl (.same rfl .nil))) hc11 (fun ob hob => by simp [tkRes] at hob; subst hob; exact plain_bs _ _) (.tupL (.cons (.same _ rfl) (.cons (.row 0 0) (.cons (.same _ rfl) (.cons (.same _ rfl) .nil)))))) ?_
      refine .o1 rfl rfl (op_mv (by first | exact (rfl : _ = AV.int _ _) | exact (rfl : _ = AV.bool _) | exact (rfl : _ = AV.str _) | exact (rfl : _ = AV.sl _ _) | exact (rfl : _ = AV.row _ _) | exact (rfl : _ = AV.ptr _ _) | exact (rfl : _ = AV.tup _) | exact (rfl : _ = AV.agg _) | exact (rfl : _ = AV.fn _ _ _) | exact (rfl : _ = AV.nilp) | exact (rfl : _ = AV.mp _) | exact (rfl : _ = AV.vptr _) | exact (rfl : _ = AV.any))) ?_
      refine .o1 rfl rfl (op_extract rfl rfl) ?_
      refine .o1 rfl rfl (op_extract rfl rfl) ?_
      refine .o1 rfl rfl (op_extract rfl rfl) ?_
      refine .o1 rfl rfl (op_extract rfl rfl) ?_
      refine .o1 rfl rfl (op_as (rfl : _ = AV.int _ _)) ?_
      refine .o1 rfl rfl (op_as (rfl : _ = AV.row _ _)) ?_
      refine .o1 rfl rfl (op_as (rfl : _ = AV.int _ _)) ?_
      refine .o1 rfl rfl (op_as (rfl : _ = AV.int _ _)) ?_
      refine .nil ?_
      try dsimp only [List.set, setR, D31, D53, D57, D69, D86, D95, D22, D3, D9, List.take_succ_cons, List.take_zero, List.drop_succ_cons, List.drop_zero, List.length_cons, List.length_nil, List.nil_append, List.cons_append, Nat.reduceAdd, Nat.zero_add]
      refine .keep [0, 1, 2, 12, 13, 14, 15] ?_
      refine .seq ?_
      refine .region rfl ?_
      refine .o1 rfl rfl (op_mv (rfl : _ = AV.str _)) ?_
      refine .o1 rfl rfl (op_mv (rfl : _ = AV.int _ _)) ?_
      refine .o1 rfl rfl (op_mv (rfl : _ = AV.int _ _)) ?_
      refine .o1 rfl rfl (op_callP Tryd.func12 rfl rfl rfl rfl rfl hc12 rfl) ?_
      refine .o1 rfl rfl (op_mv (by first | exact (rfl : _ = AV.int _ _) | exact (rfl : _ = AV.bool _) | exact (rfl : _ = AV.str _) | exact (rfl : _ = AV.sl _ _) | exact (rfl : _ = AV.row _ _) | exact (rfl : _ = AV.ptr _ _) | exact (rfl : _ = AV.tup _) | exact (rfl : _ = AV.agg _) | exact (rfl : _ = AV.fn _ _ _) | exact (rfl : _ = AV.nilp) | exact (rfl : _ = AV.mp _) | exact (rfl : _ = AV.vptr _) | exact (rfl : _ = AV.any))) ?_
      refine .o1 rfl rfl (op_extract rfl rfl) ?_
      refine .o1 rfl rfl (op_extract rfl rfl) ?_
      refine .o1 rfl rfl (op_extract rfl rfl) ?_
      refine .o1 rfl rfl (op_extract rfl rfl) ?_
      refine .o1 rfl rfl (op_as (rfl : _ = AV.int _ _)) ?_
      refine .o1 rfl rfl (op_as (rfl : _ = AV.str _)) ?_
      refine .o1 rfl rfl (op_as (rfl : _ = AV.int _ _)) ?_
      refine .o1 rfl rfl (op_as (rfl : _ = AV.int _ _)) ?_
      refine .nil ?_
      try dsimp only [List.set, setR, D31, D53, D57, D69, D86, D95, D22, D3, D9, List.take_succ_cons, List.take_zero, List.drop_succ_cons, List.drop_zero, List.length_cons, List.length_nil, List.nil_append, List.cons_append, Nat.reduceAdd, Nat.zero_add]
      refine .keep [7, 8, 12, 13, 14, 15, 16, 17] ?_
      refine .seq ?_
      refine .region rfl ?_
      refine .o1 rfl rfl (op_mv (rfl : _ = AV.int _ _)) ?_
      refine .o1 rfl rfl (op_mv (rfl : _ = AV.int _ _)) ?_
      refine .o1 rfl rfl (op_bin rfl rfl rfl) ?_
      rw [beq_self_eq_true]
      refine .o1 rfl rfl (op_mv (rfl : _ = AV.bool _)) ?_
      refine .oy rfl rfl rfl rfl (op_mv (rfl : _ = AV.row _ _)) ?_
      refine .oy rfl rfl rfl rfl (op_string (l := td) (.row _ _ _ _ _ rfl) (S := D22) rfl rfl (B := D5) rfl rfl (D := D9) rfl rfl) ?_
      refine .oy rfl rfl rfl rfl (op_mv (rfl : _ = AV.str _)) ?_
      refine .oy rfl rfl rfl rfl (op_strEq rfl rfl) ?_
      rw [beq_self_eq_true]
      refine .o1 rfl rfl (op_pick rfl (rfl : _ = AV.bool _)) ?_
      refine .o1 rfl rfl (op_mv (rfl : _ = AV.bool _)) ?_
      refine .oy rfl rfl rfl rfl (op_mv (rfl : _ = AV.int _ _)) ?_
      refine .oy rfl rfl rfl rfl (op_mv (rfl : _ = AV.int _ _)) ?_
      refine .oy rfl rfl rfl rfl (op_bin rfl rfl rfl) ?_
      rw [beq_self_eq_true]
      refine .o1 rfl rfl (op_pick rfl (rfl : _ = AV.bool _)) ?_
      refine .o1 rfl rfl (op_mv (rfl : _ = AV.bool _)) ?_
      refine .oy rfl rfl rfl rfl (op_mv (rfl : _ = AV.int _ _)) ?_
      refine .oy rfl rfl rfl rfl (op_mv (rfl : _ = AV.int _ _)) ?_
      refine .oy rfl rfl rfl rfl (op_bin rfl rfl rfl) ?_
      refine .o1 rfl rfl (op_pick rfl (rfl : _ = AV.bool _)) ?_
      refine .o1 rfl rfl (op_mv (rfl : _ = AV.bool _)) ?_
      refine .oy rfl rfl rfl rfl (op_callP Tryd.func6 rfl rfl rfl rfl rfl c6 rfl) ?_
      refine .o1 rfl rfl (op_pick rfl (rfl : _ = AV.bool _)) ?_
      refine .o1 rfl rfl (op_as (rfl : _ = AV.bool _)) ?_
      try dsimp only [List.set, setR, D31, D53, D57, D69, D86, D95, D22, D3, D9, List.take_succ_cons, List.take_zero, List.drop_succ_cons, List.drop_zero, List.length_cons, List.length_nil, List.nil_append, List.cons_append, Nat.reduceAdd, Nat.zero_add]
      refine .nil ?_
      refine .ret ?_
      exact ⟨_, _, _, .cons (.tmpO _ rfl) .nil, .drop 0 (Nat.le_refl _) rfl (fun _ => rfl), rfl, rfl⟩
    · have e1 := hterr he
      simp only [Prod.mk.injEq, and_true] at e1
      obtain ⟨rfl, rfl, rfl⟩ := e1
      have hk : tkRes (0, [], 0, te) = ([], .tup [.int .u8 0, .sl true [], .int .i64 0, .int .i64 te]) := by unfold tkRes; rw [if_neg he]
      rw [hk] at hc11
      refine .region rfl ?_
      refine .o1 rfl rfl (op_mv (rfl : _ = AV.str _)) ?_
      refine .o1 rfl rfl (op_bytes (l := s) rfl (S := D9) rfl rfl (D := D22) rfl rfl (B := D5) rfl rfl) ?_
      refine .o1 rfl rfl (op_mv (rfl : _ = AV.int _ _)) ?_
      refine .o1 rfl rfl (op_mv (rfl : _ = AV.int _ _)) ?_
      refine .o1 rfl rfl (op_callK (y := .tup [.int .u8 0, .sl true [], .int .i64 0, .int .i64 te]) Tryd.func11 rfl rfl rfl (.same (ok_sl1 _ _) (.same rfl (.same rfl .nil))) hc11 (fun ob hob => by simp at hob) (.tupL (.cons (.same _ rfl) (.cons (.sl0 _) (.cons (.same _ rfl) (.cons (.same _ rfl) .nil)))))) ?_
      refine .o1 rfl rfl (op_mv (by first | exact (rfl : _ = AV.int _ _) | exact (rfl : _ = AV.bool _) | exact (rfl : _ = AV.str _) | exact (rfl : _ = AV.sl _ _) | exact (rfl : _ = AV.row _ _) | exact (rfl : _ = AV.ptr _ _) | exact (rfl : _ = AV.tup _) | exact (rfl : _ = AV.agg _) | exact (rfl : _ = AV.fn _ _ _) | exact (rfl : _ = AV.nilp) | exact (rfl : _ = AV.mp _) | exact (rfl : _ = AV.vptr _) | exact (rfl : _ = AV.any))) ?_
      refine .o1 rfl rfl (op_extract rfl rfl) ?_
      refine .o1 rfl rfl (op_extract rfl rfl) ?_
      refine .o1 rfl rfl (op_extract rfl rfl) ?_
      refine .o1 rfl rfl (op_extract rfl rfl) ?_
      refine .o1 rfl rfl (op_as (rfl : _ = AV.int _ _)) ?_
      refine .o1 rfl rfl (op_as (rfl : _ = AV.sl _ _)) ?_
      refine .o1 rfl rfl (op_as (rfl : _ = AV.int _ _)) ?_
      refine .o1 rfl rfl (op_as (rfl : _ = AV.int _ _)) ?_
      refine .nil ?_
      try dsimp only [List.set, setR, D31, D53, D57, D69, D86, D95, D22, D3, D9, List.take_succ_cons, List.take_zero, List.drop_succ_cons, List.drop_zero, List.length_cons, List.length_nil, List.nil_append, List.cons_append, Nat.reduceAdd, Nat.zero_add]
      refine .keep [0, 1, 2, 12, 13, 14, 15] ?_
      refine .seq ?_
      refine .region rfl ?_
      refine .o1 rfl rfl (op_mv (rfl : _ = AV.str _)) ?_
      refine .o1 rfl rfl (op_mv (rfl : _ = AV.int _ _)) ?_
      refine .o1 rfl rfl (op_mv (rfl : _ = AV.int _ _)) ?_
      refine .o1 rfl rfl (op_callP Tryd.func12 rfl rfl rfl rfl rfl hc12 rfl) ?_
      refine .o1 rfl rfl (op_mv (by first | exact (rfl : _ = AV.int _ _) | exact (rfl : _ = AV.bool _) | exact (rfl : _ = AV.str _) | exact (rfl : _ = AV.sl _ _) | exact (rfl : _ = AV.row _ _) | exact (rfl : _ = AV.ptr _ _) | exact (rfl : _ = AV.tup _) | exact (rfl : _ = AV.agg _) | exact (rfl : _ = AV.fn _ _ _) | exact (rfl : _ = AV.nilp) | exact (rfl : _ = AV.mp _) | exact (rfl : _ = AV.vptr _) | exact (rfl : _ = AV.any))) ?_
      refine .o1 rfl rfl (op_extract rfl rfl) ?_
      refine .o1 rfl rfl (op_extract rfl rfl) ?_
      refine .o1 rfl rfl (op_extract rfl rfl) ?_
      refine .o1 rfl rfl (op_extract rfl rfl) ?_
      refine .o1 rfl rfl (op_as (rfl : _ = AV.int _ _)) ?_
      refine .o1 rfl rfl (op_as (rfl : _ = AV.str _)) ?_
      refine .o1 rfl rfl (op_as (rfl : _ = AV.int _ _)) ?_
      refine .o1 rfl rfl (op_as (rfl : _ = AV.int _ _)) ?_
      refine .nil ?_
      try dsimp only [List.set, setR, D31, D53, D57, D69, D86, D95, D22, D3, D9, List.take_succ_cons, List.take_zero, List.drop_succ_cons, List.drop_zero, List.length_cons, List.length_nil, List.nil_append, List.cons_append, Nat.reduceAdd, Nat.zero_add]
      refine .keep [7, 8, 12, 13, 14, 15, 16, 17] ?_
      refine .seq ?_
      refine .region rfl ?_
      refine .o1 rfl rfl (op_mv (rfl : _ = AV.int _ _)) ?_
      refine .o1 rfl rfl (op_mv (rfl : _ = AV.int _ _)) ?_
      refine .o1 rfl rfl (op_bin rfl rfl rfl) ?_
      refine .o1 rfl rfl (op_mv (rfl : _ = AV.bool _)) ?_
      refine .oy rfl rfl rfl rfl (op_mv (rfl : _ = AV.sl _ _)) ?_
      refine .oy rfl rfl rfl rfl (op_string (l := []) (.sl _ _) (S := D22) rfl rfl (B := D5) rfl rfl (D := D9) rfl rfl) ?_
      refine .oy rfl rfl rfl rfl (op_mv (rfl : _ = AV.str _)) ?_
      refine .oy rfl rfl rfl rfl (op_strEq rfl rfl) ?_
      refine .o1 rfl rfl (op_pick rfl (rfl : _ = AV.bool _)) ?_
      refine .o1 rfl rfl (op_mv (rfl : _ = AV.bool _)) ?_
      refine .oy rfl rfl rfl rfl (op_mv (rfl : _ = AV.int _ _)) ?_
      refine .oy rfl rfl rfl rfl (op_mv (rfl : _ = AV.int _ _)) ?_
      refine .oy rfl rfl rfl rfl (op_bin rfl rfl rfl) ?_
      refine .o1 rfl rfl (op_pick rfl (rfl : _ = AV.bool _)) ?_
      refine .o1 rfl rfl (op_mv (rfl : _ = AV.bool _)) ?_
      refine .oy rfl rfl rfl rfl (op_mv (rfl : _ = AV.int _ _)) ?_
      refine .oy rfl rfl rfl rfl (op_mv (rfl : _ = AV.int _ _)) ?_
      refine .oy rfl rfl rfl rfl (op_bin rfl rfl rfl) ?_
      rw [beq_self_eq_true]
      refine .o1 rfl rfl (op_pick rfl (rfl : _ = AV.bool _)) ?_
      refine .o1 rfl rfl (op_mv (rfl : _ = AV.bool _)) ?_
      refine .oy rfl rfl rfl rfl (op_callP Tryd.func6 rfl rfl rfl rfl rfl c6 rfl) ?_
      refine .o1 rfl rfl (op_pick rfl (rfl : _ = AV.bool _)) ?_
      refine .o1 rfl rfl (op_as (rfl : _ = AV.bool _)) ?_
      try dsimp only [List.set, setR, D31, D53, D57, D69, D86, D95, D22, D3, D9, List.take_succ_cons, List.take_zero, List.drop_succ_cons, List.drop_zero, List.length_cons, List.length_nil, List.nil_append, List.cons_append, Nat.reduceAdd, Nat.zero_add]
      refine .nil ?_
      refine .ret ?_
      exact ⟨_, _, _, .cons (.tmpO _ rfl) .nil, .drop 0 (Nat.le_refl _) rfl (fun _ => rfl), rfl, rfl⟩
end Rm
