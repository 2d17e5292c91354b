/- Part 5 of the proof of the given statement (theorem tallyParts_holds, in the last part): for every input the law returns true, and each argument reads behind the call as it read before. No condition beyond the statement's own. -/
import Derived.Test.YtdkdkpiemigfkaaC4P4
import Derived.Shelf.SlIterI.Nil
import Derived.Shelf.SortM.Plain
import Derived.Shelf.SortM.SortNone
set_option linter.unusedVariables false
set_option linter.unusedSimpArgs false
set_option maxRecDepth 8000
namespace Go.Proofs.Ytdkdkpiemigfkaa
open Go Go.Proofs
theorem not_dec_self {α : Type} [DecidableEq α] (a : α) : (!decide (a = a)) = false := by simp
def sp15 : ASpec := fun args M K => ∃ (a b : Value) (l : List (List UInt8)), args = [a, b] ∧ Row M 1 a l.length (l.map asString) ∧ Row M 1 b l.length (l.map asString) ∧ l.length ≤ 1000000000 ∧ K (.ret (.bool true)) M
theorem f15_ok : Sound Try.prog 15 sp15 := by
 refine Sound.of_awp (c := bodyOf Try.f15) Try.func15 rfl rfl rfl ?_
 rintro args M K ⟨a, b, l, rfl, ha, hb, hl, hK⟩
 refine ⟨Nat.le_of_ble_eq_true rfl, ?_⟩
 have hS := noS_ok Try.prog
 have e0 : entry [a, b] 0 = a := rfl
 have e1 : entry [a, b] 1 = b := rfl
 refine at_seq rfl ?_
 refine at_region hS rfl (by kernel_rfl) ?_
 refine s_op (a_as (by simp only [ev_const] <;> rfl)) rfl ?_
 refine s_end (fun s' hs' => ?_)
 replace e0 := kp 0 hs' e0
 replace e1 := kp 1 hs' e1
 clear hs'
 refine o_norm ?_
 refine t_norm ?_
 refine at_seq rfl ?_
 refine at_seq rfl ?_
 refine at_region hS rfl (by kernel_rfl) ?_
 refine s_op (a_mv e0) rfl ?_
 refine s_op (a_len (by simp (disch := omega) only [Zu, Nat.reduceEqDiff, ↓reduceIte, alen_str, Row.len ha (P := Try.prog) Try.underlying45, Row.len hb (P := Try.prog) Try.underlying45, newPtr, AMem.next_alloc] <;> rfl)) rfl ?_
 refine s_op (a_mv e1) rfl ?_
 refine s_op (a_len (by simp (disch := omega) only [Zu, Nat.reduceEqDiff, ↓reduceIte, alen_str, Row.len ha (P := Try.prog) Try.underlying45, Row.len hb (P := Try.prog) Try.underlying45, newPtr, AMem.next_alloc] <;> rfl)) rfl ?_
 refine s_op (a_bin (by simp (disch := omega) only [Zu, Nat.reduceEqDiff, ↓reduceIte, Zd, reduceCtorEq, abin_neq, abin_aneq, ne_eq, not_false_eq_true] <;> rfl)) rfl ?_
 refine s_end (fun s' hs' => ?_)
 replace e0 := kp 0 hs' e0
 replace e1 := kp 1 hs' e1
 have e10 := congrFun hs' 10
 simp only [Zu, Nat.reduceEqDiff, ↓reduceIte, newPtr, AMem.next_alloc] at e10
 clear hs'
 refine o_norm ?_
 refine t_norm ?_
 refine at_cond rfl rfl e10 (fun hc => by simp at hc) (fun h1 => ?_)
 try simp only [Zh] at h1
 refine at_skip rfl ?_
 refine t_norm ?_
 refine at_seq rfl ?_
 refine at_seq rfl ?_
 refine at_region hS rfl (by kernel_rfl) ?_
 refine s_op (a_as (by simp only [ev_const] <;> rfl)) rfl ?_
 refine s_end (fun s' hs' => ?_)
 replace e0 := kp 0 hs' e0
 replace e1 := kp 1 hs' e1
 have e5 := congrFun hs' 5
 simp only [Zu, Nat.reduceEqDiff, ↓reduceIte, newPtr, AMem.next_alloc] at e5
 clear hs'
 refine o_norm ?_
 refine t_norm ?_
 refine at_block rfl ?_
 refine at_loop rfl (fun km s ML ds => ∃ (i : Nat), s 0 = a ∧ s 1 = b ∧ s 5 = .int .i64 i ∧ i ≤ l.length ∧ km = l.length - i ∧ M.next ≤ ML.next ∧ M.next ≤ ML.next ∧ (∀ j, j < M.next → ML.get j = M.get j) ∧ ds = []) (l.length - (0)) ⟨0, (by first | exact e0 | (rw [e0]; rfl) | (simpa using e0)), (by first | exact e1 | (rw [e1]; rfl) | (simpa using e1)), (by first | exact e5 | (rw [e5]; rfl) | (simpa using e5)), (by omega), rfl, (Nat.le_refl M.next), by omega, (fun _ _ => rfl), rfl⟩ ?_
 clear e0 e1 e5
 rintro km s M1 ds ⟨i, e0, e1, e5, hi, hk, hnxM1, hngM1, holdM1, rfl⟩
 refine at_seq rfl ?_
 refine at_seq rfl ?_
 refine at_region hS rfl (by kernel_rfl) ?_
 refine s_op (a_mv e5) rfl ?_
 refine s_op (a_mv e0) rfl ?_
 refine s_op (a_len (by simp (disch := omega) only [Zu, Nat.reduceEqDiff, ↓reduceIte, alen_str, Row.len ha (P := Try.prog) Try.underlying45, newPtr, AMem.next_alloc] <;> rfl)) rfl ?_
 refine s_op (a_bin (by simp (disch := omega) only [Zu, Nat.reduceEqDiff, ↓reduceIte, Zd, reduceCtorEq, abin_lss, ne_eq, not_false_eq_true] <;> rfl)) rfl ?_
 refine s_end (fun s' hs' => ?_)
 replace e0 := kp 0 hs' e0
 replace e1 := kp 1 hs' e1
 replace e5 := kp 5 hs' e5
 have e14 := congrFun hs' 14
 simp only [Zu, Nat.reduceEqDiff, ↓reduceIte, newPtr, AMem.next_alloc] at e14
 clear hs'
 refine o_norm ?_
 refine t_norm ?_
 refine at_cond rfl rfl e14 (fun h4 => ?_) (fun h4 => ?_)
 ·
  try simp only [Zh] at h4
  refine at_skip rfl ?_
  refine t_norm ?_
  refine at_seq rfl ?_
  refine at_block rfl ?_
  refine at_seq rfl ?_
  have hil : i < l.length := by omega
  obtain ⟨id, off, all, own, hia, hid, hget, hld⟩ := (ha.keep (M' := M1) hnxM1 holdM1).at1 Try.underlying45 (i := _) (by rfl) rfl hil ld9 ⟨_, rfl, rfl⟩ .i64
  obtain ⟨id2, off2, all2, own2, hia2, hid2, hget2, hld2⟩ := (hb.keep (M' := M1) hnxM1 holdM1).at1 Try.underlying45 (i := _) (by rfl) rfl hil ld9 ⟨_, rfl, rfl⟩ .i64
  rw [show (l.map asString)[i]? = some (asString l[i]) from by simp [hil]] at hld hld2
  refine at_draw ⟨[[], [], [0, 1], [0, 1, 2], [], [], [4, 5], [4, 5, 6], [0, 1, 2, 3, 4, 5, 6, 7]], [0, 1, 2, 3, 4, 5, 6, 7, 8], []⟩ hS rfl rfl (by kernel_rfl) (by kernel_rfl) ?_
  refine d_start ?_
  refine l_op rfl rfl (a_mv e0) rfl ?_ rfl
  refine l_op rfl rfl (a_mv e5) rfl ?_ rfl
  refine l_op rfl rfl (a_ia (by simp (disch := omega) only [Zu, Nat.reduceEqDiff, ↓reduceIte, hia, hia2, newPtr, AMem.next_alloc] <;> rfl)) rfl ?_ rfl
  refine l_op rfl rfl (a_load (by simp only [Zu, Nat.reduceEqDiff, ↓reduceIte, hget, hld, hget2, hld2, newPtr, AMem.next_alloc] <;> rfl) (by simp (disch := first | (refine Zx ?_; simp only [Zn]; done) | ((try simp only [Zn]); omega)) only [Zg, hget, hld, hget2, hld2, newPtr] <;> rfl) (by simp only [ld9, Zl, hget, hld, hget2, hld2, newPtr, AMem.next_alloc] <;> rfl)) rfl ?_ rfl
  refine l_op rfl rfl (a_mv e1) rfl ?_ rfl
  refine l_op rfl rfl (a_mv e5) rfl ?_ rfl
  refine l_op rfl rfl (a_ia (by simp (disch := omega) only [Zu, Nat.reduceEqDiff, ↓reduceIte, hia, hia2, newPtr, AMem.next_alloc] <;> rfl)) rfl ?_ rfl
  refine l_op rfl rfl (a_load (by simp only [Zu, Nat.reduceEqDiff, ↓reduceIte, hget, hld, hget2, hld2, newPtr, AMem.next_alloc] <;> rfl) (by simp (disch := first | (refine Zx ?_; simp only [Zn]; done) | ((try simp only [Zn]); omega)) only [Zg, hget, hld, hget2, hld2, newPtr] <;> rfl) (by simp only [ld9, Zl, hget, hld, hget2, hld2, newPtr, AMem.next_alloc] <;> rfl)) rfl ?_ rfl
  refine l_op rfl rfl (a_bin (by simp (disch := omega) only [Zu, Nat.reduceEqDiff, ↓reduceIte, Zd, reduceCtorEq, abin_neq, abin_aneq, ne_eq, not_false_eq_true] <;> rfl)) rfl ?_ rfl
  refine l_nil ?_
  refine h_end ?_ (fun s' hs' => ?_)
  · refine again_r rfl ?_
    refine again_l rfl rfl (a_load (by simp only [Zu, Nat.reduceEqDiff, ↓reduceIte, hget, hld, hget2, hld2, newPtr, AMem.next_alloc] <;> rfl) (by simp (disch := first | (refine Zx ?_; simp only [Zn]; done) | ((try simp only [Zn]); omega)) only [Zg, hget, hld, hget2, hld2, newPtr] <;> rfl) (by simp only [ld9, Zl, hget, hld, hget2, hld2, newPtr, AMem.next_alloc] <;> rfl)) ?_
    refine again_r rfl ?_
    refine again_r rfl ?_
    refine again_r rfl ?_
    refine again_l rfl rfl (a_load (by simp only [Zu, Nat.reduceEqDiff, ↓reduceIte, hget, hld, hget2, hld2, newPtr, AMem.next_alloc] <;> rfl) (by simp (disch := first | (refine Zx ?_; simp only [Zn]; done) | ((try simp only [Zn]); omega)) only [Zg, hget, hld, hget2, hld2, newPtr] <;> rfl) (by simp only [ld9, Zl, hget, hld, hget2, hld2, newPtr, AMem.next_alloc] <;> rfl)) ?_
    refine again_r rfl ?_
    refine again_r rfl ?_
    refine again_r rfl ?_
    exact again_nil
  replace e0 := kp 0 hs' e0
  replace e1 := kp 1 hs' e1
  replace e5 := kp 5 hs' e5
  have e25 := congrFun hs' 25
  simp only [Zu, Nat.reduceEqDiff, ↓reduceIte, newPtr, AMem.next_alloc] at e25
  clear hs'
  refine o_norm ?_
  refine t_norm ?_
  refine at_cond rfl rfl e25 (fun hc => by simp at hc) (fun h6 => ?_)
  try simp only [Zh] at h6
  refine at_skip rfl ?_
  refine b_norm ?_
  refine t_norm ?_
  refine at_region hS rfl (by kernel_rfl) ?_
  refine s_op (a_mv e5) rfl ?_
  refine s_op (a_bin (by simp (disch := ((try simp only [List.length_append, List.length_cons, List.length_nil]); omega)) only [Zu, Nat.reduceEqDiff, ↓reduceIte, Zd, reduceCtorEq, abin_add, abin_aadd, wrap_i64, wrap_u32, wrap_u8, wrap_u64, wrap_i32, wrap_u16, ne_eq, not_false_eq_true] <;> rfl)) rfl ?_
  refine s_as ?_
  refine s_end (fun s' hs' => ?_)
  replace e0 := kp 0 hs' e0
  replace e1 := kp 1 hs' e1
  replace e5 := congrFun hs' 5
  simp only [Zu, Nat.reduceEqDiff, ↓reduceIte, newPtr, AMem.next_alloc] at e5
  clear hs'
  refine o_norm ?_
  refine t_norm ?_
  exact ⟨l.length - (i + 1), by omega, i + 1, (by first | exact e0 | (rw [e0]; rfl) | (rw [e0]; simp; done)), (by first | exact e1 | (rw [e1]; rfl) | (rw [e1]; simp; done)), (by first | exact e5 | (rw [e5]; rfl) | (rw [e5]; simp; done)), (by omega), rfl, hnxM1, by omega, holdM1, rfl⟩
 ·
  try simp only [Zh] at h4
  refine at_exit rfl ?_
  refine t_exit ?_
  refine t_exit ?_
  refine b_here ?_
  refine t_norm ?_
  refine at_seq rfl ?_
  refine at_region hS rfl (by kernel_rfl) ?_
  refine s_op (a_as (by simp only [ev_const] <;> rfl)) rfl ?_
  refine s_end (fun s' hs' => ?_)
  have e4 := congrFun hs' 4
  simp only [Zu, Nat.reduceEqDiff, ↓reduceIte, newPtr, AMem.next_alloc] at e4
  clear hs'
  refine o_norm ?_
  refine t_norm ?_
  refine at_ret rfl ?_
  refine bq_ret rfl (ars_cons (ar_tmp e4) ars_nil) ?_
  exact ⟨_, _, hK, Canon.forget rfl holdM1⟩
def sp18 : ASpec := fun args M K => ∃ (a b : Value) (l : List Nt), args = [a, b] ∧ NtsR M a l ∧ NtsR M b l ∧ l.length ≤ 1000000000 ∧ K (.ret (.bool true)) M
set_option maxHeartbeats 1000000 in
theorem f18_ok : Sound Try.prog 18 sp18 := by
 refine Sound.of_awp (c := bodyOf Try.f18) Try.func18 rfl rfl rfl ?_
 rintro args M K ⟨a, b, l, rfl, ha, hb, hl, hK⟩
 refine ⟨Nat.le_of_ble_eq_true rfl, ?_⟩
 have hS := noS_ok Try.prog
 have e0 : entry [a, b] 0 = a := rfl
 have e1 : entry [a, b] 1 = b := rfl
 refine at_seq rfl ?_
 refine at_region hS rfl (by kernel_rfl) ?_
 refine s_op (a_as (by simp only [ev_const] <;> rfl)) rfl ?_
 refine s_end (fun s' hs' => ?_)
 replace e0 := kp 0 hs' e0
 replace e1 := kp 1 hs' e1
 clear hs'
 refine o_norm ?_
 refine t_norm ?_
 refine at_seq rfl ?_
 refine at_seq rfl ?_
 refine at_region hS rfl (by kernel_rfl) ?_
 refine s_op (a_mv e0) rfl ?_
 refine s_op (a_len (by simp (disch := omega) only [Zu, Nat.reduceEqDiff, ↓reduceIte, alen_str, NtsR.len ha, NtsR.len hb, newPtr, AMem.next_alloc] <;> rfl)) rfl ?_
 refine s_op (a_mv e1) rfl ?_
 refine s_op (a_len (by simp (disch := omega) only [Zu, Nat.reduceEqDiff, ↓reduceIte, alen_str, NtsR.len ha, NtsR.len hb, newPtr, AMem.next_alloc] <;> rfl)) rfl ?_
 refine s_op (a_bin (by simp (disch := omega) only [Zu, Nat.reduceEqDiff, ↓reduceIte, Zd, reduceCtorEq, abin_neq, abin_aneq, ne_eq, not_false_eq_true] <;> rfl)) rfl ?_
 refine s_end (fun s' hs' => ?_)
 replace e0 := kp 0 hs' e0
 replace e1 := kp 1 hs' e1
 have e10 := congrFun hs' 10
 simp only [Zu, Nat.reduceEqDiff, ↓reduceIte, newPtr, AMem.next_alloc] at e10
 clear hs'
 refine o_norm ?_
 refine t_norm ?_
 refine at_cond rfl rfl e10 (fun hc => by simp at hc) (fun h1 => ?_)
 try simp only [Zh] at h1
 refine at_skip rfl ?_
 refine t_norm ?_
 refine at_seq rfl ?_
 refine at_seq rfl ?_
 refine at_region hS rfl (by kernel_rfl) ?_
 refine s_op (a_as (by simp only [ev_const] <;> rfl)) rfl ?_
 refine s_end (fun s' hs' => ?_)
 replace e0 := kp 0 hs' e0
 replace e1 := kp 1 hs' e1
 have e5 := congrFun hs' 5
 simp only [Zu, Nat.reduceEqDiff, ↓reduceIte, newPtr, AMem.next_alloc] at e5
 clear hs'
 refine o_norm ?_
 refine t_norm ?_
 refine at_block rfl ?_
 refine at_loop rfl (fun km s ML ds => ∃ (i : Nat), s 0 = a ∧ s 1 = b ∧ s 5 = .int .i64 i ∧ i ≤ l.length ∧ km = l.length - i ∧ M.next ≤ ML.next ∧ M.next ≤ ML.next ∧ (∀ j, j < M.next → ML.get j = M.get j) ∧ ds = []) (l.length - (0)) ⟨0, (by first | exact e0 | (rw [e0]; rfl) | (simpa using e0)), (by first | exact e1 | (rw [e1]; rfl) | (simpa using e1)), (by first | exact e5 | (rw [e5]; rfl) | (simpa using e5)), (by omega), rfl, (Nat.le_refl M.next), by omega, (fun _ _ => rfl), rfl⟩ ?_
 clear e0 e1 e5
 rintro km s M1 ds ⟨i, e0, e1, e5, hi, hk, hnxM1, hngM1, holdM1, rfl⟩
 refine at_seq rfl ?_
 refine at_seq rfl ?_
 refine at_region hS rfl (by kernel_rfl) ?_
 refine s_op (a_mv e5) rfl ?_
 refine s_op (a_mv e0) rfl ?_
 refine s_op (a_len (by simp (disch := omega) only [Zu, Nat.reduceEqDiff, ↓reduceIte, alen_str, NtsR.len ha, newPtr, AMem.next_alloc] <;> rfl)) rfl ?_
 refine s_op (a_bin (by simp (disch := omega) only [Zu, Nat.reduceEqDiff, ↓reduceIte, Zd, reduceCtorEq, abin_lss, ne_eq, not_false_eq_true] <;> rfl)) rfl ?_
 refine s_end (fun s' hs' => ?_)
 replace e0 := kp 0 hs' e0
 replace e1 := kp 1 hs' e1
 replace e5 := kp 5 hs' e5
 have e14 := congrFun hs' 14
 simp only [Zu, Nat.reduceEqDiff, ↓reduceIte, newPtr, AMem.next_alloc] at e14
 clear hs'
 refine o_norm ?_
 refine t_norm ?_
 refine at_cond rfl rfl e14 (fun h4 => ?_) (fun h4 => ?_)
 ·
  try simp only [Zh] at h4
  refine at_skip rfl ?_
  refine t_norm ?_
  refine at_seq rfl ?_
  refine at_block rfl ?_
  refine at_seq rfl ?_
  have hil : i < l.length := by omega
  obtain ⟨f, hfi⟩ : ∃ f, l[i]? = some f := ⟨_, List.getElem?_eq_getElem hil⟩
  obtain ⟨id, off, all, own, hia, hid, hget, ha1, ha2, ha3, ha4, ha5⟩ := (ha.keep (M' := M1) hnxM1 holdM1).at hfi .i64
  obtain ⟨id2, off2, all2, own2, hia2, hid2, hget2, hb1, hb2, hb3, hb4, hb5⟩ := (hb.keep (M' := M1) hnxM1 holdM1).at hfi .i64
  refine at_draw ⟨[[], [], [0, 1], [0, 1, 2], [0, 1, 2, 3], [], [], [5, 6], [5, 6, 7], [5, 6, 7, 8], [0, 1, 2, 3, 4, 5, 6, 7, 8, 9], [0, 1, 2, 3, 4, 5, 6, 7, 8, 9, 10], [0, 1, 2, 3, 4, 5, 6, 7, 8, 9, 10, 11], [0, 1, 2, 3, 4, 5, 6, 7, 8, 9, 10, 11], [0, 1, 2, 3, 4, 5, 6, 7, 8, 9, 10, 11, 12, 13], [0, 1, 2, 3, 4, 5, 6, 7, 8, 9, 10, 11, 12, 13, 14], [0, 1, 2, 3, 4, 5, 6, 7, 8, 9, 10, 11, 12, 13, 14, 15], [0, 1, 2, 3, 4, 5, 6, 7, 8, 9, 10, 11], [0, 1, 2, 3, 4, 5, 6, 7, 8, 9, 10, 11], [0, 1, 2, 3, 4, 5, 6, 7, 8, 9, 10, 11, 17, 18], [0, 1, 2, 3, 4, 5, 6, 7, 8, 9, 10, 11, 17, 18, 19], [0, 1, 2, 3, 4, 5, 6, 7, 8, 9, 10, 11, 17, 18, 19, 20], [0, 1, 2, 3, 4, 5, 6, 7, 8, 9, 10, 11, 12, 13, 14, 15, 16, 17, 18, 19, 20, 21], [0, 1, 2, 3, 4, 5, 6, 7, 8, 9, 10, 11, 12, 13, 14, 15, 16, 17, 18, 19, 20, 21, 22], [0, 1, 2, 3, 4, 5, 6, 7, 8, 9, 10, 11, 12, 13, 14, 15, 16, 17, 18, 19, 20, 21, 22, 23], [0, 1, 2, 3, 4, 5, 6, 7, 8, 9, 10, 11, 12, 13, 14, 15, 16, 17, 18, 19, 20, 21, 22, 23, 24], [0, 1, 2, 3, 4, 5, 6, 7, 8, 9, 10, 11, 12, 13, 14, 15, 16, 17, 18, 19, 20, 21, 22, 23, 24], [0, 1, 2, 3, 4, 5, 6, 7, 8, 9, 10, 11, 12, 13, 14, 15, 16, 17, 18, 19, 20, 21, 22, 23, 24, 25, 26], [0, 1, 2, 3, 4, 5, 6, 7, 8, 9, 10, 11, 12, 13, 14, 15, 16, 17, 18, 19, 20, 21, 22, 23, 24, 25, 26, 27], [0, 1, 2, 3, 4, 5, 6, 7, 8, 9, 10, 11, 12, 13, 14, 15, 16, 17, 18, 19, 20, 21, 22, 23, 24, 25, 26, 27, 28], [0, 1, 2, 3, 4, 5, 6, 7, 8, 9, 10, 11, 12, 13, 14, 15, 16, 17, 18, 19, 20, 21, 22, 23, 24], [0, 1, 2, 3, 4, 5, 6, 7, 8, 9, 10, 11, 12, 13, 14, 15, 16, 17, 18, 19, 20, 21, 22, 23, 24], [0, 1, 2, 3, 4, 5, 6, 7, 8, 9, 10, 11, 12, 13, 14, 15, 16, 17, 18, 19, 20, 21, 22, 23, 24, 30, 31], [0, 1, 2, 3, 4, 5, 6, 7, 8, 9, 10, 11, 12, 13, 14, 15, 16, 17, 18, 19, 20, 21, 22, 23, 24, 30, 31, 32], [0, 1, 2, 3, 4, 5, 6, 7, 8, 9, 10, 11, 12, 13, 14, 15, 16, 17, 18, 19, 20, 21, 22, 23, 24, 30, 31, 32, 33], [0, 1, 2, 3, 4, 5, 6, 7, 8, 9, 10, 11, 12, 13, 14, 15, 16, 17, 18, 19, 20, 21, 22, 23, 24, 25, 26, 27, 28, 29, 30, 31, 32, 33, 34], [0, 1, 2, 3, 4, 5, 6, 7, 8, 9, 10, 11, 12, 13, 14, 15, 16, 17, 18, 19, 20, 21, 22, 23, 24, 25, 26, 27, 28, 29, 30, 31, 32, 33, 34, 35], [0, 1, 2, 3, 4, 5, 6, 7, 8, 9, 10, 11, 12, 13, 14, 15, 16, 17, 18, 19, 20, 21, 22, 23, 24, 25, 26, 27, 28, 29, 30, 31, 32, 33, 34, 35, 36], [0, 1, 2, 3, 4, 5, 6, 7, 8, 9, 10, 11, 12, 13, 14, 15, 16, 17, 18, 19, 20, 21, 22, 23, 24, 25, 26, 27, 28, 29, 30, 31, 32, 33, 34, 35, 36, 37], [0, 1, 2, 3, 4, 5, 6, 7, 8, 9, 10, 11, 12, 13, 14, 15, 16, 17, 18, 19, 20, 21, 22, 23, 24, 25, 26, 27, 28, 29, 30, 31, 32, 33, 34, 35, 36, 37], [0, 1, 2, 3, 4, 5, 6, 7, 8, 9, 10, 11, 12, 13, 14, 15, 16, 17, 18, 19, 20, 21, 22, 23, 24, 25, 26, 27, 28, 29, 30, 31, 32, 33, 34, 35, 36, 37, 38, 39], [0, 1, 2, 3, 4, 5, 6, 7, 8, 9, 10, 11, 12, 13, 14, 15, 16, 17, 18, 19, 20, 21, 22, 23, 24, 25, 26, 27, 28, 29, 30, 31, 32, 33, 34, 35, 36, 37, 38, 39, 40], [0, 1, 2, 3, 4, 5, 6, 7, 8, 9, 10, 11, 12, 13, 14, 15, 16, 17, 18, 19, 20, 21, 22, 23, 24, 25, 26, 27, 28, 29, 30, 31, 32, 33, 34, 35, 36, 37, 38, 39, 40, 41], [0, 1, 2, 3, 4, 5, 6, 7, 8, 9, 10, 11, 12, 13, 14, 15, 16, 17, 18, 19, 20, 21, 22, 23, 24, 25, 26, 27, 28, 29, 30, 31, 32, 33, 34, 35, 36, 37], [0, 1, 2, 3, 4, 5, 6, 7, 8, 9, 10, 11, 12, 13, 14, 15, 16, 17, 18, 19, 20, 21, 22, 23, 24, 25, 26, 27, 28, 29, 30, 31, 32, 33, 34, 35, 36, 37], [0, 1, 2, 3, 4, 5, 6, 7, 8, 9, 10, 11, 12, 13, 14, 15, 16, 17, 18, 19, 20, 21, 22, 23, 24, 25, 26, 27, 28, 29, 30, 31, 32, 33, 34, 35, 36, 37, 43, 44], [0, 1, 2, 3, 4, 5, 6, 7, 8, 9, 10, 11, 12, 13, 14, 15, 16, 17, 18, 19, 20, 21, 22, 23, 24, 25, 26, 27, 28, 29, 30, 31, 32, 33, 34, 35, 36, 37, 43, 44, 45], [0, 1, 2, 3, 4, 5, 6, 7, 8, 9, 10, 11, 12, 13, 14, 15, 16, 17, 18, 19, 20, 21, 22, 23, 24, 25, 26, 27, 28, 29, 30, 31, 32, 33, 34, 35, 36, 37, 43, 44, 45, 46], [0, 1, 2, 3, 4, 5, 6, 7, 8, 9, 10, 11, 12, 13, 14, 15, 16, 17, 18, 19, 20, 21, 22, 23, 24, 25, 26, 27, 28, 29, 30, 31, 32, 33, 34, 35, 36, 37, 38, 39, 40, 41, 42, 43, 44, 45, 46, 47], [0, 1, 2, 3, 4, 5, 6, 7, 8, 9, 10, 11, 12, 13, 14, 15, 16, 17, 18, 19, 20, 21, 22, 23, 24, 25, 26, 27, 28, 29, 30, 31, 32, 33, 34, 35, 36, 37, 38, 39, 40, 41, 42, 43, 44, 45, 46, 47, 48]], [0, 1, 2, 3, 4, 5, 6, 7, 8, 9, 10, 11, 12, 13, 14, 15, 16, 17, 18, 19, 20, 21, 22, 23, 24, 25, 26, 27, 28, 29, 30, 31, 32, 33, 34, 35, 36, 37, 38, 39, 40, 41, 42, 43, 44, 45, 46, 47, 48, 49], []⟩ hS rfl rfl (by kernel_rfl) (by kernel_rfl) ?_
  refine d_start ?_
  refine l_op rfl rfl (a_mv e0) rfl ?_ rfl
  refine l_op rfl rfl (a_mv e5) rfl ?_ rfl
  refine l_op rfl rfl (a_ia (by simp (disch := omega) only [Zu, Nat.reduceEqDiff, ↓reduceIte, hia, ha1, ha2, ha3, ha4, hia2, hb1, hb2, hb3, hb4, not_dec_self, newPtr, AMem.next_alloc] <;> rfl)) rfl ?_ rfl
  refine l_op rfl rfl (a_fa (by simp only [Zu, Nat.reduceEqDiff, ↓reduceIte, fa53_0, Nat.zero_add, ha1, ha2, ha3, ha4, hb1, hb2, hb3, hb4, fa53_1, fa53_2, fa53_3, not_dec_self, newPtr, AMem.next_alloc] <;> rfl)) rfl ?_ rfl
  refine l_op rfl rfl (a_load (by simp only [Zu, Nat.reduceEqDiff, ↓reduceIte, hget, ha1, ha2, ha3, ha4, hget2, hb1, hb2, hb3, hb4, not_dec_self, newPtr, AMem.next_alloc] <;> rfl) (by simp (disch := first | (refine Zx ?_; simp only [Zn]; done) | ((try simp only [Zn]); omega)) only [Zg, hget, ha1, ha2, ha3, ha4, hget2, hb1, hb2, hb3, hb4, not_dec_self, newPtr] <;> rfl) (by simp only [ld3, Zl, hget, ha1, ha2, ha3, ha4, hget2, hb1, hb2, hb3, hb4, not_dec_self, newPtr, AMem.next_alloc] <;> rfl)) rfl ?_ rfl
  refine l_op rfl rfl (a_mv e1) rfl ?_ rfl
  refine l_op rfl rfl (a_mv e5) rfl ?_ rfl
  refine l_op rfl rfl (a_ia (by simp (disch := omega) only [Zu, Nat.reduceEqDiff, ↓reduceIte, hia, ha1, ha2, ha3, ha4, hia2, hb1, hb2, hb3, hb4, not_dec_self, newPtr, AMem.next_alloc] <;> rfl)) rfl ?_ rfl
  refine l_op rfl rfl (a_fa (by simp only [Zu, Nat.reduceEqDiff, ↓reduceIte, fa53_0, Nat.zero_add, ha1, ha2, ha3, ha4, hb1, hb2, hb3, hb4, fa53_1, fa53_2, fa53_3, not_dec_self, newPtr, AMem.next_alloc] <;> rfl)) rfl ?_ rfl
  refine l_op rfl rfl (a_load (by simp only [Zu, Nat.reduceEqDiff, ↓reduceIte, hget, ha1, ha2, ha3, ha4, hget2, hb1, hb2, hb3, hb4, not_dec_self, newPtr, AMem.next_alloc] <;> rfl) (by simp (disch := first | (refine Zx ?_; simp only [Zn]; done) | ((try simp only [Zn]); omega)) only [Zg, hget, ha1, ha2, ha3, ha4, hget2, hb1, hb2, hb3, hb4, not_dec_self, newPtr] <;> rfl) (by simp only [ld3, Zl, hget, ha1, ha2, ha3, ha4, hget2, hb1, hb2, hb3, hb4, not_dec_self, newPtr, AMem.next_alloc] <;> rfl)) rfl ?_ rfl
  refine l_op rfl rfl (a_bin (by simp (disch := omega) only [Zu, Nat.reduceEqDiff, ↓reduceIte, Zd, reduceCtorEq, abin_neq, abin_aneq, ne_eq, not_false_eq_true, ha1, ha2, ha3, ha4, hb1, hb2, hb3, hb4, not_dec_self] <;> rfl)) rfl ?_ rfl
  refine l_op rfl rfl (a_mv (by simp only [Zu, Nat.reduceEqDiff, ↓reduceIte] <;> rfl)) rfl ?_ rfl
  refine l_op rfl (w_true (by simp only [Zu, Nat.reduceEqDiff, ↓reduceIte] <;> rfl) (by first | rfl | assumption)) (a_mv e0) rfl ?_ rfl
  refine l_op rfl (w_true (by simp only [Zu, Nat.reduceEqDiff, ↓reduceIte] <;> rfl) (by first | rfl | assumption)) (a_mv e5) rfl ?_ rfl
  refine l_op rfl (w_true (by simp only [Zu, Nat.reduceEqDiff, ↓reduceIte] <;> rfl) (by first | rfl | assumption)) (a_ia (by simp (disch := omega) only [Zu, Nat.reduceEqDiff, ↓reduceIte, hia, ha1, ha2, ha3, ha4, hia2, hb1, hb2, hb3, hb4, not_dec_self, newPtr, AMem.next_alloc] <;> rfl)) rfl ?_ rfl
  refine l_op rfl (w_true (by simp only [Zu, Nat.reduceEqDiff, ↓reduceIte] <;> rfl) (by first | rfl | assumption)) (a_fa (by simp only [Zu, Nat.reduceEqDiff, ↓reduceIte, fa53_1, Nat.zero_add, ha1, ha2, ha3, ha4, hb1, hb2, hb3, hb4, fa53_0, fa53_2, fa53_3, not_dec_self, newPtr, AMem.next_alloc] <;> rfl)) rfl ?_ rfl
  refine l_op rfl (w_true (by simp only [Zu, Nat.reduceEqDiff, ↓reduceIte] <;> rfl) (by first | rfl | assumption)) (a_load (by simp only [Zu, Nat.reduceEqDiff, ↓reduceIte, hget, ha1, ha2, ha3, ha4, hget2, hb1, hb2, hb3, hb4, not_dec_self, newPtr, AMem.next_alloc] <;> rfl) (by simp (disch := first | (refine Zx ?_; simp only [Zn]; done) | ((try simp only [Zn]); omega)) only [Zg, hget, ha1, ha2, ha3, ha4, hget2, hb1, hb2, hb3, hb4, not_dec_self, newPtr] <;> rfl) (by simp only [ld3, Zl, hget, ha1, ha2, ha3, ha4, hget2, hb1, hb2, hb3, hb4, not_dec_self, newPtr, AMem.next_alloc] <;> rfl)) rfl ?_ rfl
  refine l_op rfl (w_true (by simp only [Zu, Nat.reduceEqDiff, ↓reduceIte] <;> rfl) (by first | rfl | assumption)) (a_mv e1) rfl ?_ rfl
  refine l_op rfl (w_true (by simp only [Zu, Nat.reduceEqDiff, ↓reduceIte] <;> rfl) (by first | rfl | assumption)) (a_mv e5) rfl ?_ rfl
  refine l_op rfl (w_true (by simp only [Zu, Nat.reduceEqDiff, ↓reduceIte] <;> rfl) (by first | rfl | assumption)) (a_ia (by simp (disch := omega) only [Zu, Nat.reduceEqDiff, ↓reduceIte, hia, ha1, ha2, ha3, ha4, hia2, hb1, hb2, hb3, hb4, not_dec_self, newPtr, AMem.next_alloc] <;> rfl)) rfl ?_ rfl
  refine l_op rfl (w_true (by simp only [Zu, Nat.reduceEqDiff, ↓reduceIte] <;> rfl) (by first | rfl | assumption)) (a_fa (by simp only [Zu, Nat.reduceEqDiff, ↓reduceIte, fa53_1, Nat.zero_add, ha1, ha2, ha3, ha4, hb1, hb2, hb3, hb4, fa53_0, fa53_2, fa53_3, not_dec_self, newPtr, AMem.next_alloc] <;> rfl)) rfl ?_ rfl
  refine l_op rfl (w_true (by simp only [Zu, Nat.reduceEqDiff, ↓reduceIte] <;> rfl) (by first | rfl | assumption)) (a_load (by simp only [Zu, Nat.reduceEqDiff, ↓reduceIte, hget, ha1, ha2, ha3, ha4, hget2, hb1, hb2, hb3, hb4, not_dec_self, newPtr, AMem.next_alloc] <;> rfl) (by simp (disch := first | (refine Zx ?_; simp only [Zn]; done) | ((try simp only [Zn]); omega)) only [Zg, hget, ha1, ha2, ha3, ha4, hget2, hb1, hb2, hb3, hb4, not_dec_self, newPtr] <;> rfl) (by simp only [ld3, Zl, hget, ha1, ha2, ha3, ha4, hget2, hb1, hb2, hb3, hb4, not_dec_self, newPtr, AMem.next_alloc] <;> rfl)) rfl ?_ rfl
  refine l_op rfl (w_true (by simp only [Zu, Nat.reduceEqDiff, ↓reduceIte, Zd, reduceCtorEq] <;> rfl) (by first | rfl | assumption)) (a_bin (by simp (disch := omega) only [Zu, Nat.reduceEqDiff, ↓reduceIte, Zd, reduceCtorEq, abin_neq, abin_aneq, ne_eq, not_false_eq_true, ha1, ha2, ha3, ha4, hb1, hb2, hb3, hb4, not_dec_self] <;> rfl)) rfl ?_ rfl
  refine l_op rfl rfl (a_pick (by simp only [Zu, Nat.reduceEqDiff, ↓reduceIte, Zd, reduceCtorEq, ha1, ha2, ha3, ha4, hb1, hb2, hb3, hb4, not_dec_self] <;> rfl) (by simp only [Zu, Nat.reduceEqDiff, ↓reduceIte, Zd, reduceCtorEq, ha1, ha2, ha3, ha4, hb1, hb2, hb3, hb4, not_dec_self] <;> rfl)) rfl ?_ rfl
  refine l_op rfl rfl (a_mv (by simp only [Zu, Nat.reduceEqDiff, ↓reduceIte] <;> rfl)) rfl ?_ rfl
  refine l_op rfl (w_true (by simp only [Zu, Nat.reduceEqDiff, ↓reduceIte] <;> rfl) (by first | rfl | assumption)) (a_mv e0) rfl ?_ rfl
  refine l_op rfl (w_true (by simp only [Zu, Nat.reduceEqDiff, ↓reduceIte] <;> rfl) (by first | rfl | assumption)) (a_mv e5) rfl ?_ rfl
  refine l_op rfl (w_true (by simp only [Zu, Nat.reduceEqDiff, ↓reduceIte] <;> rfl) (by first | rfl | assumption)) (a_ia (by simp (disch := omega) only [Zu, Nat.reduceEqDiff, ↓reduceIte, hia, ha1, ha2, ha3, ha4, hia2, hb1, hb2, hb3, hb4, not_dec_self, newPtr, AMem.next_alloc] <;> rfl)) rfl ?_ rfl
  refine l_op rfl (w_true (by simp only [Zu, Nat.reduceEqDiff, ↓reduceIte] <;> rfl) (by first | rfl | assumption)) (a_fa (by simp only [Zu, Nat.reduceEqDiff, ↓reduceIte, fa53_2, Nat.zero_add, ha1, ha2, ha3, ha4, hb1, hb2, hb3, hb4, fa53_0, fa53_1, fa53_3, not_dec_self, newPtr, AMem.next_alloc] <;> rfl)) rfl ?_ rfl
  refine l_op rfl (w_true (by simp only [Zu, Nat.reduceEqDiff, ↓reduceIte] <;> rfl) (by first | rfl | assumption)) (a_load (by simp only [Zu, Nat.reduceEqDiff, ↓reduceIte, hget, ha1, ha2, ha3, ha4, hget2, hb1, hb2, hb3, hb4, not_dec_self, newPtr, AMem.next_alloc] <;> rfl) (by simp (disch := first | (refine Zx ?_; simp only [Zn]; done) | ((try simp only [Zn]); omega)) only [Zg, hget, ha1, ha2, ha3, ha4, hget2, hb1, hb2, hb3, hb4, not_dec_self, newPtr] <;> rfl) (by simp only [ld3, Zl, hget, ha1, ha2, ha3, ha4, hget2, hb1, hb2, hb3, hb4, not_dec_self, newPtr, AMem.next_alloc] <;> rfl)) rfl ?_ rfl
  refine l_op rfl (w_true (by simp only [Zu, Nat.reduceEqDiff, ↓reduceIte] <;> rfl) (by first | rfl | assumption)) (a_mv e1) rfl ?_ rfl
  refine l_op rfl (w_true (by simp only [Zu, Nat.reduceEqDiff, ↓reduceIte] <;> rfl) (by first | rfl | assumption)) (a_mv e5) rfl ?_ rfl
  refine l_op rfl (w_true (by simp only [Zu, Nat.reduceEqDiff, ↓reduceIte] <;> rfl) (by first | rfl | assumption)) (a_ia (by simp (disch := omega) only [Zu, Nat.reduceEqDiff, ↓reduceIte, hia, ha1, ha2, ha3, ha4, hia2, hb1, hb2, hb3, hb4, not_dec_self, newPtr, AMem.next_alloc] <;> rfl)) rfl ?_ rfl
  refine l_op rfl (w_true (by simp only [Zu, Nat.reduceEqDiff, ↓reduceIte] <;> rfl) (by first | rfl | assumption)) (a_fa (by simp only [Zu, Nat.reduceEqDiff, ↓reduceIte, fa53_2, Nat.zero_add, ha1, ha2, ha3, ha4, hb1, hb2, hb3, hb4, fa53_0, fa53_1, fa53_3, not_dec_self, newPtr, AMem.next_alloc] <;> rfl)) rfl ?_ rfl
  refine l_op rfl (w_true (by simp only [Zu, Nat.reduceEqDiff, ↓reduceIte] <;> rfl) (by first | rfl | assumption)) (a_load (by simp only [Zu, Nat.reduceEqDiff, ↓reduceIte, hget, ha1, ha2, ha3, ha4, hget2, hb1, hb2, hb3, hb4, not_dec_self, newPtr, AMem.next_alloc] <;> rfl) (by simp (disch := first | (refine Zx ?_; simp only [Zn]; done) | ((try simp only [Zn]); omega)) only [Zg, hget, ha1, ha2, ha3, ha4, hget2, hb1, hb2, hb3, hb4, not_dec_self, newPtr] <;> rfl) (by simp only [ld3, Zl, hget, ha1, ha2, ha3, ha4, hget2, hb1, hb2, hb3, hb4, not_dec_self, newPtr, AMem.next_alloc] <;> rfl)) rfl ?_ rfl
  refine l_op rfl (w_true (by simp only [Zu, Nat.reduceEqDiff, ↓reduceIte, Zd, reduceCtorEq] <;> rfl) (by first | rfl | assumption)) (a_bin (by simp (disch := omega) only [Zu, Nat.reduceEqDiff, ↓reduceIte, Zd, reduceCtorEq, abin_neq, abin_aneq, ne_eq, not_false_eq_true, ha1, ha2, ha3, ha4, hb1, hb2, hb3, hb4, not_dec_self] <;> rfl)) rfl ?_ rfl
  refine l_op rfl rfl (a_pick (by simp only [Zu, Nat.reduceEqDiff, ↓reduceIte, Zd, reduceCtorEq, ha1, ha2, ha3, ha4, hb1, hb2, hb3, hb4, not_dec_self] <;> rfl) (by simp only [Zu, Nat.reduceEqDiff, ↓reduceIte, Zd, reduceCtorEq, ha1, ha2, ha3, ha4, hb1, hb2, hb3, hb4, not_dec_self] <;> rfl)) rfl ?_ rfl
  refine l_op rfl rfl (a_mv (by simp only [Zu, Nat.reduceEqDiff, ↓reduceIte] <;> rfl)) rfl ?_ rfl
  refine l_op rfl (w_true (by simp only [Zu, Nat.reduceEqDiff, ↓reduceIte] <;> rfl) (by first | rfl | assumption)) (a_mv e0) rfl ?_ rfl
  refine l_op rfl (w_true (by simp only [Zu, Nat.reduceEqDiff, ↓reduceIte] <;> rfl) (by first | rfl | assumption)) (a_mv e5) rfl ?_ rfl
  refine l_op rfl (w_true (by simp only [Zu, Nat.reduceEqDiff, ↓reduceIte] <;> rfl) (by first | rfl | assumption)) (a_ia (by simp (disch := omega) only [Zu, Nat.reduceEqDiff, ↓reduceIte, hia, ha1, ha2, ha3, ha4, hia2, hb1, hb2, hb3, hb4, not_dec_self, newPtr, AMem.next_alloc] <;> rfl)) rfl ?_ rfl
  refine l_op rfl (w_true (by simp only [Zu, Nat.reduceEqDiff, ↓reduceIte] <;> rfl) (by first | rfl | assumption)) (a_fa (by simp only [Zu, Nat.reduceEqDiff, ↓reduceIte, fa53_3, Nat.zero_add, ha1, ha2, ha3, ha4, hb1, hb2, hb3, hb4, fa53_0, fa53_1, fa53_2, not_dec_self, newPtr, AMem.next_alloc] <;> rfl)) rfl ?_ rfl
  refine l_op rfl (w_true (by simp only [Zu, Nat.reduceEqDiff, ↓reduceIte] <;> rfl) (by first | rfl | assumption)) (a_load (by simp only [Zu, Nat.reduceEqDiff, ↓reduceIte, hget, ha1, ha2, ha3, ha4, hget2, hb1, hb2, hb3, hb4, not_dec_self, newPtr, AMem.next_alloc] <;> rfl) (by simp (disch := first | (refine Zx ?_; simp only [Zn]; done) | ((try simp only [Zn]); omega)) only [Zg, hget, ha1, ha2, ha3, ha4, hget2, hb1, hb2, hb3, hb4, not_dec_self, newPtr] <;> rfl) (by simp only [ld3, Zl, hget, ha1, ha2, ha3, ha4, hget2, hb1, hb2, hb3, hb4, not_dec_self, newPtr, AMem.next_alloc] <;> rfl)) rfl ?_ rfl
  refine l_op rfl (w_true (by simp only [Zu, Nat.reduceEqDiff, ↓reduceIte] <;> rfl) (by first | rfl | assumption)) (a_mv e1) rfl ?_ rfl
  refine l_op rfl (w_true (by simp only [Zu, Nat.reduceEqDiff, ↓reduceIte] <;> rfl) (by first | rfl | assumption)) (a_mv e5) rfl ?_ rfl
  refine l_op rfl (w_true (by simp only [Zu, Nat.reduceEqDiff, ↓reduceIte] <;> rfl) (by first | rfl | assumption)) (a_ia (by simp (disch := omega) only [Zu, Nat.reduceEqDiff, ↓reduceIte, hia, ha1, ha2, ha3, ha4, hia2, hb1, hb2, hb3, hb4, not_dec_self, newPtr, AMem.next_alloc] <;> rfl)) rfl ?_ rfl
  refine l_op rfl (w_true (by simp only [Zu, Nat.reduceEqDiff, ↓reduceIte] <;> rfl) (by first | rfl | assumption)) (a_fa (by simp only [Zu, Nat.reduceEqDiff, ↓reduceIte, fa53_3, Nat.zero_add, ha1, ha2, ha3, ha4, hb1, hb2, hb3, hb4, fa53_0, fa53_1, fa53_2, not_dec_self, newPtr, AMem.next_alloc] <;> rfl)) rfl ?_ rfl
  refine l_op rfl (w_true (by simp only [Zu, Nat.reduceEqDiff, ↓reduceIte] <;> rfl) (by first | rfl | assumption)) (a_load (by simp only [Zu, Nat.reduceEqDiff, ↓reduceIte, hget, ha1, ha2, ha3, ha4, hget2, hb1, hb2, hb3, hb4, not_dec_self, newPtr, AMem.next_alloc] <;> rfl) (by simp (disch := first | (refine Zx ?_; simp only [Zn]; done) | ((try simp only [Zn]); omega)) only [Zg, hget, ha1, ha2, ha3, ha4, hget2, hb1, hb2, hb3, hb4, not_dec_self, newPtr] <;> rfl) (by simp only [ld3, Zl, hget, ha1, ha2, ha3, ha4, hget2, hb1, hb2, hb3, hb4, not_dec_self, newPtr, AMem.next_alloc] <;> rfl)) rfl ?_ rfl
  refine l_op rfl (w_true (by simp only [Zu, Nat.reduceEqDiff, ↓reduceIte, Zd, reduceCtorEq] <;> rfl) (by first | rfl | assumption)) (a_bin (by simp (disch := omega) only [Zu, Nat.reduceEqDiff, ↓reduceIte, Zd, reduceCtorEq, abin_neq, abin_aneq, ne_eq, not_false_eq_true, ha1, ha2, ha3, ha4, hb1, hb2, hb3, hb4, not_dec_self] <;> rfl)) rfl ?_ rfl
  refine l_op rfl rfl (a_pick (by simp only [Zu, Nat.reduceEqDiff, ↓reduceIte, Zd, reduceCtorEq, ha1, ha2, ha3, ha4, hb1, hb2, hb3, hb4, not_dec_self] <;> rfl) (by simp only [Zu, Nat.reduceEqDiff, ↓reduceIte, Zd, reduceCtorEq, ha1, ha2, ha3, ha4, hb1, hb2, hb3, hb4, not_dec_self] <;> rfl)) rfl ?_ rfl
  refine l_nil ?_
  refine h_end ?_ (fun s' hs' => ?_)
  · refine again_r rfl ?_
    refine again_r rfl ?_
    refine again_l rfl rfl (a_load (by simp only [Zu, Nat.reduceEqDiff, ↓reduceIte, hget, ha1, ha2, ha3, ha4, hget2, hb1, hb2, hb3, hb4, not_dec_self, newPtr, AMem.next_alloc] <;> rfl) (by simp (disch := first | (refine Zx ?_; simp only [Zn]; done) | ((try simp only [Zn]); omega)) only [Zg, hget, ha1, ha2, ha3, ha4, hget2, hb1, hb2, hb3, hb4, not_dec_self, newPtr] <;> rfl) (by simp only [ld3, Zl, hget, ha1, ha2, ha3, ha4, hget2, hb1, hb2, hb3, hb4, not_dec_self, newPtr, AMem.next_alloc] <;> rfl)) ?_
    refine again_r rfl ?_
    refine again_r rfl ?_
    refine again_r rfl ?_
    refine again_r rfl ?_
    refine again_l rfl rfl (a_load (by simp only [Zu, Nat.reduceEqDiff, ↓reduceIte, hget, ha1, ha2, ha3, ha4, hget2, hb1, hb2, hb3, hb4, not_dec_self, newPtr, AMem.next_alloc] <;> rfl) (by simp (disch := first | (refine Zx ?_; simp only [Zn]; done) | ((try simp only [Zn]); omega)) only [Zg, hget, ha1, ha2, ha3, ha4, hget2, hb1, hb2, hb3, hb4, not_dec_self, newPtr] <;> rfl) (by simp only [ld3, Zl, hget, ha1, ha2, ha3, ha4, hget2, hb1, hb2, hb3, hb4, not_dec_self, newPtr, AMem.next_alloc] <;> rfl)) ?_
    refine again_r rfl ?_
    refine again_r rfl ?_
    refine again_r rfl ?_
    refine again_r rfl ?_
    refine again_r rfl ?_
    refine again_r rfl ?_
    refine again_r rfl ?_
    refine again_l rfl rfl (a_load (by simp only [Zu, Nat.reduceEqDiff, ↓reduceIte, hget, ha1, ha2, ha3, ha4, hget2, hb1, hb2, hb3, hb4, not_dec_self, newPtr, AMem.next_alloc] <;> rfl) (by simp (disch := first | (refine Zx ?_; simp only [Zn]; done) | ((try simp only [Zn]); omega)) only [Zg, hget, ha1, ha2, ha3, ha4, hget2, hb1, hb2, hb3, hb4, not_dec_self, newPtr] <;> rfl) (by simp only [ld3, Zl, hget, ha1, ha2, ha3, ha4, hget2, hb1, hb2, hb3, hb4, not_dec_self, newPtr, AMem.next_alloc] <;> rfl)) ?_
    refine again_r rfl ?_
    refine again_r rfl ?_
    refine again_r rfl ?_
    refine again_r rfl ?_
    refine again_l rfl rfl (a_load (by simp only [Zu, Nat.reduceEqDiff, ↓reduceIte, hget, ha1, ha2, ha3, ha4, hget2, hb1, hb2, hb3, hb4, not_dec_self, newPtr, AMem.next_alloc] <;> rfl) (by simp (disch := first | (refine Zx ?_; simp only [Zn]; done) | ((try simp only [Zn]); omega)) only [Zg, hget, ha1, ha2, ha3, ha4, hget2, hb1, hb2, hb3, hb4, not_dec_self, newPtr] <;> rfl) (by simp only [ld3, Zl, hget, ha1, ha2, ha3, ha4, hget2, hb1, hb2, hb3, hb4, not_dec_self, newPtr, AMem.next_alloc] <;> rfl)) ?_
    refine again_r rfl ?_
    refine again_r rfl ?_
    refine again_r rfl ?_
    refine again_r rfl ?_
    refine again_r rfl ?_
    refine again_r rfl ?_
    refine again_r rfl ?_
    refine again_l rfl rfl (a_load (by simp only [Zu, Nat.reduceEqDiff, ↓reduceIte, hget, ha1, ha2, ha3, ha4, hget2, hb1, hb2, hb3, hb4, not_dec_self, newPtr, AMem.next_alloc] <;> rfl) (by simp (disch := first | (refine Zx ?_; simp only [Zn]; done) | ((try simp only [Zn]); omega)) only [Zg, hget, ha1, ha2, ha3, ha4, hget2, hb1, hb2, hb3, hb4, not_dec_self, newPtr] <;> rfl) (by simp only [ld3, Zl, hget, ha1, ha2, ha3, ha4, hget2, hb1, hb2, hb3, hb4, not_dec_self, newPtr, AMem.next_alloc] <;> rfl)) ?_
    refine again_r rfl ?_
    refine again_r rfl ?_
    refine again_r rfl ?_
    refine again_r rfl ?_
    refine again_l rfl rfl (a_load (by simp only [Zu, Nat.reduceEqDiff, ↓reduceIte, hget, ha1, ha2, ha3, ha4, hget2, hb1, hb2, hb3, hb4, not_dec_self, newPtr, AMem.next_alloc] <;> rfl) (by simp (disch := first | (refine Zx ?_; simp only [Zn]; done) | ((try simp only [Zn]); omega)) only [Zg, hget, ha1, ha2, ha3, ha4, hget2, hb1, hb2, hb3, hb4, not_dec_self, newPtr] <;> rfl) (by simp only [ld3, Zl, hget, ha1, ha2, ha3, ha4, hget2, hb1, hb2, hb3, hb4, not_dec_self, newPtr, AMem.next_alloc] <;> rfl)) ?_
    refine again_r rfl ?_
    refine again_r rfl ?_
    refine again_r rfl ?_
    refine again_r rfl ?_
    refine again_r rfl ?_
    refine again_r rfl ?_
    refine again_l rfl rfl (a_load (by simp only [Zu, Nat.reduceEqDiff, ↓reduceIte, hget, ha1, ha2, ha3, ha4, hget2, hb1, hb2, hb3, hb4, not_dec_self, newPtr, AMem.next_alloc] <;> rfl) (by simp (disch := first | (refine Zx ?_; simp only [Zn]; done) | ((try simp only [Zn]); omega)) only [Zg, hget, ha1, ha2, ha3, ha4, hget2, hb1, hb2, hb3, hb4, not_dec_self, newPtr] <;> rfl) (by simp only [ld3, Zl, hget, ha1, ha2, ha3, ha4, hget2, hb1, hb2, hb3, hb4, not_dec_self, newPtr, AMem.next_alloc] <;> rfl)) ?_
    refine again_r rfl ?_
    refine again_r rfl ?_
    refine again_r rfl ?_
    refine again_r rfl ?_
    refine again_l rfl rfl (a_load (by simp only [Zu, Nat.reduceEqDiff, ↓reduceIte, hget, ha1, ha2, ha3, ha4, hget2, hb1, hb2, hb3, hb4, not_dec_self, newPtr, AMem.next_alloc] <;> rfl) (by simp (disch := first | (refine Zx ?_; simp only [Zn]; done) | ((try simp only [Zn]); omega)) only [Zg, hget, ha1, ha2, ha3, ha4, hget2, hb1, hb2, hb3, hb4, not_dec_self, newPtr] <;> rfl) (by simp only [ld3, Zl, hget, ha1, ha2, ha3, ha4, hget2, hb1, hb2, hb3, hb4, not_dec_self, newPtr, AMem.next_alloc] <;> rfl)) ?_
    refine again_r rfl ?_
    refine again_r rfl ?_
    refine again_r rfl ?_
    refine again_r rfl ?_
    exact again_nil
  replace e0 := kp 0 hs' e0
  replace e1 := kp 1 hs' e1
  replace e5 := kp 5 hs' e5
  have e66 := congrFun hs' 66
  simp only [Zu, Nat.reduceEqDiff, ↓reduceIte, newPtr, AMem.next_alloc] at e66
  clear hs'
  refine o_norm ?_
  refine t_norm ?_
  refine at_cond rfl rfl e66 (fun hc => by simp at hc) (fun h6 => ?_)
  try simp only [Zh] at h6
  refine at_skip rfl ?_
  refine b_norm ?_
  refine t_norm ?_
  refine at_region hS rfl (by kernel_rfl) ?_
  refine s_op (a_mv e5) rfl ?_
  refine s_op (a_bin (by simp (disch := ((try simp only [List.length_append, List.length_cons, List.length_nil]); omega)) only [Zu, Nat.reduceEqDiff, ↓reduceIte, Zd, reduceCtorEq, abin_add, abin_aadd, wrap_i64, wrap_u32, wrap_u8, wrap_u64, wrap_i32, wrap_u16, ne_eq, not_false_eq_true] <;> rfl)) rfl ?_
  refine s_as ?_
  refine s_end (fun s' hs' => ?_)
  replace e0 := kp 0 hs' e0
  replace e1 := kp 1 hs' e1
  replace e5 := congrFun hs' 5
  simp only [Zu, Nat.reduceEqDiff, ↓reduceIte, newPtr, AMem.next_alloc] at e5
  clear hs'
  refine o_norm ?_
  refine t_norm ?_
  exact ⟨l.length - (i + 1), by omega, i + 1, (by first | exact e0 | (rw [e0]; rfl) | (rw [e0]; simp; done)), (by first | exact e1 | (rw [e1]; rfl) | (rw [e1]; simp; done)), (by first | exact e5 | (rw [e5]; rfl) | (rw [e5]; simp; done)), (by omega), rfl, hnxM1, by omega, holdM1, rfl⟩
 ·
  try simp only [Zh] at h4
  refine at_exit rfl ?_
  refine t_exit ?_
  refine t_exit ?_
  refine b_here ?_
  refine t_norm ?_
  refine at_seq rfl ?_
  refine at_region hS rfl (by kernel_rfl) ?_
  refine s_op (a_as (by simp only [ev_const] <;> rfl)) rfl ?_
  refine s_end (fun s' hs' => ?_)
  have e4 := congrFun hs' 4
  simp only [Zu, Nat.reduceEqDiff, ↓reduceIte, newPtr, AMem.next_alloc] at e4
  clear hs'
  refine o_norm ?_
  refine t_norm ?_
  refine at_ret rfl ?_
  refine bq_ret rfl (ars_cons (ar_tmp e4) ars_nil) ?_
  exact ⟨_, _, hK, Canon.forget rfl holdM1⟩
end Go.Proofs.Ytdkdkpiemigfkaa
set_option linter.unusedVariables false
set_option linter.unusedSimpArgs false
set_option maxRecDepth 8000
namespace Go.Proofs.Ytdkdkpiemigfkaa
open Go Go.Proofs
def ethT (l : List UInt8) : Int := numF ((l.drop 12).take 2)
def segGet (l : List UInt8) : Option (Tup × Segh × List UInt8) :=
  if (ethGetF l).2.2 ≠ 0 ∨ ethT l ≠ 2048 then none else
  if (ipGetF (ethGetF l).2.1).2.2 ≠ 0 ∨ (ipGetF (ethGetF l).2.1).1.proto ≠ 6 then none else
  if (tcpGetF (ipGetF (ethGetF l).2.1).1.src (ipGetF (ethGetF l).2.1).1.dst (ipGetF (ethGetF l).2.1).2.1).2.2 ≠ 0 then none else
  some (⟨6, (ipGetF (ethGetF l).2.1).1.src, (ipGetF (ethGetF l).2.1).1.dst, (tcpGetF (ipGetF (ethGetF l).2.1).1.src (ipGetF (ethGetF l).2.1).1.dst (ipGetF (ethGetF l).2.1).2.1).1.src, (tcpGetF (ipGetF (ethGetF l).2.1).1.src (ipGetF (ethGetF l).2.1).1.dst (ipGetF (ethGetF l).2.1).2.1).1.dst⟩,
    (tcpGetF (ipGetF (ethGetF l).2.1).1.src (ipGetF (ethGetF l).2.1).1.dst (ipGetF (ethGetF l).2.1).2.1).1, (tcpGetF (ipGetF (ethGetF l).2.1).1.src (ipGetF (ethGetF l).2.1).1.dst (ipGetF (ethGetF l).2.1).2.1).2.1)
theorem part_le (l : List UInt8) (a b : Nat) : (part l a b).length ≤ l.length := by unfold part; rw [List.length_take, List.length_drop]; omega
theorem eth_facts (l : List UInt8) : ∃ et : Int, (ethGetF l).1.length = 13 ∧ (ethGetF l).1.all (·.oneCell') = true ∧ (ethGetF l).1[12]? = some (.int .i64 et) ∧ ((ethGetF l).2.2 = 0 → et = ethT l) ∧ (ethGetF l).2.1.length ≤ l.length := by
  unfold ethGetF
  split
  · exact ⟨0, rfl, ethCells_one _ _ _, rfl, fun h => absurd h (by decide), by simp⟩
  · split
    · exact ⟨0, rfl, ethCells_one _ _ _, rfl, fun h => absurd h (by decide), by simp⟩
    · have h6 : (l.take 6).length = 6 := by rw [List.length_take]; omega
      have h6' : ((l.drop 6).take 6).length = 6 := by rw [List.length_take, List.length_drop]; omega
      refine ⟨_, ethCells_length h6 h6', ethCells_one _ _ _, ?_, fun _ => rfl, by simp⟩
      unfold ethCells
      rw [List.getElem?_append_right (by rw [List.length_append, byteCells_length, byteCells_length]; omega), List.length_append, byteCells_length, byteCells_length, h6, h6']
      rfl
theorem u32_0 : u32 0 := ⟨by decide, by decide⟩
theorem ip_facts {l : List UInt8} (h : (ipGetF l).2.2 = 0) : u32 (ipGetF l).1.src ∧ u32 (ipGetF l).1.dst := by
  unfold ipGetF at h ⊢
  split
  · exact ⟨u32_0, u32_0⟩
  split
  · exact ⟨u32_0, u32_0⟩
  split
  · exact ⟨u32_0, u32_0⟩
  split
  · exact ⟨u32_0, u32_0⟩
  split
  · exact ⟨u32_0, u32_0⟩
  split
  · exact ⟨u32_0, u32_0⟩
  split
  · exact ⟨u32_0, u32_0⟩
  split
  · exact ⟨u32_0, u32_0⟩
  exact ⟨numF_bound4 _ (part_length (by omega)), numF_bound4 _ (part_length (by omega))⟩
theorem ip_len (l : List UInt8) : (ipGetF l).2.1.length ≤ l.length := by
  unfold ipGetF
  repeat' split
  all_goals first | exact part_le _ _ _ | simp
def tup0 : Tup := ⟨0, 0, 0, 0, 0⟩
theorem ipc_6 (h : IPh) : h.cells[6]? = some (.int .i64 h.proto) := rfl
theorem ipc_7 (h : IPh) : h.cells[7]? = some (.int .u32 h.src) := rfl
theorem ipc_8 (h : IPh) : h.cells[8]? = some (.int .u32 h.dst) := rfl
theorem sgc_0 (h : Segh) : h.cells[0]? = some (.int .i64 h.src) := rfl
theorem sgc_1 (h : Segh) : h.cells[1]? = some (.int .i64 h.dst) := rfl
end Go.Proofs.Ytdkdkpiemigfkaa
set_option linter.unusedVariables false
set_option linter.unusedSimpArgs false
set_option maxRecDepth 8000
namespace Go.Proofs.Ytdkdkpiemigfkaa
open Go Go.Proofs
def sgC (t : Tup) (h : Segh) (b : List UInt8) : List Value := t.cells ++ (h.cells ++ [asString b])
theorem sgC_len (t : Tup) (h : Segh) (b : List UInt8) : (sgC t h b).length = 13 := rfl
theorem z71 : azero Try.prog 71 = some (sgC tup0 seg0 []) := by kernel_rfl
theorem b71 : abuild Try.prog 71 [] = some (sgC tup0 seg0 []) := by kernel_rfl
theorem st71 (t t' : Tup) (h h' : Segh) (b b' : List UInt8) : astore Try.prog 71 (sgC t h b) 0 (.agg (sgC t' h' b').toArray) = some (sgC t' h' b') := astore_whole (i := _) (by rfl) rfl rfl rfl
theorem ld71 (t : Tup) (h : Segh) (b : List UInt8) : aload Try.prog 71 (sgC t h b) 0 = some (.agg (sgC t h b).toArray) := aload_whole Try.underlying71 (i := _) (by rfl) rfl rfl
theorem bd71 (t : Tup) (h : Segh) (b : List UInt8) : abuild Try.prog 71 [(0, .agg t.cells.toArray), (1, .agg h.cells.toArray), (2, asString b)] = some (sgC t h b) := by
  have := abuild_all (P := Try.prog) (i := _) (z := _) [5, 7, 1] [.agg t.cells.toArray, .agg h.cells.toArray, asString b] Try.underlying71 (by rfl) rfl (by kernel_rfl) (by kernel_rfl) (by kernel_rfl) rfl
  exact this
def sp40 : ASpec := fun args M K => ∃ l : List UInt8, args = [asString l] ∧ l.length ≤ 100000000 ∧ (∀ t h b, segGet l = some (t, h, b) → K (.ret (.tuple #[.agg (sgC t h b).toArray, .bool true])) M) ∧ (segGet l = none → ∀ t h b, K (.ret (.tuple #[.agg (sgC t h b).toArray, .bool false])) M)
noncomputable def S40 : FuncId → ASpec := tab [(56, sp56), (57, sp57), (58, sp58)]
theorem S40_56 : S40 56 = sp56 := rfl
theorem S40_57 : S40 57 = sp57 := rfl
theorem S40_58 : S40 58 = sp58 := rfl
theorem S40_ok : ∀ f, Sound Try.prog f (S40 f) := tab_sound _ (by simp [f56_ok, f57_ok, f58_ok])
set_option maxHeartbeats 1000000 in
theorem f40_ok : Sound Try.prog 40 sp40 := by
 refine Sound.of_awp (c := bodyOf Try.f40) Try.func40 rfl rfl rfl ?_
 rintro args M K ⟨l, rfl, hll, hK1, hK0⟩
 refine ⟨Nat.le_of_ble_eq_true rfl, ?_⟩
 have hS := S40_ok
 have e0 : entry [asString l] 0 = asString l := rfl
 have hz57 : azero Try.prog 57 = some seg0.cells := z57
 have hz61 : azero Try.prog 61 = some eth0 := z61
 have hz64 : azero Try.prog 64 = some ip0.cells := z64
 have hst57 : ∀ h k : Segh, astore Try.prog 57 h.cells 0 (.agg k.cells.toArray) = some k.cells := st57
 have hst64 : ∀ h k : IPh, astore Try.prog 64 h.cells 0 (.agg k.cells.toArray) = some k.cells := st64
 obtain ⟨et, c13, c1, c12, hT, hlen1⟩ := eth_facts l
 have hst61 : astore Try.prog 61 eth0 0 (.agg (ethGetF l).1.toArray) = some (ethGetF l).1 := st61 rfl c13 c1
 have hsg : segGet l = segGet l := rfl
 conv at hsg => rhs; unfold segGet
 generalize hr1 : ethGetF l = r1 at *
 refine at_seq rfl ?_
 refine at_region hS rfl (by kernel_rfl) ?_
 refine s_op (a_alloc z71) rfl ?_
 refine s_op (a_as (by simp only [ev_const] <;> rfl)) rfl ?_
 refine s_end (fun s' hs' => ?_)
 replace e0 := kp 0 hs' e0
 have e2 := congrFun hs' 2
 simp only [Zu, Nat.reduceEqDiff, ↓reduceIte, newPtr, AMem.next_alloc] at e2
 clear hs'
 refine o_norm ?_
 refine q_mem (fun M1 hEM1 => ?_)
 have hnM1 := congrArg AMem.next hEM1; simp only [Zn, Nat.add_assoc, Nat.reduceAdd] at hnM1
 have hnxM1 : M.next ≤ M1.next := by have := (Nat.le_refl M.next); omega
 have holdM1 : ∀ j, j < M.next → M1.get j = M.get j := fun j hj => by have := (Nat.le_refl M.next); rw [hEM1]; simp (disch := first | (refine Zx ?_; simp only [Zn]; done) | ((try simp only [Zn]); omega)) only [Zg]; done
 have gM1_0 := congrArg (fun m => AMem.get m M.next) hEM1; try simp (disch := first | (refine Zx ?_; simp only [Zn]; done) | ((try simp only [Zn]); omega)) only [Zg, Nat.add_assoc, Nat.reduceAdd] at gM1_0
 clear hEM1
 refine t_norm ?_
 refine at_seq rfl ?_
 refine at_region hS rfl (by kernel_rfl) ?_
 refine s_op (a_mv e0) rfl ?_
 refine s_call (by simp only [Zu, Nat.reduceEqDiff, ↓reduceIte, retEth, hst61, newPtr, AMem.next_alloc, gM1_0] <;> rfl) (by simp only [Zu, Nat.reduceEqDiff, ↓reduceIte, Zm, retEth, hst61, newPtr, AMem.next_alloc, gM1_0] <;> rfl) ?_
 rw [S40_56]; refine ⟨l, rfl, by omega, ?_⟩; rw [hr1]
 show EA _ _ _ _ _ _
 refine s_mv ?_
 refine s_op (a_ext (by simp only [Zu, Nat.reduceEqDiff, ↓reduceIte, retEth, hst61, newPtr, AMem.next_alloc] <;> rfl) (by first | exact ext4_0 | exact ext3_0 | exact ext2_0 | rfl)) rfl ?_
 refine s_op (a_ext (by simp only [Zu, Nat.reduceEqDiff, ↓reduceIte, retEth, hst61, newPtr, AMem.next_alloc] <;> rfl) (by first | exact ext4_1 | exact ext3_1 | exact ext2_1 | rfl)) rfl ?_
 refine s_op (a_ext (by simp only [Zu, Nat.reduceEqDiff, ↓reduceIte, retEth, hst61, newPtr, AMem.next_alloc] <;> rfl) (by first | exact ext4_2 | exact ext3_2 | exact ext2_2 | rfl)) rfl ?_
 refine s_op (a_alloc hz61) rfl ?_
 refine s_op (a_store (by simp only [Zu, Nat.reduceEqDiff, ↓reduceIte, retEth, hst61, newPtr, AMem.next_alloc, gM1_0] <;> rfl) (by simp (disch := first | (refine Zx ?_; simp only [Zn]; done) | ((try simp only [Zn]); omega)) only [Zg, retEth, hst61, newPtr, gM1_0] <;> rfl) (by simp only [Zu, Nat.reduceEqDiff, ↓reduceIte, retEth, hst61, newPtr, AMem.next_alloc, gM1_0] <;> rfl) (by simp only [retEth, hst61, newPtr, AMem.next_alloc, gM1_0] <;> rfl)) rfl ?_
 refine s_as ?_
 refine s_as ?_
 refine s_end (fun s' hs' => ?_)
 replace e2 := kp 2 hs' e2
 have e4 := congrFun hs' 4
 have e5 := congrFun hs' 5
 have e6 := congrFun hs' 6
 simp only [Zu, Nat.reduceEqDiff, ↓reduceIte, newPtr, AMem.next_alloc] at e4 e5 e6
 clear hs'
 try clear e0
 refine o_norm ?_
 refine q_mem (fun M2 hEM2 => ?_)
 have hnM2 := congrArg AMem.next hEM2; simp only [Zn, Nat.add_assoc, Nat.reduceAdd] at hnM2
 have hnxM2 : M.next ≤ M2.next := by have := hnxM1; omega
 have holdM2 : ∀ j, j < M.next → M2.get j = M.get j := fun j hj => by have := hnxM1; rw [hEM2]; simp (disch := first | (refine Zx ?_; simp only [Zn]; done) | ((try simp only [Zn]); omega)) only [Zg]; exact holdM1 j hj
 have gM2_0 := congrArg (fun m => AMem.get m M.next) hEM2; try simp (disch := first | (refine Zx ?_; simp only [Zn]; done) | ((try simp only [Zn]); omega)) only [Zg, Nat.add_assoc, Nat.reduceAdd, gM1_0] at gM2_0
 have gM2_1 := congrArg (fun m => AMem.get m M1.next) hEM2; try simp (disch := first | (refine Zx ?_; simp only [Zn]; done) | ((try simp only [Zn]); omega)) only [Zg, Nat.add_assoc, Nat.reduceAdd, gM1_0] at gM2_1
 clear hEM2
 refine t_norm ?_
 refine at_seq rfl ?_
 refine at_seq rfl ?_
 by_cases hx : r1.2.2 = 0
 ·
  refine at_region hS rfl (by kernel_rfl) ?_
  refine s_op (a_mv e6) rfl ?_
  refine s_op (a_bin (by simp (disch := omega) only [Zu, Nat.reduceEqDiff, ↓reduceIte, Zd, reduceCtorEq, abin_neq, abin_aneq, ne_eq, not_false_eq_true, Nat.zero_add, c12, hx] <;> rfl)) rfl ?_
  refine s_mv ?_
  refine s_tk ?_
  refine s_op (a_fa (by simp only [Zu, Nat.reduceEqDiff, ↓reduceIte, fa61_2, Nat.zero_add, c12, hx, newPtr, AMem.next_alloc, e4] <;> rfl)) rfl ?_
  refine s_tk ?_
  refine s_op (a_load (by simp only [Zu, Nat.reduceEqDiff, ↓reduceIte, Nat.zero_add, ld3, c12, hx, newPtr, AMem.next_alloc, gM2_0, gM2_1] <;> rfl) (by simp (disch := first | (refine Zx ?_; simp only [Zn]; done) | ((try simp only [Zn]); omega)) only [Zg, Nat.zero_add, ld3, c12, hx, newPtr, gM2_0, gM2_1] <;> rfl) (by simp only [ld3, Zl, Nat.zero_add, c12, hx, newPtr, AMem.next_alloc, gM2_0, gM2_1] <;> rfl)) rfl ?_
  refine s_tk ?_
  refine s_op (a_bin (by simp (disch := omega) only [Zu, Nat.reduceEqDiff, ↓reduceIte, Zd, reduceCtorEq, abin_neq, abin_aneq, ne_eq, not_false_eq_true, Nat.zero_add, c12, hx] <;> rfl)) rfl ?_
  refine s_op (a_pick (by simp only [Zu, Nat.reduceEqDiff, ↓reduceIte, Zd, reduceCtorEq, Nat.zero_add, c12, hx] <;> rfl) (by simp only [Zu, Nat.reduceEqDiff, ↓reduceIte, Zd, reduceCtorEq, Nat.zero_add, c12, hx] <;> rfl)) rfl ?_
  refine s_end (fun s' hs' => ?_)
  replace e2 := kp 2 hs' e2
  replace e5 := kp 5 hs' e5
  have e22 := congrFun hs' 22
  simp only [Zu, Nat.reduceEqDiff, ↓reduceIte, newPtr, AMem.next_alloc] at e22
  clear hs'
  try clear e4 e6
  refine o_norm ?_
  refine t_norm ?_
  refine at_cond rfl rfl e22 (fun h2 => ?_) (fun h2 => ?_)
  ·
   try simp only [Zh] at h2
   refine at_seq rfl ?_
   refine at_region hS rfl (by kernel_rfl) ?_
   refine s_op (a_build (by simp only [Zm, Array.toList, b71, st71, newPtr, AMem.next_alloc] <;> rfl)) rfl ?_
   refine s_op (a_store e2 (by simp (disch := first | (refine Zx ?_; simp only [Zn]; done) | ((try simp only [Zn]); omega)) only [Zg, b71, st71, newPtr, gM2_0, gM2_1, e2] <;> rfl) (by simp only [Zu, Nat.reduceEqDiff, ↓reduceIte, b71, st71, newPtr, AMem.next_alloc, gM2_0, gM2_1, e2] <;> rfl) (by simp only [b71, st71, newPtr, AMem.next_alloc, gM2_0, gM2_1, e2] <;> rfl)) rfl ?_
   refine s_op (a_as (by simp only [ev_const] <;> rfl)) rfl ?_
   refine s_end (fun s' hs' => ?_)
   replace e2 := kp 2 hs' e2
   have e3 := congrFun hs' 3
   simp only [Zu, Nat.reduceEqDiff, ↓reduceIte, newPtr, AMem.next_alloc] at e3
   clear hs'
   refine o_norm ?_
   refine q_mem (fun M3 hEM3 => ?_)
   have hnM3 := congrArg AMem.next hEM3; simp only [Zn, Nat.add_assoc, Nat.reduceAdd] at hnM3
   have hnxM3 : M.next ≤ M3.next := by have := hnxM2; omega
   have holdM3 : ∀ j, j < M.next → M3.get j = M.get j := fun j hj => by have := hnxM2; rw [hEM3]; simp (disch := first | (refine Zx ?_; simp only [Zn]; done) | ((try simp only [Zn]); omega)) only [Zg]; exact holdM2 j hj
   have gM3_0 := congrArg (fun m => AMem.get m M.next) hEM3; try simp (disch := first | (refine Zx ?_; simp only [Zn]; done) | ((try simp only [Zn]); omega)) only [Zg, Nat.add_assoc, Nat.reduceAdd, gM2_0, gM2_1] at gM3_0
   have gM3_1 := congrArg (fun m => AMem.get m M1.next) hEM3; try simp (disch := first | (refine Zx ?_; simp only [Zn]; done) | ((try simp only [Zn]); omega)) only [Zg, Nat.add_assoc, Nat.reduceAdd, gM2_0, gM2_1] at gM3_1
   clear hEM3
   refine t_norm ?_
   refine at_ret rfl ?_
   refine t_ret ?_
   have hF : segGet l = none := by rw [hsg]; exact if_pos (by first | exact Or.inl hx | exact Or.inr (by rw [← hT hx]; simpa using h2))
   have hK := hK0 hF tup0 seg0 []
   refine bq_ret rfl (ars_cons (ar_cell e2 (by assumption) (ld71 _ _ _)) (ars_cons (ar_tmp e3) ars_nil)) ?_
   exact ⟨_, _, hK, Canon.forget rfl holdM3⟩
  ·
   try simp only [Zh] at h2
   have het : ethT l = 2048 := by rw [← hT hx]; simpa using h2
   rw [if_neg (by simp [hx, het])] at hsg
   have hlen2 := ip_len r1.2.1
   have hip := ip_facts (l := r1.2.1)
   generalize hr2 : ipGetF r1.2.1 = r2 at *
   refine at_skip rfl ?_
   refine t_norm ?_
   refine at_seq rfl ?_
   refine at_region hS rfl (by kernel_rfl) ?_
   refine s_op (a_mv e5) rfl ?_
   refine s_call (by simp only [Zu, Nat.reduceEqDiff, ↓reduceIte, retIP, hst64, newPtr, AMem.next_alloc, gM2_0, gM2_1] <;> rfl) (by simp only [Zu, Nat.reduceEqDiff, ↓reduceIte, Zm, retIP, hst64, newPtr, AMem.next_alloc, gM2_0, gM2_1] <;> rfl) ?_
   rw [S40_57]; refine ⟨_, rfl, by omega, ?_⟩; rw [hr2]
   show EA _ _ _ _ _ _
   refine s_mv ?_
   refine s_op (a_ext (by simp only [Zu, Nat.reduceEqDiff, ↓reduceIte, retIP, hst64, newPtr, AMem.next_alloc] <;> rfl) (by first | exact ext4_0 | exact ext3_0 | exact ext2_0 | rfl)) rfl ?_
   refine s_op (a_ext (by simp only [Zu, Nat.reduceEqDiff, ↓reduceIte, retIP, hst64, newPtr, AMem.next_alloc] <;> rfl) (by first | exact ext4_1 | exact ext3_1 | exact ext2_1 | rfl)) rfl ?_
   refine s_op (a_ext (by simp only [Zu, Nat.reduceEqDiff, ↓reduceIte, retIP, hst64, newPtr, AMem.next_alloc] <;> rfl) (by first | exact ext4_2 | exact ext3_2 | exact ext2_2 | rfl)) rfl ?_
   refine s_op (a_alloc hz64) rfl ?_
   refine s_op (a_store (by simp only [Zu, Nat.reduceEqDiff, ↓reduceIte, retIP, hst64, newPtr, AMem.next_alloc, gM2_0, gM2_1] <;> rfl) (by simp (disch := first | (refine Zx ?_; simp only [Zn]; done) | ((try simp only [Zn]); omega)) only [Zg, retIP, hst64, newPtr, gM2_0, gM2_1] <;> rfl) (by simp only [Zu, Nat.reduceEqDiff, ↓reduceIte, retIP, hst64, newPtr, AMem.next_alloc, gM2_0, gM2_1] <;> rfl) (by simp only [retIP, hst64, newPtr, AMem.next_alloc, gM2_0, gM2_1] <;> rfl)) rfl ?_
   refine s_as ?_
   refine s_as ?_
   refine s_end (fun s' hs' => ?_)
   replace e2 := kp 2 hs' e2
   replace e5 := congrFun hs' 5
   have e6 := congrFun hs' 6
   have e7 := congrFun hs' 7
   simp only [Zu, Nat.reduceEqDiff, ↓reduceIte, newPtr, AMem.next_alloc] at e5 e6 e7
   clear hs'
   refine o_norm ?_
   refine q_mem (fun M4 hEM4 => ?_)
   have hnM4 := congrArg AMem.next hEM4; simp only [Zn, Nat.add_assoc, Nat.reduceAdd] at hnM4
   have hnxM4 : M.next ≤ M4.next := by have := hnxM2; omega
   have holdM4 : ∀ j, j < M.next → M4.get j = M.get j := fun j hj => by have := hnxM2; rw [hEM4]; simp (disch := first | (refine Zx ?_; simp only [Zn]; done) | ((try simp only [Zn]); omega)) only [Zg]; exact holdM2 j hj
   have gM4_0 := congrArg (fun m => AMem.get m M.next) hEM4; try simp (disch := first | (refine Zx ?_; simp only [Zn]; done) | ((try simp only [Zn]); omega)) only [Zg, Nat.add_assoc, Nat.reduceAdd, gM2_0, gM2_1] at gM4_0
   have gM4_1 := congrArg (fun m => AMem.get m M1.next) hEM4; try simp (disch := first | (refine Zx ?_; simp only [Zn]; done) | ((try simp only [Zn]); omega)) only [Zg, Nat.add_assoc, Nat.reduceAdd, gM2_0, gM2_1] at gM4_1
   have gM4_2 := congrArg (fun m => AMem.get m M2.next) hEM4; try simp (disch := first | (refine Zx ?_; simp only [Zn]; done) | ((try simp only [Zn]); omega)) only [Zg, Nat.add_assoc, Nat.reduceAdd, gM2_0, gM2_1] at gM4_2
   clear hEM4
   refine t_norm ?_
   refine at_seq rfl ?_
   refine at_seq rfl ?_
   by_cases hy : r2.2.2 = 0
   ·
    refine at_region hS rfl (by kernel_rfl) ?_
    refine s_op (a_mv e6) rfl ?_
    refine s_op (a_bin (by simp (disch := omega) only [Zu, Nat.reduceEqDiff, ↓reduceIte, Zd, reduceCtorEq, abin_neq, abin_aneq, ne_eq, not_false_eq_true, Nat.zero_add, hy] <;> rfl)) rfl ?_
    refine s_mv ?_
    refine s_tk ?_
    refine s_op (a_fa (by simp only [Zu, Nat.reduceEqDiff, ↓reduceIte, fa64_6, Nat.zero_add, hy, newPtr, AMem.next_alloc, e7] <;> rfl)) rfl ?_
    refine s_tk ?_
    refine s_op (a_load (by simp only [Zu, Nat.reduceEqDiff, ↓reduceIte, Nat.zero_add, ld3, ipc_6, hy, newPtr, AMem.next_alloc, gM4_0, gM4_1, gM4_2] <;> rfl) (by simp (disch := first | (refine Zx ?_; simp only [Zn]; done) | ((try simp only [Zn]); omega)) only [Zg, Nat.zero_add, ld3, ipc_6, hy, newPtr, gM4_0, gM4_1, gM4_2] <;> rfl) (by simp only [ld3, Zl, Nat.zero_add, ipc_6, hy, newPtr, AMem.next_alloc, gM4_0, gM4_1, gM4_2] <;> rfl)) rfl ?_
    refine s_tk ?_
    refine s_op (a_bin (by simp (disch := omega) only [Zu, Nat.reduceEqDiff, ↓reduceIte, Zd, reduceCtorEq, abin_neq, abin_aneq, ne_eq, not_false_eq_true, Nat.zero_add, hy] <;> rfl)) rfl ?_
    refine s_op (a_pick (by simp only [Zu, Nat.reduceEqDiff, ↓reduceIte, Zd, reduceCtorEq, Nat.zero_add, hy] <;> rfl) (by simp only [Zu, Nat.reduceEqDiff, ↓reduceIte, Zd, reduceCtorEq, Nat.zero_add, hy] <;> rfl)) rfl ?_
    refine s_end (fun s' hs' => ?_)
    replace e2 := kp 2 hs' e2
    replace e5 := kp 5 hs' e5
    replace e7 := kp 7 hs' e7
    have e36 := congrFun hs' 36
    simp only [Zu, Nat.reduceEqDiff, ↓reduceIte, newPtr, AMem.next_alloc] at e36
    clear hs'
    try clear e6
    refine o_norm ?_
    refine t_norm ?_
    refine at_cond rfl rfl e36 (fun h5 => ?_) (fun h5 => ?_)
    ·
     try simp only [Zh] at h5
     refine at_seq rfl ?_
     refine at_region hS rfl (by kernel_rfl) ?_
     refine s_op (a_build (by simp only [Zm, Array.toList, b71, st71, newPtr, AMem.next_alloc] <;> rfl)) rfl ?_
     refine s_op (a_store e2 (by simp (disch := first | (refine Zx ?_; simp only [Zn]; done) | ((try simp only [Zn]); omega)) only [Zg, b71, st71, newPtr, gM4_0, gM4_1, gM4_2, e2] <;> rfl) (by simp only [Zu, Nat.reduceEqDiff, ↓reduceIte, b71, st71, newPtr, AMem.next_alloc, gM4_0, gM4_1, gM4_2, e2] <;> rfl) (by simp only [b71, st71, newPtr, AMem.next_alloc, gM4_0, gM4_1, gM4_2, e2] <;> rfl)) rfl ?_
     refine s_op (a_as (by simp only [ev_const] <;> rfl)) rfl ?_
     refine s_end (fun s' hs' => ?_)
     replace e2 := kp 2 hs' e2
     have e3 := congrFun hs' 3
     simp only [Zu, Nat.reduceEqDiff, ↓reduceIte, newPtr, AMem.next_alloc] at e3
     clear hs'
     refine o_norm ?_
     refine q_mem (fun M5 hEM5 => ?_)
     have hnM5 := congrArg AMem.next hEM5; simp only [Zn, Nat.add_assoc, Nat.reduceAdd] at hnM5
     have hnxM5 : M.next ≤ M5.next := by have := hnxM4; omega
     have holdM5 : ∀ j, j < M.next → M5.get j = M.get j := fun j hj => by have := hnxM4; rw [hEM5]; simp (disch := first | (refine Zx ?_; simp only [Zn]; done) | ((try simp only [Zn]); omega)) only [Zg]; exact holdM4 j hj
     have gM5_0 := congrArg (fun m => AMem.get m M.next) hEM5; try simp (disch := first | (refine Zx ?_; simp only [Zn]; done) | ((try simp only [Zn]); omega)) only [Zg, Nat.add_assoc, Nat.reduceAdd, gM4_0, gM4_1, gM4_2] at gM5_0
     have gM5_1 := congrArg (fun m => AMem.get m M1.next) hEM5; try simp (disch := first | (refine Zx ?_; simp only [Zn]; done) | ((try simp only [Zn]); omega)) only [Zg, Nat.add_assoc, Nat.reduceAdd, gM4_0, gM4_1, gM4_2] at gM5_1
     have gM5_2 := congrArg (fun m => AMem.get m M2.next) hEM5; try simp (disch := first | (refine Zx ?_; simp only [Zn]; done) | ((try simp only [Zn]); omega)) only [Zg, Nat.add_assoc, Nat.reduceAdd, gM4_0, gM4_1, gM4_2] at gM5_2
     clear hEM5
     refine t_norm ?_
     refine at_ret rfl ?_
     refine t_ret ?_
     have hF : segGet l = none := by rw [hsg]; exact if_pos (by first | exact Or.inl hy | exact Or.inr (by simpa using h5))
     have hK := hK0 hF tup0 seg0 []
     refine bq_ret rfl (ars_cons (ar_cell e2 (by assumption) (ld71 _ _ _)) (ars_cons (ar_tmp e3) ars_nil)) ?_
     exact ⟨_, _, hK, Canon.forget rfl holdM5⟩
    ·
     try simp only [Zh] at h5
     have hpr : r2.1.proto = 6 := by simpa using h5
     rw [if_neg (by simp [hy, hpr])] at hsg
     obtain ⟨hs, hd⟩ := hip hy
     generalize hr3 : tcpGetF r2.1.src r2.1.dst r2.2.1 = r3 at *
     refine at_skip rfl ?_
     refine t_norm ?_
     refine at_seq rfl ?_
     refine at_region hS rfl (by kernel_rfl) ?_
     refine s_op (a_fa (by simp only [Zu, Nat.reduceEqDiff, ↓reduceIte, fa64_7, Nat.zero_add, fa64_8, retSeg, hst57, newPtr, AMem.next_alloc, e7] <;> rfl)) rfl ?_
     refine s_op (a_load (by simp only [Zu, Nat.reduceEqDiff, ↓reduceIte, Nat.zero_add, ld23, ipc_7, ipc_8, retSeg, hst57, newPtr, AMem.next_alloc, gM4_0, gM4_1, gM4_2] <;> rfl) (by simp (disch := first | (refine Zx ?_; simp only [Zn]; done) | ((try simp only [Zn]); omega)) only [Zg, Nat.zero_add, ld23, ipc_7, ipc_8, retSeg, hst57, newPtr, gM4_0, gM4_1, gM4_2] <;> rfl) (by simp only [ld23, Zl, Nat.zero_add, ipc_7, ipc_8, retSeg, hst57, newPtr, AMem.next_alloc, gM4_0, gM4_1, gM4_2] <;> rfl)) rfl ?_
     refine s_op (a_fa (by simp only [Zu, Nat.reduceEqDiff, ↓reduceIte, fa64_8, Nat.zero_add, fa64_7, retSeg, hst57, newPtr, AMem.next_alloc, e7] <;> rfl)) rfl ?_
     refine s_op (a_load (by simp only [Zu, Nat.reduceEqDiff, ↓reduceIte, Nat.zero_add, ld23, ipc_7, ipc_8, retSeg, hst57, newPtr, AMem.next_alloc, gM4_0, gM4_1, gM4_2] <;> rfl) (by simp (disch := first | (refine Zx ?_; simp only [Zn]; done) | ((try simp only [Zn]); omega)) only [Zg, Nat.zero_add, ld23, ipc_7, ipc_8, retSeg, hst57, newPtr, gM4_0, gM4_1, gM4_2] <;> rfl) (by simp only [ld23, Zl, Nat.zero_add, ipc_7, ipc_8, retSeg, hst57, newPtr, AMem.next_alloc, gM4_0, gM4_1, gM4_2] <;> rfl)) rfl ?_
     refine s_op (a_mv e5) rfl ?_
     refine s_call (by simp only [Zu, Nat.reduceEqDiff, ↓reduceIte, Nat.zero_add, retSeg, hst57, newPtr, AMem.next_alloc, gM4_0, gM4_1, gM4_2] <;> rfl) (by simp only [Zu, Nat.reduceEqDiff, ↓reduceIte, Zm, Nat.zero_add, retSeg, hst57, newPtr, AMem.next_alloc, gM4_0, gM4_1, gM4_2] <;> rfl) ?_
     rw [S40_58]; refine ⟨_, _, _, rfl, ⟨hs, hd, by omega⟩, ?_⟩; rw [hr3]
     show EA _ _ _ _ _ _
     refine s_mv ?_
     refine s_op (a_ext (by simp only [Zu, Nat.reduceEqDiff, ↓reduceIte, Nat.zero_add, retSeg, hst57, newPtr, AMem.next_alloc] <;> rfl) (by first | exact ext4_0 | exact ext3_0 | exact ext2_0 | rfl)) rfl ?_
     refine s_op (a_ext (by simp only [Zu, Nat.reduceEqDiff, ↓reduceIte, Nat.zero_add, retSeg, hst57, newPtr, AMem.next_alloc] <;> rfl) (by first | exact ext4_1 | exact ext3_1 | exact ext2_1 | rfl)) rfl ?_
     refine s_op (a_ext (by simp only [Zu, Nat.reduceEqDiff, ↓reduceIte, Nat.zero_add, retSeg, hst57, newPtr, AMem.next_alloc] <;> rfl) (by first | exact ext4_2 | exact ext3_2 | exact ext2_2 | rfl)) rfl ?_
     refine s_op (a_alloc hz57) rfl ?_
     refine s_op (a_store (by simp only [Zu, Nat.reduceEqDiff, ↓reduceIte, Nat.zero_add, retSeg, hst57, newPtr, AMem.next_alloc, gM4_0, gM4_1, gM4_2] <;> rfl) (by simp (disch := first | (refine Zx ?_; simp only [Zn]; done) | ((try simp only [Zn]); omega)) only [Zg, Nat.zero_add, retSeg, hst57, newPtr, gM4_0, gM4_1, gM4_2] <;> rfl) (by simp only [Zu, Nat.reduceEqDiff, ↓reduceIte, Nat.zero_add, retSeg, hst57, newPtr, AMem.next_alloc, gM4_0, gM4_1, gM4_2] <;> rfl) (by simp only [Nat.zero_add, retSeg, hst57, newPtr, AMem.next_alloc, gM4_0, gM4_1, gM4_2] <;> rfl)) rfl ?_
     refine s_as ?_
     refine s_as ?_
     refine s_end (fun s' hs' => ?_)
     replace e2 := kp 2 hs' e2
     have e6 := congrFun hs' 6
     replace e7 := kp 7 hs' e7
     have e8 := congrFun hs' 8
     have e9 := congrFun hs' 9
     simp only [Zu, Nat.reduceEqDiff, ↓reduceIte, newPtr, AMem.next_alloc] at e6 e8 e9
     clear hs'
     try clear e5
     refine o_norm ?_
     refine q_mem (fun M6 hEM6 => ?_)
     have hnM6 := congrArg AMem.next hEM6; simp only [Zn, Nat.add_assoc, Nat.reduceAdd] at hnM6
     have hnxM6 : M.next ≤ M6.next := by have := hnxM4; omega
     have holdM6 : ∀ j, j < M.next → M6.get j = M.get j := fun j hj => by have := hnxM4; rw [hEM6]; simp (disch := first | (refine Zx ?_; simp only [Zn]; done) | ((try simp only [Zn]); omega)) only [Zg]; exact holdM4 j hj
     have gM6_0 := congrArg (fun m => AMem.get m M.next) hEM6; try simp (disch := first | (refine Zx ?_; simp only [Zn]; done) | ((try simp only [Zn]); omega)) only [Zg, Nat.add_assoc, Nat.reduceAdd, gM4_0, gM4_1, gM4_2] at gM6_0
     have gM6_1 := congrArg (fun m => AMem.get m M1.next) hEM6; try simp (disch := first | (refine Zx ?_; simp only [Zn]; done) | ((try simp only [Zn]); omega)) only [Zg, Nat.add_assoc, Nat.reduceAdd, gM4_0, gM4_1, gM4_2] at gM6_1
     have gM6_2 := congrArg (fun m => AMem.get m M2.next) hEM6; try simp (disch := first | (refine Zx ?_; simp only [Zn]; done) | ((try simp only [Zn]); omega)) only [Zg, Nat.add_assoc, Nat.reduceAdd, gM4_0, gM4_1, gM4_2] at gM6_2
     have gM6_3 := congrArg (fun m => AMem.get m M4.next) hEM6; try simp (disch := first | (refine Zx ?_; simp only [Zn]; done) | ((try simp only [Zn]); omega)) only [Zg, Nat.add_assoc, Nat.reduceAdd, gM4_0, gM4_1, gM4_2] at gM6_3
     clear hEM6
     refine t_norm ?_
     refine at_seq rfl ?_
     refine at_region hS rfl (by kernel_rfl) ?_
     refine s_op (a_fa (by simp only [Zu, Nat.reduceEqDiff, ↓reduceIte, fa64_6, Nat.zero_add, fa64_7, fa64_8, fa57_0, fa57_1, bd39v, bd71, st71, newPtr, AMem.next_alloc, e7] <;> rfl)) rfl ?_
     refine s_op (a_load (by simp only [Zu, Nat.reduceEqDiff, ↓reduceIte, Nat.zero_add, ld23, ld3, ipc_6, ipc_7, ipc_8, sgc_0, sgc_1, ld57, bd39v, bd71, st71, newPtr, AMem.next_alloc, gM6_0, gM6_1, gM6_2, gM6_3] <;> rfl) (by simp (disch := first | (refine Zx ?_; simp only [Zn]; done) | ((try simp only [Zn]); omega)) only [Zg, Nat.zero_add, ld23, ld3, ipc_6, ipc_7, ipc_8, sgc_0, sgc_1, ld57, bd39v, bd71, st71, newPtr, gM6_0, gM6_1, gM6_2, gM6_3] <;> rfl) (by simp only [ld3, Zl, Nat.zero_add, ld23, ipc_6, ipc_7, ipc_8, sgc_0, sgc_1, ld57, bd39v, bd71, st71, newPtr, AMem.next_alloc, gM6_0, gM6_1, gM6_2, gM6_3] <;> rfl)) rfl ?_
     refine s_op (a_fa (by simp only [Zu, Nat.reduceEqDiff, ↓reduceIte, fa64_7, Nat.zero_add, fa64_6, fa64_8, fa57_0, fa57_1, bd39v, bd71, st71, newPtr, AMem.next_alloc, e7] <;> rfl)) rfl ?_
     refine s_op (a_load (by simp only [Zu, Nat.reduceEqDiff, ↓reduceIte, Nat.zero_add, ld23, ld3, ipc_6, ipc_7, ipc_8, sgc_0, sgc_1, ld57, bd39v, bd71, st71, newPtr, AMem.next_alloc, gM6_0, gM6_1, gM6_2, gM6_3] <;> rfl) (by simp (disch := first | (refine Zx ?_; simp only [Zn]; done) | ((try simp only [Zn]); omega)) only [Zg, Nat.zero_add, ld23, ld3, ipc_6, ipc_7, ipc_8, sgc_0, sgc_1, ld57, bd39v, bd71, st71, newPtr, gM6_0, gM6_1, gM6_2, gM6_3] <;> rfl) (by simp only [ld23, Zl, Nat.zero_add, ld3, ipc_6, ipc_7, ipc_8, sgc_0, sgc_1, ld57, bd39v, bd71, st71, newPtr, AMem.next_alloc, gM6_0, gM6_1, gM6_2, gM6_3] <;> rfl)) rfl ?_
     refine s_op (a_fa (by simp only [Zu, Nat.reduceEqDiff, ↓reduceIte, fa64_8, Nat.zero_add, fa64_6, fa64_7, fa57_0, fa57_1, bd39v, bd71, st71, newPtr, AMem.next_alloc, e7] <;> rfl)) rfl ?_
     refine s_op (a_load (by simp only [Zu, Nat.reduceEqDiff, ↓reduceIte, Nat.zero_add, ld23, ld3, ipc_6, ipc_7, ipc_8, sgc_0, sgc_1, ld57, bd39v, bd71, st71, newPtr, AMem.next_alloc, gM6_0, gM6_1, gM6_2, gM6_3] <;> rfl) (by simp (disch := first | (refine Zx ?_; simp only [Zn]; done) | ((try simp only [Zn]); omega)) only [Zg, Nat.zero_add, ld23, ld3, ipc_6, ipc_7, ipc_8, sgc_0, sgc_1, ld57, bd39v, bd71, st71, newPtr, gM6_0, gM6_1, gM6_2, gM6_3] <;> rfl) (by simp only [ld23, Zl, Nat.zero_add, ld3, ipc_6, ipc_7, ipc_8, sgc_0, sgc_1, ld57, bd39v, bd71, st71, newPtr, AMem.next_alloc, gM6_0, gM6_1, gM6_2, gM6_3] <;> rfl)) rfl ?_
     refine s_op (a_fa (by simp only [Zu, Nat.reduceEqDiff, ↓reduceIte, fa57_0, Nat.zero_add, fa64_6, fa64_7, fa64_8, fa57_1, bd39v, bd71, st71, newPtr, AMem.next_alloc, e8] <;> rfl)) rfl ?_
     refine s_op (a_load (by simp only [Zu, Nat.reduceEqDiff, ↓reduceIte, Nat.zero_add, ld23, ld3, ipc_6, ipc_7, ipc_8, sgc_0, sgc_1, ld57, bd39v, bd71, st71, newPtr, AMem.next_alloc, gM6_0, gM6_1, gM6_2, gM6_3] <;> rfl) (by simp (disch := first | (refine Zx ?_; simp only [Zn]; done) | ((try simp only [Zn]); omega)) only [Zg, Nat.zero_add, ld23, ld3, ipc_6, ipc_7, ipc_8, sgc_0, sgc_1, ld57, bd39v, bd71, st71, newPtr, gM6_0, gM6_1, gM6_2, gM6_3] <;> rfl) (by simp only [ld3, Zl, Nat.zero_add, ld23, ipc_6, ipc_7, ipc_8, sgc_0, sgc_1, ld57, bd39v, bd71, st71, newPtr, AMem.next_alloc, gM6_0, gM6_1, gM6_2, gM6_3] <;> rfl)) rfl ?_
     refine s_op (a_fa (by simp only [Zu, Nat.reduceEqDiff, ↓reduceIte, fa57_1, Nat.zero_add, fa64_6, fa64_7, fa64_8, fa57_0, bd39v, bd71, st71, newPtr, AMem.next_alloc, e8] <;> rfl)) rfl ?_
     refine s_op (a_load (by simp only [Zu, Nat.reduceEqDiff, ↓reduceIte, Nat.zero_add, ld23, ld3, ipc_6, ipc_7, ipc_8, sgc_0, sgc_1, ld57, bd39v, bd71, st71, newPtr, AMem.next_alloc, gM6_0, gM6_1, gM6_2, gM6_3] <;> rfl) (by simp (disch := first | (refine Zx ?_; simp only [Zn]; done) | ((try simp only [Zn]); omega)) only [Zg, Nat.zero_add, ld23, ld3, ipc_6, ipc_7, ipc_8, sgc_0, sgc_1, ld57, bd39v, bd71, st71, newPtr, gM6_0, gM6_1, gM6_2, gM6_3] <;> rfl) (by simp only [ld3, Zl, Nat.zero_add, ld23, ipc_6, ipc_7, ipc_8, sgc_0, sgc_1, ld57, bd39v, bd71, st71, newPtr, AMem.next_alloc, gM6_0, gM6_1, gM6_2, gM6_3] <;> rfl)) rfl ?_
     refine s_op (a_build (by simp only [Zu, Nat.reduceEqDiff, ↓reduceIte, Zm, Array.toList, Nat.zero_add, bd39v, bd71, st71, newPtr, AMem.next_alloc] <;> rfl)) rfl ?_
     refine s_op (a_load e8 (by simp (disch := first | (refine Zx ?_; simp only [Zn]; done) | ((try simp only [Zn]); omega)) only [Zg, Nat.zero_add, ld23, ld3, ipc_6, ipc_7, ipc_8, sgc_0, sgc_1, ld57, bd39v, bd71, st71, newPtr, gM6_0, gM6_1, gM6_2, gM6_3, e8] <;> rfl) (by simp only [Nat.zero_add, ld23, ld3, ipc_6, ipc_7, ipc_8, sgc_0, sgc_1, ld57, bd39v, bd71, st71, newPtr, AMem.next_alloc, gM6_0, gM6_1, gM6_2, gM6_3, e8] <;> rfl)) rfl ?_
     refine s_op (a_mv e9) rfl ?_
     refine s_op (a_build (by simp only [Zu, Nat.reduceEqDiff, ↓reduceIte, Zm, Array.toList, Nat.zero_add, bd39v, bd71, st71, newPtr, AMem.next_alloc] <;> rfl)) rfl ?_
     refine s_op (a_mv e6) rfl ?_
     refine s_op (a_bin (by simp (disch := omega) only [Zu, Nat.reduceEqDiff, ↓reduceIte, Zd, reduceCtorEq, abin_eql, abin_aeql, ne_eq, not_false_eq_true, Nat.zero_add, bd39v, bd71, st71] <;> rfl)) rfl ?_
     refine s_op (a_store e2 (by simp (disch := first | (refine Zx ?_; simp only [Zn]; done) | ((try simp only [Zn]); omega)) only [Zg, Nat.zero_add, bd39v, bd71, st71, newPtr, gM6_0, gM6_1, gM6_2, gM6_3, e2] <;> rfl) (by simp only [Zu, Nat.reduceEqDiff, ↓reduceIte, Nat.zero_add, bd39v, bd71, st71, newPtr, AMem.next_alloc, gM6_0, gM6_1, gM6_2, gM6_3, e2] <;> rfl) (by simp only [Nat.zero_add, bd39v, bd71, st71, newPtr, AMem.next_alloc, gM6_0, gM6_1, gM6_2, gM6_3, e2] <;> rfl)) rfl ?_
     refine s_as ?_
     refine s_end (fun s' hs' => ?_)
     replace e2 := kp 2 hs' e2
     have e3 := congrFun hs' 3
     simp only [Zu, Nat.reduceEqDiff, ↓reduceIte, newPtr, AMem.next_alloc] at e3
     clear hs'
     try clear e6 e7 e8 e9
     refine o_norm ?_
     refine q_mem (fun M7 hEM7 => ?_)
     have hnM7 := congrArg AMem.next hEM7; simp only [Zn, Nat.add_assoc, Nat.reduceAdd] at hnM7
     have hnxM7 : M.next ≤ M7.next := by have := hnxM6; omega
     have holdM7 : ∀ j, j < M.next → M7.get j = M.get j := fun j hj => by have := hnxM6; rw [hEM7]; simp (disch := first | (refine Zx ?_; simp only [Zn]; done) | ((try simp only [Zn]); omega)) only [Zg]; exact holdM6 j hj
     have gM7_0 := congrArg (fun m => AMem.get m M.next) hEM7; try simp (disch := first | (refine Zx ?_; simp only [Zn]; done) | ((try simp only [Zn]); omega)) only [Zg, Nat.add_assoc, Nat.reduceAdd, gM6_0, gM6_1, gM6_2, gM6_3] at gM7_0
     have gM7_1 := congrArg (fun m => AMem.get m M1.next) hEM7; try simp (disch := first | (refine Zx ?_; simp only [Zn]; done) | ((try simp only [Zn]); omega)) only [Zg, Nat.add_assoc, Nat.reduceAdd, gM6_0, gM6_1, gM6_2, gM6_3] at gM7_1
     have gM7_2 := congrArg (fun m => AMem.get m M2.next) hEM7; try simp (disch := first | (refine Zx ?_; simp only [Zn]; done) | ((try simp only [Zn]); omega)) only [Zg, Nat.add_assoc, Nat.reduceAdd, gM6_0, gM6_1, gM6_2, gM6_3] at gM7_2
     have gM7_3 := congrArg (fun m => AMem.get m M4.next) hEM7; try simp (disch := first | (refine Zx ?_; simp only [Zn]; done) | ((try simp only [Zn]); omega)) only [Zg, Nat.add_assoc, Nat.reduceAdd, gM6_0, gM6_1, gM6_2, gM6_3] at gM7_3
     clear hEM7
     refine t_norm ?_
     refine at_ret rfl ?_
     have hK : K (.ret (.tuple #[.agg (sgC ⟨r2.1.proto, r2.1.src, r2.1.dst, r3.1.src, r3.1.dst⟩ r3.1 r3.2.1).toArray, .bool (decide (r3.2.2 = 0))])) M := by
       by_cases h0 : r3.2.2 = 0
       · have hF : segGet l = some (⟨6, r2.1.src, r2.1.dst, r3.1.src, r3.1.dst⟩, r3.1, r3.2.1) := by rw [hsg]; exact if_neg (by simpa using h0)
         have := hK1 _ _ _ hF
         rw [hpr]; simpa only [h0, decide_true] using this
       · have hF : segGet l = none := by rw [hsg]; exact if_pos h0
         have := hK0 hF ⟨r2.1.proto, r2.1.src, r2.1.dst, r3.1.src, r3.1.dst⟩ r3.1 r3.2.1
         simpa only [h0, decide_false] using this
     refine bq_ret rfl (ars_cons (ar_cell e2 (by assumption) (ld71 _ _ _)) (ars_cons (ar_tmp e3) ars_nil)) ?_
     exact ⟨_, _, hK, Canon.forget rfl holdM7⟩
   ·
    refine at_region hS rfl (by kernel_rfl) ?_
    refine s_op (a_mv e6) rfl ?_
    refine s_op (a_bin (by simp (disch := omega) only [Zu, Nat.reduceEqDiff, ↓reduceIte, Zd, reduceCtorEq, abin_neq, abin_aneq, ne_eq, not_false_eq_true, Nat.zero_add, hy] <;> rfl)) rfl ?_
    refine s_mv ?_
    refine s_lv ?_
    refine s_lv ?_
    refine s_lv ?_
    refine s_op (a_pick (by simp only [Zu, Nat.reduceEqDiff, ↓reduceIte, Zd, reduceCtorEq, Nat.zero_add, hy] <;> rfl) (by simp only [Zu, Nat.reduceEqDiff, ↓reduceIte, Zd, reduceCtorEq, Nat.zero_add, hy] <;> rfl)) rfl ?_
    refine s_end (fun s' hs' => ?_)
    replace e2 := kp 2 hs' e2
    replace e5 := kp 5 hs' e5
    replace e7 := kp 7 hs' e7
    have e36 := congrFun hs' 36
    simp only [Zu, Nat.reduceEqDiff, ↓reduceIte, newPtr, AMem.next_alloc] at e36
    clear hs'
    try clear e6
    refine o_norm ?_
    refine t_norm ?_
    refine at_cond rfl rfl e36 (fun h5 => ?_) (fun hc => by cases hc)
    try simp only [Zh] at h5
    refine at_seq rfl ?_
    refine at_region hS rfl (by kernel_rfl) ?_
    refine s_op (a_build (by simp only [Zm, Array.toList, b71, st71, newPtr, AMem.next_alloc] <;> rfl)) rfl ?_
    refine s_op (a_store e2 (by simp (disch := first | (refine Zx ?_; simp only [Zn]; done) | ((try simp only [Zn]); omega)) only [Zg, b71, st71, newPtr, gM4_0, gM4_1, gM4_2, e2] <;> rfl) (by simp only [Zu, Nat.reduceEqDiff, ↓reduceIte, b71, st71, newPtr, AMem.next_alloc, gM4_0, gM4_1, gM4_2, e2] <;> rfl) (by simp only [b71, st71, newPtr, AMem.next_alloc, gM4_0, gM4_1, gM4_2, e2] <;> rfl)) rfl ?_
    refine s_op (a_as (by simp only [ev_const] <;> rfl)) rfl ?_
    refine s_end (fun s' hs' => ?_)
    replace e2 := kp 2 hs' e2
    have e3 := congrFun hs' 3
    simp only [Zu, Nat.reduceEqDiff, ↓reduceIte, newPtr, AMem.next_alloc] at e3
    clear hs'
    refine o_norm ?_
    refine q_mem (fun M8 hEM8 => ?_)
    have hnM8 := congrArg AMem.next hEM8; simp only [Zn, Nat.add_assoc, Nat.reduceAdd] at hnM8
    have hnxM8 : M.next ≤ M8.next := by have := hnxM4; omega
    have holdM8 : ∀ j, j < M.next → M8.get j = M.get j := fun j hj => by have := hnxM4; rw [hEM8]; simp (disch := first | (refine Zx ?_; simp only [Zn]; done) | ((try simp only [Zn]); omega)) only [Zg]; exact holdM4 j hj
    have gM8_0 := congrArg (fun m => AMem.get m M.next) hEM8; try simp (disch := first | (refine Zx ?_; simp only [Zn]; done) | ((try simp only [Zn]); omega)) only [Zg, Nat.add_assoc, Nat.reduceAdd, gM4_0, gM4_1, gM4_2] at gM8_0
    have gM8_1 := congrArg (fun m => AMem.get m M1.next) hEM8; try simp (disch := first | (refine Zx ?_; simp only [Zn]; done) | ((try simp only [Zn]); omega)) only [Zg, Nat.add_assoc, Nat.reduceAdd, gM4_0, gM4_1, gM4_2] at gM8_1
    have gM8_2 := congrArg (fun m => AMem.get m M2.next) hEM8; try simp (disch := first | (refine Zx ?_; simp only [Zn]; done) | ((try simp only [Zn]); omega)) only [Zg, Nat.add_assoc, Nat.reduceAdd, gM4_0, gM4_1, gM4_2] at gM8_2
    clear hEM8
    refine t_norm ?_
    refine at_ret rfl ?_
    refine t_ret ?_
    have hF : segGet l = none := by rw [hsg]; exact if_pos (by first | exact Or.inl hy | exact Or.inr (by simpa using h5))
    have hK := hK0 hF tup0 seg0 []
    refine bq_ret rfl (ars_cons (ar_cell e2 (by assumption) (ld71 _ _ _)) (ars_cons (ar_tmp e3) ars_nil)) ?_
    exact ⟨_, _, hK, Canon.forget rfl holdM8⟩
 ·
  refine at_region hS rfl (by kernel_rfl) ?_
  refine s_op (a_mv e6) rfl ?_
  refine s_op (a_bin (by simp (disch := omega) only [Zu, Nat.reduceEqDiff, ↓reduceIte, Zd, reduceCtorEq, abin_neq, abin_aneq, ne_eq, not_false_eq_true, Nat.zero_add, c12, hx] <;> rfl)) rfl ?_
  refine s_mv ?_
  refine s_lv ?_
  refine s_lv ?_
  refine s_lv ?_
  refine s_op (a_pick (by simp only [Zu, Nat.reduceEqDiff, ↓reduceIte, Zd, reduceCtorEq, Nat.zero_add, c12, hx] <;> rfl) (by simp only [Zu, Nat.reduceEqDiff, ↓reduceIte, Zd, reduceCtorEq, Nat.zero_add, c12, hx] <;> rfl)) rfl ?_
  refine s_end (fun s' hs' => ?_)
  replace e2 := kp 2 hs' e2
  replace e5 := kp 5 hs' e5
  have e22 := congrFun hs' 22
  simp only [Zu, Nat.reduceEqDiff, ↓reduceIte, newPtr, AMem.next_alloc] at e22
  clear hs'
  try clear e4 e6
  refine o_norm ?_
  refine t_norm ?_
  refine at_cond rfl rfl e22 (fun h2 => ?_) (fun hc => by cases hc)
  try simp only [Zh] at h2
  refine at_seq rfl ?_
  refine at_region hS rfl (by kernel_rfl) ?_
  refine s_op (a_build (by simp only [Zm, Array.toList, b71, st71, newPtr, AMem.next_alloc] <;> rfl)) rfl ?_
  refine s_op (a_store e2 (by simp (disch := first | (refine Zx ?_; simp only [Zn]; done) | ((try simp only [Zn]); omega)) only [Zg, b71, st71, newPtr, gM2_0, gM2_1, e2] <;> rfl) (by simp only [Zu, Nat.reduceEqDiff, ↓reduceIte, b71, st71, newPtr, AMem.next_alloc, gM2_0, gM2_1, e2] <;> rfl) (by simp only [b71, st71, newPtr, AMem.next_alloc, gM2_0, gM2_1, e2] <;> rfl)) rfl ?_
  refine s_op (a_as (by simp only [ev_const] <;> rfl)) rfl ?_
  refine s_end (fun s' hs' => ?_)
  replace e2 := kp 2 hs' e2
  have e3 := congrFun hs' 3
  simp only [Zu, Nat.reduceEqDiff, ↓reduceIte, newPtr, AMem.next_alloc] at e3
  clear hs'
  refine o_norm ?_
  refine q_mem (fun M9 hEM9 => ?_)
  have hnM9 := congrArg AMem.next hEM9; simp only [Zn, Nat.add_assoc, Nat.reduceAdd] at hnM9
  have hnxM9 : M.next ≤ M9.next := by have := hnxM2; omega
  have holdM9 : ∀ j, j < M.next → M9.get j = M.get j := fun j hj => by have := hnxM2; rw [hEM9]; simp (disch := first | (refine Zx ?_; simp only [Zn]; done) | ((try simp only [Zn]); omega)) only [Zg]; exact holdM2 j hj
  have gM9_0 := congrArg (fun m => AMem.get m M.next) hEM9; try simp (disch := first | (refine Zx ?_; simp only [Zn]; done) | ((try simp only [Zn]); omega)) only [Zg, Nat.add_assoc, Nat.reduceAdd, gM2_0, gM2_1] at gM9_0
  have gM9_1 := congrArg (fun m => AMem.get m M1.next) hEM9; try simp (disch := first | (refine Zx ?_; simp only [Zn]; done) | ((try simp only [Zn]); omega)) only [Zg, Nat.add_assoc, Nat.reduceAdd, gM2_0, gM2_1] at gM9_1
  clear hEM9
  refine t_norm ?_
  refine at_ret rfl ?_
  refine t_ret ?_
  have hF : segGet l = none := by rw [hsg]; exact if_pos (by first | exact Or.inl hx | exact Or.inr (by rw [← hT hx]; simpa using h2))
  have hK := hK0 hF tup0 seg0 []
  refine bq_ret rfl (ars_cons (ar_cell e2 (by assumption) (ld71 _ _ _)) (ars_cons (ar_tmp e3) ars_nil)) ?_
  exact ⟨_, _, hK, Canon.forget rfl holdM9⟩
end Go.Proofs.Ytdkdkpiemigfkaa
set_option linter.unusedVariables false
set_option linter.unusedSimpArgs false
set_option maxRecDepth 8000
namespace Go.Proofs.Ytdkdkpiemigfkaa
open Go Go.Proofs
abbrev SG := Tup × Segh × List UInt8
def segsL (fs : List Fr) : List SG := fs.filterMap fun f => segGet f.data
def segsF (os : List Ou) : List SG := segsL (os.flatMap Ou.frames)
theorem segsL_app (a b : List Fr) : segsL (a ++ b) = segsL a ++ segsL b := List.filterMap_append
theorem segsL_one (f : Fr) : segsL [f] = (segGet f.data).toList := by
  unfold segsL; cases h : segGet f.data <;> simp [List.filterMap_cons, h]
theorem segs_at {os : List Ou} {i q : Nat} {o : Ou} {f : Fr} {r : SG} (hoi : os[i]? = some o) (hfq : o.frames[q]? = some f) (hr : segGet f.data = some r) : (segsF os)[(segsL ((os.take i).flatMap Ou.frames ++ o.frames.take q)).length]? = some r := by
  have hlt : i < os.length := (List.getElem?_eq_some_iff.1 hoi).1
  have hql : q < o.frames.length := (List.getElem?_eq_some_iff.1 hfq).1
  have e1 : os.flatMap Ou.frames = (os.take i).flatMap Ou.frames ++ (o.frames ++ (os.drop (i + 1)).flatMap Ou.frames) := by
    conv => lhs; rw [← List.take_append_drop i os]
    rw [List.flatMap_append, List.drop_eq_getElem_cons hlt, (List.getElem?_eq_some_iff.1 hoi).2, List.flatMap_cons]
  have e2 : o.frames = o.frames.take q ++ ([f] ++ o.frames.drop (q + 1)) := by
    conv => lhs; rw [← List.take_append_drop q o.frames]
    rw [List.drop_eq_getElem_cons hql, (List.getElem?_eq_some_iff.1 hfq).2]; rfl
  have e3 : os.flatMap Ou.frames = ((os.take i).flatMap Ou.frames ++ o.frames.take q) ++ ([f] ++ (o.frames.drop (q + 1) ++ (os.drop (i + 1)).flatMap Ou.frames)) := by
    rw [e1]; conv => lhs; rw [e2]
    simp only [List.append_assoc]
  unfold segsF
  rw [e3, segsL_app, List.getElem?_append_right (Nat.le_refl _), Nat.sub_self, segsL_app, segsL_one, hr]
  rfl
theorem ld36 (cs : List Value) (off : Nat) : aload Try.prog 36 cs off = cs[off]? := aload_one Try.underlying36 rfl rfl cs off
def sp39 : ASpec := fun args M K => ∃ (id c : Nat) (own : Bool) (lv : Value) (os : List Ou) (Mb : AMem) (I : Nat → AMem → Prop),
  args = [.func (.yield id) #[] #[], .pointer (some ⟨c, 0, none⟩)] ∧ OusR Mb lv os ∧ fewO os ∧ (∀ f ∈ os.flatMap Ou.frames, f.data.length ≤ 100000000) ∧ I 0 M ∧
  (∀ i M1, I i M1 → M.next ≤ M1.next ∧ Mb.next ≤ M1.next ∧ (∀ j, j < Mb.next → M1.get j = Mb.get j) ∧ M1.get c = .cells [lv] own) ∧
  (∀ i M1 M2, I i M1 → M1.next ≤ M2.next → (∀ j, j < M1.next → M2.get j = M1.get j) → I i M2) ∧
  (∀ i M1 t h b, (segsF os)[i]? = some (t, h, b) → I i M1 → YRound Try.prog id [.agg (sgC t h b).toArray] M1 fun res M2 => res = .ret (.bool true) ∧ M1.next ≤ M2.next ∧ I (i + 1) M2) ∧
  (∀ M1, I (segsF os).length M1 → K (.ret (.tuple #[])) M1)
noncomputable def S39 : FuncId → ASpec := tab [(40, sp40)]
theorem S39_40 : S39 40 = sp40 := rfl
theorem S39_ok : ∀ f, Sound Try.prog f (S39 f) := tab_sound _ (by simp [f40_ok])
set_option maxHeartbeats 1000000 in
theorem f39_ok : Sound Try.prog 39 sp39 := by
 refine Sound.of_awp (c := bodyOf Try.f39) Try.func39 rfl rfl rfl ?_
 rintro args M K ⟨id, c, own, lv, os, Mb, I, rfl, hos, ⟨hb1, hb2, hb3⟩, hdat, hI0, hIb, hIs, hIy, hK⟩
 refine ⟨Nat.le_of_ble_eq_true rfl, ?_⟩
 have hS := S39_ok
 have e0 : entry [.func (.yield id) #[] #[], .pointer (some ⟨c, 0, none⟩)] 0 = .func (.yield id) #[] #[] := rfl
 have e1 : entry [.func (.yield id) #[] #[], .pointer (some ⟨c, 0, none⟩)] 1 = .pointer (some ⟨c, 0, none⟩) := rfl
 have hb0 := (hIb 0 M hI0).2.2.1
 have hn0 := (hIb 0 M hI0).2.1
 have hc0 := (hIb 0 M hI0).2.2.2
 refine at_seq rfl ?_
 refine at_region hS rfl (by kernel_rfl) ?_
 refine s_op (a_load e1 (by simp (disch := first | (refine Zx ?_; simp only [Zn]; done) | ((try simp only [Zn]); omega)) only [Zg, hc0, ld36, List.getElem?_cons_zero, newPtr, e1] <;> rfl) (by simp only [hc0, ld36, List.getElem?_cons_zero, newPtr, AMem.next_alloc, e1] <;> rfl)) rfl ?_
 refine s_op (a_len (by simp (disch := omega) only [Zu, Nat.reduceEqDiff, ↓reduceIte, alen_str, hc0, List.getElem?_cons_zero, OusR.len hos, newPtr, AMem.next_alloc] <;> rfl)) rfl ?_
 refine s_op (a_mv (by simp only [ev_const] <;> rfl)) rfl ?_
 refine s_end (fun s' hs' => ?_)
 replace e0 := kp 0 hs' e0
 have e9 := congrFun hs' 9
 have e10 := congrFun hs' 10
 have e11 := congrFun hs' 11
 simp only [Zu, Nat.reduceEqDiff, ↓reduceIte, newPtr, AMem.next_alloc] at e9 e10 e11
 clear hs'
 try clear e1
 refine o_norm ?_
 refine t_norm ?_
 refine at_block rfl ?_
 refine at_loop rfl (fun km s ML ds => ∃ (i : Nat), s 0 = .func (.yield id) #[] #[] ∧ s 9 = lv ∧ s 10 = .int .i64 os.length ∧ s 11 = .int .i64 i ∧ i ≤ os.length ∧ I (segsL ((os.take i).flatMap Ou.frames)).length ML ∧ km = os.length - i ∧ Mb.next ≤ ML.next ∧ M.next ≤ ML.next ∧ (∀ j, j < Mb.next → ML.get j = Mb.get j) ∧ ds = []) (os.length - (0)) ⟨0, (by first | exact e0 | (rw [e0]; rfl) | (simpa using e0)), (by first | exact e9 | (rw [e9]; rfl) | (simpa using e9)), (by first | exact e10 | (rw [e10]; rfl) | (simpa using e10)), (by first | exact e11 | (rw [e11]; rfl) | (simpa using e11)), (by omega), hI0, rfl, hn0, by omega, hb0, rfl⟩ ?_
 clear e0 e9 e10 e11
 rintro km s M1 ds ⟨i, e0, e9, e10, e11, hi, hI, hk, hnxM1, hngM1, holdM1, rfl⟩
 refine at_seq rfl ?_
 refine at_region hS rfl (by kernel_rfl) ?_
 refine s_op (a_bin (by simp (disch := omega) only [Zu, Nat.reduceEqDiff, ↓reduceIte, Zd, reduceCtorEq, abin_lss, ne_eq, not_false_eq_true, e10, e11] <;> rfl)) rfl ?_
 refine s_end (fun s' hs' => ?_)
 replace e0 := kp 0 hs' e0
 replace e9 := kp 9 hs' e9
 replace e10 := kp 10 hs' e10
 replace e11 := kp 11 hs' e11
 have e12 := congrFun hs' 12
 simp only [Zu, Nat.reduceEqDiff, ↓reduceIte, newPtr, AMem.next_alloc] at e12
 clear hs'
 refine o_norm ?_
 refine t_norm ?_
 refine at_seq rfl ?_
 refine at_cond rfl rfl e12 (fun h1 => ?_) (fun h1 => ?_)
 ·
  try simp only [Zh] at h1
  refine at_skip rfl ?_
  refine t_norm ?_
  refine at_seq rfl ?_
  refine at_block rfl ?_
  refine at_seq rfl ?_
  have hil : i < os.length := by omega
  obtain ⟨o, hoi⟩ : ∃ o, os[i]? = some o := ⟨_, List.getElem?_eq_getElem hil⟩
  obtain ⟨zi, off, all, own2, fv, nv, hia, hid, hget, hl1, hl2, hl3, hfr, hnr⟩ := hos.at hoi .i64
  have hst := st31 (Row.oneCell hfr) (Row.oneCell hnr)
  have hfl := flatMap_le hoi Ou.frames
  have hgetM := (holdM1 zi hid).trans hget
  refine at_region hS rfl (by kernel_rfl) ?_
  refine s_op (a_ia (by simp (disch := omega) only [Zu, Nat.reduceEqDiff, ↓reduceIte, hia, hst, newPtr, AMem.next_alloc, e9, e11] <;> rfl)) rfl ?_
  refine s_op (a_load (by simp only [Zu, Nat.reduceEqDiff, ↓reduceIte, hgetM, hl3, hst, newPtr, AMem.next_alloc] <;> rfl) (by simp (disch := first | (refine Zx ?_; simp only [Zn]; done) | ((try simp only [Zn]); omega)) only [Zg, hgetM, hl3, hst, newPtr] <;> rfl) (by simp only [hgetM, hl3, hst, newPtr, AMem.next_alloc] <;> rfl)) rfl ?_
  refine s_op (a_alloc z31) rfl ?_
  refine s_op (a_store (by simp only [Zu, Nat.reduceEqDiff, ↓reduceIte, hgetM, hst, newPtr, AMem.next_alloc] <;> rfl) (by simp (disch := first | (refine Zx ?_; simp only [Zn]; done) | ((try simp only [Zn]); omega)) only [Zg, hgetM, hst, newPtr] <;> rfl) (by simp only [Zu, Nat.reduceEqDiff, ↓reduceIte, hgetM, hst, newPtr, AMem.next_alloc] <;> rfl) (by simp only [hgetM, hst, newPtr, AMem.next_alloc] <;> rfl)) rfl ?_
  refine s_end (fun s' hs' => ?_)
  replace e0 := kp 0 hs' e0
  have e4 := congrFun hs' 4
  replace e9 := kp 9 hs' e9
  replace e10 := kp 10 hs' e10
  replace e11 := kp 11 hs' e11
  simp only [Zu, Nat.reduceEqDiff, ↓reduceIte, newPtr, AMem.next_alloc] at e4
  clear hs'
  refine o_norm ?_
  refine q_mem (fun M2 hEM2 => ?_)
  have hnM2 := congrArg AMem.next hEM2; simp only [Zn, Nat.add_assoc, Nat.reduceAdd] at hnM2
  have hnxM2 : Mb.next ≤ M2.next := by have := hnxM1; omega
  have holdM2 : ∀ j, j < Mb.next → M2.get j = Mb.get j := fun j hj => by have := hnxM1; rw [hEM2]; simp (disch := first | (refine Zx ?_; simp only [Zn]; done) | ((try simp only [Zn]); omega)) only [Zg]; exact holdM1 j hj
  have hcM2 : ∀ j, j < M1.next → M2.get j = M1.get j := fun j hj => by rw [hEM2]; simp (disch := first | (refine Zx ?_; simp only [Zn]; done) | ((try simp only [Zn]); omega)) only [Zg]
  have gM2_0 := congrArg (fun m => AMem.get m M1.next) hEM2; try simp (disch := first | (refine Zx ?_; simp only [Zn]; done) | ((try simp only [Zn]); omega)) only [Zg, Nat.add_assoc, Nat.reduceAdd] at gM2_0
  clear hEM2
  have hI2 := hIs _ _ M2 hI (by omega) hcM2
  have hat := fun q f r => segs_at (q := q) (f := f) (r := r) hoi
  clear hI hget hia hgetM
  generalize hA : (os.take i).flatMap Ou.frames = A at *
  refine t_norm ?_
  refine at_seq rfl ?_
  refine at_region hS rfl (by kernel_rfl) ?_
  refine s_op (a_fa (by simp only [Zu, Nat.reduceEqDiff, ↓reduceIte, fa31_0, Nat.zero_add, List.getElem?_cons_zero, newPtr, AMem.next_alloc, e4] <;> rfl)) rfl ?_
  refine s_op (a_load (by simp only [Zu, Nat.reduceEqDiff, ↓reduceIte, ld27, List.getElem?_cons_zero, newPtr, AMem.next_alloc, gM2_0] <;> rfl) (by simp (disch := first | (refine Zx ?_; simp only [Zn]; done) | ((try simp only [Zn]); omega)) only [Zg, ld27, List.getElem?_cons_zero, newPtr, gM2_0] <;> rfl) (by simp only [ld27, List.getElem?_cons_zero, newPtr, AMem.next_alloc, gM2_0] <;> rfl)) rfl ?_
  refine s_op (a_len (by simp (disch := omega) only [Zu, Nat.reduceEqDiff, ↓reduceIte, alen_str, List.getElem?_cons_zero, FrsR.len hfr, newPtr, AMem.next_alloc, gM2_0] <;> rfl)) rfl ?_
  refine s_op (a_mv (by simp only [ev_const] <;> rfl)) rfl ?_
  refine s_end (fun s' hs' => ?_)
  replace e0 := kp 0 hs' e0
  replace e9 := kp 9 hs' e9
  replace e10 := kp 10 hs' e10
  replace e11 := kp 11 hs' e11
  have e16 := congrFun hs' 16
  have e17 := congrFun hs' 17
  have e18 := congrFun hs' 18
  simp only [Zu, Nat.reduceEqDiff, ↓reduceIte, newPtr, AMem.next_alloc] at e16 e17 e18
  clear hs'
  try clear e4
  refine o_norm ?_
  refine t_norm ?_
  refine at_block rfl ?_
  refine at_loop rfl (fun km s ML ds => ∃ (q : Nat), s 0 = .func (.yield id) #[] #[] ∧ s 9 = lv ∧ s 10 = .int .i64 os.length ∧ s 11 = .int .i64 i ∧ s 16 = fv ∧ s 17 = .int .i64 o.frames.length ∧ s 18 = .int .i64 q ∧ q ≤ o.frames.length ∧ I (segsL (A ++ o.frames.take q)).length ML ∧ km = o.frames.length - q ∧ Mb.next ≤ ML.next ∧ M2.next ≤ ML.next ∧ (∀ j, j < Mb.next → ML.get j = Mb.get j) ∧ ds = []) (o.frames.length - (0)) ⟨0, (by first | exact e0 | (rw [e0]; rfl) | (simpa using e0)), (by first | exact e9 | (rw [e9]; rfl) | (simpa using e9)), (by first | exact e10 | (rw [e10]; rfl) | (simpa using e10)), (by first | exact e11 | (rw [e11]; rfl) | (simpa using e11)), (by first | exact e16 | (rw [e16]; rfl) | (simpa using e16)), (by first | exact e17 | (rw [e17]; rfl) | (simpa using e17)), (by first | exact e18 | (rw [e18]; rfl) | (simpa using e18)), (by omega), (by simpa using hI2), rfl, hnxM2, by omega, holdM2, rfl⟩ ?_
  clear e0 e9 e10 e11 e16 e17 e18
  rintro km s M3 ds ⟨q, e0, e9, e10, e11, e16, e17, e18, hq, hI, hk, hnxM3, hngM3, holdM3, rfl⟩
  refine at_seq rfl ?_
  refine at_region hS rfl (by kernel_rfl) ?_
  refine s_op (a_bin (by simp (disch := omega) only [Zu, Nat.reduceEqDiff, ↓reduceIte, Zd, reduceCtorEq, abin_lss, ne_eq, not_false_eq_true, e17, e18] <;> rfl)) rfl ?_
  refine s_end (fun s' hs' => ?_)
  replace e0 := kp 0 hs' e0
  replace e9 := kp 9 hs' e9
  replace e10 := kp 10 hs' e10
  replace e11 := kp 11 hs' e11
  replace e16 := kp 16 hs' e16
  replace e17 := kp 17 hs' e17
  replace e18 := kp 18 hs' e18
  have e19 := congrFun hs' 19
  simp only [Zu, Nat.reduceEqDiff, ↓reduceIte, newPtr, AMem.next_alloc] at e19
  clear hs'
  refine o_norm ?_
  refine t_norm ?_
  refine at_seq rfl ?_
  refine at_cond rfl rfl e19 (fun h4 => ?_) (fun h4 => ?_)
  ·
   try simp only [Zh] at h4
   refine at_skip rfl ?_
   refine t_norm ?_
   refine at_seq rfl ?_
   refine at_block rfl ?_
   refine at_seq rfl ?_
   have hql : q < o.frames.length := by omega
   obtain ⟨f, hfq⟩ : ∃ f, o.frames[q]? = some f := ⟨_, List.getElem?_eq_getElem hql⟩
   have hfd : f.data.length ≤ 100000000 := hdat f (by rw [List.mem_flatMap]; exact ⟨o, List.mem_of_getElem? hoi, List.mem_of_getElem? hfq⟩)
   obtain ⟨zi2, off2, all2, own3, hia, hid2, hget, hl1, hl2, hl3⟩ := hfr.at hfq .i64
   have hgetM := (holdM3 zi2 hid2).trans hget
   have hst2 := st34 ⟨0, []⟩ f
   refine at_region hS rfl (by kernel_rfl) ?_
   refine s_op (a_ia (by simp (disch := omega) only [Zu, Nat.reduceEqDiff, ↓reduceIte, hia, hst2, newPtr, AMem.next_alloc, e16, e18] <;> rfl)) rfl ?_
   refine s_op (a_load (by simp only [Zu, Nat.reduceEqDiff, ↓reduceIte, hgetM, hl3, hst2, newPtr, AMem.next_alloc] <;> rfl) (by simp (disch := first | (refine Zx ?_; simp only [Zn]; done) | ((try simp only [Zn]); omega)) only [Zg, hgetM, hl3, hst2, newPtr] <;> rfl) (by simp only [hgetM, hl3, hst2, newPtr, AMem.next_alloc] <;> rfl)) rfl ?_
   refine s_op (a_alloc z34) rfl ?_
   refine s_op (a_store (by simp only [Zu, Nat.reduceEqDiff, ↓reduceIte, hgetM, hst2, newPtr, AMem.next_alloc] <;> rfl) (by simp (disch := first | (refine Zx ?_; simp only [Zn]; done) | ((try simp only [Zn]); omega)) only [Zg, hgetM, hst2, newPtr] <;> rfl) (by simp only [Zu, Nat.reduceEqDiff, ↓reduceIte, hgetM, hst2, newPtr, AMem.next_alloc] <;> rfl) (by simp only [hgetM, hst2, newPtr, AMem.next_alloc] <;> rfl)) rfl ?_
   refine s_end (fun s' hs' => ?_)
   replace e0 := kp 0 hs' e0
   have e6 := congrFun hs' 6
   replace e9 := kp 9 hs' e9
   replace e10 := kp 10 hs' e10
   replace e11 := kp 11 hs' e11
   replace e16 := kp 16 hs' e16
   replace e17 := kp 17 hs' e17
   replace e18 := kp 18 hs' e18
   simp only [Zu, Nat.reduceEqDiff, ↓reduceIte, newPtr, AMem.next_alloc] at e6
   clear hs'
   refine o_norm ?_
   refine q_mem (fun M4 hEM4 => ?_)
   have hnM4 := congrArg AMem.next hEM4; simp only [Zn, Nat.add_assoc, Nat.reduceAdd] at hnM4
   have hnxM4 : Mb.next ≤ M4.next := by have := hnxM3; omega
   have holdM4 : ∀ j, j < Mb.next → M4.get j = Mb.get j := fun j hj => by have := hnxM3; rw [hEM4]; simp (disch := first | (refine Zx ?_; simp only [Zn]; done) | ((try simp only [Zn]); omega)) only [Zg]; exact holdM3 j hj
   have hcM4 : ∀ j, j < M3.next → M4.get j = M3.get j := fun j hj => by rw [hEM4]; simp (disch := first | (refine Zx ?_; simp only [Zn]; done) | ((try simp only [Zn]); omega)) only [Zg]
   have gM4_0 := congrArg (fun m => AMem.get m M3.next) hEM4; try simp (disch := first | (refine Zx ?_; simp only [Zn]; done) | ((try simp only [Zn]); omega)) only [Zg, Nat.add_assoc, Nat.reduceAdd] at gM4_0
   clear hEM4
   have hI5 := hIs _ _ M4 hI (by omega) hcM4
   clear hI hget hgetM hia
   refine t_norm ?_
   refine at_seq rfl ?_
   by_cases hsr : ∃ r, segGet f.data = some r
   ·
    refine at_region hS rfl (by kernel_rfl) ?_
    refine s_op (a_fa (by simp only [Zu, Nat.reduceEqDiff, ↓reduceIte, fa34_1, Nat.zero_add, fcells1, st71, newPtr, AMem.next_alloc, e6] <;> rfl)) rfl ?_
    refine s_op (a_load (by simp only [Zu, Nat.reduceEqDiff, ↓reduceIte, ld9, fcells1, Nat.zero_add, st71, newPtr, AMem.next_alloc, gM4_0] <;> rfl) (by simp (disch := first | (refine Zx ?_; simp only [Zn]; done) | ((try simp only [Zn]); omega)) only [Zg, ld9, fcells1, Nat.zero_add, st71, newPtr, gM4_0] <;> rfl) (by simp only [ld9, Zl, fcells1, Nat.zero_add, st71, newPtr, AMem.next_alloc, gM4_0] <;> rfl)) rfl ?_
    refine s_call (by simp only [Zu, Nat.reduceEqDiff, ↓reduceIte, fcells1, Nat.zero_add, st71, newPtr, AMem.next_alloc, gM4_0] <;> rfl) (by simp only [Zu, Nat.reduceEqDiff, ↓reduceIte, Zm, fcells1, Nat.zero_add, st71, newPtr, AMem.next_alloc, gM4_0] <;> rfl) ?_
    rw [S39_40]; refine ⟨_, rfl, hfd, fun t h b he => ?_, fun hn => absurd hn (by obtain ⟨r, hr⟩ := hsr; rw [hr]; simp)⟩
    show EA _ _ _ _ _ _
    refine s_mv ?_
    refine s_op (a_ext (by simp only [Zu, Nat.reduceEqDiff, ↓reduceIte, fcells1, Nat.zero_add, st71, newPtr, AMem.next_alloc] <;> rfl) (by first | exact ext4_0 | exact ext3_0 | exact ext2_0 | rfl)) rfl ?_
    refine s_op (a_ext (by simp only [Zu, Nat.reduceEqDiff, ↓reduceIte, fcells1, Nat.zero_add, st71, newPtr, AMem.next_alloc] <;> rfl) (by first | exact ext4_1 | exact ext3_1 | exact ext2_1 | rfl)) rfl ?_
    refine s_op (a_alloc z71) rfl ?_
    refine s_op (a_store (by simp only [Zu, Nat.reduceEqDiff, ↓reduceIte, fcells1, Nat.zero_add, st71, newPtr, AMem.next_alloc, gM4_0] <;> rfl) (by simp (disch := first | (refine Zx ?_; simp only [Zn]; done) | ((try simp only [Zn]); omega)) only [Zg, fcells1, Nat.zero_add, st71, newPtr, gM4_0] <;> rfl) (by simp only [Zu, Nat.reduceEqDiff, ↓reduceIte, fcells1, Nat.zero_add, st71, newPtr, AMem.next_alloc, gM4_0] <;> rfl) (by simp only [fcells1, Nat.zero_add, st71, newPtr, AMem.next_alloc, gM4_0] <;> rfl)) rfl ?_
    refine s_as ?_
    refine s_end (fun s' hs' => ?_)
    replace e0 := kp 0 hs' e0
    have e7 := congrFun hs' 7
    have e8 := congrFun hs' 8
    replace e9 := kp 9 hs' e9
    replace e10 := kp 10 hs' e10
    replace e11 := kp 11 hs' e11
    replace e16 := kp 16 hs' e16
    replace e17 := kp 17 hs' e17
    replace e18 := kp 18 hs' e18
    simp only [Zu, Nat.reduceEqDiff, ↓reduceIte, newPtr, AMem.next_alloc] at e7 e8
    clear hs'
    try clear e6
    refine o_norm ?_
    refine q_mem (fun M5 hEM5 => ?_)
    have hnM5 := congrArg AMem.next hEM5; simp only [Zn, Nat.add_assoc, Nat.reduceAdd] at hnM5
    have hnxM5 : Mb.next ≤ M5.next := by have := hnxM4; omega
    have holdM5 : ∀ j, j < Mb.next → M5.get j = Mb.get j := fun j hj => by have := hnxM4; rw [hEM5]; simp (disch := first | (refine Zx ?_; simp only [Zn]; done) | ((try simp only [Zn]); omega)) only [Zg]; exact holdM4 j hj
    have hcM5 : ∀ j, j < M4.next → M5.get j = M4.get j := fun j hj => by rw [hEM5]; simp (disch := first | (refine Zx ?_; simp only [Zn]; done) | ((try simp only [Zn]); omega)) only [Zg]
    have gM5_0 := congrArg (fun m => AMem.get m M3.next) hEM5; try simp (disch := first | (refine Zx ?_; simp only [Zn]; done) | ((try simp only [Zn]); omega)) only [Zg, Nat.add_assoc, Nat.reduceAdd, gM4_0] at gM5_0
    have gM5_1 := congrArg (fun m => AMem.get m M4.next) hEM5; try simp (disch := first | (refine Zx ?_; simp only [Zn]; done) | ((try simp only [Zn]); omega)) only [Zg, Nat.add_assoc, Nat.reduceAdd, gM4_0] at gM5_1
    clear hEM5
    have hI6 := hIs _ _ M5 hI5 (by omega) hcM5
    refine t_norm ?_
    refine at_seq rfl ?_
    refine at_region hS rfl (by kernel_rfl) ?_
    refine s_op (a_mv e8) rfl ?_
    refine s_mv ?_
    refine s_tk ?_
    refine s_op (a_mv e0) rfl ?_
    refine s_tk ?_
    refine s_op (a_load e7 (by simp (disch := first | (refine Zx ?_; simp only [Zn]; done) | ((try simp only [Zn]); omega)) only [Zg, ld71, newPtr, gM5_0, gM5_1, e7] <;> rfl) (by simp only [ld71, newPtr, AMem.next_alloc, gM5_0, gM5_1, e7] <;> rfl)) rfl ?_
    refine s_take (w_true (by simp only [Zu, Nat.reduceEqDiff, ↓reduceIte, e8] <;> rfl) rfl) ?_
    refine s_yield (by simp only [Zu, Nat.reduceEqDiff, ↓reduceIte, e0] <;> rfl) (by simp only [Zu, Nat.reduceEqDiff, ↓reduceIte, Zm] <;> rfl) ?_
    refine YRound.mono (hIy _ _ t h b (hat q f (t, h, b) hfq he) hI6) ?_
    rintro res M7 ⟨rfl, hng0, hI7⟩
    show EA _ _ _ _ _ _
    refine s_tk ?_
    refine s_op (a_un (by simp (disch := omega) only [Zu, Nat.reduceEqDiff, ↓reduceIte, Zd, reduceCtorEq, aun, wrap_i64, IntKind.signed] <;> rfl)) rfl ?_
    refine s_op (a_pick (by simp only [Zu, Nat.reduceEqDiff, ↓reduceIte, Zd, reduceCtorEq] <;> rfl) (by simp only [Zu, Nat.reduceEqDiff, ↓reduceIte, Zd, reduceCtorEq] <;> rfl)) rfl ?_
    refine s_end (fun s' hs' => ?_)
    replace e0 := kp 0 hs' e0
    replace e9 := kp 9 hs' e9
    replace e10 := kp 10 hs' e10
    replace e11 := kp 11 hs' e11
    replace e16 := kp 16 hs' e16
    replace e17 := kp 17 hs' e17
    replace e18 := kp 18 hs' e18
    have e34 := congrFun hs' 34
    simp only [Zu, Nat.reduceEqDiff, ↓reduceIte, newPtr, AMem.next_alloc] at e34
    clear hs'
    try clear e7 e8
    refine o_norm ?_
    obtain ⟨hm7, hn7, hb7, hc7⟩ := hIb _ _ hI7
    have hng7 : M1.next ≤ M7.next := by omega
    have hI7 : I (segsL (A ++ o.frames.take q) ++ (segGet f.data).toList).length M7 := by rw [he, List.length_append]; exact hI7
    refine t_norm ?_
    refine at_cond rfl rfl e34 (fun hc => by cases hc) (fun h7 => ?_)
    try simp only [Zh] at h7
    refine at_skip rfl ?_
    refine b_norm ?_
    refine t_norm ?_
    refine at_region hS rfl (by kernel_rfl) ?_
    refine s_op (a_bin (by simp (disch := ((try simp only [List.length_append, List.length_cons, List.length_nil]); omega)) only [Zu, Nat.reduceEqDiff, ↓reduceIte, Zd, reduceCtorEq, abin_add, abin_aadd, wrap_i64, wrap_u32, wrap_u8, wrap_u64, wrap_i32, wrap_u16, ne_eq, not_false_eq_true, e18] <;> rfl)) rfl ?_
    refine s_mv ?_
    refine s_end (fun s' hs' => ?_)
    replace e0 := kp 0 hs' e0
    replace e9 := kp 9 hs' e9
    replace e10 := kp 10 hs' e10
    replace e11 := kp 11 hs' e11
    replace e16 := kp 16 hs' e16
    replace e17 := kp 17 hs' e17
    replace e18 := congrFun hs' 18
    simp only [Zu, Nat.reduceEqDiff, ↓reduceIte, newPtr, AMem.next_alloc] at e18
    clear hs'
    refine o_norm ?_
    refine t_norm ?_
    exact ⟨o.frames.length - (q + 1), by omega, q + 1, (by first | exact e0 | (rw [e0]; rfl) | (rw [e0]; simp; done)), (by first | exact e9 | (rw [e9]; rfl) | (rw [e9]; simp; done)), (by first | exact e10 | (rw [e10]; rfl) | (rw [e10]; simp; done)), (by first | exact e11 | (rw [e11]; rfl) | (rw [e11]; simp; done)), (by first | exact e16 | (rw [e16]; rfl) | (rw [e16]; simp; done)), (by first | exact e17 | (rw [e17]; rfl) | (rw [e17]; simp; done)), (by first | exact e18 | (rw [e18]; rfl) | (rw [e18]; simp; done)), (by omega), (by rw [take_snocO hfq, ← List.append_assoc, segsL_app, segsL_one]; exact hI7), rfl, hn7, by omega, hb7, rfl⟩
   ·
    refine at_region hS rfl (by kernel_rfl) ?_
    refine s_op (a_fa (by simp only [Zu, Nat.reduceEqDiff, ↓reduceIte, fa34_1, Nat.zero_add, fcells1, st71, newPtr, AMem.next_alloc, e6] <;> rfl)) rfl ?_
    refine s_op (a_load (by simp only [Zu, Nat.reduceEqDiff, ↓reduceIte, ld9, fcells1, Nat.zero_add, st71, newPtr, AMem.next_alloc, gM4_0] <;> rfl) (by simp (disch := first | (refine Zx ?_; simp only [Zn]; done) | ((try simp only [Zn]); omega)) only [Zg, ld9, fcells1, Nat.zero_add, st71, newPtr, gM4_0] <;> rfl) (by simp only [ld9, Zl, fcells1, Nat.zero_add, st71, newPtr, AMem.next_alloc, gM4_0] <;> rfl)) rfl ?_
    refine s_call (by simp only [Zu, Nat.reduceEqDiff, ↓reduceIte, fcells1, Nat.zero_add, st71, newPtr, AMem.next_alloc, gM4_0] <;> rfl) (by simp only [Zu, Nat.reduceEqDiff, ↓reduceIte, Zm, fcells1, Nat.zero_add, st71, newPtr, AMem.next_alloc, gM4_0] <;> rfl) ?_
    rw [S39_40]; refine ⟨_, rfl, hfd, fun t h b he => absurd ⟨_, he⟩ hsr, fun hn t h b => ?_⟩
    show EA _ _ _ _ _ _
    refine s_mv ?_
    refine s_op (a_ext (by simp only [Zu, Nat.reduceEqDiff, ↓reduceIte, fcells1, Nat.zero_add, st71, newPtr, AMem.next_alloc] <;> rfl) (by first | exact ext4_0 | exact ext3_0 | exact ext2_0 | rfl)) rfl ?_
    refine s_op (a_ext (by simp only [Zu, Nat.reduceEqDiff, ↓reduceIte, fcells1, Nat.zero_add, st71, newPtr, AMem.next_alloc] <;> rfl) (by first | exact ext4_1 | exact ext3_1 | exact ext2_1 | rfl)) rfl ?_
    refine s_op (a_alloc z71) rfl ?_
    refine s_op (a_store (by simp only [Zu, Nat.reduceEqDiff, ↓reduceIte, fcells1, Nat.zero_add, st71, newPtr, AMem.next_alloc, gM4_0] <;> rfl) (by simp (disch := first | (refine Zx ?_; simp only [Zn]; done) | ((try simp only [Zn]); omega)) only [Zg, fcells1, Nat.zero_add, st71, newPtr, gM4_0] <;> rfl) (by simp only [Zu, Nat.reduceEqDiff, ↓reduceIte, fcells1, Nat.zero_add, st71, newPtr, AMem.next_alloc, gM4_0] <;> rfl) (by simp only [fcells1, Nat.zero_add, st71, newPtr, AMem.next_alloc, gM4_0] <;> rfl)) rfl ?_
    refine s_as ?_
    refine s_end (fun s' hs' => ?_)
    replace e0 := kp 0 hs' e0
    have e7 := congrFun hs' 7
    have e8 := congrFun hs' 8
    replace e9 := kp 9 hs' e9
    replace e10 := kp 10 hs' e10
    replace e11 := kp 11 hs' e11
    replace e16 := kp 16 hs' e16
    replace e17 := kp 17 hs' e17
    replace e18 := kp 18 hs' e18
    simp only [Zu, Nat.reduceEqDiff, ↓reduceIte, newPtr, AMem.next_alloc] at e7 e8
    clear hs'
    try clear e6
    refine o_norm ?_
    refine q_mem (fun M6 hEM6 => ?_)
    have hnM6 := congrArg AMem.next hEM6; simp only [Zn, Nat.add_assoc, Nat.reduceAdd] at hnM6
    have hnxM6 : Mb.next ≤ M6.next := by have := hnxM4; omega
    have holdM6 : ∀ j, j < Mb.next → M6.get j = Mb.get j := fun j hj => by have := hnxM4; rw [hEM6]; simp (disch := first | (refine Zx ?_; simp only [Zn]; done) | ((try simp only [Zn]); omega)) only [Zg]; exact holdM4 j hj
    have hcM6 : ∀ j, j < M4.next → M6.get j = M4.get j := fun j hj => by rw [hEM6]; simp (disch := first | (refine Zx ?_; simp only [Zn]; done) | ((try simp only [Zn]); omega)) only [Zg]
    have gM6_0 := congrArg (fun m => AMem.get m M3.next) hEM6; try simp (disch := first | (refine Zx ?_; simp only [Zn]; done) | ((try simp only [Zn]); omega)) only [Zg, Nat.add_assoc, Nat.reduceAdd, gM4_0] at gM6_0
    have gM6_1 := congrArg (fun m => AMem.get m M4.next) hEM6; try simp (disch := first | (refine Zx ?_; simp only [Zn]; done) | ((try simp only [Zn]); omega)) only [Zg, Nat.add_assoc, Nat.reduceAdd, gM4_0] at gM6_1
    clear hEM6
    have hI6 := hIs _ _ M6 hI5 (by omega) hcM6
    refine t_norm ?_
    refine at_seq rfl ?_
    refine at_region hS rfl (by kernel_rfl) ?_
    refine s_op (a_mv e8) rfl ?_
    refine s_mv ?_
    refine s_lv ?_
    refine s_lv ?_
    refine s_lv ?_
    refine s_lv ?_
    refine s_op (a_pick (by simp only [Zu, Nat.reduceEqDiff, ↓reduceIte, Zd, reduceCtorEq] <;> rfl) (by simp only [Zu, Nat.reduceEqDiff, ↓reduceIte, Zd, reduceCtorEq] <;> rfl)) rfl ?_
    refine s_end (fun s' hs' => ?_)
    replace e0 := kp 0 hs' e0
    replace e9 := kp 9 hs' e9
    replace e10 := kp 10 hs' e10
    replace e11 := kp 11 hs' e11
    replace e16 := kp 16 hs' e16
    replace e17 := kp 17 hs' e17
    replace e18 := kp 18 hs' e18
    have e34 := congrFun hs' 34
    simp only [Zu, Nat.reduceEqDiff, ↓reduceIte, newPtr, AMem.next_alloc] at e34
    clear hs'
    try clear e7 e8
    refine o_norm ?_
    have hI7 : I (segsL (A ++ o.frames.take q) ++ (segGet f.data).toList).length M6 := by rw [hn]; simpa using hI6
    refine t_norm ?_
    refine at_cond rfl rfl e34 (fun hc => by cases hc) (fun h7 => ?_)
    try simp only [Zh] at h7
    refine at_skip rfl ?_
    refine b_norm ?_
    refine t_norm ?_
    refine at_region hS rfl (by kernel_rfl) ?_
    refine s_op (a_bin (by simp (disch := ((try simp only [List.length_append, List.length_cons, List.length_nil]); omega)) only [Zu, Nat.reduceEqDiff, ↓reduceIte, Zd, reduceCtorEq, abin_add, abin_aadd, wrap_i64, wrap_u32, wrap_u8, wrap_u64, wrap_i32, wrap_u16, ne_eq, not_false_eq_true, e18] <;> rfl)) rfl ?_
    refine s_mv ?_
    refine s_end (fun s' hs' => ?_)
    replace e0 := kp 0 hs' e0
    replace e9 := kp 9 hs' e9
    replace e10 := kp 10 hs' e10
    replace e11 := kp 11 hs' e11
    replace e16 := kp 16 hs' e16
    replace e17 := kp 17 hs' e17
    replace e18 := congrFun hs' 18
    simp only [Zu, Nat.reduceEqDiff, ↓reduceIte, newPtr, AMem.next_alloc] at e18
    clear hs'
    refine o_norm ?_
    refine t_norm ?_
    exact ⟨o.frames.length - (q + 1), by omega, q + 1, (by first | exact e0 | (rw [e0]; rfl) | (rw [e0]; simp; done)), (by first | exact e9 | (rw [e9]; rfl) | (rw [e9]; simp; done)), (by first | exact e10 | (rw [e10]; rfl) | (rw [e10]; simp; done)), (by first | exact e11 | (rw [e11]; rfl) | (rw [e11]; simp; done)), (by first | exact e16 | (rw [e16]; rfl) | (rw [e16]; simp; done)), (by first | exact e17 | (rw [e17]; rfl) | (rw [e17]; simp; done)), (by first | exact e18 | (rw [e18]; rfl) | (rw [e18]; simp; done)), (by omega), (by rw [take_snocO hfq, ← List.append_assoc, segsL_app, segsL_one]; exact hI7), rfl, hnxM6, by omega, holdM6, rfl⟩
  ·
   try simp only [Zh] at h4
   have hqe : q = o.frames.length := by omega
   refine at_exit rfl ?_
   refine t_exit ?_
   refine t_exit ?_
   refine b_here ?_
   refine b_norm ?_
   refine t_norm ?_
   refine at_region hS rfl (by kernel_rfl) ?_
   refine s_op (a_bin (by simp (disch := ((try simp only [List.length_append, List.length_cons, List.length_nil]); omega)) only [Zu, Nat.reduceEqDiff, ↓reduceIte, Zd, reduceCtorEq, abin_add, abin_aadd, wrap_i64, wrap_u32, wrap_u8, wrap_u64, wrap_i32, wrap_u16, ne_eq, not_false_eq_true, e11] <;> rfl)) rfl ?_
   refine s_mv ?_
   refine s_end (fun s' hs' => ?_)
   replace e0 := kp 0 hs' e0
   replace e9 := kp 9 hs' e9
   replace e10 := kp 10 hs' e10
   replace e11 := congrFun hs' 11
   simp only [Zu, Nat.reduceEqDiff, ↓reduceIte, newPtr, AMem.next_alloc] at e11
   clear hs'
   refine o_norm ?_
   refine t_norm ?_
   exact ⟨os.length - (i + 1), by omega, i + 1, (by first | exact e0 | (rw [e0]; rfl) | (rw [e0]; simp; done)), (by first | exact e9 | (rw [e9]; rfl) | (rw [e9]; simp; done)), (by first | exact e10 | (rw [e10]; rfl) | (rw [e10]; simp; done)), (by first | exact e11 | (rw [e11]; rfl) | (rw [e11]; simp; done)), (by omega), (by rw [flatMap_snoc hoi, hA]; rw [hqe, List.take_length] at hI; exact hI), rfl, hnxM3, by omega, holdM3, rfl⟩
 ·
  try simp only [Zh] at h1
  have hie : i = os.length := by omega
  refine at_exit rfl ?_
  refine t_exit ?_
  refine t_exit ?_
  refine b_here ?_
  refine bq_norm rfl ars_nil ?_
  exact ⟨_, _, hK _ (by rw [hie, List.take_length] at hI; exact hI), Canon.refl (by have := (hIb _ _ hI).1; exact this)⟩
end Go.Proofs.Ytdkdkpiemigfkaa
set_option linter.unusedVariables false
set_option maxRecDepth 8000
namespace Go.Proofs.Ytdkdkpiemigfkaa
open Go Go.Proofs Go.RowKit Go.Maps Go.Sort Go.Shelf
def keys33_ren : Go.Shelf.Ren := ⟨fun | 7 => 33 | 10 => 45 | n => n, fun | 23 => 75 | 26 => 3 | 3 => 4 | 28 => 78 | 0 => 0 | 27 => 77 | 33 => 92 | 4 => 4 | n => n, fun | n => n⟩
theorem keys33 : Go.Proofs.SlLaysZI.n7 Try.prog keys33_ren where
  mixed := by kernel_rfl
  f7 := ⟨"maps.Keys[map[int]bool,int,bool]", by decide, Try.func33.trans (congrArg some (by kernel_rfl))⟩
  f10 := ⟨"maps.Keys[map[int]bool,int,bool]$1", by decide, Try.func45.trans (congrArg some (by kernel_rfl))⟩
  t0 := Try.underlying0
  a0 := Try.isAgg0
  z0 := Try.sizeOf0
  v0 := Try.zeroValue0
  t4 := Try.underlying4
  a4 := Try.isAgg4
  z4 := Try.sizeOf4
  v4 := Try.zeroValue4
  t23 := Try.underlying75
  a23 := Try.isAgg75
  z23 := Try.sizeOf75
  v23 := Try.zeroValue75
  t26 := Try.underlying3
  a26 := Try.isAgg3
  z26 := Try.sizeOf3
  v26 := Try.zeroValue3
  t27 := Try.underlying77
  a27 := Try.isAgg77
  z27 := Try.sizeOf77
  v27 := Try.zeroValue77
  t28 := Try.underlying78
  a28 := Try.isAgg78
  z28 := Try.sizeOf78
  v28 := Try.zeroValue78
  t33 := Try.underlying92
  a33 := Try.isAgg92
  z33 := Try.sizeOf92
  v33 := Try.zeroValue92
def sorted32_ren : Go.Shelf.Ren := ⟨fun | 6 => 32 | 8 => 43 | 9 => 44 | 11 => 62 | 13 => 64 | 12 => 63 | 23 => 84 | 24 => 85 | 14 => 75 | 15 => 76 | 16 => 77 | 17 => 78 | 18 => 79 | 19 => 80 | 20 => 81 | 21 => 82 | 22 => 83 | 25 => 97 | 26 => 98 | 27 => 99 | 28 => 100 | 29 => 101 | 30 => 102 | 31 => 105 | n => n, fun | 26 => 3 | 28 => 78 | 24 => 22 | 0 => 0 | 3 => 3 | 37 => 110 | 48 => 23 | 50 => 134 | 4 => 4 | 40 => 125 | 39 => 124 | 45 => 130 | 5 => 5 | 9 => 9 | 51 => 137 | 55 => 141 | 57 => 144 | 58 => 145 | 33 => 92 | n => n, fun | n => n⟩
theorem sorted32 : Go.Proofs.SlLaysZI.n6 Try.prog sorted32_ren where
  mixed := by kernel_rfl
  f6 := ⟨"slices.Sorted[int]", by decide, Try.func32.trans (congrArg some (by kernel_rfl))⟩
  f8 := ⟨"slices.Collect[int]", by decide, Try.func43.trans (congrArg some (by kernel_rfl))⟩
  f11 := ⟨"slices.AppendSeq[[]int,int]", by decide, Try.func62.trans (congrArg some (by kernel_rfl))⟩
  t0 := Try.underlying0
  a0 := Try.isAgg0
  z0 := Try.sizeOf0
  v0 := Try.zeroValue0
  t24 := Try.underlying22
  a24 := Try.isAgg22
  z24 := Try.sizeOf22
  v24 := Try.zeroValue22
  t26 := Try.underlying3
  a26 := Try.isAgg3
  z26 := Try.sizeOf3
  v26 := Try.zeroValue3
  t28 := Try.underlying78
  a28 := Try.isAgg78
  z28 := Try.sizeOf78
  v28 := Try.zeroValue78
  i26 := by kernel_rfl
def sort44_ren : Go.Shelf.Ren := ⟨fun | 5 => 44 | 8 => 64 | 7 => 63 | 19 => 84 | 20 => 85 | 10 => 75 | 11 => 76 | 12 => 77 | 13 => 78 | 14 => 79 | 15 => 80 | 16 => 81 | 17 => 82 | 18 => 83 | 30 => 97 | 31 => 98 | 32 => 99 | 33 => 100 | 34 => 101 | 35 => 102 | 40 => 105 | n => n, fun | 23 => 22 | 25 => 3 | 3 => 3 | 32 => 110 | 22 => 22 | 0 => 0 | 44 => 23 | 46 => 134 | 4 => 4 | 36 => 125 | 35 => 124 | 41 => 130 | 5 => 5 | 9 => 9 | 53 => 137 | 57 => 141 | 63 => 144 | 64 => 145 | n => n, fun | n => n⟩
theorem sort44 : Go.Proofs.SlLaysM.n5 Try.prog sort44_ren where
  mixed := by kernel_rfl
  f5 := ⟨"slices.Sort[[]int,int]", by decide, Try.func44.trans (congrArg some (by kernel_rfl))⟩
  f7 := ⟨"slices.pdqsortOrdered[int]", by decide, Try.func63.trans (congrArg some (by kernel_rfl))⟩
  f8 := Try.func64.trans (congrArg some (by kernel_rfl))
  f10 := ⟨"slices.insertionSortOrdered[int]", by decide, Try.func75.trans (congrArg some (by kernel_rfl))⟩
  f11 := ⟨"slices.heapSortOrdered[int]", by decide, Try.func76.trans (congrArg some (by kernel_rfl))⟩
  f12 := ⟨"slices.breakPatternsOrdered[int]", by decide, Try.func77.trans (congrArg some (by kernel_rfl))⟩
  f13 := ⟨"slices.choosePivotOrdered[int]", by decide, Try.func78.trans (congrArg some (by kernel_rfl))⟩
  f14 := ⟨"slices.reverseRangeOrdered[int]", by decide, Try.func79.trans (congrArg some (by kernel_rfl))⟩
  f15 := ⟨"slices.partialInsertionSortOrdered[int]", by decide, Try.func80.trans (congrArg some (by kernel_rfl))⟩
  f16 := ⟨"cmp.Less[int]", by decide, Try.func81.trans (congrArg some (by kernel_rfl))⟩
  f17 := ⟨"slices.partitionEqualOrdered[int]", by decide, Try.func82.trans (congrArg some (by kernel_rfl))⟩
  f18 := ⟨"slices.partitionOrdered[int]", by decide, Try.func83.trans (congrArg some (by kernel_rfl))⟩
  f19 := Try.func84.trans (congrArg some (by kernel_rfl))
  f20 := Try.func85.trans (congrArg some (by kernel_rfl))
  f30 := ⟨"slices.siftDownOrdered[int]", by decide, Try.func97.trans (congrArg some (by kernel_rfl))⟩
  f31 := Try.func98.trans (congrArg some (by kernel_rfl))
  f32 := Try.func99.trans (congrArg some (by kernel_rfl))
  f33 := ⟨"slices.medianAdjacentOrdered[int]", by decide, Try.func100.trans (congrArg some (by kernel_rfl))⟩
  f34 := ⟨"slices.medianOrdered[int]", by decide, Try.func101.trans (congrArg some (by kernel_rfl))⟩
  f35 := ⟨"cmp.isNaN[int]", by decide, Try.func102.trans (congrArg some (by kernel_rfl))⟩
  f40 := ⟨"slices.order2Ordered[int]", by decide, Try.func105.trans (congrArg some (by kernel_rfl))⟩
  t0 := Try.underlying0
  a0 := Try.isAgg0
  z0 := Try.sizeOf0
  v0 := Try.zeroValue0
  t3 := Try.underlying3
  a3 := Try.isAgg3
  z3 := Try.sizeOf3
  v3 := Try.zeroValue3
  t4 := Try.underlying4
  a4 := Try.isAgg4
  z4 := Try.sizeOf4
  v4 := Try.zeroValue4
  t5 := Try.underlying5
  a5 := Try.isAgg5
  z5 := Try.sizeOf5
  v5 := Try.zeroValue5
  t9 := Try.underlying9
  a9 := Try.isAgg9
  z9 := Try.sizeOf9
  v9 := Try.zeroValue9
  t22 := Try.underlying22
  a22 := Try.isAgg22
  z22 := Try.sizeOf22
  v22 := Try.zeroValue22
  t23 := Try.underlying22
  a23 := Try.isAgg22
  z23 := Try.sizeOf22
  v23 := Try.zeroValue22
  t25 := Try.underlying3
  a25 := Try.isAgg3
  z25 := Try.sizeOf3
  v25 := Try.zeroValue3
  t32 := Try.underlying110
  a32 := Try.isAgg110
  z32 := Try.sizeOf110
  v32 := Try.zeroValue110
  t35 := Try.underlying124
  a35 := Try.isAgg124
  z35 := Try.sizeOf124
  v35 := Try.zeroValue124
  t36 := Try.underlying125
  a36 := Try.isAgg125
  z36 := Try.sizeOf125
  v36 := Try.zeroValue125
  t41 := Try.underlying130
  a41 := Try.isAgg130
  z41 := Try.sizeOf130
  v41 := Try.zeroValue130
  t44 := Try.underlying23
  a44 := Try.isAgg23
  z44 := Try.sizeOf23
  v44 := Try.zeroValue23
  t46 := Try.underlying134
  a46 := Try.isAgg134
  z46 := Try.sizeOf134
  v46 := Try.zeroValue134
  t53 := Try.underlying137
  a53 := Try.isAgg137
  z53 := Try.sizeOf137
  v53 := Try.zeroValue137
  t57 := Try.underlying141
  a57 := Try.isAgg141
  z57 := Try.sizeOf141
  v57 := Try.zeroValue141
  t63 := Try.underlying144
  a63 := Try.isAgg144
  z63 := Try.sizeOf144
  v63 := Try.zeroValue144
  t64 := Try.underlying145
  a64 := Try.isAgg145
  z64 := Try.sizeOf145
  v64 := Try.zeroValue145
theorem sorts32 (m : Nat) : AnyZI.SortsIn Try.prog sorted32_ren Fence.wide m :=
  ⟨fun blk off cap ss W hH hblk hsz => callsIn_wide.2 (AnyM.slices_Sort_int sort44 blk off cap ss W hH hblk hsz),
   fun p cap W => callsIn_wide.2 (AnyM.slices_Sort_int_none sort44 p cap W)⟩
theorem keys33_calls (mb : Option Nat) (W : World) : CallsIn Fence.wide 5 Try.prog 33 #[.map mb] W fun e w' => e = .returned (.func (.func 45) #[] #[.pointer (some ⟨W.heap.size, 0, none⟩)]) ∧ w' = W.alloc (.cells #[.map mb] 75) :=
  AnyZI.keys_in keys33 Fence.wide 5 trivial rfl mb W
set_option maxHeartbeats 1000000 in
theorem sorted32_calls {H : Type} (c b nn : Nat) (D0 : DataW H) (R : Value → Option (DataW H × List MemPlace)) (w : World) (hlt : c < w.heap.size) (hcell : w.cell? ⟨c, 0, none⟩ = some (.map (some b))) (hown : w.ownsMap Try.prog 3 R b nn D0) (hmax : Maps.size D0 ≤ maxLen) (hbytes : Maps.size D0 * 8 ≤ 140737488355328) :
    CallsIn Fence.wide 5 Try.prog 32 #[.func (.func 45) #[] #[.pointer (some ⟨c, 0, none⟩)]] w fun e w' => ∃ (v : Value) (ss : List Int), e = .returned v ∧ ss.Perm (intKeys D0) ∧
      w'.ownsRow w.heap.size 3 1 v ss.length ((ss.mergeSort (fun x y => decide (x ≤ y))).map encZ) ∧ (v = .slice none 0 0 ↔ ss = []) ∧ Below w.heap.size w w' := by
  have hseq : SeqGives Fence.wide 2 Try.prog 45 #[.pointer (some ⟨c, 0, none⟩)] encZ (fun ss => ss.Perm (intKeys D0)) (Maps.size D0) w :=
    AnyZI.keys_gives (ρ := keys33_ren) { keys33 with } Fence.wide _ trivial rfl (by omega) c b nn D0 _ hlt hcell hown
  exact AnyZI.sorted_in sorted32 Fence.wide 5 trivial trivial trivial trivial rfl (by omega) (sorts32 _) (enters_of Try.func44 (by kernel_rfl) rfl) 45 #[.pointer (some ⟨c, 0, none⟩)] trivial (enters_of Try.func45 (by kernel_rfl) rfl) _ _ hmax hbytes _ hseq
end Go.Proofs.Ytdkdkpiemigfkaa
set_option linter.unusedVariables false
set_option linter.unusedSimpArgs false
set_option maxRecDepth 8000
namespace Go.Proofs.Ytdkdkpiemigfkaa
open Go Go.Proofs Go.RowKit Go.Maps Go.Sort Go.Shelf
theorem Sim.add {F : Nat → Prop} {ρ : Rho} {M : AMem} {w w' : World} (h : Sim F ρ M w) (hb : Below w.heap.size w w') {o : AObj} {pl : Pl} (hg : w.heap.size ≤ pl.block)
    (ho : ∀ ρ', (∀ i pl, ρ i = some pl → ρ' i = some pl) → ObjR F ρ' pl w' o) : Sim F (ρ.put M.next pl) (M.alloc o) w' ∧ RhoLe M.next ρ (ρ.put M.next pl) ∧ Kept F w w' := by
  have hnone : ρ M.next = none := by
    cases hn : ρ M.next with
    | none => rfl
    | some pl => exact absurd (h.dom _ _ hn) (Nat.lt_irrefl _)
  have hup := Rho.put_up (pl := pl) hnone
  have hput : ∀ i p, (ρ.put M.next pl) i = some p → (i = M.next ∧ p = pl) ∨ (i ≠ M.next ∧ ρ i = some p) := by
    intro i p hi
    unfold Rho.put at hi
    split at hi
    · rename_i he; cases hi; exact .inl ⟨he, rfl⟩
    · rename_i he; exact .inr ⟨he, hi⟩
  refine ⟨⟨fun b hb' => h.top b (Nat.le_trans hb.size hb'), ?_, ?_, ?_⟩, ?_, ⟨hb.os, hb.tape, hb.output, hb.size, fun b hF => ?_⟩⟩
  · intro i p hi
    rcases hput i p hi with ⟨rfl, _⟩ | ⟨_, hi⟩
    · simp
    · have := h.dom i p hi; simp; omega
  · intro i p hi
    rcases hput i p hi with ⟨rfl, rfl⟩ | ⟨hne, hi⟩
    · rw [get_new]; exact ho _ hup
    · rw [get_old hne]; exact (h.obj i p hi).carry (fun hl => hb.block _ (h.lt hi hl)) hup
  · intro i j pi pj hi hj hij ho' hl
    rcases hput i pi hi with ⟨hi1, hi2⟩ | ⟨hne, hi2⟩ <;> rcases hput j pj hj with ⟨hj1, hj2⟩ | ⟨hne', hj2⟩
    · exact absurd (hi1.trans hj1.symm) hij
    · rw [get_old hne'] at hl
      have := h.lt hj2 hl
      subst hi2
      omega
    · rw [get_old hne] at ho'
      have hlive : (M.get i).live = true := by cases hg : M.get i <;> rw [hg] at ho' <;> simp [AObj.own, AObj.live] at ho' ⊢
      have := h.lt hi2 hlive
      subst hj2
      omega
    · rw [get_old hne] at ho'; rw [get_old hne'] at hl
      exact h.sep i j pi pj hi2 hj2 hij ho' hl
  · intro i hi
    unfold Rho.put
    rw [if_neg (by omega)]
  · refine hb.block b ?_
    by_cases hlt : b < w.heap.size
    · exact hlt
    · exact absurd (h.top b (by omega)) hF
theorem VRl.one {ρ : Rho} {v : Value} {cargs : Array Value} (h : VRl ρ [v] cargs.toList) : ∃ c, cargs = #[c] ∧ VR ρ v c := by
  have hl : cargs.toList.length = 1 := h.1.symm
  match hc : cargs.toList, hl with
  | [c], _ =>
    refine ⟨c, ?_, h.2 0 v c rfl (by rw [hc]; rfl)⟩
    apply Array.ext'
    rw [hc]
def sp33 : ASpec := fun args M K => ∃ id : Nat, args = [.map (some id)] ∧ K (.ret (.func (.func 45) #[] #[.pointer (some ⟨M.next, 0, none⟩)])) (M.alloc (.box0 (.map (some id))))
theorem f33_ok : Sound Try.prog 33 sp33 := by
  rintro args M K ⟨id, rfl, hK⟩
  refine ⟨⟨_, Try.func33, rfl, rfl⟩, fun F ρ w cargs ha hM => ?_⟩
  obtain ⟨c, rfl, hc⟩ := ha.one
  obtain ⟨pl, hpl, rfl⟩ := hc.map_inv
  refine (callsIn_wide.1 (keys33_calls (some pl.block) w)).mono ?_
  rintro e w' ⟨rfl, rfl⟩
  obtain ⟨s1, u1, k1⟩ := hM.alloc (o := .box0 (.map (some id))) (x := .cells #[.map (some pl.block)] 75) (ext := 1) (fun ρ' hup => ⟨rfl, .map (some pl.block), 75, _, by show (w.heap.push _)[w.heap.size]? = _; simp; rfl, .map (hup _ _ hpl)⟩)
  refine ⟨_, .func (.func 45) #[] #[.pointer (some ⟨w.heap.size, 0, none⟩)], .ret (.func (.func 45) #[] #[.pointer (some ⟨M.next, 0, none⟩)]), _, hK, rfl, u1, by simp, ?_, s1, k1⟩
  refine .func rfl rfl (fun i x y hx => by simp at hx) rfl (fun i x y hx hy => ?_)
  cases i with
  | zero =>
    simp at hx hy
    subst hx hy
    exact .ptr (pl := ⟨w.heap.size, 0, 1⟩) (by simp [Rho.put])
  | succ i => simp at hx
theorem insert_perm {H : Type} (x : Lit × DataW H) : ∀ l : List (Lit × DataW H), (DataW.insert x l).Perm (x :: l) := by
  intro l
  induction l with
  | nil => exact .refl _
  | cons y r ih =>
    simp only [DataW.insert]
    split
    · exact .refl _
    · exact (ih.cons y).trans (.swap _ _ _)
theorem foldr_insert_perm {H : Type} : ∀ l : List (Lit × DataW H), (l.foldr DataW.insert []).Perm l := by
  intro l
  induction l with
  | nil => exact .refl _
  | cons x l ih => exact (insert_perm x _).trans (ih.cons x)
theorem intKeys_of {H : Type} {ks : List Int} : ∀ (L : List (Lit × DataW H)), L.map Prod.fst = ks.map (Lit.int .i64) → intKeys (.map L) = ks := by
  induction ks with
  | nil => intro L h; cases L with | nil => rfl | cons a b => simp at h
  | cons k ks ih =>
    intro L h
    cases L with
    | nil => simp at h
    | cons a b =>
      simp only [List.map_cons, List.cons.injEq] at h
      have := ih b h.2
      simp only [intKeys] at this ⊢
      rw [List.map_cons, this, h.1]; rfl
def srt (l : List Int) : List Int := l.mergeSort fun x y => decide (x ≤ y)
def sp32 : ASpec := fun args M K => ∃ (c id : Nat) (es : List (Value × Value)) (ks : List Int), args = [.func (.func 45) #[] #[.pointer (some ⟨c, 0, none⟩)]] ∧ M.get c = .box0 (.map (some id)) ∧ M.get id = .map es ∧ es.map Prod.fst = ks.map (.int .i64) ∧ ks.Nodup ∧
  (∀ k ∈ ks, inI64 k) ∧ ks.length ≤ 1000000 ∧ retOwn M 1 ks.length ((srt ks).map (.int .i64)) K
theorem f32_ok : Sound Try.prog 32 sp32 := by
  rintro args M K ⟨c, id, es, ks, rfl, hgc, hgm, hks, hnd, hrange, hlen, hK⟩
  refine ⟨⟨_, Try.func32, rfl, rfl⟩, fun F ρ w cargs ha hM => ?_⟩
  obtain ⟨cv, rfl, hcv⟩ := ha.one
  obtain ⟨f', g', rfl, hf1, hf2⟩ := hcv.func_inv rfl
  obtain rfl : f' = #[] := by
    have := hf1.1; simp at this; exact (Array.eq_empty_of_size_eq_zero this.symm)
  obtain ⟨y, rfl, hy⟩ : ∃ y, g' = #[y] ∧ VR ρ (.pointer (some ⟨c, 0, none⟩)) y := by
    have hl : VRl ρ [.pointer (some ⟨c, 0, none⟩)] g'.toList := by have := VRs.toList hf2; simpa using this
    exact hl.one
  obtain ⟨_, plc, hplc, rfl⟩ := hy.ptr_inv
  have hoc := hM.obj c plc hplc
  rw [hgc] at hoc
  obtain ⟨hbase, mv, e0, fz, hheap, hmv⟩ := hoc
  obtain ⟨plm, hplm, rfl⟩ := hmv.map_inv
  have hom := hM.obj id plm hplm
  rw [hgm] at hom
  obtain ⟨hFm, E, clock, hE, hEs, hst, hent⟩ := hom
  have hel : es.length = ks.length := by have := congrArg List.length hks; simpa using this
  have hkey : ∀ (i : Nat) (x : MapEntry), E[i]? = some x → ∃ k, ks[i]? = some k ∧ x.key = .int .i64 k := by
    intro i x hx
    have hi : i < E.size := (Array.getElem?_eq_some_iff.1 hx).1
    have hie : i < es.length := by omega
    obtain ⟨x', hx', hk, _⟩ := hent i es[i].1 es[i].2 (by rw [List.getElem?_eq_getElem hie])
    rw [hx] at hx'; cases hx'
    have h1 : (es.map Prod.fst)[i]? = some es[i].1 := by simp [hie]
    rw [hks] at h1
    have hik : i < ks.length := by omega
    have h2 : (ks.map (Value.int .i64))[i]? = some (.int .i64 ks[i]) := by simp [hik]
    rw [h2] at h1
    cases h1' : es[i].1 with
    | int kk n =>
      rw [h1'] at h1 hk
      cases h1
      exact ⟨_, List.getElem?_eq_getElem hik, hk.int_inv⟩
    | _ => rw [h1'] at h1; cases h1
  have hmapk : E.toList.map (fun x => x.key) = ks.map (Value.int .i64) := by
    apply List.ext_getElem?
    intro i
    rw [List.getElem?_map, List.getElem?_map]
    cases hx : E[i]? with
    | none =>
      have h1 : E.size ≤ i := Array.getElem?_eq_none_iff.1 hx
      have h2 : ks[i]? = none := List.getElem?_eq_none (by omega)
      have h3 : E.toList[i]? = none := by simpa using h1
      rw [h2, h3]; rfl
    | some x =>
      obtain ⟨k, hk1, hk2⟩ := hkey i x hx
      have h3 : E.toList[i]? = some x := by simpa using hx
      rw [hk1, h3]; simp [hk2]
  have hRd : ∀ x ∈ E.toList, ∃ k, inI64 k ∧ x.key = .int .i64 k ∧ Go.WideElems.rd Try.prog 3 (fun _ => some ((.nil : DataW Unit), ([] : List MemPlace))) x = some (.int .i64 k, .nil) := by
    intro x hx
    obtain ⟨i, hi, rfl⟩ := List.mem_iff_getElem.1 hx
    obtain ⟨k, hk1, hk2⟩ := hkey i _ (Array.getElem?_eq_getElem (by simpa using hi))
    have hr := hrange k (List.mem_of_getElem? hk1)
    have hko : keyOf Try.prog 3 E.toList[i].key = some (.int .i64 k) := by
      have h2 : E.toList[i].key = .int .i64 k := by simpa using hk2
      rw [h2]
      simp only [keyOf, Try.underlying3, mapKey, Lit.wf]
      rw [if_pos ⟨trivial, by rw [Bool.and_eq_true, decide_eq_true_iff, decide_eq_true_iff]; exact hr⟩]
    exact ⟨k, hr, by simpa using hk2, by simp only [Go.WideElems.rd, hko]; rfl⟩
  have hfit : Go.WideElems.Fit Try.prog 3 (fun _ => some ((.nil : DataW Unit), ([] : List MemPlace))) E clock := by
    refine ⟨by unfold maxLen; omega, ⟨fun x hx => ?_, ?_, ?_⟩, fun x hx => ?_⟩
    · obtain ⟨i, hi, rfl⟩ := List.mem_iff_getElem.1 hx
      exact hst.1 i _ (by rw [Array.getElem?_eq_getElem (by simpa using hi)]; rfl)
    · rw [List.nodup_iff_pairwise_ne, List.pairwise_iff_getElem]
      intro i j hi hj hij
      simp only [List.length_map] at hi hj
      have := hst.2 i j _ _ (by rw [Array.getElem?_eq_getElem (by simpa using hi)]) (by rw [Array.getElem?_eq_getElem (by simpa using hj)]) hij
      simp; omega
    · have e1 : E.toList.map (·.key) = ks.map (Value.int .i64) := hmapk
      rw [e1]
      refine (List.pairwise_map.2 (hnd.imp ?_))
      intro a b hab he
      exact hab (by cases he; rfl)
    · obtain ⟨k, _, _, h⟩ := hRd x hx
      exact ⟨_, h⟩
  have hown : w.ownsMap Try.prog 3 (fun _ => some ((.nil : DataW Unit), ([] : List MemPlace))) plm.block E.size (.map ((E.toList.map (Go.WideElems.rg Try.prog 3 (fun _ => some ((.nil : DataW Unit), ([] : List MemPlace))))).foldr DataW.insert [])) :=
    ⟨E, clock, hE, hfit, Nat.le_refl _, rfl⟩
  have hperm : (intKeys (.map ((E.toList.map (Go.WideElems.rg Try.prog 3 (fun _ => some ((.nil : DataW Unit), ([] : List MemPlace))))).foldr DataW.insert []))).Perm ks := by
    have h1 : (intKeys (.map ((E.toList.map (Go.WideElems.rg Try.prog 3 (fun _ => some ((.nil : DataW Unit), ([] : List MemPlace))))).foldr DataW.insert []))).Perm (intKeys (.map (E.toList.map (Go.WideElems.rg Try.prog 3 (fun _ => some ((.nil : DataW Unit), ([] : List MemPlace)))))) ) := (foldr_insert_perm _).map _
    have h0 : (E.toList.map (Go.WideElems.rg Try.prog 3 (fun _ => some ((.nil : DataW Unit), ([] : List MemPlace))))).map Prod.fst = ks.map (Lit.int .i64) := by
      rw [List.map_map]
      have h2 : E.toList.map (Prod.fst ∘ Go.WideElems.rg Try.prog 3 (fun _ => some ((.nil : DataW Unit), ([] : List MemPlace)))) = E.toList.map (fun x => match x.key with | .int _ k => Lit.int .i64 k | _ => .bool false) := by
        apply List.map_congr_left
        intro x hx
        obtain ⟨k, _, hk, hr⟩ := hRd x hx
        simp only [Function.comp, Go.WideElems.rg, hr, hk, Option.getD_some]
      rw [h2]
      have h3 : E.toList.map (fun x => match x.key with | .int _ k => Lit.int .i64 k | _ => .bool false) = (E.toList.map (fun x => x.key)).map (fun v => match v with | .int _ k => Lit.int .i64 k | _ => .bool false) := by rw [List.map_map]; rfl
      rw [h3, hmapk, List.map_map]
      rfl
    rw [intKeys_of _ h0] at h1
    exact h1
  have hsize : Maps.size (.map ((E.toList.map (Go.WideElems.rg Try.prog 3 (fun _ => some ((.nil : DataW Unit), ([] : List MemPlace))))).foldr DataW.insert [])) = ks.length := by
    show ((E.toList.map _).foldr DataW.insert []).length = _
    rw [(foldr_insert_perm _).length_eq, List.length_map]; simp; omega
  have hcell : w.cell? ⟨plc.block, 0, none⟩ = some (.map (some plm.block)) := by simp [World.cell?, hheap]
  have hlt : plc.block < w.heap.size := (Array.getElem?_eq_some_iff.1 hheap).1
  have hcall := sorted32_calls plc.block plm.block E.size _ _ w hlt hcell hown (by rw [hsize]; unfold maxLen; omega) (by rw [hsize]; omega)
  have hptr : (Value.pointer (some ⟨plc.block, plc.base + 0, none⟩)) = .pointer (some ⟨plc.block, 0, none⟩) := by rw [hbase]
  rw [hptr]
  refine (callsIn_wide.1 hcall).mono ?_
  rintro e w' ⟨v, ss, rfl, hss, hrow, hnil, hb⟩
  have hp2 : ss.Perm ks := hss.trans hperm
  have hsl : ss.length = ks.length := hp2.length_eq
  have hsort : ss.mergeSort (fun x y => decide (x ≤ y)) = srt ks := mergeSort_of_perm_i hp2
  rw [hsort, hsl] at hrow
  have hsrtl : (srt ks).length = ks.length := by unfold srt; exact List.length_mergeSort _
  rcases hrow.2 with ⟨rfl, hz⟩ | ⟨g, cap, cur, rfl, hg1, hg2, hg3, hg4, hg5, hg6⟩
  · have hM' : Sim F ρ M w' := hM.world hb.size (fun i pl hi hl => hb.block _ (hM.lt hi hl))
    have hkeep : Kept F w w' := ⟨hb.os, hb.tape, hb.output, hb.size, fun b hF => hb.block b (by
      by_cases hbl : b < w.heap.size
      · exact hbl
      · exact absurd (hM.top b (by omega)) hF)⟩
    have hk0 : ks = [] := List.eq_nil_of_length_eq_zero hz
    subst hk0
    exact ⟨ρ, .slice none 0 0, .ret (.slice none 0 0), M, hK _ M (Nat.le_refl _) (fun _ _ => rfl) (by rw [show srt [] = [] from by simp [srt]]; exact Own.nil _ _ _), rfl, .refl _ _, Nat.le_refl _, .scalar rfl, hM', hkeep⟩
  · obtain ⟨s1, u1, k1⟩ := hM.add hb (o := .cells ((srt ks).map (.int .i64)) true) (pl := ⟨g, 0, cap⟩) hg1 (fun ρ' hup => by
      refine ⟨cur, 3, 0, 0, hg2, by simp [hsrtl]; omega, by simp; omega, fun i x hx => ?_, fun _ => ⟨hM.top _ hg1, fun i _ => by omega⟩⟩
      have hi : i < ks.length := by
        have := (List.getElem?_eq_some_iff.1 hx).1
        simpa [hsrtl] using this
      have h1 : (cur.toList.take (ks.length * 1))[i]? = some x := by rw [hg6]; exact hx
      rw [List.getElem?_take, if_pos (by omega)] at h1
      refine ⟨x, by simpa using h1, ?_⟩
      simp only [List.getElem?_map, Option.map_eq_some_iff] at hx
      obtain ⟨z, _, rfl⟩ := hx
      exact .scalar rfl)
    refine ⟨_, .slice (some ⟨g, 0, none⟩) ks.length cap, .ret (.slice (some ⟨M.next, 0, none⟩) ks.length 1), _, hK _ _ (by simp) (fun j hj => get_old (by omega)) ⟨by simp [hsrtl], .inr ⟨M.next, rfl, Nat.le_refl _, by simp, get_new⟩⟩, rfl, u1, by simp, ?_, s1, k1⟩
    exact .slice (pl := ⟨g, 0, cap⟩) (by simp [Rho.put]) hg3 (by simp)
end Go.Proofs.Ytdkdkpiemigfkaa
set_option linter.unusedVariables false
set_option linter.unusedSimpArgs false
set_option maxRecDepth 8000
namespace Go.Proofs.Ytdkdkpiemigfkaa
open Go Go.Proofs
def mE (m : List (Int × Value)) : List (Value × Value) := m.map fun p => (.int .i64 p.1, p.2)
def mFind (k : Int) : List (Int × Value) → Nat → Option (Nat × Value)
  | [], _ => none
  | p :: m, i => if k = p.1 then some (i, p.2) else mFind k m (i + 1)
def mSet (m : List (Int × Value)) (k : Int) (v : Value) : List (Int × Value) := match mFind k m 0 with
  | some (j, _) => m.set j (k, v)
  | none => m ++ [(k, v)]
theorem afind_mE (k : Int) : ∀ (m : List (Int × Value)) (i : Nat), afind (.int .i64) (.int .i64 k) (mE m) i = some (mFind k m i) := by
  intro m
  induction m with
  | nil => intro i; rfl
  | cons p m ih =>
    intro i
    have hs : Instr.sameNow (.int .i64) (.int .i64 k) (.int .i64 p.1) = some (k == p.1) := by simp [Instr.sameNow]
    simp only [mE, List.map_cons, afind, hs, mFind]
    by_cases h : k = p.1
    · have hb : (k == p.1) = true := by simpa using h
      rw [hb, if_pos h]
    · have hb : (k == p.1) = false := by simpa using h
      rw [hb, if_neg h]; exact ih (i + 1)
theorem mE_set (m : List (Int × Value)) (j : Nat) (k : Int) (v : Value) : mE (m.set j (k, v)) = (mE m).set j (.int .i64 k, v) := by simp [mE, List.map_set]
theorem aset_mE (k : Int) (v : Value) (m : List (Int × Value)) : aset (.int .i64) (.int .i64 k) v (mE m) = some (mE (mSet m k v)) := by
  unfold aset mSet
  rw [afind_mE]
  cases h : mFind k m 0 with
  | none => simp [mE]
  | some p => simp [mE_set]
theorem mFind_none {k : Int} : ∀ {m : List (Int × Value)} {i : Nat}, mFind k m i = none ↔ k ∉ m.map Prod.fst := by
  intro m
  induction m with
  | nil => intro i; simp [mFind]
  | cons p m ih =>
    intro i
    simp only [mFind, List.map_cons, List.mem_cons, not_or]
    by_cases h : k = p.1
    · simp [h]
    · simp [h, ih]
theorem mFind_some {k : Int} : ∀ {m : List (Int × Value)} {i j : Nat} {v : Value}, mFind k m i = some (j, v) → i ≤ j ∧ m[j - i]? = some (k, v) := by
  intro m
  induction m with
  | nil => intro i j v h; cases h
  | cons p m ih =>
    intro i j v h
    simp only [mFind] at h
    split at h
    · rename_i he
      cases h
      exact ⟨Nat.le_refl _, by rw [Nat.sub_self]; subst he; rfl⟩
    · obtain ⟨h1, h2⟩ := ih h
      refine ⟨by omega, ?_⟩
      rw [show j - i = (j - (i + 1)) + 1 from by omega]
      exact h2
theorem mSet_keys (m : List (Int × Value)) (k : Int) (v : Value) : (mSet m k v).map Prod.fst = if k ∈ m.map Prod.fst then m.map Prod.fst else m.map Prod.fst ++ [k] := by
  unfold mSet
  cases h : mFind k m 0 with
  | none => rw [if_neg (mFind_none.1 h)]; simp
  | some p =>
    obtain ⟨j, u⟩ := p
    obtain ⟨_, hj⟩ := mFind_some h
    rw [Nat.sub_zero] at hj
    have hlt : j < m.length := (List.getElem?_eq_some_iff.1 hj).1
    have hm : k ∈ m.map Prod.fst := List.mem_map.2 ⟨(k, u), List.mem_of_getElem? hj, rfl⟩
    rw [if_pos hm, List.map_set]
    apply List.ext_getElem?
    intro i
    rw [List.getElem?_set]
    split
    · subst_vars
      simp [hlt, (List.getElem?_eq_some_iff.1 hj).2]
    · rfl
theorem amupd75 {M : AMem} {id : Nat} {m : List (Int × Value)} (hg : M.get id = .map (mE m)) (k : Int) (v : Value) : amapUpdate Try.prog M 75 (.map (some id)) (.int .i64 k) v = some (M.set id (.map (mE (mSet m k v)))) := by
  have he : easyKey (.int .i64) (.int .i64 k) = true := rfl
  simp only [amapUpdate, Try.underlying75, Try.underlying3, hg, he, if_true, aset_mE]
  rfl
def dd (l : List Int) : List Int := l.foldl (fun ks s => if s ∈ ks then ks else ks ++ [s]) []
theorem dd_snoc (l : List Int) (s : Int) : dd (l ++ [s]) = if s ∈ dd l then dd l else dd l ++ [s] := by unfold dd; rw [List.foldl_append]; rfl
theorem dd_spec (l : List Int) : (dd l).Nodup ∧ ∀ x, x ∈ dd l ↔ x ∈ l := by
  have key : ∀ (n : Nat) (l : List Int), l.length = n → (dd l).Nodup ∧ ∀ x, x ∈ dd l ↔ x ∈ l := by
    intro n
    induction n with
    | zero => intro l hl; have : l = [] := List.eq_nil_of_length_eq_zero hl; subst this; simp [dd]
    | succ n ih =>
      intro l hl
      have hne : l ≠ [] := by intro h; subst h; simp at hl
      obtain ⟨h1, h2⟩ := ih l.dropLast (by simp [hl])
      rw [← List.dropLast_concat_getLast hne, dd_snoc]
      split
      · rename_i hm
        refine ⟨h1, fun x => ?_⟩
        rw [h2, List.mem_append, List.mem_singleton]
        constructor
        · exact .inl
        · rintro (h | rfl)
          · exact h
          · exact (h2 _).1 hm
      · rename_i hm
        refine ⟨?_, fun x => ?_⟩
        · rw [List.nodup_append]
          exact ⟨h1, by simp, fun a ha b hb => by simp at hb; subst hb; intro he; subst he; exact hm ha⟩
        · rw [List.mem_append, List.mem_append, h2]
  exact key _ l rfl
theorem dd_len (l : List Int) : (dd l).length ≤ l.length := by
  have : ∀ (l ks : List Int), (l.foldl (fun ks s => if s ∈ ks then ks else ks ++ [s]) ks).length ≤ ks.length + l.length := by
    intro l
    induction l with
    | nil => intro ks; simp
    | cons a l ih =>
      intro ks
      simp only [List.foldl_cons, List.length_cons]
      refine Nat.le_trans (ih _) ?_
      split <;> simp <;> omega
  simpa [dd] using this l []
def sidS (l : List Int) : List Int := srt (dd l)
theorem sidS_mem (l : List Int) (x : Int) : x ∈ sidS l ↔ x ∈ l := by
  unfold sidS srt
  rw [List.mem_mergeSort]; exact (dd_spec l).2 x
theorem sidS_asc (l : List Int) : (sidS l).Pairwise (· < ·) := by
  have h1 : (sidS l).Pairwise (fun a b => decide (a ≤ b) = true) := by
    unfold sidS srt
    exact List.pairwise_mergeSort (fun a b c h1 h2 => by simp only [decide_eq_true_eq] at *; omega) (fun a b => by simp only [Bool.or_eq_true, decide_eq_true_eq]; omega) _
  have h2 : (sidS l).Nodup := by unfold sidS srt; exact (List.mergeSort_perm _ _).nodup_iff.2 (dd_spec l).1
  refine (h1.and h2).imp ?_
  rintro a b ⟨h3, h4⟩
  have := of_decide_eq_true h3
  omega
theorem asc_unique {a b : List Int} (ha : a.Pairwise (· < ·)) (hb : b.Pairwise (· < ·)) (h : ∀ x, x ∈ a ↔ x ∈ b) : a = b := by
  have na : a.Nodup := ha.imp (fun h => by omega)
  have nb : b.Nodup := hb.imp (fun h => by omega)
  refine List.Perm.eq_of_pairwise (le := (· < ·)) (fun x y _ _ h1 h2 => by omega) ha hb ((List.perm_ext_iff_of_nodup na nb).2 h)
theorem z53 : azero Try.prog 53 = some (Nt.cells ⟨0, 0, 0, 0⟩) := by kernel_rfl
theorem st53 (f g : Nt) : astore Try.prog 53 f.cells 0 (.agg g.cells.toArray) = some g.cells := astore_whole (i := _) (by rfl) rfl rfl rfl
theorem ncells0 (f : Nt) : f.cells[0]? = some (.int .i64 f.sid) := rfl
def sp21 : ASpec := fun args M K => ∃ (lv : Value) (ns : List Nt), args = [lv] ∧ NtsR M lv ns ∧ (∀ n ∈ ns, inI64 n.sid) ∧ ns.length ≤ 1000000 ∧ retOwn M 1 (sidS (ns.map Nt.sid)).length ((sidS (ns.map Nt.sid)).map (.int .i64)) K
noncomputable def S21 : FuncId → ASpec := tab [(32, sp32), (33, sp33)]
theorem S21_32 : S21 32 = sp32 := rfl
theorem S21_33 : S21 33 = sp33 := rfl
theorem S21_ok : ∀ f, Sound Try.prog f (S21 f) := tab_sound _ (by simp [f32_ok, f33_ok])
theorem f21_ok : Sound Try.prog 21 sp21 := by
 refine Sound.of_awp (c := bodyOf Try.f21) Try.func21 rfl rfl rfl ?_
 rintro args M K ⟨lv, ns, rfl, hns, hr, hl, hK⟩
 refine ⟨Nat.le_of_ble_eq_true rfl, ?_⟩
 have hS := S21_ok
 have e0 : entry [lv] 0 = lv := rfl
 refine at_seq rfl ?_
 refine at_region hS rfl (by kernel_rfl) ?_
 refine s_op (a_as (by simp only [ev_const] <;> rfl)) rfl ?_
 refine s_end (fun s' hs' => ?_)
 replace e0 := kp 0 hs' e0
 clear hs'
 refine o_norm ?_
 refine t_norm ?_
 refine at_seq rfl ?_
 refine at_region hS rfl (by kernel_rfl) ?_
 refine s_op (a_mkmap) rfl ?_
 refine s_as ?_
 refine s_end (fun s' hs' => ?_)
 replace e0 := kp 0 hs' e0
 have e3 := congrFun hs' 3
 simp only [Zu, Nat.reduceEqDiff, ↓reduceIte, newPtr, AMem.next_alloc] at e3
 clear hs'
 refine o_norm ?_
 refine q_mem (fun M1 hEM1 => ?_)
 have hnM1 := congrArg AMem.next hEM1; simp only [Zn, Nat.add_assoc, Nat.reduceAdd] at hnM1
 have hnxM1 : M.next ≤ M1.next := by have := (Nat.le_refl M.next); omega
 have holdM1 : ∀ j, j < M.next → M1.get j = M.get j := fun j hj => by have := (Nat.le_refl M.next); rw [hEM1]; simp (disch := first | (refine Zx ?_; simp only [Zn]; done) | ((try simp only [Zn]); omega)) only [Zg]; done
 have gM1_0 := congrArg (fun m => AMem.get m M.next) hEM1; try simp (disch := first | (refine Zx ?_; simp only [Zn]; done) | ((try simp only [Zn]); omega)) only [Zg, Nat.add_assoc, Nat.reduceAdd] at gM1_0
 clear hEM1
 refine t_norm ?_
 refine at_seq rfl ?_
 refine at_seq rfl ?_
 refine at_region hS rfl (by kernel_rfl) ?_
 refine s_op (a_mv e0) rfl ?_
 refine s_op (a_len (by simp (disch := omega) only [Zu, Nat.reduceEqDiff, ↓reduceIte, alen_str, NtsR.len hns, newPtr, AMem.next_alloc, gM1_0] <;> rfl)) rfl ?_
 refine s_op (a_mv (by simp only [ev_const] <;> rfl)) rfl ?_
 refine s_end (fun s' hs' => ?_)
 replace e3 := kp 3 hs' e3
 have e7 := congrFun hs' 7
 have e8 := congrFun hs' 8
 have e9 := congrFun hs' 9
 simp only [Zu, Nat.reduceEqDiff, ↓reduceIte, newPtr, AMem.next_alloc] at e7 e8 e9
 clear hs'
 try clear e0
 refine o_norm ?_
 refine t_norm ?_
 refine at_block rfl ?_
 refine at_loop rfl (fun km s ML ds => ∃ (i : Nat), ∃ (m : List (Int × Value)), s 3 = .map (some M.next) ∧ s 7 = lv ∧ s 8 = .int .i64 ns.length ∧ s 9 = .int .i64 i ∧ i ≤ ns.length ∧ ML.get M.next = .map (mE m) ∧ M.next < ML.next ∧ m.map Prod.fst = dd ((ns.take i).map Nt.sid) ∧ km = ns.length - i ∧ M.next ≤ ML.next ∧ M1.next ≤ ML.next ∧ (∀ j, j < M.next → ML.get j = M.get j) ∧ ds = []) (ns.length - (0)) ⟨0, [], (by first | exact e3 | (rw [e3]; rfl) | (simpa using e3)), (by first | exact e7 | (rw [e7]; rfl) | (simpa using e7)), (by first | exact e8 | (rw [e8]; rfl) | (simpa using e8)), (by first | exact e9 | (rw [e9]; rfl) | (simpa using e9)), (by omega), gM1_0, (by omega), rfl, rfl, hnxM1, by omega, holdM1, rfl⟩ ?_
 clear e3 e7 e8 e9
 rintro km s M2 ds ⟨i, m, e3, e7, e8, e9, hi, gm, hnxt, hmk, hk, hnxM2, hngM2, holdM2, rfl⟩
 refine at_seq rfl ?_
 refine at_region hS rfl (by kernel_rfl) ?_
 refine s_op (a_bin (by simp (disch := omega) only [Zu, Nat.reduceEqDiff, ↓reduceIte, Zd, reduceCtorEq, abin_lss, ne_eq, not_false_eq_true, gm, e8, e9] <;> rfl)) rfl ?_
 refine s_end (fun s' hs' => ?_)
 replace e3 := kp 3 hs' e3
 replace e7 := kp 7 hs' e7
 replace e8 := kp 8 hs' e8
 replace e9 := kp 9 hs' e9
 have e10 := congrFun hs' 10
 simp only [Zu, Nat.reduceEqDiff, ↓reduceIte, newPtr, AMem.next_alloc] at e10
 clear hs'
 refine o_norm ?_
 refine t_norm ?_
 refine at_seq rfl ?_
 refine at_cond rfl rfl e10 (fun h3 => ?_) (fun h3 => ?_)
 ·
  try simp only [Zh] at h3
  refine at_skip rfl ?_
  refine t_norm ?_
  refine at_seq rfl ?_
  refine at_block rfl ?_
  refine at_seq rfl ?_
  have hil : i < ns.length := by omega
  obtain ⟨f, hfi⟩ : ∃ f, ns[i]? = some f := ⟨_, List.getElem?_eq_getElem hil⟩
  obtain ⟨zi, off, all, own2, hia, hid, hget, hl1, hl2, hl3, hl4, hl5⟩ := hns.at hfi .i64
  have hgetM := (holdM2 zi hid).trans hget
  have hst := st53 ⟨0, 0, 0, 0⟩ f
  refine at_region hS rfl (by kernel_rfl) ?_
  refine s_op (a_ia (by simp (disch := omega) only [Zu, Nat.reduceEqDiff, ↓reduceIte, hia, hst, newPtr, AMem.next_alloc, gm, e7, e9] <;> rfl)) rfl ?_
  refine s_op (a_load (by simp only [Zu, Nat.reduceEqDiff, ↓reduceIte, hgetM, hl5, hst, newPtr, AMem.next_alloc, gm] <;> rfl) (by simp (disch := first | (refine Zx ?_; simp only [Zn]; done) | ((try simp only [Zn]); omega)) only [Zg, hgetM, hl5, hst, newPtr, gm] <;> rfl) (by simp only [hgetM, hl5, hst, newPtr, AMem.next_alloc, gm] <;> rfl)) rfl ?_
  refine s_op (a_alloc z53) rfl ?_
  refine s_op (a_store (by simp only [Zu, Nat.reduceEqDiff, ↓reduceIte, hgetM, hst, newPtr, AMem.next_alloc, gm] <;> rfl) (by simp (disch := first | (refine Zx ?_; simp only [Zn]; done) | ((try simp only [Zn]); omega)) only [Zg, hgetM, hst, newPtr, gm] <;> rfl) (by simp only [Zu, Nat.reduceEqDiff, ↓reduceIte, hgetM, hst, newPtr, AMem.next_alloc, gm] <;> rfl) (by simp only [hgetM, hst, newPtr, AMem.next_alloc, gm] <;> rfl)) rfl ?_
  refine s_end (fun s' hs' => ?_)
  replace e3 := kp 3 hs' e3
  have e5 := congrFun hs' 5
  replace e7 := kp 7 hs' e7
  replace e8 := kp 8 hs' e8
  replace e9 := kp 9 hs' e9
  simp only [Zu, Nat.reduceEqDiff, ↓reduceIte, newPtr, AMem.next_alloc] at e5
  clear hs'
  refine o_norm ?_
  refine q_mem (fun M3 hEM3 => ?_)
  have hnM3 := congrArg AMem.next hEM3; simp only [Zn, Nat.add_assoc, Nat.reduceAdd] at hnM3
  have hnxM3 : M.next ≤ M3.next := by have := hnxM2; omega
  have holdM3 : ∀ j, j < M.next → M3.get j = M.get j := fun j hj => by have := hnxM2; rw [hEM3]; simp (disch := first | (refine Zx ?_; simp only [Zn]; done) | ((try simp only [Zn]); omega)) only [Zg]; exact holdM2 j hj
  have gM3_0 := congrArg (fun m => AMem.get m M.next) hEM3; try simp (disch := first | (refine Zx ?_; simp only [Zn]; done) | ((try simp only [Zn]); omega)) only [Zg, Nat.add_assoc, Nat.reduceAdd, gm] at gM3_0
  have gM3_1 := congrArg (fun m => AMem.get m M2.next) hEM3; try simp (disch := first | (refine Zx ?_; simp only [Zn]; done) | ((try simp only [Zn]); omega)) only [Zg, Nat.add_assoc, Nat.reduceAdd, gm] at gM3_1
  clear hEM3
  refine t_norm ?_
  have hmu := amupd75 (M := M3) gM3_0 f.sid (.bool true)
  refine at_region hS rfl (by kernel_rfl) ?_
  refine s_op (a_mv e3) rfl ?_
  refine s_op (a_fa (by simp only [Zu, Nat.reduceEqDiff, ↓reduceIte, fa53_0, Nat.zero_add, ncells0, hmu, newPtr, AMem.next_alloc, e5] <;> rfl)) rfl ?_
  refine s_op (a_load (by simp only [Zu, Nat.reduceEqDiff, ↓reduceIte, ld3, ncells0, hmu, newPtr, AMem.next_alloc, gM3_0, gM3_1] <;> rfl) (by simp (disch := first | (refine Zx ?_; simp only [Zn]; done) | ((try simp only [Zn]); omega)) only [Zg, ld3, ncells0, hmu, newPtr, gM3_0, gM3_1] <;> rfl) (by simp only [ld3, Zl, ncells0, hmu, newPtr, AMem.next_alloc, gM3_0, gM3_1] <;> rfl)) rfl ?_
  refine s_op (a_mupd (by simp (disch := omega) only [Zu, Nat.reduceEqDiff, ↓reduceIte, ncells0, hmu, newPtr, AMem.next_alloc, gM3_0, gM3_1] <;> rfl)) rfl ?_
  refine s_end (fun s' hs' => ?_)
  replace e3 := kp 3 hs' e3
  replace e7 := kp 7 hs' e7
  replace e8 := kp 8 hs' e8
  replace e9 := kp 9 hs' e9
  clear hs'
  try clear e5
  refine o_norm ?_
  refine q_mem (fun M4 hEM4 => ?_)
  have hnM4 := congrArg AMem.next hEM4; simp only [Zn, Nat.add_assoc, Nat.reduceAdd] at hnM4
  have hnxM4 : M.next ≤ M4.next := by have := hnxM3; omega
  have holdM4 : ∀ j, j < M.next → M4.get j = M.get j := fun j hj => by have := hnxM3; rw [hEM4]; simp (disch := first | (refine Zx ?_; simp only [Zn]; done) | ((try simp only [Zn]); omega)) only [Zg]; exact holdM3 j hj
  have gM4_0 := congrArg (fun m => AMem.get m M.next) hEM4; try simp (disch := first | (refine Zx ?_; simp only [Zn]; done) | ((try simp only [Zn]); omega)) only [Zg, Nat.add_assoc, Nat.reduceAdd, gM3_0, gM3_1] at gM4_0
  have gM4_1 := congrArg (fun m => AMem.get m M2.next) hEM4; try simp (disch := first | (refine Zx ?_; simp only [Zn]; done) | ((try simp only [Zn]); omega)) only [Zg, Nat.add_assoc, Nat.reduceAdd, gM3_0, gM3_1] at gM4_1
  clear hEM4
  refine b_norm ?_
  refine t_norm ?_
  refine at_region hS rfl (by kernel_rfl) ?_
  refine s_op (a_bin (by simp (disch := ((try simp only [List.length_append, List.length_cons, List.length_nil]); omega)) only [Zu, Nat.reduceEqDiff, ↓reduceIte, Zd, reduceCtorEq, abin_add, abin_aadd, wrap_i64, wrap_u32, wrap_u8, wrap_u64, wrap_i32, wrap_u16, ne_eq, not_false_eq_true, e9] <;> rfl)) rfl ?_
  refine s_mv ?_
  refine s_end (fun s' hs' => ?_)
  replace e3 := kp 3 hs' e3
  replace e7 := kp 7 hs' e7
  replace e8 := kp 8 hs' e8
  replace e9 := congrFun hs' 9
  simp only [Zu, Nat.reduceEqDiff, ↓reduceIte, newPtr, AMem.next_alloc] at e9
  clear hs'
  refine o_norm ?_
  refine t_norm ?_
  exact ⟨ns.length - (i + 1), by omega, i + 1, mSet m f.sid (.bool true), (by first | exact e3 | (rw [e3]; rfl) | (rw [e3]; simp; done)), (by first | exact e7 | (rw [e7]; rfl) | (rw [e7]; simp; done)), (by first | exact e8 | (rw [e8]; rfl) | (rw [e8]; simp; done)), (by first | exact e9 | (rw [e9]; rfl) | (rw [e9]; simp; done)), (by omega), gM4_0, (by omega), (by rw [mSet_keys, take_snocO hfi, List.map_append, List.map_cons, List.map_nil, dd_snoc, hmk]), rfl, hnxM4, by omega, holdM4, rfl⟩
 ·
  try simp only [Zh] at h3
  refine at_exit rfl ?_
  refine t_exit ?_
  refine t_exit ?_
  refine b_here ?_
  refine t_norm ?_
  refine at_seq rfl ?_
  have hie : i = ns.length := by omega
  rw [hie, List.take_length] at hmk
  have hdl := dd_len (ns.map Nt.sid)
  rw [List.length_map] at hdl
  refine at_region hS rfl (by kernel_rfl) ?_
  refine s_op (a_mv e3) rfl ?_
  refine s_call (by simp only [Zu, Nat.reduceEqDiff, ↓reduceIte, newPtr, AMem.next_alloc, gm] <;> rfl) (by simp only [Zu, Nat.reduceEqDiff, ↓reduceIte, Zm, newPtr, AMem.next_alloc, gm] <;> rfl) ?_
  rw [S21_33]; refine ⟨_, rfl, ?_⟩
  show EA _ _ _ _ _ _
  refine s_call (by simp only [Zu, Nat.reduceEqDiff, ↓reduceIte, newPtr, AMem.next_alloc, gm] <;> rfl) (by simp only [Zu, Nat.reduceEqDiff, ↓reduceIte, Zm, newPtr, AMem.next_alloc, gm] <;> rfl) ?_
  rw [S21_32]; refine ⟨_, M.next, mE m, dd (ns.map Nt.sid), rfl, get_new, by rw [get_old (by omega)]; exact gm, by rw [← hmk]; simp [mE], (dd_spec _).1, fun k hk => by obtain ⟨n, hn, rfl⟩ := List.mem_map.1 (((dd_spec _).2 k).1 hk); exact hr n hn, by omega, ?_⟩; intro rv M9 hn9 ho9 hown9
  show EA _ _ _ _ _ _
  refine s_as ?_
  refine s_end (fun s' hs' => ?_)
  have e2 := congrFun hs' 2
  simp only [Zu, Nat.reduceEqDiff, ↓reduceIte, newPtr, AMem.next_alloc] at e2
  clear hs'
  try clear e3
  refine o_norm ?_
  have hnx9 : M.next ≤ M9.next := by simp at hn9; omega
  have hold9 : ∀ j, j < M.next → M9.get j = M.get j := fun j hj => by rw [ho9 j (by simp; omega), get_old (by omega)]; exact holdM2 j hj
  have hown9 := Own.lower hown9 (lo' := M.next) (by simp; omega)
  have hsl : (sidS (ns.map Nt.sid)).length = (dd (ns.map Nt.sid)).length := List.length_mergeSort _
  rw [← hsl] at hown9
  refine t_norm ?_
  refine at_ret rfl ?_
  refine bq_ret rfl (ars_cons (ar_tmp e2) ars_nil) ?_
  exact ⟨_, _, hK _ _ hnx9 hold9 hown9, Canon.refl hnx9⟩
end Go.Proofs.Ytdkdkpiemigfkaa
set_option linter.unusedVariables false
set_option linter.unusedSimpArgs false
set_option maxRecDepth 8000
namespace Go.Proofs.Ytdkdkpiemigfkaa
open Go Go.Proofs
theorem aslice_ab {P : Program} {s s0 : Slots} {M M0 : AMem} {t el : TypeId} {v : Value} {lo hi lo0 hi0 : Option Operand} (ht : P.underlying t = some (.slice el)) (h1 : abound s 0 lo = abound s0 0 lo0) (h2 : ∀ d, abound s d hi = abound s0 d hi0) : aslice P s M t v lo hi = aslice P s0 M0 t v lo0 hi0 := by
  unfold aslice
  simp only [ht, h1, h2]
  cases v with
  | slice a n e =>
    cases a with
    | none => cases n <;> cases e <;> rfl
    | some a => obtain ⟨id, off, sp⟩ := a; cases sp <;> rfl
  | _ => rfl
end Go.Proofs.Ytdkdkpiemigfkaa
set_option linter.unusedVariables false
set_option linter.unusedSimpArgs false
set_option maxRecDepth 8000
namespace Go.Proofs.Ytdkdkpiemigfkaa
open Go Go.Proofs
def rstB (r : SG) : Bool := !decide (abits .and .i64 r.2.1.flags 4 = 0)
def rstL (l : List SG) : Nat := (l.filter rstB).length
def resetsF (os : List Ou) : Int := (rstL (segsF os) : Nat)
theorem rstL_app (a b : List SG) : rstL (a ++ b) = rstL a + rstL b := by simp [rstL]
theorem rstL_one (r : SG) : rstL [r] = if rstB r then 1 else 0 := by unfold rstL; cases h : rstB r <;> simp [h]
theorem rstL_le (l : List SG) : rstL l ≤ l.length := List.length_filter_le _ _
theorem segsL_le (fs : List Fr) : (segsL fs).length ≤ fs.length := List.length_filterMap_le _ _
def datO (os : List Ou) : Prop := ∀ f ∈ os.flatMap Ou.frames, f.data.length ≤ 100000000
def sp29 : ASpec := fun args M K => ∃ lv : Value, args = [lv] ∧ lv.cells = #[lv] ∧ K (.ret (.func (.func 39) #[] #[.pointer (some ⟨M.next, 0, none⟩)])) (M.alloc (.cells [lv] true))
theorem f29_ok : Sound Try.prog 29 sp29 := by
 refine Sound.of_awp (c := bodyOf Try.f29) Try.func29 rfl rfl rfl ?_
 rintro args M K ⟨lv, rfl, hc1, hK⟩
 refine ⟨Nat.le_of_ble_eq_true rfl, ?_⟩
 have hS := noS_ok Try.prog
 have e0 : entry [lv] 0 = lv := rfl
 refine at_seq rfl ?_
 refine at_region hS rfl (by kernel_rfl) ?_
 refine s_op (a_box (by simp only [Zu, Nat.reduceEqDiff, ↓reduceIte, hc1, newPtr, AMem.next_alloc, e0] <;> rfl)) rfl ?_
 refine s_op (a_as (by simp only [ev_const] <;> rfl)) rfl ?_
 refine s_end (fun s' hs' => ?_)
 have e1 := congrFun hs' 1
 simp only [Zu, Nat.reduceEqDiff, ↓reduceIte, newPtr, AMem.next_alloc] at e1
 clear hs'
 try clear e0
 refine o_norm ?_
 refine t_norm ?_
 refine at_seq rfl ?_
 refine at_region hS rfl (by kernel_rfl) ?_
 refine s_op (a_mkf (by simp only [Zu, Nat.reduceEqDiff, ↓reduceIte, List.map_toArray, Zm, newPtr, AMem.next_alloc, e1] <;> rfl)) rfl ?_
 refine s_as ?_
 refine s_end (fun s' hs' => ?_)
 have e2 := congrFun hs' 2
 simp only [Zu, Nat.reduceEqDiff, ↓reduceIte, newPtr, AMem.next_alloc] at e2
 clear hs'
 try clear e1
 refine o_norm ?_
 refine t_norm ?_
 refine at_ret rfl ?_
 refine bq_ret rfl (ars_cons (ar_tmp e2) ars_nil) ?_
 exact ⟨_, _, hK, Canon.refl (by simp)⟩
theorem OusR.cells1 {M : AMem} {v : Value} {os : List Ou} (h : OusR M v os) : v.cells = #[v] := by
  obtain ⟨css, h1, h2, h3⟩ := h
  rcases h2.2 with ⟨rfl, _⟩ | ⟨_, _, _, _, rfl, _⟩ <;> rfl
end Go.Proofs.Ytdkdkpiemigfkaa
set_option linter.unusedVariables false
set_option linter.unusedSimpArgs false
set_option maxRecDepth 8000
namespace Go.Proofs.Ytdkdkpiemigfkaa
open Go Go.Proofs
structure RfI (M : AMem) (cid bid d : Nat) (lv : Value) (s : Slots) (n : Nat) (p : Nat) (c : Code) (V : AObj) (M' : AMem) : Prop where
  nx : d + 2 ≤ M'.next
  hold : ∀ j, j < M.next → M'.get j = M.get j
  box : M'.get bid = .cells [lv] true
  cnt : M'.get cid = V
  defs : M'.get d = .defs
  loop : M'.get (d + 1) = .loop .ready none s n #[p] (casn c) (cbod c) d
theorem RfI.stay {M : AMem} {cid bid d : Nat} {lv : Value} {s : Slots} {n p : Nat} {c : Code} {V : AObj} {M' M2 : AMem} (h : RfI M cid bid d lv s n p c V M') (h1 : cid < d) (h2 : bid < d) (h3 : M.next ≤ d) (hn : M'.next ≤ M2.next) (hg : ∀ j, j < M'.next → M2.get j = M'.get j) : RfI M cid bid d lv s n p c V M2 := by
  have := h.nx
  exact ⟨by omega, fun j hj => by rw [hg j (by omega)]; exact h.hold j hj, by rw [hg _ (by omega)]; exact h.box, by rw [hg _ (by omega)]; exact h.cnt, by rw [hg _ (by omega)]; exact h.defs, by rw [hg _ (by omega)]; exact h.loop⟩
theorem RfI.start {M M2 : AMem} {cid bid d : Nat} {lv : Value} {s : Slots} {n p : Nat} {c : Code} {V : AObj} (hd : d = M2.next) (h1 : cid < d) (h2 : bid < d) (h3 : M.next ≤ d) (hold : ∀ j, j < M.next → M2.get j = M.get j) (hb : M2.get bid = .cells [lv] true) (hc : M2.get cid = V) :
    RfI M cid bid d lv s n p c V ((M2.alloc .defs).alloc (.loop .ready none s n #[p] (casn c) (cbod c) M2.next)) := by
  subst hd
  refine ⟨by simp, fun j hj => ?_, ?_, ?_, ?_, ?_⟩
  · rw [get_old (by simp; omega), get_old (by omega)]; exact hold j hj
  · rw [get_old (by simp; omega), get_old (by omega)]; exact hb
  · rw [get_old (by simp; omega), get_old (by omega)]; exact hc
  · rw [get_old (by simp)]; exact get_new
  · exact get_new (M := M2.alloc .defs)
theorem z3 : azero Try.prog 3 = some [.int .i64 0] := by kernel_rfl
theorem sgC_9 (t : Tup) (h : Segh) (b : List UInt8) : (sgC t h b)[9]? = some (.int .i64 h.flags) := rfl
theorem rst_snoc {l : List SG} {i : Nat} {r : SG} (h : l[i]? = some r) : rstL (l.take (i + 1)) = rstL (l.take i) + if rstB r then 1 else 0 := by rw [take_snocO h, rstL_app, rstL_one]
def sp24 : ASpec := fun args M K => ∃ (lv : Value) (os : List Ou), args = [lv] ∧ OusR M lv os ∧ fewO os ∧ datO os ∧ K (.ret (.int .i64 (resetsF os))) M
noncomputable def S24 : FuncId → ASpec := tab [(29, sp29), (39, sp39)]
theorem S24_29 : S24 29 = sp29 := rfl
theorem S24_39 : S24 39 = sp39 := rfl
theorem S24_ok : ∀ f, Sound Try.prog f (S24 f) := tab_sound _ (by simp [f29_ok, f39_ok])
set_option maxHeartbeats 1000000 in
theorem f24_ok : Sound Try.prog 24 sp24 := by
 refine Sound.of_awpM (c := bodyOf Try.f24) Try.func24 rfl rfl rfl ?_
 rintro args M K ⟨lv, os, rfl, hos, hb, hdat, hK⟩
 refine ⟨Nat.le_of_ble_eq_true rfl, ?_⟩
 have hS := S24_ok
 have e0 : entry [lv] 0 = lv := rfl
 refine at_seq rfl ?_
 refine at_region hS rfl (by kernel_rfl) ?_
 refine s_op (a_as (by simp only [ev_const] <;> rfl)) rfl ?_
 refine s_end (fun s' hs' => ?_)
 replace e0 := kp 0 hs' e0
 clear hs'
 refine o_norm ?_
 refine t_norm ?_
 refine at_seq rfl ?_
 refine at_region hS rfl (by kernel_rfl) ?_
 refine s_op (a_alloc z3) rfl ?_
 refine s_op (a_store (by simp only [Zu, Nat.reduceEqDiff, ↓reduceIte, newPtr, AMem.next_alloc] <;> rfl) (by simp (disch := first | (refine Zx ?_; simp only [Zn]; done) | ((try simp only [Zn]); omega)) only [Zg, newPtr] <;> rfl) (by simp only [Zu, Nat.reduceEqDiff, ↓reduceIte, newPtr, AMem.next_alloc] <;> rfl) (by simp (disch := (first | omega | (simp only [List.length_cons, List.length_nil]; omega))) only [st3, List.set_cons_succ, List.set_cons_zero, newPtr, AMem.next_alloc] <;> rfl)) rfl ?_
 refine s_end (fun s' hs' => ?_)
 replace e0 := kp 0 hs' e0
 have e3 := congrFun hs' 3
 simp only [Zu, Nat.reduceEqDiff, ↓reduceIte, newPtr, AMem.next_alloc] at e3
 clear hs'
 refine o_norm ?_
 refine q_mem (fun M1 hEM1 => ?_)
 have hnM1 := congrArg AMem.next hEM1; simp only [Zn, Nat.add_assoc, Nat.reduceAdd] at hnM1
 have hnxM1 : M.next ≤ M1.next := by have := (Nat.le_refl M.next); omega
 have holdM1 : ∀ j, j < M.next → M1.get j = M.get j := fun j hj => by have := (Nat.le_refl M.next); rw [hEM1]; simp (disch := first | (refine Zx ?_; simp only [Zn]; done) | ((try simp only [Zn]); omega)) only [Zg]; done
 have gM1_0 := congrArg (fun m => AMem.get m M.next) hEM1; try simp (disch := first | (refine Zx ?_; simp only [Zn]; done) | ((try simp only [Zn]); omega)) only [Zg, Nat.add_assoc, Nat.reduceAdd] at gM1_0
 clear hEM1
 refine t_norm ?_
 refine at_seq rfl ?_
 refine at_seq rfl ?_
 refine at_region hS rfl (by kernel_rfl) ?_
 refine s_op (a_mv e0) rfl ?_
 refine s_call (by simp only [Zu, Nat.reduceEqDiff, ↓reduceIte, newPtr, AMem.next_alloc, gM1_0] <;> rfl) (by simp only [Zu, Nat.reduceEqDiff, ↓reduceIte, Zm, newPtr, AMem.next_alloc, gM1_0] <;> rfl) ?_
 rw [S24_29]; refine ⟨lv, rfl, hos.cells1, ?_⟩
 show EA _ _ _ _ _ _
 refine s_end (fun s' hs' => ?_)
 replace e3 := kp 3 hs' e3
 have e6 := congrFun hs' 6
 simp only [Zu, Nat.reduceEqDiff, ↓reduceIte, newPtr, AMem.next_alloc] at e6
 clear hs'
 try clear e0
 refine o_norm ?_
 refine q_mem (fun M2 hEM2 => ?_)
 have hnM2 := congrArg AMem.next hEM2; simp only [Zn, Nat.add_assoc, Nat.reduceAdd] at hnM2
 have hnxM2 : M.next ≤ M2.next := by have := hnxM1; omega
 have holdM2 : ∀ j, j < M.next → M2.get j = M.get j := fun j hj => by have := hnxM1; rw [hEM2]; simp (disch := first | (refine Zx ?_; simp only [Zn]; done) | ((try simp only [Zn]); omega)) only [Zg]; exact holdM1 j hj
 have gM2_0 := congrArg (fun m => AMem.get m M.next) hEM2; try simp (disch := first | (refine Zx ?_; simp only [Zn]; done) | ((try simp only [Zn]); omega)) only [Zg, Nat.add_assoc, Nat.reduceAdd, gM1_0] at gM2_0
 have gM2_1 := congrArg (fun m => AMem.get m M1.next) hEM2; try simp (disch := first | (refine Zx ?_; simp only [Zn]; done) | ((try simp only [Zn]); omega)) only [Zg, Nat.add_assoc, Nat.reduceAdd, gM1_0] at gM2_1
 clear hEM2
 refine t_norm ?_
 refine at_block rfl ?_
 refine at_rf (ps := #[7]) hS rfl rfl e6 ?_
 rw [S24_39]
 have hsl := segsL_le (os.flatMap Ou.frames)
 have hb2 := hb.2.1
 refine ⟨M2.next + 1, M1.next, true, lv, os, M, (fun i M' => RfI M M.next M1.next M2.next lv s' Try.f24.ntmps 7 (cin (csnd (cfst (csnd (csnd (bodyOf Try.f24)))))) (.cells [.int .i64 (rstL ((segsF os).take i) : Nat)] true) M'), rfl, hos, hb, hdat, RfI.start rfl (by omega) (by omega) (by omega) holdM2 gM2_1 gM2_0, fun i M' h => ⟨by have := h.nx; simp; omega, by have := h.nx; omega, h.hold, h.box⟩, fun i M' M'' h hn hg => h.stay (by omega) (by omega) (by omega) hn hg, ?_, ?_⟩
 ·
  intro i MR t h b hat hI
  refine ⟨none, s', _, #[7], _, _, M2.next, hI.loop, rfl, fun r => ?_⟩
  refine at_slots (fun sR hsR => ?_)
  have e3 : sR 3 = .pointer (some ⟨M.next, 0, none⟩) := by rw [hsR]; exact e3
  have e7 : sR 7 = .agg (sgC t h b).toArray := by rw [hsR]; rfl
  have g0 := hI.cnt
  have g1 := hI.box
  have g2 := hI.defs
  have g3 := hI.loop
  have holdMR := hI.hold
  have hnbR := hI.nx
  have hnxMR : M.next ≤ MR.next := by omega
  have hil : i < (segsF os).length := (List.getElem?_eq_some_iff.1 hat).1
  have hcl := rstL_le ((segsF os).take i)
  have htl : ((segsF os).take i).length ≤ i := List.length_take_le _ _
  have hsl2 : (segsF os).length ≤ 1000000 := by unfold segsF; omega
  have hsn := rst_snoc hat
  generalize rstL ((segsF os).take i) = cc at *
  refine at_region hS rfl (by kernel_rfl) ?_
  refine s_op (a_alloc z71) rfl ?_
  refine s_op (a_store (by simp only [Zu, Nat.reduceEqDiff, ↓reduceIte, st71, newPtr, AMem.next_alloc, g0, g1, g2, g3, e7] <;> rfl) (by simp (disch := first | (refine Zx ?_; simp only [Zn]; done) | ((try simp only [Zn]); omega)) only [Zg, st71, newPtr, g0, g1, g2, g3, e7] <;> rfl) e7 (by simp only [st71, newPtr, AMem.next_alloc, g0, g1, g2, g3, e7] <;> rfl)) rfl ?_
  refine s_end (fun s' hs' => ?_)
  replace e3 := kp 3 hs' e3
  have e4 := congrFun hs' 4
  simp only [Zu, Nat.reduceEqDiff, ↓reduceIte, newPtr, AMem.next_alloc] at e4
  clear hs'
  try clear e7
  refine o_norm ?_
  refine q_mem (fun M3 hEM3 => ?_)
  have hnM3 := congrArg AMem.next hEM3; simp only [Zn, Nat.add_assoc, Nat.reduceAdd] at hnM3
  have hnxM3 : M.next ≤ M3.next := by have := hnxMR; omega
  have holdM3 : ∀ j, j < M.next → M3.get j = M.get j := fun j hj => by have := hnxMR; rw [hEM3]; simp (disch := first | (refine Zx ?_; simp only [Zn]; done) | ((try simp only [Zn]); omega)) only [Zg]; exact holdMR j hj
  have gM3_0 := congrArg (fun m => AMem.get m M.next) hEM3; try simp (disch := first | (refine Zx ?_; simp only [Zn]; done) | ((try simp only [Zn]); omega)) only [Zg, Nat.add_assoc, Nat.reduceAdd, g0, g1, g2, g3] at gM3_0
  have gM3_1 := congrArg (fun m => AMem.get m M1.next) hEM3; try simp (disch := first | (refine Zx ?_; simp only [Zn]; done) | ((try simp only [Zn]); omega)) only [Zg, Nat.add_assoc, Nat.reduceAdd, g0, g1, g2, g3] at gM3_1
  have gM3_2 := congrArg (fun m => AMem.get m M2.next) hEM3; try simp (disch := first | (refine Zx ?_; simp only [Zn]; done) | ((try simp only [Zn]); omega)) only [Zg, Nat.add_assoc, Nat.reduceAdd, g0, g1, g2, g3] at gM3_2
  have gM3_3 := congrArg (fun m => AMem.get m (M2.next + 1)) hEM3; try simp (disch := first | (refine Zx ?_; simp only [Zn]; done) | ((try simp only [Zn]); omega)) only [Zg, Nat.add_assoc, Nat.reduceAdd, g0, g1, g2, g3] at gM3_3
  have gM3_4 := congrArg (fun m => AMem.get m MR.next) hEM3; try simp (disch := first | (refine Zx ?_; simp only [Zn]; done) | ((try simp only [Zn]); omega)) only [Zg, Nat.add_assoc, Nat.reduceAdd, g0, g1, g2, g3] at gM3_4
  clear hEM3
  refine r_asn gM3_3 ?_
  refine at_mem (fun M4 hEM4 => ?_)
  have hnM4 := congrArg AMem.next hEM4; simp only [Zn, Nat.add_assoc, Nat.reduceAdd] at hnM4
  have hnxM4 : M.next ≤ M4.next := by have := hnxM3; omega
  have holdM4 : ∀ j, j < M.next → M4.get j = M.get j := fun j hj => by have := hnxM3; rw [hEM4]; simp (disch := first | (refine Zx ?_; simp only [Zn]; done) | ((try simp only [Zn]); omega)) only [Zg]; exact holdM3 j hj
  have gM4_0 := congrArg (fun m => AMem.get m M.next) hEM4; try simp (disch := first | (refine Zx ?_; simp only [Zn]; done) | ((try simp only [Zn]); omega)) only [Zg, Nat.add_assoc, Nat.reduceAdd, gM3_0, gM3_1, gM3_2, gM3_3, gM3_4] at gM4_0
  have gM4_1 := congrArg (fun m => AMem.get m M1.next) hEM4; try simp (disch := first | (refine Zx ?_; simp only [Zn]; done) | ((try simp only [Zn]); omega)) only [Zg, Nat.add_assoc, Nat.reduceAdd, gM3_0, gM3_1, gM3_2, gM3_3, gM3_4] at gM4_1
  have gM4_2 := congrArg (fun m => AMem.get m M2.next) hEM4; try simp (disch := first | (refine Zx ?_; simp only [Zn]; done) | ((try simp only [Zn]); omega)) only [Zg, Nat.add_assoc, Nat.reduceAdd, gM3_0, gM3_1, gM3_2, gM3_3, gM3_4] at gM4_2
  have gM4_3 := congrArg (fun m => AMem.get m (M2.next + 1)) hEM4; try simp (disch := first | (refine Zx ?_; simp only [Zn]; done) | ((try simp only [Zn]); omega)) only [Zg, Nat.add_assoc, Nat.reduceAdd, gM3_0, gM3_1, gM3_2, gM3_3, gM3_4] at gM4_3
  have gM4_4 := congrArg (fun m => AMem.get m MR.next) hEM4; try simp (disch := first | (refine Zx ?_; simp only [Zn]; done) | ((try simp only [Zn]); omega)) only [Zg, Nat.add_assoc, Nat.reduceAdd, gM3_0, gM3_1, gM3_2, gM3_3, gM3_4] at gM4_4
  clear hEM4
  refine at_block rfl ?_
  refine at_seq rfl ?_
  refine at_region hS rfl (by kernel_rfl) ?_
  refine s_op (a_fa (by simp only [Zu, Nat.reduceEqDiff, ↓reduceIte, fa71_1, Nat.zero_add, fa57_4, Nat.reduceAdd, newPtr, AMem.next_alloc, e4] <;> rfl)) rfl ?_
  refine s_op (a_fa (by simp only [Zu, Nat.reduceEqDiff, ↓reduceIte, fa57_4, Nat.zero_add, fa71_1, Nat.reduceAdd, newPtr, AMem.next_alloc] <;> rfl)) rfl ?_
  refine s_op (a_load (by simp only [Zu, Nat.reduceEqDiff, ↓reduceIte, Nat.zero_add, Nat.reduceAdd, ld3, sgC_9, newPtr, AMem.next_alloc, gM4_0, gM4_1, gM4_2, gM4_3, gM4_4] <;> rfl) (by simp (disch := first | (refine Zx ?_; simp only [Zn]; done) | ((try simp only [Zn]); omega)) only [Zg, Nat.zero_add, Nat.reduceAdd, ld3, sgC_9, newPtr, gM4_0, gM4_1, gM4_2, gM4_3, gM4_4] <;> rfl) (by simp only [ld3, Zl, Nat.zero_add, Nat.reduceAdd, sgC_9, newPtr, AMem.next_alloc, gM4_0, gM4_1, gM4_2, gM4_3, gM4_4] <;> rfl)) rfl ?_
  refine s_op (a_bin (by simp (disch := omega) only [Zu, Nat.reduceEqDiff, ↓reduceIte, Zd, reduceCtorEq, abin_and, and_255, and_15, and_65535, and_8191, ne_eq, not_false_eq_true, Nat.zero_add, Nat.reduceAdd] <;> rfl)) rfl ?_
  refine s_op (a_bin (by simp (disch := omega) only [Zu, Nat.reduceEqDiff, ↓reduceIte, Zd, reduceCtorEq, abin_neq, abin_aneq, ne_eq, not_false_eq_true, Nat.zero_add, Nat.reduceAdd] <;> rfl)) rfl ?_
  refine s_end (fun s' hs' => ?_)
  replace e3 := kp 3 hs' e3
  have e12 := congrFun hs' 12
  simp only [Zu, Nat.reduceEqDiff, ↓reduceIte, newPtr, AMem.next_alloc] at e12
  clear hs'
  try clear e4
  refine o_norm ?_
  refine t_norm ?_
  refine at_cond rfl rfl e12 (fun h4 => ?_) (fun h4 => ?_)
  ·
   try simp only [Zh] at h4
   refine at_region hS rfl (by kernel_rfl) ?_
   refine s_op (a_load e3 (by simp (disch := first | (refine Zx ?_; simp only [Zn]; done) | ((try simp only [Zn]); omega)) only [Zg, newPtr, gM4_0, gM4_1, gM4_2, gM4_3, gM4_4, e3] <;> rfl) (by simp only [ld3, Zl, newPtr, AMem.next_alloc, gM4_0, gM4_1, gM4_2, gM4_3, gM4_4, e3] <;> rfl)) rfl ?_
   refine s_op (a_bin (by simp (disch := ((try simp only [List.length_append, List.length_cons, List.length_nil]); omega)) only [Zu, Nat.reduceEqDiff, ↓reduceIte, Zd, reduceCtorEq, abin_add, abin_aadd, wrap_i64, wrap_u32, wrap_u8, wrap_u64, wrap_i32, wrap_u16, ne_eq, not_false_eq_true] <;> rfl)) rfl ?_
   refine s_op (a_store e3 (by simp (disch := first | (refine Zx ?_; simp only [Zn]; done) | ((try simp only [Zn]); omega)) only [Zg, newPtr, gM4_0, gM4_1, gM4_2, gM4_3, gM4_4, e3] <;> rfl) (by simp only [Zu, Nat.reduceEqDiff, ↓reduceIte, newPtr, AMem.next_alloc, gM4_0, gM4_1, gM4_2, gM4_3, gM4_4, e3] <;> rfl) (by simp (disch := (first | omega | (simp only [List.length_cons, List.length_nil]; omega))) only [st3, List.set_cons_succ, List.set_cons_zero, newPtr, AMem.next_alloc, gM4_0, gM4_1, gM4_2, gM4_3, gM4_4, e3] <;> rfl)) rfl ?_
   refine s_end (fun s' hs' => ?_)
   clear hs'
   try clear e3
   refine o_norm ?_
   refine q_mem (fun M5 hEM5 => ?_)
   have hnM5 := congrArg AMem.next hEM5; simp only [Zn, Nat.add_assoc, Nat.reduceAdd] at hnM5
   have hnxM5 : M.next ≤ M5.next := by have := hnxM4; omega
   have holdM5 : ∀ j, j < M.next → M5.get j = M.get j := fun j hj => by have := hnxM4; rw [hEM5]; simp (disch := first | (refine Zx ?_; simp only [Zn]; done) | ((try simp only [Zn]); omega)) only [Zg]; exact holdM4 j hj
   have gM5_0 := congrArg (fun m => AMem.get m M.next) hEM5; try simp (disch := first | (refine Zx ?_; simp only [Zn]; done) | ((try simp only [Zn]); omega)) only [Zg, Nat.add_assoc, Nat.reduceAdd, gM4_0, gM4_1, gM4_2, gM4_3, gM4_4] at gM5_0
   have gM5_1 := congrArg (fun m => AMem.get m M1.next) hEM5; try simp (disch := first | (refine Zx ?_; simp only [Zn]; done) | ((try simp only [Zn]); omega)) only [Zg, Nat.add_assoc, Nat.reduceAdd, gM4_0, gM4_1, gM4_2, gM4_3, gM4_4] at gM5_1
   have gM5_2 := congrArg (fun m => AMem.get m M2.next) hEM5; try simp (disch := first | (refine Zx ?_; simp only [Zn]; done) | ((try simp only [Zn]); omega)) only [Zg, Nat.add_assoc, Nat.reduceAdd, gM4_0, gM4_1, gM4_2, gM4_3, gM4_4] at gM5_2
   have gM5_3 := congrArg (fun m => AMem.get m (M2.next + 1)) hEM5; try simp (disch := first | (refine Zx ?_; simp only [Zn]; done) | ((try simp only [Zn]); omega)) only [Zg, Nat.add_assoc, Nat.reduceAdd, gM4_0, gM4_1, gM4_2, gM4_3, gM4_4] at gM5_3
   have gM5_4 := congrArg (fun m => AMem.get m MR.next) hEM5; try simp (disch := first | (refine Zx ?_; simp only [Zn]; done) | ((try simp only [Zn]); omega)) only [Zg, Nat.add_assoc, Nat.reduceAdd, gM4_0, gM4_1, gM4_2, gM4_3, gM4_4] at gM5_4
   clear hEM5
   refine b_norm ?_
   refine r_norm gM5_3 ?_
   refine ⟨rfl, by simp; omega, ⟨by simp; omega, fun j hj => by rw [get_else (by omega)]; exact holdM5 j hj, by rw [get_else (by omega)]; exact gM5_1, ?_, by rw [get_else (by omega)]; exact gM5_2, get_put⟩⟩
   rw [get_else (by omega), gM5_0, hsn]
   first
     | (rw [if_pos (by simp [rstB, h4])]; rfl)
     | (rw [if_neg (by simp [rstB, h4])]; rfl)
  ·
   try simp only [Zh] at h4
   refine at_skip rfl ?_
   refine b_norm ?_
   refine r_norm gM4_3 ?_
   refine ⟨rfl, by simp; omega, ⟨by simp; omega, fun j hj => by rw [get_else (by omega)]; exact holdM4 j hj, by rw [get_else (by omega)]; exact gM4_1, ?_, by rw [get_else (by omega)]; exact gM4_2, get_put⟩⟩
   rw [get_else (by omega), gM4_0, hsn]
   first
     | (rw [if_pos (by simp [rstB, h4])]; rfl)
     | (rw [if_neg (by simp [rstB, h4])]; rfl)
 ·
  intro MY hI
  refine rk_done hI.loop ?_
  refine q_mem (fun MZ hMZ => ?_)
  have hnbZ := hI.nx
  have hnxMZ : M.next ≤ MZ.next := by rw [hMZ]; simp; omega
  have holdMZ : ∀ j, j < M.next → MZ.get j = M.get j := fun j hj => by rw [hMZ, get_else (by omega)]; exact hI.hold j hj
  have z0 : MZ.get M.next = .cells [.int .i64 (resetsF os)] true := by rw [hMZ, get_else (by omega), hI.cnt, List.take_length]; rfl
  have z2 : MZ.get M2.next = .defs := by rw [hMZ, get_else (by omega)]; exact hI.defs
  refine b_norm ?_
  refine t_norm ?_
  refine at_seq rfl ?_
  refine at_region hS rfl (by kernel_rfl) ?_
  refine s_op (a_load e3 (by simp (disch := first | (refine Zx ?_; simp only [Zn]; done) | ((try simp only [Zn]); omega)) only [Zg, newPtr, z0, z2, e3] <;> rfl) (by simp only [ld3, Zl, newPtr, AMem.next_alloc, z0, z2, e3] <;> rfl)) rfl ?_
  refine s_as ?_
  refine s_end (fun s' hs' => ?_)
  have e2 := congrFun hs' 2
  simp only [Zu, Nat.reduceEqDiff, ↓reduceIte, newPtr, AMem.next_alloc] at e2
  clear hs'
  try clear e3
  refine o_norm ?_
  refine t_norm ?_
  refine at_ret rfl ?_
  refine bm_ret (shut_one z2) rfl (ars_cons (ar_tmp e2) ars_nil) ?_
  exact ⟨_, _, hK, Canon.forget rfl (fun j hj => by rw [get_else (by omega)]; exact holdMZ j hj)⟩
end Go.Proofs.Ytdkdkpiemigfkaa
set_option linter.unusedVariables false
set_option linter.unusedSimpArgs false
set_option maxRecDepth 8000
namespace Go.Proofs.Ytdkdkpiemigfkaa
open Go Go.Proofs
theorem peval_underlying {P : Program} {t : TypeId} {d : TypeDesc} (h : P.underlying t = some d) : peval P (underlying t) = some d := by
  simp [underlying, peval_bind, program, peval, h]
theorem eqIn_int (n : Nat) (t : TypeId) (k : IntKind) (a b : Int) (h : Try.prog.underlying t = some (.int k)) : peval Try.prog (Op.equalIn (n + 1) t (.int k a) (.int k b)) = some (a == b) := by
  simp [Op.equalIn, peval_bind, peval_underlying h]
theorem part_int (t : TypeId) (k : IntKind) (h : Try.prog.underlying t = some (.int k)) (cs : Array Value) (off : Nat) (v : Value) (hv : cs[off]? = some v) : peval Try.prog (Go.part t cs off) = some v := by
  simp [Go.part, isAgg, peval_bind, peval_underlying h, hv]
theorem peval_eq39 (t t' : Tup) : peval Try.prog (Op.equal 39 (.agg t.cells.toArray) (.agg t'.cells.toArray)) = some ((t.proto == t'.proto) && (t.src == t'.src) && (t.dst == t'.dst) && (t.sp == t'.sp) && (t.dp == t'.dp)) := by
  show peval Try.prog (Op.equalIn (9998 + 1 + 1) 39 _ _) = _
  rw [Op.equalIn]
  have hso : Try.prog.stoodInHeld 39 = false := by kernel_rfl
  simp only [peval_bind, peval_underlying Try.underlying39, Option.bind_some, program, peval, hso]
  by_cases h1 : t.proto = t'.proto
  · by_cases h2 : t.src = t'.src
    · by_cases h3 : t.dst = t'.dst
      · by_cases h4 : t.sp = t'.sp
        · by_cases h5 : t.dp = t'.dp <;> simp [peval_bind, part_int 3 .i64 Try.underlying3, part_int 23 .u32 Try.underlying23, eqIn_int 9998 3 .i64 _ _ Try.underlying3, eqIn_int 9998 23 .u32 _ _ Try.underlying23, Tup.cells, h1, h2, h3, h4, h5]
        · simp [peval_bind, part_int 3 .i64 Try.underlying3, part_int 23 .u32 Try.underlying23, eqIn_int 9998 3 .i64 _ _ Try.underlying3, eqIn_int 9998 23 .u32 _ _ Try.underlying23, Tup.cells, h1, h2, h3, h4]
      · simp [peval_bind, part_int 3 .i64 Try.underlying3, part_int 23 .u32 Try.underlying23, eqIn_int 9998 3 .i64 _ _ Try.underlying3, eqIn_int 9998 23 .u32 _ _ Try.underlying23, Tup.cells, h1, h2, h3]
    · simp [peval_bind, part_int 3 .i64 Try.underlying3, part_int 23 .u32 Try.underlying23, eqIn_int 9998 3 .i64 _ _ Try.underlying3, eqIn_int 9998 23 .u32 _ _ Try.underlying23, Tup.cells, h1, h2]
  · simp [peval_bind, part_int 3 .i64 Try.underlying3, part_int 23 .u32 Try.underlying23, eqIn_int 9998 3 .i64 _ _ Try.underlying3, eqIn_int 9998 23 .u32 _ _ Try.underlying23, Tup.cells, h1]
def tupEq (t t' : Tup) : Bool := (t.proto == t'.proto) && (t.src == t'.src) && (t.dst == t'.dst) && (t.sp == t'.sp) && (t.dp == t'.dp)
theorem peval_map {α β : Type} {P : Program} (f : α → β) (m : Sem α) : peval P (f <$> m) = (peval P m).map f := by
  show peval P (m >>= fun a => pure (f a)) = _
  rw [peval_bind]; cases peval P m <;> rfl
theorem tup_flat (t : Tup) : flat (.agg t.cells.toArray) = true := rfl
theorem a_tupneq {s : Slots} {M : AMem} {d : Option Nat} {ty u : TypeId} {g : Option (Nat × Bool)} {x y : Operand} {t t' : Tup} (hx : ev s x = .agg t.cells.toArray) (hy : ev s y = .agg t'.cells.toArray) :
    aop Try.prog s M ⟨d, .binOp .neq 39 x y u, ty, g⟩ = some (.bool (!tupEq t t'), M) := by
  have hgt : Try.prog.eqGuardType Try.prog.depth 39 = false := by kernel_rfl
  have he : peval Try.prog (execOp (ev s) (AOp.oper ⟨d, .binOp .neq 39 x y u, ty, g⟩)) = some (.value (.bool (!tupEq t t'))) := by
    have h1 : peval Try.prog (Op.equal 39 (.agg t.cells.toArray) (.agg t'.cells.toArray)) = some (tupEq t t') := peval_eq39 t t'
    simp only [execOp, AOp.oper, hx, hy, eqGuard, peval_bind, program, peval, hgt]
    simp [peval_bind, peval, hgt, Go.binOp, peval_map, h1]
  refine a_binq (by rw [hx, hy]; rfl) ?_ ?_
  · rw [hx, hy]; simp only [aptrNil]; rfl
  · unfold apure
    rw [he]
    have hall : (AOp.oper ⟨d, .binOp .neq 39 x y u, ty, g⟩).op.operands.all (fun x => flat (ev s x)) = true := by
      simp only [AOp.oper, Op.operands]
      simp [hx, hy, tup_flat]
    rw [if_pos hall]
    rfl
abbrev PL := List (Int × UInt8)
def putB (pl : PL) (x : Int) (c : UInt8) : PL := if 0 ≤ x ∧ x ∉ pl.map Prod.fst then pl ++ [(x, c)] else pl
def putS (off : Int) (pl : PL) (b : List UInt8) : PL := b.zipIdx.foldl (fun pl p => putB pl (off + (p.2 : Nat)) p.1) pl
theorem putS_nil (off : Int) (pl : PL) : putS off pl [] = pl := rfl
theorem putS_snoc (off : Int) (pl : PL) (b : List UInt8) (c : UInt8) : putS off pl (b ++ [c]) = putB (putS off pl b) (off + (b.length : Nat)) c := by
  unfold putS
  rw [List.zipIdx_append, List.foldl_append]
  simp
theorem putB_len (pl : PL) (x : Int) (c : UInt8) : (putB pl x c).length ≤ pl.length + 1 := by unfold putB; split <;> simp
theorem putS_len (off : Int) (b : List UInt8) : ∀ (n : Nat) (pl : PL), n ≤ b.length → (putS off pl (b.take n)).length ≤ pl.length + n := by
  intro n
  induction n with
  | zero => intro pl _; simp [putS_nil]
  | succ n ih =>
    intro pl h
    rw [take_snoc b n (by omega), putS_snoc]
    have h1 := ih pl (by omega)
    have h2 := putB_len (putS off pl (b.take n)) (off + ((b.take n).length : Nat)) b[n]
    omega
theorem putS_len' (off : Int) (b : List UInt8) (pl : PL) : (putS off pl b).length ≤ pl.length + b.length := by
  have := putS_len off b b.length pl (Nat.le_refl _)
  rwa [List.take_length] at this
def payStep (t : Tup) (start : Int) (pl : PL) (r : SG) : PL := if tupEq r.1 t = true then putS (placeF start r.2.1.seq pl.length) pl r.2.2 else pl
def payL (t : Tup) (start : Int) (rs : List SG) : PL := rs.foldl (payStep t start) []
theorem payL_app (t : Tup) (start : Int) (a : List SG) (r : SG) : payL t start (a ++ [r]) = payStep t start (payL t start a) r := by unfold payL; rw [List.foldl_append]; rfl
theorem payL_snoc {t : Tup} {start : Int} {rs : List SG} {i : Nat} {r : SG} (h : rs[i]? = some r) : payL t start (rs.take (i + 1)) = payStep t start (payL t start (rs.take i)) r := by rw [take_snocO h, payL_app]
def bodyN (rs : List SG) : Nat := (rs.map fun r => r.2.2.length).sum
theorem payStep_len (t : Tup) (start : Int) (pl : PL) (r : SG) : (payStep t start pl r).length ≤ pl.length + r.2.2.length := by
  unfold payStep; split
  · exact putS_len' _ _ _
  · omega
theorem payL_len (t : Tup) (start : Int) (rs : List SG) : (payL t start rs).length ≤ bodyN rs := by
  have : ∀ (rs : List SG) (pl : PL), (rs.foldl (payStep t start) pl).length ≤ pl.length + bodyN rs := by
    intro rs
    induction rs with
    | nil => intro pl; simp [bodyN]
    | cons r rs ih =>
      intro pl
      have h1 := ih (payStep t start pl r)
      have h2 := payStep_len t start pl r
      simp only [List.foldl_cons, bodyN, List.map_cons, List.sum_cons] at h1 ⊢
      omega
  simpa [payL] using this rs []
theorem bodyN_take {rs : List SG} {i : Nat} {r : SG} (h : rs[i]? = some r) : bodyN (rs.take i) + r.2.2.length ≤ bodyN rs := by
  have hlt : i < rs.length := (List.getElem?_eq_some_iff.1 h).1
  have e : rs = rs.take i ++ r :: rs.drop (i + 1) := by
    conv => lhs; rw [← List.take_append_drop i rs, List.drop_eq_getElem_cons hlt, (List.getElem?_eq_some_iff.1 h).2]
  conv => rhs; rw [e]
  simp only [bodyN, List.map_append, List.map_cons, List.sum_append, List.sum_cons]; omega
theorem segGet_len {l : List UInt8} {t : Tup} {h : Segh} {b : List UInt8} (hs : segGet l = some (t, h, b)) : b.length ≤ l.length := by
  obtain ⟨_, _, _, _, _, h1⟩ := eth_facts l
  unfold segGet at hs
  split at hs
  · cases hs
  split at hs
  · cases hs
  split at hs
  · cases hs
  · cases hs
    have h2 := ip_len (ethGetF l).2.1
    have h3 : ∀ (s d : Int) (x : List UInt8), (tcpGetF s d x).2.1.length ≤ x.length := by
      intro s d x; unfold tcpGetF; split
      · exact part_le _ _ _
      · simp
    have := h3 (ipGetF (ethGetF l).2.1).1.src (ipGetF (ethGetF l).2.1).1.dst (ipGetF (ethGetF l).2.1).2.1
    omega
def dataN (fs : List Fr) : Nat := (fs.map fun f => f.data.length).sum
theorem bodyN_segs (fs : List Fr) : bodyN (segsL fs) ≤ dataN fs := by
  induction fs with
  | nil => simp [bodyN, segsL, dataN]
  | cons f fs ih =>
    have e : segsL (f :: fs) = (segGet f.data).toList ++ segsL fs := by rw [← segsL_one, ← segsL_app]; rfl
    rw [e]
    simp only [bodyN, List.map_append, List.sum_append, dataN, List.map_cons, List.sum_cons] at ih ⊢
    cases h : segGet f.data with
    | none => simp only [Option.toList_none, List.map_nil, List.sum_nil]; omega
    | some r =>
      obtain ⟨t, hh, b⟩ := r
      have := segGet_len h
      simp only [Option.toList_some, Zm, List.sum_cons, List.sum_nil]; omega
theorem dataN_mem {fs : List Fr} {f : Fr} (h : f ∈ fs) : f.data.length ≤ dataN fs := by
  obtain ⟨i, hi, rfl⟩ := List.mem_iff_getElem.1 h
  have e : fs = fs.take i ++ fs[i] :: fs.drop (i + 1) := by
    conv => lhs; rw [← List.take_append_drop i fs, List.drop_eq_getElem_cons hi]
  unfold dataN
  conv => rhs; rw [e]
  simp only [List.map_append, List.map_cons, List.sum_append, List.sum_cons]; omega
def cntG (ks : List Int) : Nat → Nat → Nat
  | 0, n => n
  | f + 1, n => if (n : Int) ∈ ks then cntG ks f (n + 1) else n
def cntK (ks : List Int) : Nat := cntG ks (ks.length + 1) 0
theorem pig : ∀ (n : Nat) (ks : List Int), (∀ j, j < n → (j : Int) ∈ ks) → n ≤ ks.length := by
  intro n
  induction n with
  | zero => intro ks _; omega
  | succ n ih =>
    intro ks h
    have hm := h n (by omega)
    have h1 := ih (ks.erase (n : Int)) (fun j hj => by
      rw [List.mem_erase_of_ne (by omega)]; exact h j (by omega))
    rw [List.length_erase_of_mem hm] at h1
    have : 0 < ks.length := List.length_pos_of_mem hm
    omega
theorem cntG_eq {ks : List Int} {n : Nat} (h1 : ∀ j, j < n → (j : Int) ∈ ks) (h2 : (n : Int) ∉ ks) : ∀ (f m : Nat), m ≤ n → n < m + f → cntG ks f m = n := by
  intro f
  induction f with
  | zero => intro m hm hf; omega
  | succ f ih =>
    intro m hm hf
    simp only [cntG]
    by_cases he : m = n
    · subst he; rw [if_neg h2]
    · rw [if_pos (h1 m (by omega))]; exact ih (m + 1) (by omega) (by omega)
theorem cntK_eq {ks : List Int} {n : Nat} (h1 : ∀ j, j < n → (j : Int) ∈ ks) (h2 : (n : Int) ∉ ks) : cntK ks = n := by
  have := pig n ks h1
  exact cntG_eq h1 h2 _ 0 (by omega) (by omega)
def valP (pl : PL) (k : Nat) : UInt8 := ((pl.find? fun p => decide (p.1 = (k : Int))).map Prod.snd).getD 0
def payOut (pl : PL) : List UInt8 := (List.range (cntK (pl.map Prod.fst))).map (valP pl)
def payF (t : Tup) (start : Int) (rs : List SG) : List UInt8 := payOut (payL t start rs)
theorem range_snoc (f : Nat → UInt8) (n : Nat) : (List.range (n + 1)).map f = (List.range n).map f ++ [f n] := by rw [List.range_succ, List.map_append]; rfl
theorem payOut_eq {pl : PL} {n : Nat} (h1 : ∀ j, j < n → (j : Int) ∈ pl.map Prod.fst) (h2 : (n : Int) ∉ pl.map Prod.fst) : payOut pl = (List.range n).map (valP pl) := by unfold payOut; rw [cntK_eq h1 h2]
def mP (pl : PL) : List (Int × Value) := pl.map fun p => (p.1, .int .u8 p.2.toNat)
theorem mP_keys (pl : PL) : (mP pl).map Prod.fst = pl.map Prod.fst := by simp [mP]
theorem mFind_mP {pl : PL} {k : Nat} {i j : Nat} {v : Value} (h : mFind (k : Int) (mP pl) i = some (j, v)) : v = .int .u8 (valP pl k).toNat := by
  induction pl generalizing i with
  | nil => cases h
  | cons p pl ih =>
    simp only [mP, List.map_cons, mFind] at h
    unfold valP
    rw [List.find?_cons]
    by_cases hp : p.1 = (k : Int)
    · rw [if_pos hp.symm] at h
      cases h
      simp [hp]
    · rw [if_neg (fun e => hp e.symm)] at h
      have := ih h
      simp only [hp, decide_false]
      exact this
theorem mSet_mP {pl : PL} {x : Int} {c : UInt8} (h : x ∉ pl.map Prod.fst) : mSet (mP pl) x (.int .u8 c.toNat) = mP (pl ++ [(x, c)]) := by
  unfold mSet
  rw [mFind_none.2 (by rw [mP_keys]; exact h)]
  simp [mP]
end Go.Proofs.Ytdkdkpiemigfkaa
set_option linter.unusedVariables false
set_option linter.unusedSimpArgs false
set_option maxRecDepth 8000
namespace Go.Proofs.Ytdkdkpiemigfkaa
open Go Go.Proofs
structure RfG (M : AMem) (st : List (Nat × AObj)) (vid d : Nat) (s : Slots) (n : Nat) (p : Nat) (c : Code) (V : AObj) (M' : AMem) : Prop where
  nx : d + 2 ≤ M'.next
  hold : ∀ j, j < M.next → M'.get j = M.get j
  stat : ∀ q ∈ st, M'.get q.1 = q.2
  cnt : M'.get vid = V
  defs : M'.get d = .defs
  loop : M'.get (d + 1) = .loop .ready none s n #[p] (casn c) (cbod c) d
theorem RfG.stay {M : AMem} {st : List (Nat × AObj)} {vid d : Nat} {s : Slots} {n p : Nat} {c : Code} {V : AObj} {M' M2 : AMem} (h : RfG M st vid d s n p c V M') (h1 : vid < d) (h2 : ∀ q ∈ st, q.1 < d) (h3 : M.next ≤ d) (hn : M'.next ≤ M2.next) (hg : ∀ j, j < M'.next → M2.get j = M'.get j) : RfG M st vid d s n p c V M2 := by
  have := h.nx
  refine ⟨by omega, fun j hj => by rw [hg j (by omega)]; exact h.hold j hj, fun q hq => ?_, by rw [hg _ (by omega)]; exact h.cnt, by rw [hg _ (by omega)]; exact h.defs, by rw [hg _ (by omega)]; exact h.loop⟩
  have hqd := h2 q hq
  rw [hg _ (by omega)]; exact h.stat q hq
theorem RfG.start {M M2 : AMem} {st : List (Nat × AObj)} {vid d : Nat} {s : Slots} {n p : Nat} {c : Code} {V : AObj} (hd : d = M2.next) (h1 : vid < d) (h2 : ∀ q ∈ st, q.1 < d) (h3 : M.next ≤ d) (hold : ∀ j, j < M.next → M2.get j = M.get j) (hb : ∀ q ∈ st, M2.get q.1 = q.2) (hc : M2.get vid = V) :
    RfG M st vid d s n p c V ((M2.alloc .defs).alloc (.loop .ready none s n #[p] (casn c) (cbod c) M2.next)) := by
  subst hd
  refine ⟨by simp, fun j hj => ?_, fun q hq => ?_, ?_, ?_, ?_⟩
  · rw [get_old (by simp; omega), get_old (by omega)]; exact hold j hj
  · have := h2 q hq
    rw [get_old (by simp; omega), get_old (by omega)]; exact hb q hq
  · rw [get_old (by simp; omega), get_old (by omega)]; exact hc
  · rw [get_old (by simp)]; exact get_new
  · exact get_new (M := M2.alloc .defs)
theorem z66 : azero Try.prog 66 = some [.map none] := by kernel_rfl
theorem st66 (a : Option Nat) (id : Nat) : astore Try.prog 66 [.map a] 0 (.map (some id)) = some [.map (some id)] := astore_one (i := _) (by rfl) rfl rfl rfl (by simp)
theorem ld66 (cs : List Value) (off : Nat) : aload Try.prog 66 cs off = cs[off]? := aload_one Try.underlying66 rfl rfl cs off
theorem ld39s (t : Tup) (h : Segh) (b : List UInt8) : aload Try.prog 39 (sgC t h b) 0 = some (.agg t.cells.toArray) := aload_agg (n := 5) Try.underlying39 (i := _) (by rfl) rfl rfl (by rw [sgC_len]; decide)
theorem sgC_7 (t : Tup) (h : Segh) (b : List UInt8) : (sgC t h b)[7]? = some (.int .u32 h.seq) := rfl
theorem sgC_12 (t : Tup) (h : Segh) (b : List UInt8) : (sgC t h b)[12]? = some (asString b) := rfl
theorem alen_map {M : AMem} {id : Nat} {es : List (Value × Value)} (hg : M.get id = .map es) : alen Try.prog M 66 (.map (some id)) = some (.int .i64 es.length) := by simp only [alen, Try.underlying66, hg]
theorem alook66 {M : AMem} {id : Nat} {pl : PL} (hg : M.get id = .map (mE (mP pl))) (k : Int) : ∃ y : Int, alookup Try.prog M 66 (.map (some id)) (.int .i64 k) true = some (.tuple #[.int .u8 y, .bool (decide (k ∈ pl.map Prod.fst))]) ∧ (∀ n : Nat, k = n → k ∈ pl.map Prod.fst → y = (valP pl n).toNat) := by
  have hi : ∃ i, Try.prog.info? 5 = some i ∧ i.zero = some (.int .u8 0) := ⟨_, rfl, rfl⟩
  obtain ⟨i, hi1, hi2⟩ := hi
  have he : easyKey (.int .i64) (.int .i64 k) = true := rfl
  have hf : flat (.int .u8 0) = true := rfl
  have hl : ∀ r, alookup Try.prog M 66 (.map (some id)) (.int .i64 k) true = some (lookRes true r (.int .u8 0)) ↔ r = r ∧ alookup Try.prog M 66 (.map (some id)) (.int .i64 k) true = some (lookRes true r (.int .u8 0)) := fun r => by simp
  have hlook : alookup Try.prog M 66 (.map (some id)) (.int .i64 k) true = some (lookRes true (mFind k (mP pl) 0) (.int .u8 0)) := by
    simp only [alookup, Try.underlying66, Try.underlying3, hg, hi1, hi2, afind_mE, he, hf, and_self, if_true]
  cases hm : mFind k (mP pl) 0 with
  | none =>
    have hn : k ∉ pl.map Prod.fst := by rw [← mP_keys]; exact mFind_none.1 hm
    refine ⟨0, ?_, fun n _ h => absurd h hn⟩
    rw [hlook, hm]; simp [lookRes, hn]
  | some p =>
    obtain ⟨j, v⟩ := p
    have hmem : k ∈ pl.map Prod.fst := by
      have := (mFind_some hm).2
      rw [← mP_keys]
      exact List.mem_map.2 ⟨(k, v), List.mem_of_getElem? this, rfl⟩
    have hv : ∃ c : UInt8, v = .int .u8 c.toNat := by
      have := List.mem_of_getElem? (mFind_some hm).2
      simp only [mP, List.mem_map] at this
      obtain ⟨q, _, hq⟩ := this
      cases hq
      exact ⟨_, rfl⟩
    obtain ⟨c, rfl⟩ := hv
    refine ⟨c.toNat, ?_, fun n hn _ => ?_⟩
    · rw [hlook, hm]; simp [lookRes, hmem]
    · subst hn
      have := mFind_mP hm
      injection this with _ h2
theorem amupd66 {M : AMem} {id : Nat} {m : List (Int × Value)} (hg : M.get id = .map (mE m)) (k : Int) (v : Value) : amapUpdate Try.prog M 66 (.map (some id)) (.int .i64 k) v = some (M.set id (.map (mE (mSet m k v)))) := by
  have he : easyKey (.int .i64) (.int .i64 k) = true := rfl
  simp only [amapUpdate, Try.underlying66, Try.underlying3, hg, he, if_true, aset_mE]
  rfl
theorem seg_u32 {l : List UInt8} {t : Tup} {h : Segh} {b : List UInt8} (hs : segGet l = some (t, h, b)) : u32 h.seq := by
  unfold segGet at hs
  split at hs
  · cases hs
  split at hs
  · cases hs
  split at hs
  · cases hs
  · rename_i h3
    cases hs
    have h3 : (tcpGetF (ipGetF (ethGetF l).2.1).1.src (ipGetF (ethGetF l).2.1).1.dst (ipGetF (ethGetF l).2.1).2.1).2.2 = 0 := Decidable.not_not.1 h3
    unfold tcpGetF at h3 ⊢
    split
    · rename_i h0
      have := tcpE_0 h0
      exact numF_bound4 _ (part_length (by omega))
    · exact u32_0
theorem segs_u32 {os : List Ou} {i : Nat} {t : Tup} {h : Segh} {b : List UInt8} (hs : (segsF os)[i]? = some (t, h, b)) : u32 h.seq := by
  have := List.mem_of_getElem? hs
  unfold segsF segsL at this
  rw [List.mem_filterMap] at this
  obtain ⟨f, _, hf⟩ := this
  exact seg_u32 hf
def sp11 : ASpec := fun args M K => ∃ (lv : Value) (t : Tup) (start : Int) (os : List Ou), args = [lv, .agg t.cells.toArray, .int .u32 start] ∧ OusR M lv os ∧ fewO os ∧ dataN (os.flatMap Ou.frames) ≤ 1000000 ∧ u32 start ∧ K (.ret (asString (payF t start (segsF os)))) M
noncomputable def S11 : FuncId → ASpec := tab [(29, sp29), (39, sp39), (30, sp30)]
theorem S11_29 : S11 29 = sp29 := rfl
theorem S11_39 : S11 39 = sp39 := rfl
theorem S11_30 : S11 30 = sp30 := rfl
theorem S11_ok : ∀ f, Sound Try.prog f (S11 f) := tab_sound _ (by simp [f29_ok, f39_ok, f30_ok])
set_option maxHeartbeats 2000000 in
theorem f11_ok : Sound Try.prog 11 sp11 := by
 refine Sound.of_awpM (c := bodyOf Try.f11) Try.func11 rfl rfl rfl ?_
 rintro args M K ⟨lv, t, start, os, rfl, hos, hb, hdn, hstart, hK⟩
 refine ⟨Nat.le_of_ble_eq_true rfl, ?_⟩
 have hS := S11_ok
 have e0 : entry [lv, .agg t.cells.toArray, .int .u32 start] 0 = lv := rfl
 have e1 : entry [lv, .agg t.cells.toArray, .int .u32 start] 1 = .agg t.cells.toArray := rfl
 have e2 : entry [lv, .agg t.cells.toArray, .int .u32 start] 2 = .int .u32 start := rfl
 have hbn : bodyN (segsF os) ≤ 1000000 := Nat.le_trans (bodyN_segs _) hdn
 refine at_seq rfl ?_
 refine at_region hS rfl (by kernel_rfl) ?_
 refine s_op (a_box (by simp only [Zu, Nat.reduceEqDiff, ↓reduceIte, hcells_agg, newPtr, AMem.next_alloc, e1] <;> rfl)) rfl ?_
 refine s_op (a_box (by simp only [Zu, Nat.reduceEqDiff, ↓reduceIte, hcells_agg, newPtr, AMem.next_alloc, e2] <;> rfl)) rfl ?_
 refine s_op (a_as (by simp only [ev_const] <;> rfl)) rfl ?_
 refine s_end (fun s' hs' => ?_)
 replace e0 := kp 0 hs' e0
 have e4 := congrFun hs' 4
 have e5 := congrFun hs' 5
 simp only [Zu, Nat.reduceEqDiff, ↓reduceIte, newPtr, AMem.next_alloc] at e4 e5
 clear hs'
 try clear e1 e2
 refine o_norm ?_
 refine q_mem (fun M1 hEM1 => ?_)
 have hnM1 := congrArg AMem.next hEM1; simp only [Zn, Nat.add_assoc, Nat.reduceAdd] at hnM1
 have hnxM1 : M.next ≤ M1.next := by have := (Nat.le_refl M.next); omega
 have holdM1 : ∀ j, j < M.next → M1.get j = M.get j := fun j hj => by have := (Nat.le_refl M.next); rw [hEM1]; simp (disch := first | (refine Zx ?_; simp only [Zn]; done) | ((try simp only [Zn]); omega)) only [Zg]; done
 have gM1_0 := congrArg (fun m => AMem.get m M.next) hEM1; try simp (disch := first | (refine Zx ?_; simp only [Zn]; done) | ((try simp only [Zn]); omega)) only [Zg, Nat.add_assoc, Nat.reduceAdd] at gM1_0
 have gM1_1 := congrArg (fun m => AMem.get m (M.next + 1)) hEM1; try simp (disch := first | (refine Zx ?_; simp only [Zn]; done) | ((try simp only [Zn]); omega)) only [Zg, Nat.add_assoc, Nat.reduceAdd] at gM1_1
 clear hEM1
 refine t_norm ?_
 refine at_seq rfl ?_
 refine at_region hS rfl (by kernel_rfl) ?_
 refine s_op (a_mkmap) rfl ?_
 refine s_op (a_alloc z66) rfl ?_
 refine s_op (a_store (by simp only [Zu, Nat.reduceEqDiff, ↓reduceIte, st66, newPtr, AMem.next_alloc, gM1_0, gM1_1] <;> rfl) (by simp (disch := first | (refine Zx ?_; simp only [Zn]; done) | ((try simp only [Zn]); omega)) only [Zg, st66, newPtr, gM1_0, gM1_1] <;> rfl) (by simp only [Zu, Nat.reduceEqDiff, ↓reduceIte, st66, newPtr, AMem.next_alloc, gM1_0, gM1_1] <;> rfl) (by simp only [st66, newPtr, AMem.next_alloc, gM1_0, gM1_1] <;> rfl)) rfl ?_
 refine s_end (fun s' hs' => ?_)
 replace e0 := kp 0 hs' e0
 replace e4 := kp 4 hs' e4
 replace e5 := kp 5 hs' e5
 have e7 := congrFun hs' 7
 simp only [Zu, Nat.reduceEqDiff, ↓reduceIte, newPtr, AMem.next_alloc] at e7
 clear hs'
 refine o_norm ?_
 refine q_mem (fun M2 hEM2 => ?_)
 have hnM2 := congrArg AMem.next hEM2; simp only [Zn, Nat.add_assoc, Nat.reduceAdd] at hnM2
 have hnxM2 : M.next ≤ M2.next := by have := hnxM1; omega
 have holdM2 : ∀ j, j < M.next → M2.get j = M.get j := fun j hj => by have := hnxM1; rw [hEM2]; simp (disch := first | (refine Zx ?_; simp only [Zn]; done) | ((try simp only [Zn]); omega)) only [Zg]; exact holdM1 j hj
 have gM2_0 := congrArg (fun m => AMem.get m M.next) hEM2; try simp (disch := first | (refine Zx ?_; simp only [Zn]; done) | ((try simp only [Zn]); omega)) only [Zg, Nat.add_assoc, Nat.reduceAdd, gM1_0, gM1_1] at gM2_0
 have gM2_1 := congrArg (fun m => AMem.get m (M.next + 1)) hEM2; try simp (disch := first | (refine Zx ?_; simp only [Zn]; done) | ((try simp only [Zn]); omega)) only [Zg, Nat.add_assoc, Nat.reduceAdd, gM1_0, gM1_1] at gM2_1
 have gM2_2 := congrArg (fun m => AMem.get m M1.next) hEM2; try simp (disch := first | (refine Zx ?_; simp only [Zn]; done) | ((try simp only [Zn]); omega)) only [Zg, Nat.add_assoc, Nat.reduceAdd, gM1_0, gM1_1] at gM2_2
 have gM2_3 := congrArg (fun m => AMem.get m (M1.next + 1)) hEM2; try simp (disch := first | (refine Zx ?_; simp only [Zn]; done) | ((try simp only [Zn]); omega)) only [Zg, Nat.add_assoc, Nat.reduceAdd, gM1_0, gM1_1] at gM2_3
 clear hEM2
 refine t_norm ?_
 refine at_seq rfl ?_
 refine at_seq rfl ?_
 refine at_region hS rfl (by kernel_rfl) ?_
 refine s_op (a_mv e0) rfl ?_
 refine s_call (by simp only [Zu, Nat.reduceEqDiff, ↓reduceIte, newPtr, AMem.next_alloc, gM2_0, gM2_1, gM2_2, gM2_3] <;> rfl) (by simp only [Zu, Nat.reduceEqDiff, ↓reduceIte, Zm, newPtr, AMem.next_alloc, gM2_0, gM2_1, gM2_2, gM2_3] <;> rfl) ?_
 rw [S11_29]; refine ⟨lv, rfl, hos.cells1, ?_⟩
 show EA _ _ _ _ _ _
 refine s_end (fun s' hs' => ?_)
 replace e4 := kp 4 hs' e4
 replace e5 := kp 5 hs' e5
 replace e7 := kp 7 hs' e7
 have e18 := congrFun hs' 18
 simp only [Zu, Nat.reduceEqDiff, ↓reduceIte, newPtr, AMem.next_alloc] at e18
 clear hs'
 try clear e0
 refine o_norm ?_
 refine q_mem (fun M3 hEM3 => ?_)
 have hnM3 := congrArg AMem.next hEM3; simp only [Zn, Nat.add_assoc, Nat.reduceAdd] at hnM3
 have hnxM3 : M.next ≤ M3.next := by have := hnxM2; omega
 have holdM3 : ∀ j, j < M.next → M3.get j = M.get j := fun j hj => by have := hnxM2; rw [hEM3]; simp (disch := first | (refine Zx ?_; simp only [Zn]; done) | ((try simp only [Zn]); omega)) only [Zg]; exact holdM2 j hj
 have gM3_0 := congrArg (fun m => AMem.get m M.next) hEM3; try simp (disch := first | (refine Zx ?_; simp only [Zn]; done) | ((try simp only [Zn]); omega)) only [Zg, Nat.add_assoc, Nat.reduceAdd, gM2_0, gM2_1, gM2_2, gM2_3] at gM3_0
 have gM3_1 := congrArg (fun m => AMem.get m (M.next + 1)) hEM3; try simp (disch := first | (refine Zx ?_; simp only [Zn]; done) | ((try simp only [Zn]); omega)) only [Zg, Nat.add_assoc, Nat.reduceAdd, gM2_0, gM2_1, gM2_2, gM2_3] at gM3_1
 have gM3_2 := congrArg (fun m => AMem.get m M1.next) hEM3; try simp (disch := first | (refine Zx ?_; simp only [Zn]; done) | ((try simp only [Zn]); omega)) only [Zg, Nat.add_assoc, Nat.reduceAdd, gM2_0, gM2_1, gM2_2, gM2_3] at gM3_2
 have gM3_3 := congrArg (fun m => AMem.get m (M1.next + 1)) hEM3; try simp (disch := first | (refine Zx ?_; simp only [Zn]; done) | ((try simp only [Zn]); omega)) only [Zg, Nat.add_assoc, Nat.reduceAdd, gM2_0, gM2_1, gM2_2, gM2_3] at gM3_3
 have gM3_4 := congrArg (fun m => AMem.get m M2.next) hEM3; try simp (disch := first | (refine Zx ?_; simp only [Zn]; done) | ((try simp only [Zn]); omega)) only [Zg, Nat.add_assoc, Nat.reduceAdd, gM2_0, gM2_1, gM2_2, gM2_3] at gM3_4
 clear hEM3
 refine t_norm ?_
 refine at_block rfl ?_
 refine at_rf (ps := #[19]) hS rfl rfl e18 ?_
 rw [S11_39]
 have hsl := segsL_le (os.flatMap Ou.frames)
 have hb2 := hb.2.1
 refine ⟨M3.next + 1, M2.next, true, lv, os, M, (fun i M' => RfG M [(M.next, .cells t.cells true), (M.next + 1, .cells [.int .u32 start] true), (M1.next + 1, .cells [.map (some M1.next)] true), (M2.next, .cells [lv] true)] M1.next M3.next s' Try.f11.ntmps 19 (cin (csnd (cfst (csnd (csnd (bodyOf Try.f11)))))) (.map (mE (mP (payL t start ((segsF os).take i))))) M'), rfl, hos, hb, fun f hf => by have := dataN_mem hf; omega, RfG.start rfl (by omega) (by intro q hq; simp only [List.mem_cons, List.not_mem_nil, or_false] at hq; rcases hq with rfl | rfl | rfl | rfl <;> simp only <;> omega) (by omega) holdM3 (by intro q hq; simp only [List.mem_cons, List.not_mem_nil, or_false] at hq; rcases hq with rfl | rfl | rfl | rfl; exact gM3_0; exact gM3_1; exact gM3_3; exact gM3_4) gM3_2, fun i M' h => ⟨by have := h.nx; simp; omega, by have := h.nx; omega, h.hold, h.stat (M2.next, .cells [lv] true) (by simp)⟩, fun i M' M'' h hn hg => h.stay (by omega) (by intro q hq; simp only [List.mem_cons, List.not_mem_nil, or_false] at hq; rcases hq with rfl | rfl | rfl | rfl <;> simp only <;> omega) (by omega) hn hg, ?_, ?_⟩
 ·
  intro i MR tt h b hat hI
  refine ⟨none, s', _, #[19], _, _, M3.next, hI.loop, rfl, fun r => ?_⟩
  refine at_slots (fun sR hsR => ?_)
  have e4 : sR 4 = .pointer (some ⟨M.next, 0, none⟩) := by rw [hsR]; exact e4
  have e5 : sR 5 = .pointer (some ⟨M.next + 1, 0, none⟩) := by rw [hsR]; exact e5
  have e7 : sR 7 = .pointer (some ⟨M1.next + 1, 0, none⟩) := by rw [hsR]; exact e7
  have e19 : sR 19 = .agg (sgC tt h b).toArray := by rw [hsR]; rfl
  have g0 := hI.stat (M.next, .cells t.cells true) (by simp)
  have g1 := hI.stat (M.next + 1, .cells [.int .u32 start] true) (by simp)
  have g2 := hI.cnt
  have g3 := hI.stat (M1.next + 1, .cells [.map (some M1.next)] true) (by simp)
  have g4 := hI.stat (M2.next, .cells [lv] true) (by simp)
  have g5 := hI.defs
  have g6 := hI.loop
  simp only at g0 g1 g3 g4
  have holdMR := hI.hold
  have hnbR := hI.nx
  have hnxMR : M.next ≤ MR.next := by omega
  have hsq := segs_u32 hat
  have hpn := payL_snoc (t := t) (start := start) hat
  have hpl := payL_len t start ((segsF os).take i)
  have hbt := bodyN_take hat
  simp only at hbt
  generalize payL t start ((segsF os).take i) = pl at *
  refine at_region hS rfl (by kernel_rfl) ?_
  refine s_op (a_alloc z71) rfl ?_
  refine s_op (a_store (by simp only [Zu, Nat.reduceEqDiff, ↓reduceIte, st71, newPtr, AMem.next_alloc, g0, g1, g2, g3, g4, g5, g6, e19] <;> rfl) (by simp (disch := first | (refine Zx ?_; simp only [Zn]; done) | ((try simp only [Zn]); omega)) only [Zg, st71, newPtr, g0, g1, g2, g3, g4, g5, g6, e19] <;> rfl) e19 (by simp only [st71, newPtr, AMem.next_alloc, g0, g1, g2, g3, g4, g5, g6, e19] <;> rfl)) rfl ?_
  refine s_end (fun s' hs' => ?_)
  replace e4 := kp 4 hs' e4
  replace e5 := kp 5 hs' e5
  replace e7 := kp 7 hs' e7
  have e8 := congrFun hs' 8
  simp only [Zu, Nat.reduceEqDiff, ↓reduceIte, newPtr, AMem.next_alloc] at e8
  clear hs'
  try clear e19
  refine o_norm ?_
  refine q_mem (fun M4 hEM4 => ?_)
  have hnM4 := congrArg AMem.next hEM4; simp only [Zn, Nat.add_assoc, Nat.reduceAdd] at hnM4
  have hnxM4 : M.next ≤ M4.next := by have := hnxMR; omega
  have holdM4 : ∀ j, j < M.next → M4.get j = M.get j := fun j hj => by have := hnxMR; rw [hEM4]; simp (disch := first | (refine Zx ?_; simp only [Zn]; done) | ((try simp only [Zn]); omega)) only [Zg]; exact holdMR j hj
  have gM4_0 := congrArg (fun m => AMem.get m M.next) hEM4; try simp (disch := first | (refine Zx ?_; simp only [Zn]; done) | ((try simp only [Zn]); omega)) only [Zg, Nat.add_assoc, Nat.reduceAdd, g0, g1, g2, g3, g4, g5, g6] at gM4_0
  have gM4_1 := congrArg (fun m => AMem.get m (M.next + 1)) hEM4; try simp (disch := first | (refine Zx ?_; simp only [Zn]; done) | ((try simp only [Zn]); omega)) only [Zg, Nat.add_assoc, Nat.reduceAdd, g0, g1, g2, g3, g4, g5, g6] at gM4_1
  have gM4_2 := congrArg (fun m => AMem.get m M1.next) hEM4; try simp (disch := first | (refine Zx ?_; simp only [Zn]; done) | ((try simp only [Zn]); omega)) only [Zg, Nat.add_assoc, Nat.reduceAdd, g0, g1, g2, g3, g4, g5, g6] at gM4_2
  have gM4_3 := congrArg (fun m => AMem.get m (M1.next + 1)) hEM4; try simp (disch := first | (refine Zx ?_; simp only [Zn]; done) | ((try simp only [Zn]); omega)) only [Zg, Nat.add_assoc, Nat.reduceAdd, g0, g1, g2, g3, g4, g5, g6] at gM4_3
  have gM4_4 := congrArg (fun m => AMem.get m M2.next) hEM4; try simp (disch := first | (refine Zx ?_; simp only [Zn]; done) | ((try simp only [Zn]); omega)) only [Zg, Nat.add_assoc, Nat.reduceAdd, g0, g1, g2, g3, g4, g5, g6] at gM4_4
  have gM4_5 := congrArg (fun m => AMem.get m M3.next) hEM4; try simp (disch := first | (refine Zx ?_; simp only [Zn]; done) | ((try simp only [Zn]); omega)) only [Zg, Nat.add_assoc, Nat.reduceAdd, g0, g1, g2, g3, g4, g5, g6] at gM4_5
  have gM4_6 := congrArg (fun m => AMem.get m (M3.next + 1)) hEM4; try simp (disch := first | (refine Zx ?_; simp only [Zn]; done) | ((try simp only [Zn]); omega)) only [Zg, Nat.add_assoc, Nat.reduceAdd, g0, g1, g2, g3, g4, g5, g6] at gM4_6
  have gM4_7 := congrArg (fun m => AMem.get m MR.next) hEM4; try simp (disch := first | (refine Zx ?_; simp only [Zn]; done) | ((try simp only [Zn]); omega)) only [Zg, Nat.add_assoc, Nat.reduceAdd, g0, g1, g2, g3, g4, g5, g6] at gM4_7
  clear hEM4
  refine r_asn gM4_6 ?_
  refine at_mem (fun M5 hEM5 => ?_)
  have hnM5 := congrArg AMem.next hEM5; simp only [Zn, Nat.add_assoc, Nat.reduceAdd] at hnM5
  have hnxM5 : M.next ≤ M5.next := by have := hnxM4; omega
  have holdM5 : ∀ j, j < M.next → M5.get j = M.get j := fun j hj => by have := hnxM4; rw [hEM5]; simp (disch := first | (refine Zx ?_; simp only [Zn]; done) | ((try simp only [Zn]); omega)) only [Zg]; exact holdM4 j hj
  have gM5_0 := congrArg (fun m => AMem.get m M.next) hEM5; try simp (disch := first | (refine Zx ?_; simp only [Zn]; done) | ((try simp only [Zn]); omega)) only [Zg, Nat.add_assoc, Nat.reduceAdd, gM4_0, gM4_1, gM4_2, gM4_3, gM4_4, gM4_5, gM4_6, gM4_7] at gM5_0
  have gM5_1 := congrArg (fun m => AMem.get m (M.next + 1)) hEM5; try simp (disch := first | (refine Zx ?_; simp only [Zn]; done) | ((try simp only [Zn]); omega)) only [Zg, Nat.add_assoc, Nat.reduceAdd, gM4_0, gM4_1, gM4_2, gM4_3, gM4_4, gM4_5, gM4_6, gM4_7] at gM5_1
  have gM5_2 := congrArg (fun m => AMem.get m M1.next) hEM5; try simp (disch := first | (refine Zx ?_; simp only [Zn]; done) | ((try simp only [Zn]); omega)) only [Zg, Nat.add_assoc, Nat.reduceAdd, gM4_0, gM4_1, gM4_2, gM4_3, gM4_4, gM4_5, gM4_6, gM4_7] at gM5_2
  have gM5_3 := congrArg (fun m => AMem.get m (M1.next + 1)) hEM5; try simp (disch := first | (refine Zx ?_; simp only [Zn]; done) | ((try simp only [Zn]); omega)) only [Zg, Nat.add_assoc, Nat.reduceAdd, gM4_0, gM4_1, gM4_2, gM4_3, gM4_4, gM4_5, gM4_6, gM4_7] at gM5_3
  have gM5_4 := congrArg (fun m => AMem.get m M2.next) hEM5; try simp (disch := first | (refine Zx ?_; simp only [Zn]; done) | ((try simp only [Zn]); omega)) only [Zg, Nat.add_assoc, Nat.reduceAdd, gM4_0, gM4_1, gM4_2, gM4_3, gM4_4, gM4_5, gM4_6, gM4_7] at gM5_4
  have gM5_5 := congrArg (fun m => AMem.get m M3.next) hEM5; try simp (disch := first | (refine Zx ?_; simp only [Zn]; done) | ((try simp only [Zn]); omega)) only [Zg, Nat.add_assoc, Nat.reduceAdd, gM4_0, gM4_1, gM4_2, gM4_3, gM4_4, gM4_5, gM4_6, gM4_7] at gM5_5
  have gM5_6 := congrArg (fun m => AMem.get m (M3.next + 1)) hEM5; try simp (disch := first | (refine Zx ?_; simp only [Zn]; done) | ((try simp only [Zn]); omega)) only [Zg, Nat.add_assoc, Nat.reduceAdd, gM4_0, gM4_1, gM4_2, gM4_3, gM4_4, gM4_5, gM4_6, gM4_7] at gM5_6
  have gM5_7 := congrArg (fun m => AMem.get m MR.next) hEM5; try simp (disch := first | (refine Zx ?_; simp only [Zn]; done) | ((try simp only [Zn]); omega)) only [Zg, Nat.add_assoc, Nat.reduceAdd, gM4_0, gM4_1, gM4_2, gM4_3, gM4_4, gM4_5, gM4_6, gM4_7] at gM5_7
  clear hEM5
  refine at_block rfl ?_
  refine at_seq rfl ?_
  refine at_seq rfl ?_
  refine at_region hS rfl (by kernel_rfl) ?_
  refine s_op (a_fa (by simp only [Zu, Nat.reduceEqDiff, ↓reduceIte, fa71_0, Nat.zero_add, ld39s, newPtr, AMem.next_alloc, e8] <;> rfl)) rfl ?_
  refine s_op (a_load (by simp only [Zu, Nat.reduceEqDiff, ↓reduceIte, ld39s, ld39, newPtr, AMem.next_alloc, gM5_0, gM5_1, gM5_2, gM5_3, gM5_4, gM5_5, gM5_6, gM5_7] <;> rfl) (by simp (disch := first | (refine Zx ?_; simp only [Zn]; done) | ((try simp only [Zn]); omega)) only [Zg, ld39s, ld39, newPtr, gM5_0, gM5_1, gM5_2, gM5_3, gM5_4, gM5_5, gM5_6, gM5_7] <;> rfl) (by simp only [ld39s, ld39, newPtr, AMem.next_alloc, gM5_0, gM5_1, gM5_2, gM5_3, gM5_4, gM5_5, gM5_6, gM5_7] <;> rfl)) rfl ?_
  refine s_op (a_load e4 (by simp (disch := first | (refine Zx ?_; simp only [Zn]; done) | ((try simp only [Zn]); omega)) only [Zg, ld39s, ld39, newPtr, gM5_0, gM5_1, gM5_2, gM5_3, gM5_4, gM5_5, gM5_6, gM5_7, e4] <;> rfl) (by simp only [ld39s, ld39, newPtr, AMem.next_alloc, gM5_0, gM5_1, gM5_2, gM5_3, gM5_4, gM5_5, gM5_6, gM5_7, e4] <;> rfl)) rfl ?_
  refine s_op (a_tupneq (t := tt) (t' := t) (by simp only [Zu, Nat.reduceEqDiff, ↓reduceIte]) (by simp only [Zu, Nat.reduceEqDiff, ↓reduceIte])) rfl ?_
  refine s_end (fun s' hs' => ?_)
  replace e5 := kp 5 hs' e5
  replace e7 := kp 7 hs' e7
  replace e8 := kp 8 hs' e8
  have e23 := congrFun hs' 23
  simp only [Zu, Nat.reduceEqDiff, ↓reduceIte, newPtr, AMem.next_alloc] at e23
  clear hs'
  try clear e4
  refine o_norm ?_
  refine t_norm ?_
  refine at_cond rfl rfl e23 (fun h4 => ?_) (fun h4 => ?_)
  ·
   try simp only [Zh] at h4
   refine at_exit rfl ?_
   refine t_exit ?_
   refine b_here ?_
   refine r_norm gM5_6 ?_
   refine ⟨rfl, by simp; omega, ⟨by simp; omega, fun j hj => by rw [get_else (by omega)]; exact holdM5 j hj, ?_, ?_, by rw [get_else (by omega)]; exact gM5_5, get_put⟩⟩
   · intro q hq
     simp only [List.mem_cons, List.not_mem_nil, or_false] at hq
     rcases hq with rfl | rfl | rfl | rfl
     · show AMem.get _ M.next = _; rw [get_else (by omega)]; exact gM5_0
     · show AMem.get _ (M.next + 1) = _; rw [get_else (by omega)]; exact gM5_1
     · show AMem.get _ (M1.next + 1) = _; rw [get_else (by omega)]; exact gM5_3
     · show AMem.get _ M2.next = _; rw [get_else (by omega)]; exact gM5_4
   · rw [get_else (by omega), gM5_2, hpn, payStep, if_neg (by simpa using h4)]
  ·
   try simp only [Zh] at h4
   refine at_skip rfl ?_
   refine t_norm ?_
   refine at_seq rfl ?_
   have hlm := alen_map (M := M5) gM5_2
   rw [show (mE (mP pl)).length = pl.length from by simp [mE, mP]] at hlm
   refine at_region hS rfl (by kernel_rfl) ?_
   refine s_op (a_load e5 (by simp (disch := first | (refine Zx ?_; simp only [Zn]; done) | ((try simp only [Zn]); omega)) only [Zg, Nat.zero_add, Nat.reduceAdd, ld23, ld66, sgC_7, hlm, newPtr, gM5_0, gM5_1, gM5_2, gM5_3, gM5_4, gM5_5, gM5_6, gM5_7, e5] <;> rfl) (by simp only [ld23, Zl, Nat.zero_add, Nat.reduceAdd, ld66, sgC_7, hlm, newPtr, AMem.next_alloc, gM5_0, gM5_1, gM5_2, gM5_3, gM5_4, gM5_5, gM5_6, gM5_7, e5] <;> rfl)) rfl ?_
   refine s_op (a_fa (by simp only [Zu, Nat.reduceEqDiff, ↓reduceIte, fa71_1, Nat.zero_add, fa57_2, Nat.reduceAdd, hlm, newPtr, AMem.next_alloc, e8] <;> rfl)) rfl ?_
   refine s_op (a_fa (by simp only [Zu, Nat.reduceEqDiff, ↓reduceIte, fa57_2, Nat.zero_add, fa71_1, Nat.reduceAdd, hlm, newPtr, AMem.next_alloc] <;> rfl)) rfl ?_
   refine s_op (a_load (by simp only [Zu, Nat.reduceEqDiff, ↓reduceIte, Nat.zero_add, Nat.reduceAdd, ld23, ld66, sgC_7, hlm, newPtr, AMem.next_alloc, gM5_0, gM5_1, gM5_2, gM5_3, gM5_4, gM5_5, gM5_6, gM5_7] <;> rfl) (by simp (disch := first | (refine Zx ?_; simp only [Zn]; done) | ((try simp only [Zn]); omega)) only [Zg, Nat.zero_add, Nat.reduceAdd, ld23, ld66, sgC_7, hlm, newPtr, gM5_0, gM5_1, gM5_2, gM5_3, gM5_4, gM5_5, gM5_6, gM5_7] <;> rfl) (by simp only [ld23, Zl, Nat.zero_add, Nat.reduceAdd, ld66, sgC_7, hlm, newPtr, AMem.next_alloc, gM5_0, gM5_1, gM5_2, gM5_3, gM5_4, gM5_5, gM5_6, gM5_7] <;> rfl)) rfl ?_
   refine s_op (a_load e7 (by simp (disch := first | (refine Zx ?_; simp only [Zn]; done) | ((try simp only [Zn]); omega)) only [Zg, Nat.zero_add, Nat.reduceAdd, ld23, ld66, sgC_7, hlm, newPtr, gM5_0, gM5_1, gM5_2, gM5_3, gM5_4, gM5_5, gM5_6, gM5_7, e7] <;> rfl) (by simp only [Nat.zero_add, Nat.reduceAdd, ld23, ld66, sgC_7, hlm, newPtr, AMem.next_alloc, gM5_0, gM5_1, gM5_2, gM5_3, gM5_4, gM5_5, gM5_6, gM5_7, e7] <;> rfl)) rfl ?_
   refine s_op (a_len (by simp (disch := omega) only [Zu, Nat.reduceEqDiff, ↓reduceIte, alen_str, Nat.zero_add, Nat.reduceAdd, hlm, newPtr, AMem.next_alloc, gM5_0, gM5_1, gM5_2, gM5_3, gM5_4, gM5_5, gM5_6, gM5_7] <;> rfl)) rfl ?_
   refine s_call (by simp only [Zu, Nat.reduceEqDiff, ↓reduceIte, Nat.zero_add, Nat.reduceAdd, hlm, newPtr, AMem.next_alloc, gM5_0, gM5_1, gM5_2, gM5_3, gM5_4, gM5_5, gM5_6, gM5_7] <;> rfl) (by simp only [Zu, Nat.reduceEqDiff, ↓reduceIte, Zm, Nat.zero_add, Nat.reduceAdd, hlm, newPtr, AMem.next_alloc, gM5_0, gM5_1, gM5_2, gM5_3, gM5_4, gM5_5, gM5_6, gM5_7] <;> rfl) ?_
   rw [S11_30]; refine ⟨_, _, _, rfl, ⟨hstart, hsq⟩, ?_⟩
   show EA _ _ _ _ _ _
   refine s_as ?_
   refine s_end (fun s' hs' => ?_)
   replace e7 := kp 7 hs' e7
   replace e8 := kp 8 hs' e8
   have e9 := congrFun hs' 9
   simp only [Zu, Nat.reduceEqDiff, ↓reduceIte, newPtr, AMem.next_alloc] at e9
   clear hs'
   try clear e5
   refine o_norm ?_
   have hteq : tupEq tt t = true := by simpa using h4
   have hdf := diffF_bound h.seq (plusF start (max 0 (min (pl.length : Int) 1099511627776)))
   have hoff : -4398046511104 ≤ placeF start h.seq pl.length ∧ placeF start h.seq pl.length ≤ 4398046511104 := by unfold placeF; omega
   have hpn2 : payStep t start pl (tt, h, b) = putS (placeF start h.seq pl.length) pl b := by unfold payStep; rw [if_pos hteq]
   generalize placeF start h.seq pl.length = off at *
   refine t_norm ?_
   refine at_seq rfl ?_
   refine at_region hS rfl (by kernel_rfl) ?_
   refine s_op (a_fa (by simp only [Zu, Nat.reduceEqDiff, ↓reduceIte, fa71_2, Nat.zero_add, newPtr, AMem.next_alloc, e8] <;> rfl)) rfl ?_
   refine s_op (a_load (by simp only [Zu, Nat.reduceEqDiff, ↓reduceIte, Nat.zero_add, ld9, sgC_12, newPtr, AMem.next_alloc, gM5_0, gM5_1, gM5_2, gM5_3, gM5_4, gM5_5, gM5_6, gM5_7] <;> rfl) (by simp (disch := first | (refine Zx ?_; simp only [Zn]; done) | ((try simp only [Zn]); omega)) only [Zg, Nat.zero_add, ld9, sgC_12, newPtr, gM5_0, gM5_1, gM5_2, gM5_3, gM5_4, gM5_5, gM5_6, gM5_7] <;> rfl) (by simp only [ld9, Zl, Nat.zero_add, sgC_12, newPtr, AMem.next_alloc, gM5_0, gM5_1, gM5_2, gM5_3, gM5_4, gM5_5, gM5_6, gM5_7] <;> rfl)) rfl ?_
   refine s_op (a_len (by simp (disch := omega) only [Zu, Nat.reduceEqDiff, ↓reduceIte, alen_str, Nat.zero_add, hlenS, newPtr, AMem.next_alloc, gM5_0, gM5_1, gM5_2, gM5_3, gM5_4, gM5_5, gM5_6, gM5_7] <;> rfl)) rfl ?_
   refine s_op (a_mv (by simp only [ev_const] <;> rfl)) rfl ?_
   refine s_end (fun s' hs' => ?_)
   replace e7 := kp 7 hs' e7
   replace e8 := kp 8 hs' e8
   replace e9 := kp 9 hs' e9
   have e33 := congrFun hs' 33
   have e34 := congrFun hs' 34
   simp only [Zu, Nat.reduceEqDiff, ↓reduceIte, newPtr, AMem.next_alloc] at e33 e34
   clear hs'
   refine o_norm ?_
   refine t_norm ?_
   refine at_block rfl ?_
   refine at_loop rfl (fun km s ML ds => ∃ (q : Nat), s 7 = .pointer (some ⟨M1.next + 1, 0, none⟩) ∧ s 8 = .pointer (some ⟨MR.next, 0, none⟩) ∧ s 9 = .int .i64 off ∧ s 33 = .int .i64 b.length ∧ s 34 = .int .i64 q ∧ q ≤ b.length ∧ ML.get M1.next = .map (mE (mP (putS off pl (b.take q)))) ∧ (∀ j, j ≠ M1.next → ML.get j = M5.get j) ∧ km = b.length - q ∧ M.next ≤ ML.next ∧ M5.next ≤ ML.next ∧ (∀ j, j < M.next → ML.get j = M.get j) ∧ ds = []) (b.length - (0)) ⟨0, (by first | exact e7 | (rw [e7]; rfl) | (simpa using e7)), (by first | exact e8 | (rw [e8]; rfl) | (simpa using e8)), (by first | exact e9 | (rw [e9]; rfl) | (simpa using e9)), (by first | exact e33 | (rw [e33]; rfl) | (simpa using e33)), (by first | exact e34 | (rw [e34]; rfl) | (simpa using e34)), (by omega), (by simpa [putS_nil] using gM5_2), (fun _ _ => rfl), rfl, hnxM5, by omega, holdM5, rfl⟩ ?_
   clear e7 e8 e9 e33 e34
   rintro km s M6 ds ⟨q, e7, e8, e9, e33, e34, hq, gm, hgst, hk, hnxM6, hngM6, holdM6, rfl⟩
   refine at_seq rfl ?_
   refine at_region hS rfl (by kernel_rfl) ?_
   refine s_op (a_bin (by simp (disch := omega) only [Zu, Nat.reduceEqDiff, ↓reduceIte, Zd, reduceCtorEq, abin_lss, ne_eq, not_false_eq_true, gm, e33, e34] <;> rfl)) rfl ?_
   refine s_end (fun s' hs' => ?_)
   replace e7 := kp 7 hs' e7
   replace e8 := kp 8 hs' e8
   replace e9 := kp 9 hs' e9
   replace e33 := kp 33 hs' e33
   replace e34 := kp 34 hs' e34
   have e35 := congrFun hs' 35
   simp only [Zu, Nat.reduceEqDiff, ↓reduceIte, newPtr, AMem.next_alloc] at e35
   clear hs'
   refine o_norm ?_
   refine t_norm ?_
   refine at_seq rfl ?_
   refine at_cond rfl rfl e35 (fun h7 => ?_) (fun h7 => ?_)
   ·
    try simp only [Zh] at h7
    refine at_skip rfl ?_
    refine t_norm ?_
    refine at_seq rfl ?_
    refine t_join (I := fun s MJ ds => s 7 = .pointer (some ⟨M1.next + 1, 0, none⟩) ∧ s 8 = .pointer (some ⟨MR.next, 0, none⟩) ∧ s 9 = .int .i64 off ∧ s 33 = .int .i64 b.length ∧ s 34 = .int .i64 q ∧ MJ.get M1.next = .map (mE (mP (putS off pl (b.take (q + 1))))) ∧ (∀ j, j ≠ M1.next → MJ.get j = M5.get j) ∧ M.next ≤ MJ.next ∧ M6.next ≤ MJ.next ∧ (∀ j, j < M.next → MJ.get j = M.get j) ∧ ds = []) ?_ ?_
    ·
     refine at_block rfl ?_
     refine at_seq rfl ?_
     refine at_region hS rfl (by kernel_rfl) ?_
     refine s_op (a_mv e34) rfl ?_
     refine s_as ?_
     refine s_end (fun s' hs' => ?_)
     replace e7 := kp 7 hs' e7
     replace e8 := kp 8 hs' e8
     replace e9 := kp 9 hs' e9
     have e10 := congrFun hs' 10
     replace e33 := kp 33 hs' e33
     replace e34 := kp 34 hs' e34
     simp only [Zu, Nat.reduceEqDiff, ↓reduceIte, newPtr, AMem.next_alloc] at e10
     clear hs'
     refine o_norm ?_
     refine t_norm ?_
     refine at_seq rfl ?_
     have hql : q < b.length := by omega
     have w3 := (hgst (M1.next + 1) (by omega)).trans gM5_3
     have w7 := (hgst MR.next (by omega)).trans gM5_7
     have htk : b.take (q + 1) = b.take q ++ [b[q]] := take_snoc b q hql
     have htl : (b.take q).length = q := by rw [List.length_take]; omega
     have hps := putS_snoc off pl (b.take q) b[q]
     rw [htl] at hps
     obtain ⟨y, hlk, _⟩ := alook66 (M := M6) gm (off + (q : Int))
     generalize putS off pl (b.take q) = pq at *
     refine at_region hS rfl (by kernel_rfl) ?_
     refine s_op (a_load e7 (by simp (disch := first | (refine Zx ?_; simp only [Zn]; done) | ((try simp only [Zn]); omega)) only [Zg, w3, ld66, List.getElem?_cons_zero, hlk, newPtr, gm, e7] <;> rfl) (by simp only [w3, ld66, List.getElem?_cons_zero, hlk, newPtr, AMem.next_alloc, gm, e7] <;> rfl)) rfl ?_
     refine s_op (a_mv e9) rfl ?_
     refine s_op (a_mv e10) rfl ?_
     refine s_op (a_bin (by simp (disch := ((try simp only [List.length_append, List.length_cons, List.length_nil]); omega)) only [Zu, Nat.reduceEqDiff, ↓reduceIte, Zd, reduceCtorEq, abin_add, abin_aadd, wrap_i64, wrap_u32, wrap_u8, wrap_u64, wrap_i32, wrap_u16, ne_eq, not_false_eq_true, w3, List.getElem?_cons_zero, hlk, gm] <;> rfl)) rfl ?_
     refine s_op (a_look (by simp (disch := omega) only [Zu, Nat.reduceEqDiff, ↓reduceIte, w3, List.getElem?_cons_zero, hlk, newPtr, AMem.next_alloc, gm] <;> rfl)) rfl ?_
     refine s_mv ?_
     refine s_op (a_ext (by simp only [Zu, Nat.reduceEqDiff, ↓reduceIte, w3, List.getElem?_cons_zero, hlk, newPtr, AMem.next_alloc, gm] <;> rfl) (by first | exact ext4_0 | exact ext3_0 | exact ext2_0 | rfl)) rfl ?_
     refine s_op (a_ext (by simp only [Zu, Nat.reduceEqDiff, ↓reduceIte, w3, List.getElem?_cons_zero, hlk, newPtr, AMem.next_alloc, gm] <;> rfl) (by first | exact ext4_1 | exact ext3_1 | exact ext2_1 | rfl)) rfl ?_
     refine s_as ?_
     refine s_as ?_
     refine s_end (fun s' hs' => ?_)
     replace e7 := kp 7 hs' e7
     replace e8 := kp 8 hs' e8
     replace e9 := kp 9 hs' e9
     replace e10 := kp 10 hs' e10
     have e12 := congrFun hs' 12
     replace e33 := kp 33 hs' e33
     replace e34 := kp 34 hs' e34
     simp only [Zu, Nat.reduceEqDiff, ↓reduceIte, newPtr, AMem.next_alloc] at e12
     clear hs'
     refine o_norm ?_
     refine t_norm ?_
     refine at_seq rfl ?_
     by_cases hin : (off + (q : Int)) ∈ pq.map Prod.fst
     ·
      refine at_region hS rfl (by kernel_rfl) ?_
      refine s_op (a_mv e12) rfl ?_
      refine s_op (a_un (by simp (disch := omega) only [Zu, Nat.reduceEqDiff, ↓reduceIte, Zd, reduceCtorEq, aun, wrap_i64, IntKind.signed, hin, gm] <;> rfl)) rfl ?_
      refine s_mv ?_
      refine s_lv ?_
      refine s_lv ?_
      refine s_lv ?_
      refine s_lv ?_
      refine s_op (a_pick (by simp only [Zu, Nat.reduceEqDiff, ↓reduceIte, Zd, reduceCtorEq, hin, gm] <;> rfl) (by simp only [Zu, Nat.reduceEqDiff, ↓reduceIte, Zd, reduceCtorEq, hin, gm] <;> rfl)) rfl ?_
      refine s_end (fun s' hs' => ?_)
      replace e7 := kp 7 hs' e7
      replace e8 := kp 8 hs' e8
      replace e9 := kp 9 hs' e9
      replace e10 := kp 10 hs' e10
      replace e33 := kp 33 hs' e33
      replace e34 := kp 34 hs' e34
      have e52 := congrFun hs' 52
      simp only [Zu, Nat.reduceEqDiff, ↓reduceIte, newPtr, AMem.next_alloc] at e52
      clear hs'
      try clear e12
      refine o_norm ?_
      refine t_norm ?_
      refine at_cond rfl rfl e52 (fun hc => by cases hc) (fun h10 => ?_)
      try simp only [Zh] at h10
      refine at_skip rfl ?_
      refine b_norm ?_
      refine t_norm ?_
      exact ⟨(by first | exact e7 | (rw [e7]; rfl) | (rw [e7]; simp; done)), (by first | exact e8 | (rw [e8]; rfl) | (rw [e8]; simp; done)), (by first | exact e9 | (rw [e9]; rfl) | (rw [e9]; simp; done)), (by first | exact e33 | (rw [e33]; rfl) | (rw [e33]; simp; done)), (by first | exact e34 | (rw [e34]; rfl) | (rw [e34]; simp; done)), (by rw [htk, hps, putB]; first | (rw [if_pos ⟨h10, hin⟩]; assumption) | (rw [if_neg (by first | exact fun h => h10 h.1 | exact fun h => h.2 hin)]; exact gm)), (by first | exact hgst | exact fun j hj => by rw [hsM6 j hj]; exact hgst j hj), hnxM6, by omega, holdM6, rfl⟩
     ·
      refine at_region hS rfl (by kernel_rfl) ?_
      refine s_op (a_mv e12) rfl ?_
      refine s_op (a_un (by simp (disch := omega) only [Zu, Nat.reduceEqDiff, ↓reduceIte, Zd, reduceCtorEq, aun, wrap_i64, IntKind.signed, hin, gm] <;> rfl)) rfl ?_
      refine s_mv ?_
      refine s_tk ?_
      refine s_op (a_mv e9) rfl ?_
      refine s_tk ?_
      refine s_op (a_mv e10) rfl ?_
      refine s_tk ?_
      refine s_op (a_bin (by simp (disch := ((try simp only [List.length_append, List.length_cons, List.length_nil]); omega)) only [Zu, Nat.reduceEqDiff, ↓reduceIte, Zd, reduceCtorEq, abin_add, abin_aadd, wrap_i64, wrap_u32, wrap_u8, wrap_u64, wrap_i32, wrap_u16, ne_eq, not_false_eq_true, hin, gm] <;> rfl)) rfl ?_
      refine s_tk ?_
      refine s_op (a_bin (by simp (disch := omega) only [Zu, Nat.reduceEqDiff, ↓reduceIte, Zd, reduceCtorEq, abin_geq, ne_eq, not_false_eq_true, hin, gm] <;> rfl)) rfl ?_
      refine s_op (a_pick (by simp only [Zu, Nat.reduceEqDiff, ↓reduceIte, Zd, reduceCtorEq, hin, gm] <;> rfl) (by simp only [Zu, Nat.reduceEqDiff, ↓reduceIte, Zd, reduceCtorEq, hin, gm] <;> rfl)) rfl ?_
      refine s_end (fun s' hs' => ?_)
      replace e7 := kp 7 hs' e7
      replace e8 := kp 8 hs' e8
      replace e9 := kp 9 hs' e9
      replace e10 := kp 10 hs' e10
      replace e33 := kp 33 hs' e33
      replace e34 := kp 34 hs' e34
      have e52 := congrFun hs' 52
      simp only [Zu, Nat.reduceEqDiff, ↓reduceIte, newPtr, AMem.next_alloc] at e52
      clear hs'
      try clear e12
      refine o_norm ?_
      refine t_norm ?_
      refine at_cond rfl rfl e52 (fun h10 => ?_) (fun h10 => ?_)
      ·
       try simp only [Zh] at h10
       have hx : aindex Try.prog 9 (asString b) (.int .i64 q) = some (.int .u8 b[q].toNat) := aindex_as Try.underlying9 (by omega) (by simp [hql])
       have hmu := amupd66 (M := M6) gm (off + (q : Int)) (.int .u8 b[q].toNat)
       rw [mSet_mP hin] at hmu
       refine at_draw ⟨[[], [], [], [1, 2], [], [4], [], [4, 5, 6], [0, 1, 2, 3, 4, 5, 6, 7]], [0, 1, 2, 3, 4, 5, 6, 7], [(8, [])]⟩ hS rfl rfl (by kernel_rfl) (by kernel_rfl) ?_
       refine d_start ?_
       refine l_op rfl rfl (a_load e7 (by simp (disch := first | (refine Zx ?_; simp only [Zn]; done) | ((try simp only [Zn]); omega)) only [Zg, w3, w7, ld66, List.getElem?_cons_zero, Nat.zero_add, ld9, sgC_12, hx, hmu, newPtr, gm, e7] <;> rfl) (by simp only [w3, w7, ld66, List.getElem?_cons_zero, Nat.zero_add, ld9, sgC_12, hx, hmu, newPtr, AMem.next_alloc, gm, e7] <;> rfl)) rfl ?_ rfl
       refine l_op rfl rfl (a_mv e9) rfl ?_ rfl
       refine l_op rfl rfl (a_mv e10) rfl ?_ rfl
       refine l_op rfl rfl (a_bin (by simp (disch := ((try simp only [List.length_append, List.length_cons, List.length_nil]); omega)) only [Zu, Nat.reduceEqDiff, ↓reduceIte, Zd, reduceCtorEq, abin_add, abin_aadd, wrap_i64, wrap_u32, wrap_u8, wrap_u64, wrap_i32, wrap_u16, ne_eq, not_false_eq_true, w3, w7, List.getElem?_cons_zero, Nat.zero_add, hx, hmu, gm] <;> rfl)) rfl ?_ rfl
       refine l_op rfl rfl (a_fa (by simp only [Zu, Nat.reduceEqDiff, ↓reduceIte, fa71_2, Nat.zero_add, w3, w7, List.getElem?_cons_zero, hx, hmu, newPtr, AMem.next_alloc, gm, e8] <;> rfl)) rfl ?_ rfl
       refine l_op rfl rfl (a_load (by simp only [Zu, Nat.reduceEqDiff, ↓reduceIte, w3, w7, ld66, List.getElem?_cons_zero, Nat.zero_add, ld9, sgC_12, hx, hmu, newPtr, AMem.next_alloc, gm] <;> rfl) (by simp (disch := first | (refine Zx ?_; simp only [Zn]; done) | ((try simp only [Zn]); omega)) only [Zg, w3, w7, ld66, List.getElem?_cons_zero, Nat.zero_add, ld9, sgC_12, hx, hmu, newPtr, gm] <;> rfl) (by simp only [ld9, Zl, w3, w7, ld66, Nat.zero_add, sgC_12, hx, hmu, newPtr, AMem.next_alloc, gm] <;> rfl)) rfl ?_ rfl
       refine l_op rfl rfl (a_mv e10) rfl ?_ rfl
       refine l_op rfl rfl (a_index (by simp (disch := omega) only [Zu, Nat.reduceEqDiff, ↓reduceIte, w3, w7, List.getElem?_cons_zero, Nat.zero_add, hx, hmu, gm] <;> rfl)) rfl ?_ rfl
       refine l_nil ?_
       refine h_op ?_ rfl rfl rfl ?_
       · refine again_r rfl ?_
         refine again_r rfl ?_
         refine again_l rfl rfl (a_load (by simp only [Zu, Nat.reduceEqDiff, ↓reduceIte, w3, w7, ld66, List.getElem?_cons_zero, Nat.zero_add, ld9, sgC_12, hx, hmu, newPtr, AMem.next_alloc, gm] <;> rfl) (by simp (disch := first | (refine Zx ?_; simp only [Zn]; done) | ((try simp only [Zn]); omega)) only [Zg, w3, w7, ld66, List.getElem?_cons_zero, Nat.zero_add, ld9, sgC_12, hx, hmu, newPtr, gm] <;> rfl) (by simp only [ld9, Zl, w3, w7, ld66, Nat.zero_add, sgC_12, hx, hmu, newPtr, AMem.next_alloc, gm] <;> rfl)) ?_
         refine again_r rfl ?_
         refine again_r rfl ?_
         refine again_r rfl ?_
         refine again_r rfl ?_
         refine again_l rfl rfl (a_load e7 (by simp (disch := first | (refine Zx ?_; simp only [Zn]; done) | ((try simp only [Zn]); omega)) only [Zg, w3, w7, ld66, List.getElem?_cons_zero, Nat.zero_add, ld9, sgC_12, hx, hmu, newPtr, gm, e7] <;> rfl) (by simp only [w3, w7, ld66, List.getElem?_cons_zero, Nat.zero_add, ld9, sgC_12, hx, hmu, newPtr, AMem.next_alloc, gm, e7] <;> rfl)) ?_
         exact again_nil
       refine s_op (a_mupd (by simp (disch := omega) only [Zu, Nat.reduceEqDiff, ↓reduceIte, w3, w7, List.getElem?_cons_zero, Nat.zero_add, hx, hmu, newPtr, AMem.next_alloc, gm] <;> rfl)) rfl ?_
       refine s_end (fun s' hs' => ?_); subst hs'
       refine l_nil ?_
       refine h_end ?_ (fun s' hs' => ?_)
       · exact again_nil
       replace e7 := kp 7 hs' e7
       replace e8 := kp 8 hs' e8
       replace e9 := kp 9 hs' e9
       replace e33 := kp 33 hs' e33
       replace e34 := kp 34 hs' e34
       clear hs'
       try clear e10
       refine o_norm ?_
       refine q_mem (fun M7 hEM7 => ?_)
       have hnM7 := congrArg AMem.next hEM7; simp only [Zn, Nat.add_assoc, Nat.reduceAdd] at hnM7
       have hnxM7 : M.next ≤ M7.next := by have := hnxM6; omega
       have holdM7 : ∀ j, j < M.next → M7.get j = M.get j := fun j hj => by have := hnxM6; rw [hEM7]; simp (disch := first | (refine Zx ?_; simp only [Zn]; done) | ((try simp only [Zn]); omega)) only [Zg]; exact holdM6 j hj
       have hsM7 : ∀ j, j ≠ M1.next → M7.get j = M6.get j := fun j hj => by rw [hEM7, get_else hj]
       have gM7_0 := congrArg (fun m => AMem.get m M1.next) hEM7; try simp (disch := first | (refine Zx ?_; simp only [Zn]; done) | ((try simp only [Zn]); omega)) only [Zg, Nat.add_assoc, Nat.reduceAdd, gm] at gM7_0
       clear hEM7
       refine b_norm ?_
       refine t_norm ?_
       exact ⟨(by first | exact e7 | (rw [e7]; rfl) | (rw [e7]; simp; done)), (by first | exact e8 | (rw [e8]; rfl) | (rw [e8]; simp; done)), (by first | exact e9 | (rw [e9]; rfl) | (rw [e9]; simp; done)), (by first | exact e33 | (rw [e33]; rfl) | (rw [e33]; simp; done)), (by first | exact e34 | (rw [e34]; rfl) | (rw [e34]; simp; done)), (by rw [htk, hps, putB]; first | (rw [if_pos ⟨h10, hin⟩]; assumption) | (rw [if_neg (by first | exact fun h => h10 h.1 | exact fun h => h.2 hin)]; exact gm)), (by first | exact hgst | exact fun j hj => by rw [hsM7 j hj]; exact hgst j hj), hnxM7, by omega, holdM7, rfl⟩
      ·
       try simp only [Zh] at h10
       refine at_skip rfl ?_
       refine b_norm ?_
       refine t_norm ?_
       exact ⟨(by first | exact e7 | (rw [e7]; rfl) | (rw [e7]; simp; done)), (by first | exact e8 | (rw [e8]; rfl) | (rw [e8]; simp; done)), (by first | exact e9 | (rw [e9]; rfl) | (rw [e9]; simp; done)), (by first | exact e33 | (rw [e33]; rfl) | (rw [e33]; simp; done)), (by first | exact e34 | (rw [e34]; rfl) | (rw [e34]; simp; done)), (by rw [htk, hps, putB]; first | (rw [if_pos ⟨h10, hin⟩]; assumption) | (rw [if_neg (by first | exact fun h => h10 h.1 | exact fun h => h.2 hin)]; exact gm)), (by first | exact hgst | exact fun j hj => by rw [hsM6 j hj]; exact hgst j hj), hnxM6, by omega, holdM6, rfl⟩
    ·
     rintro s M8 ds ⟨e7, e8, e9, e33, e34, gm2, hgst2, hnxM8, hngM8, holdM8, rfl⟩
     refine at_region hS rfl (by kernel_rfl) ?_
     refine s_op (a_bin (by simp (disch := ((try simp only [List.length_append, List.length_cons, List.length_nil]); omega)) only [Zu, Nat.reduceEqDiff, ↓reduceIte, Zd, reduceCtorEq, abin_add, abin_aadd, wrap_i64, wrap_u32, wrap_u8, wrap_u64, wrap_i32, wrap_u16, ne_eq, not_false_eq_true, gm2, e34] <;> rfl)) rfl ?_
     refine s_mv ?_
     refine s_end (fun s' hs' => ?_)
     replace e7 := kp 7 hs' e7
     replace e8 := kp 8 hs' e8
     replace e9 := kp 9 hs' e9
     replace e33 := kp 33 hs' e33
     replace e34 := congrFun hs' 34
     simp only [Zu, Nat.reduceEqDiff, ↓reduceIte, newPtr, AMem.next_alloc] at e34
     clear hs'
     refine o_norm ?_
     refine t_norm ?_
     exact ⟨b.length - (q + 1), by omega, q + 1, (by first | exact e7 | (rw [e7]; rfl) | (rw [e7]; simp; done)), (by first | exact e8 | (rw [e8]; rfl) | (rw [e8]; simp; done)), (by first | exact e9 | (rw [e9]; rfl) | (rw [e9]; simp; done)), (by first | exact e33 | (rw [e33]; rfl) | (rw [e33]; simp; done)), (by first | exact e34 | (rw [e34]; rfl) | (rw [e34]; simp; done)), (by omega), gm2, hgst2, rfl, hnxM8, by omega, holdM8, rfl⟩
   ·
    try simp only [Zh] at h7
    have hqe : q = b.length := by omega
    refine at_exit rfl ?_
    refine t_exit ?_
    refine t_exit ?_
    refine b_here ?_
    refine b_norm ?_
    rw [hqe, List.take_length] at gm
    have k0 := (hgst M.next (by omega)).trans gM5_0
    have k1 := (hgst (M.next + 1) (by omega)).trans gM5_1
    have k3 := (hgst (M1.next + 1) (by omega)).trans gM5_3
    have k4 := (hgst M2.next (by omega)).trans gM5_4
    have k5 := (hgst M3.next (by omega)).trans gM5_5
    have k6 := (hgst (M3.next + 1) (by omega)).trans gM5_6
    refine r_norm k6 ?_
    refine ⟨rfl, by simp; omega, ⟨by simp; omega, fun j hj => by rw [get_else (by omega)]; exact holdM6 j hj, ?_, ?_, by rw [get_else (by omega)]; exact k5, get_put⟩⟩
    · intro q hq
      simp only [List.mem_cons, List.not_mem_nil, or_false] at hq
      rcases hq with rfl | rfl | rfl | rfl
      · show AMem.get _ M.next = _; rw [get_else (by omega)]; exact k0
      · show AMem.get _ (M.next + 1) = _; rw [get_else (by omega)]; exact k1
      · show AMem.get _ (M1.next + 1) = _; rw [get_else (by omega)]; exact k3
      · show AMem.get _ M2.next = _; rw [get_else (by omega)]; exact k4
    · rw [get_else (by omega), gm, hpn, hpn2]
 ·
  intro MY hI
  refine rk_done hI.loop ?_
  refine q_mem (fun MZ hMZ => ?_)
  have hnbZ := hI.nx
  have hnxMZ : M.next ≤ MZ.next := by rw [hMZ]; simp; omega
  have hnzZ : M3.next + 2 ≤ MZ.next := by rw [hMZ]; simp; omega
  have holdMZ : ∀ j, j < M.next → MZ.get j = M.get j := fun j hj => by rw [hMZ, get_else (by omega)]; exact hI.hold j hj
  have z2 : MZ.get M1.next = .map (mE (mP (payL t start (segsF os)))) := by rw [hMZ, get_else (by omega), hI.cnt, List.take_length]
  have z3 : MZ.get (M1.next + 1) = .cells [.map (some M1.next)] true := by rw [hMZ, get_else (by omega)]; exact hI.stat (M1.next + 1, .cells [.map (some M1.next)] true) (by simp)
  have z5 : MZ.get M3.next = .defs := by rw [hMZ, get_else (by omega)]; exact hI.defs
  have hpl := payL_len t start (segsF os)
  unfold payF at hK
  generalize payL t start (segsF os) = pl at *
  refine b_norm ?_
  refine t_norm ?_
  refine at_seq rfl ?_
  refine at_region hS rfl (by kernel_rfl) ?_
  refine s_op (a_as (by simp only [ev_const] <;> rfl)) rfl ?_
  refine s_end (fun s' hs' => ?_)
  replace e7 := kp 7 hs' e7
  have e13 := congrFun hs' 13
  simp only [Zu, Nat.reduceEqDiff, ↓reduceIte, newPtr, AMem.next_alloc] at e13
  clear hs'
  refine o_norm ?_
  refine t_norm ?_
  refine at_block rfl ?_
  refine at_loop rfl (fun km s ML ds => ∃ (n : Nat), ∃ (bv : Value), s 7 = .pointer (some ⟨M1.next + 1, 0, none⟩) ∧ s 13 = bv ∧ (∀ j, j < MZ.next → ML.get j = MZ.get j) ∧ (∀ j, j < n → (j : Int) ∈ pl.map Prod.fst) ∧ Own ML MZ.next 1 bv n (byteCells ((List.range n).map (valP pl))) ∧ km = pl.length + 1 - n ∧ M.next ≤ ML.next ∧ MZ.next ≤ ML.next ∧ (∀ j, j < M.next → ML.get j = M.get j) ∧ ds = [M3.next]) (pl.length + 1 - (0)) ⟨0, .slice none 0 0, (by first | exact e7 | (rw [e7]; rfl) | (simpa using e7)), (by first | exact e13 | (rw [e13]; rfl) | (simpa using e13)), (fun _ _ => rfl), (fun j h => by omega), (Own.nil _ _ _), rfl, hnxMZ, by omega, holdMZ, rfl⟩ ?_
  clear e7 e13
  rintro km s M9 ds ⟨n, bv, e7, e13, hkz, hall, hown, hk, hnxM9, hngM9, holdM9, rfl⟩
  refine at_block rfl ?_
  refine at_seq rfl ?_
  have w2 := (hkz M1.next (by omega)).trans z2
  have w3 := (hkz (M1.next + 1) (by omega)).trans z3
  have hpg := pig n _ hall
  rw [List.length_map] at hpg
  obtain ⟨y, hlk, hy⟩ := alook66 (M := M9) w2 (n : Int)
  refine at_region hS rfl (by kernel_rfl) ?_
  refine s_op (a_load e7 (by simp (disch := first | (refine Zx ?_; simp only [Zn]; done) | ((try simp only [Zn]); omega)) only [Zg, w3, ld66, List.getElem?_cons_zero, hlk, newPtr, e7] <;> rfl) (by simp only [w3, ld66, List.getElem?_cons_zero, hlk, newPtr, AMem.next_alloc, e7] <;> rfl)) rfl ?_
  refine s_op (a_mv e13) rfl ?_
  refine s_op (a_len (by simp (disch := omega) only [Zu, Nat.reduceEqDiff, ↓reduceIte, alen_str, w3, List.getElem?_cons_zero, Row.len hown.row (P := Try.prog) Try.underlying55, hlk, newPtr, AMem.next_alloc] <;> rfl)) rfl ?_
  refine s_op (a_look (by simp (disch := omega) only [Zu, Nat.reduceEqDiff, ↓reduceIte, w3, List.getElem?_cons_zero, hlk, newPtr, AMem.next_alloc] <;> rfl)) rfl ?_
  refine s_mv ?_
  refine s_op (a_ext (by simp only [Zu, Nat.reduceEqDiff, ↓reduceIte, w3, List.getElem?_cons_zero, hlk, newPtr, AMem.next_alloc] <;> rfl) (by first | exact ext4_0 | exact ext3_0 | exact ext2_0 | rfl)) rfl ?_
  refine s_op (a_ext (by simp only [Zu, Nat.reduceEqDiff, ↓reduceIte, w3, List.getElem?_cons_zero, hlk, newPtr, AMem.next_alloc] <;> rfl) (by first | exact ext4_1 | exact ext3_1 | exact ext2_1 | rfl)) rfl ?_
  refine s_as ?_
  refine s_as ?_
  refine s_end (fun s' hs' => ?_)
  replace e7 := kp 7 hs' e7
  replace e13 := kp 13 hs' e13
  have e14 := congrFun hs' 14
  have e15 := congrFun hs' 15
  simp only [Zu, Nat.reduceEqDiff, ↓reduceIte, newPtr, AMem.next_alloc] at e14 e15
  clear hs'
  refine o_norm ?_
  refine t_norm ?_
  refine at_seq rfl ?_
  refine at_seq rfl ?_
  refine at_region hS rfl (by kernel_rfl) ?_
  refine s_op (a_mv e15) rfl ?_
  refine s_op (a_un (by simp (disch := omega) only [Zu, Nat.reduceEqDiff, ↓reduceIte, Zd, reduceCtorEq, aun, wrap_i64, IntKind.signed] <;> rfl)) rfl ?_
  refine s_end (fun s' hs' => ?_)
  replace e7 := kp 7 hs' e7
  replace e13 := kp 13 hs' e13
  replace e14 := kp 14 hs' e14
  have e70 := congrFun hs' 70
  simp only [Zu, Nat.reduceEqDiff, ↓reduceIte, newPtr, AMem.next_alloc] at e70
  clear hs'
  try clear e15
  refine o_norm ?_
  refine t_norm ?_
  refine at_cond rfl rfl e70 (fun h15 => ?_) (fun h15 => ?_)
  ·
   try simp only [Zh] at h15
   have hin : (n : Int) ∉ pl.map Prod.fst := by simpa using h15
   rw [payOut_eq hall hin] at hK
   refine at_seq rfl ?_
   refine at_region hS rfl (by kernel_rfl) ?_
   refine s_op (a_mv e13) rfl ?_
   refine s_op (a_conv (by simp (disch := omega) only [Zu, Nat.reduceEqDiff, ↓reduceIte, Row.str (P := Try.prog) hown.row Try.underlying55 Try.underlying5 Try.underlying9, newPtr, AMem.next_alloc] <;> rfl)) rfl ?_
   refine s_as ?_
   refine s_end (fun s' hs' => ?_)
   have e6 := congrFun hs' 6
   simp only [Zu, Nat.reduceEqDiff, ↓reduceIte, newPtr, AMem.next_alloc] at e6
   clear hs'
   try clear e13
   refine o_norm ?_
   refine t_norm ?_
   refine at_ret rfl ?_
   refine t_ret ?_
   refine b_ret ?_
   refine t_ret ?_
   refine b_ret ?_
   refine bm_ret (shut_one ((hkz M3.next (by omega)).trans z5)) rfl (ars_cons (ar_tmp e6) ars_nil) ?_
   exact ⟨_, _, hK, Canon.forget rfl (fun j hj => by rw [get_else (by omega)]; exact holdM9 j hj)⟩
  ·
   try simp only [Zh] at h15
   have hin : (n : Int) ∈ pl.map Prod.fst := by simpa using h15
   have hy2 := hy n rfl hin
   subst hy2
   refine at_skip rfl ?_
   refine t_norm ?_
   obtain ⟨bv', M17, hap, hown17, hn17, hf17, hf17'⟩ := app_one (c := [.int .u8 (valP pl n).toNat]) sl55 hown (by omega) (by omega) rfl rfl (by decide)
   refine at_region hS rfl (by kernel_rfl) ?_
   refine s_op (a_mv e13) rfl ?_
   refine s_op (a_mv e14) rfl ?_
   refine s_op (a_bslice (by simp only [Zu, Nat.reduceEqDiff, ↓reduceIte, Zm, Array.toList, newPtr, AMem.next_alloc]; exact abuildSlice_all [_] rfl rfl rfl rfl rfl (by decide) (by decide) rfl (by simp only [List.mem_cons, List.not_mem_nil, or_false, forall_eq_or_imp, forall_eq]; repeat' (first | rfl | apply And.intro)))) rfl ?_
   refine s_op (a_append (by simp only [Zu, Nat.reduceEqDiff, ↓reduceIte, e13]; exact hap)) rfl ?_
   refine s_as ?_
   refine s_end (fun s' hs' => ?_)
   replace e7 := kp 7 hs' e7
   replace e13 := congrFun hs' 13
   simp only [Zu, Nat.reduceEqDiff, ↓reduceIte, newPtr, AMem.next_alloc] at e13
   clear hs'
   try clear e14
   refine o_norm ?_
   have hnx17 : M.next ≤ M17.next := by omega
   have hold17 : ∀ j, j < M.next → M17.get j = M.get j := fun j hj => by rw [hf17 j (by omega)]; exact holdM9 j hj
   have hpg2 := pig (n + 1) (pl.map Prod.fst) (fun j h => by rcases (by omega : j < n ∨ j = n) with h' | h'; exact hall j h'; subst h'; exact hin)
   rw [List.length_map] at hpg2
   refine b_norm ?_
   refine t_norm ?_
   exact ⟨pl.length + 1 - (n + 1), by omega, n + 1, bv', (by first | exact e7 | (rw [e7]; rfl) | (rw [e7]; simp; done)), (by first | exact e13 | (rw [e13]; rfl) | (rw [e13]; simp; done)), (fun j hj => by rw [hf17 j hj]; exact hkz j hj), (fun j h => by rcases (by omega : j < n ∨ j = n) with h' | h'; exact hall j h'; subst h'; exact hin), (by rw [range_snoc, byteCells_append]; exact hown17), rfl, hnx17, by omega, hold17, rfl⟩
end Go.Proofs.Ytdkdkpiemigfkaa
set_option linter.unusedVariables false
set_option linter.unusedSimpArgs false
set_option maxRecDepth 8000
namespace Go.Proofs.Ytdkdkpiemigfkaa
open Go Go.Proofs
def Dj (v w : Value) : Prop := ∀ k o n q, v = .slice (some ⟨k, o, none⟩) n q → ∀ o' n' q', w ≠ .slice (some ⟨k, o', none⟩) n' q'
theorem Dj.nil (w : Value) : Dj (.slice none 0 0) w := fun k o n q h => by cases h
theorem aapp_new {t : TypeId} {M M' : AMem} {e m : Nat} {v y w : Value} {cs2 : List Value} (hs : SlT t e) (h : aappendOp Try.prog M t t v y = some (w, M')) (hsrc : asrc M e y = some (m, cs2)) (hm : 0 < m) : ∃ n q, w = .slice (some ⟨M.next, 0, none⟩) n q := by
  obtain ⟨el, i, z, d, h1, h2, h3, h4, h5, h6, h7, _⟩ := hs
  subst h3
  unfold aappendOp at h
  simp only [h1, h2, h4, hsrc] at h
  have hm0 : ¬ m = 0 := by omega
  cases v with
  | slice a n q =>
    simp only [h5, Zd, aappend, hm0] at h
    split at h
    · split at h
      · cases h; exact ⟨_, _, rfl⟩
      · cases h
    · split at h
      · split at h
        · cases h; exact ⟨_, _, rfl⟩
        · cases h
      · cases h
    · cases h
  | _ => cases h
end Go.Proofs.Ytdkdkpiemigfkaa
