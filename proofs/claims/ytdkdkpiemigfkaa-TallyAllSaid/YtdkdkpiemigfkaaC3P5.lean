/- Part 5 of the proof of the given statement (theorem tallyAll_holds, in the last part): for every input the law returns true, and each argument reads behind the call as it read before. No condition beyond the statement's own. -/
import Derived.Test.YtdkdkpiemigfkaaC3P4
import Derived.Shelf.SlIterI.Nil
import Derived.Shelf.SortM.Plain
import Derived.Shelf.SortM.SortNone
set_option linter.unusedVariables false
set_option linter.unusedSimpArgs false
set_option maxRecDepth 8000
namespace Go.Proofs.Ytdkdkpiemigfkaa
open Go Go.Proofs
theorem not_dec_self {α : Type} [DecidableEq α] (a : α) : (!decide (a = a)) = false := by simp
def sp15 : ASpec := fun args M K => ∃ (a b : Value) (l : List (List UInt8)), args = [a, b] ∧ Row M 1 a l.length (l.map asString) ∧ Row M 1 b l.length (l.map asString) ∧ l.length ≤ 1000000000 ∧ K (.ret (.bool true)) M
theorem f15_ok : Sound Try.prog 15 sp15 := by
 refine Sound.of_awp (c := bodyOf Try.f15) Try.func15 rfl rfl rfl ?_
 rintro args M K ⟨a, b, l, rfl, ha, hb, hl, hK⟩
 refine ⟨Nat.le_of_ble_eq_true rfl, ?_⟩
 have hS := noS_ok Try.prog
 have e0 : entry [a, b] 0 = a := rfl
 have e1 : entry [a, b] 1 = b := rfl
 refine at_seq rfl ?_
 refine at_region hS rfl (by kernel_rfl) ?_
 refine s_op (a_as (by simp only [ev_const] <;> rfl)) rfl ?_
 refine s_end (fun s' hs' => ?_)
 replace e0 := kp 0 hs' e0
 replace e1 := kp 1 hs' e1
 clear hs'
 refine o_norm ?_
 refine t_norm ?_
 refine at_seq rfl ?_
 refine at_seq rfl ?_
 refine at_region hS rfl (by kernel_rfl) ?_
 refine s_op (a_mv e0) rfl ?_
 refine s_op (a_len (by simp (disch := omega) only [Zu, Nat.reduceEqDiff, ↓reduceIte, alen_str, Row.len ha (P := Try.prog) Try.underlying45, Row.len hb (P := Try.prog) Try.underlying45, newPtr, AMem.next_alloc] <;> rfl)) rfl ?_
 refine s_op (a_mv e1) rfl ?_
 refine s_op (a_len (by simp (disch := omega) only [Zu, Nat.reduceEqDiff, ↓reduceIte, alen_str, Row.len ha (P := Try.prog) Try.underlying45, Row.len hb (P := Try.prog) Try.underlying45, newPtr, AMem.next_alloc] <;> rfl)) rfl ?_
 refine s_op (a_bin (by simp (disch := omega) only [Zu, Nat.reduceEqDiff, ↓reduceIte, Zd, reduceCtorEq, abin_neq, abin_aneq, ne_eq, not_false_eq_true] <;> rfl)) rfl ?_
 refine s_end (fun s' hs' => ?_)
 replace e0 := kp 0 hs' e0
 replace e1 := kp 1 hs' e1
 have e10 := congrFun hs' 10
 simp only [Zu, Nat.reduceEqDiff, ↓reduceIte, newPtr, AMem.next_alloc] at e10
 clear hs'
 refine o_norm ?_
 refine t_norm ?_
 refine at_cond rfl rfl e10 (fun hc => by simp at hc) (fun h1 => ?_)
 try simp only [Zh] at h1
 refine at_skip rfl ?_
 refine t_norm ?_
 refine at_seq rfl ?_
 refine at_seq rfl ?_
 refine at_region hS rfl (by kernel_rfl) ?_
 refine s_op (a_as (by simp only [ev_const] <;> rfl)) rfl ?_
 refine s_end (fun s' hs' => ?_)
 replace e0 := kp 0 hs' e0
 replace e1 := kp 1 hs' e1
 have e5 := congrFun hs' 5
 simp only [Zu, Nat.reduceEqDiff, ↓reduceIte, newPtr, AMem.next_alloc] at e5
 clear hs'
 refine o_norm ?_
 refine t_norm ?_
 refine at_block rfl ?_
 refine at_loop rfl (fun km s ML ds => ∃ (i : Nat), s 0 = a ∧ s 1 = b ∧ s 5 = .int .i64 i ∧ i ≤ l.length ∧ km = l.length - i ∧ M.next ≤ ML.next ∧ M.next ≤ ML.next ∧ (∀ j, j < M.next → ML.get j = M.get j) ∧ ds = []) (l.length - (0)) ⟨0, (by first | exact e0 | (rw [e0]; rfl) | (simpa using e0)), (by first | exact e1 | (rw [e1]; rfl) | (simpa using e1)), (by first | exact e5 | (rw [e5]; rfl) | (simpa using e5)), (by omega), rfl, (Nat.le_refl M.next), by omega, (fun _ _ => rfl), rfl⟩ ?_
 clear e0 e1 e5
 rintro km s M1 ds ⟨i, e0, e1, e5, hi, hk, hnxM1, hngM1, holdM1, rfl⟩
 refine at_seq rfl ?_
 refine at_seq rfl ?_
 refine at_region hS rfl (by kernel_rfl) ?_
 refine s_op (a_mv e5) rfl ?_
 refine s_op (a_mv e0) rfl ?_
 refine s_op (a_len (by simp (disch := omega) only [Zu, Nat.reduceEqDiff, ↓reduceIte, alen_str, Row.len ha (P := Try.prog) Try.underlying45, newPtr, AMem.next_alloc] <;> rfl)) rfl ?_
 refine s_op (a_bin (by simp (disch := omega) only [Zu, Nat.reduceEqDiff, ↓reduceIte, Zd, reduceCtorEq, abin_lss, ne_eq, not_false_eq_true] <;> rfl)) rfl ?_
 refine s_end (fun s' hs' => ?_)
 replace e0 := kp 0 hs' e0
 replace e1 := kp 1 hs' e1
 replace e5 := kp 5 hs' e5
 have e14 := congrFun hs' 14
 simp only [Zu, Nat.reduceEqDiff, ↓reduceIte, newPtr, AMem.next_alloc] at e14
 clear hs'
 refine o_norm ?_
 refine t_norm ?_
 refine at_cond rfl rfl e14 (fun h4 => ?_) (fun h4 => ?_)
 ·
  try simp only [Zh] at h4
  refine at_skip rfl ?_
  refine t_norm ?_
  refine at_seq rfl ?_
  refine at_block rfl ?_
  refine at_seq rfl ?_
  have hil : i < l.length := by omega
  obtain ⟨id, off, all, own, hia, hid, hget, hld⟩ := (ha.keep (M' := M1) hnxM1 holdM1).at1 Try.underlying45 (i := _) (by rfl) rfl hil ld9 ⟨_, rfl, rfl⟩ .i64
  obtain ⟨id2, off2, all2, own2, hia2, hid2, hget2, hld2⟩ := (hb.keep (M' := M1) hnxM1 holdM1).at1 Try.underlying45 (i := _) (by rfl) rfl hil ld9 ⟨_, rfl, rfl⟩ .i64
  rw [show (l.map asString)[i]? = some (asString l[i]) from by simp [hil]] at hld hld2
  refine at_draw ⟨[[], [], [0, 1], [0, 1, 2], [], [], [4, 5], [4, 5, 6], [0, 1, 2, 3, 4, 5, 6, 7]], [0, 1, 2, 3, 4, 5, 6, 7, 8], []⟩ hS rfl rfl (by kernel_rfl) (by kernel_rfl) ?_
  refine d_start ?_
  refine l_op rfl rfl (a_mv e0) rfl ?_ rfl
  refine l_op rfl rfl (a_mv e5) rfl ?_ rfl
  refine l_op rfl rfl (a_ia (by simp (disch := omega) only [Zu, Nat.reduceEqDiff, ↓reduceIte, hia, hia2, newPtr, AMem.next_alloc] <;> rfl)) rfl ?_ rfl
  refine l_op rfl rfl (a_load (by simp only [Zu, Nat.reduceEqDiff, ↓reduceIte, hget, hld, hget2, hld2, newPtr, AMem.next_alloc] <;> rfl) (by simp (disch := first | (refine Zx ?_; simp only [Zn]; done) | ((try simp only [Zn]); omega)) only [Zg, hget, hld, hget2, hld2, newPtr] <;> rfl) (by simp only [ld9, Zl, hget, hld, hget2, hld2, newPtr, AMem.next_alloc] <;> rfl)) rfl ?_ rfl
  refine l_op rfl rfl (a_mv e1) rfl ?_ rfl
  refine l_op rfl rfl (a_mv e5) rfl ?_ rfl
  refine l_op rfl rfl (a_ia (by simp (disch := omega) only [Zu, Nat.reduceEqDiff, ↓reduceIte, hia, hia2, newPtr, AMem.next_alloc] <;> rfl)) rfl ?_ rfl
  refine l_op rfl rfl (a_load (by simp only [Zu, Nat.reduceEqDiff, ↓reduceIte, hget, hld, hget2, hld2, newPtr, AMem.next_alloc] <;> rfl) (by simp (disch := first | (refine Zx ?_; simp only [Zn]; done) | ((try simp only [Zn]); omega)) only [Zg, hget, hld, hget2, hld2, newPtr] <;> rfl) (by simp only [ld9, Zl, hget, hld, hget2, hld2, newPtr, AMem.next_alloc] <;> rfl)) rfl ?_ rfl
  refine l_op rfl rfl (a_bin (by simp (disch := omega) only [Zu, Nat.reduceEqDiff, ↓reduceIte, Zd, reduceCtorEq, abin_neq, abin_aneq, ne_eq, not_false_eq_true] <;> rfl)) rfl ?_ rfl
  refine l_nil ?_
  refine h_end ?_ (fun s' hs' => ?_)
  · refine again_r rfl ?_
    refine again_l rfl rfl (a_load (by simp only [Zu, Nat.reduceEqDiff, ↓reduceIte, hget, hld, hget2, hld2, newPtr, AMem.next_alloc] <;> rfl) (by simp (disch := first | (refine Zx ?_; simp only [Zn]; done) | ((try simp only [Zn]); omega)) only [Zg, hget, hld, hget2, hld2, newPtr] <;> rfl) (by simp only [ld9, Zl, hget, hld, hget2, hld2, newPtr, AMem.next_alloc] <;> rfl)) ?_
    refine again_r rfl ?_
    refine again_r rfl ?_
    refine again_r rfl ?_
    refine again_l rfl rfl (a_load (by simp only [Zu, Nat.reduceEqDiff, ↓reduceIte, hget, hld, hget2, hld2, newPtr, AMem.next_alloc] <;> rfl) (by simp (disch := first | (refine Zx ?_; simp only [Zn]; done) | ((try simp only [Zn]); omega)) only [Zg, hget, hld, hget2, hld2, newPtr] <;> rfl) (by simp only [ld9, Zl, hget, hld, hget2, hld2, newPtr, AMem.next_alloc] <;> rfl)) ?_
    refine again_r rfl ?_
    refine again_r rfl ?_
    refine again_r rfl ?_
    exact again_nil
  replace e0 := kp 0 hs' e0
  replace e1 := kp 1 hs' e1
  replace e5 := kp 5 hs' e5
  have e25 := congrFun hs' 25
  simp only [Zu, Nat.reduceEqDiff, ↓reduceIte, newPtr, AMem.next_alloc] at e25
  clear hs'
  refine o_norm ?_
  refine t_norm ?_
  refine at_cond rfl rfl e25 (fun hc => by simp at hc) (fun h6 => ?_)
  try simp only [Zh] at h6
  refine at_skip rfl ?_
  refine b_norm ?_
  refine t_norm ?_
  refine at_region hS rfl (by kernel_rfl) ?_
  refine s_op (a_mv e5) rfl ?_
  refine s_op (a_bin (by simp (disch := ((try simp only [List.length_append, List.length_cons, List.length_nil]); omega)) only [Zu, Nat.reduceEqDiff, ↓reduceIte, Zd, reduceCtorEq, abin_add, abin_aadd, wrap_i64, wrap_u32, wrap_u8, wrap_u64, wrap_i32, wrap_u16, ne_eq, not_false_eq_true] <;> rfl)) rfl ?_
  refine s_as ?_
  refine s_end (fun s' hs' => ?_)
  replace e0 := kp 0 hs' e0
  replace e1 := kp 1 hs' e1
  replace e5 := congrFun hs' 5
  simp only [Zu, Nat.reduceEqDiff, ↓reduceIte, newPtr, AMem.next_alloc] at e5
  clear hs'
  refine o_norm ?_
  refine t_norm ?_
  exact ⟨l.length - (i + 1), by omega, i + 1, (by first | exact e0 | (rw [e0]; rfl) | (rw [e0]; simp; done)), (by first | exact e1 | (rw [e1]; rfl) | (rw [e1]; simp; done)), (by first | exact e5 | (rw [e5]; rfl) | (rw [e5]; simp; done)), (by omega), rfl, hnxM1, by omega, holdM1, rfl⟩
 ·
  try simp only [Zh] at h4
  refine at_exit rfl ?_
  refine t_exit ?_
  refine t_exit ?_
  refine b_here ?_
  refine t_norm ?_
  refine at_seq rfl ?_
  refine at_region hS rfl (by kernel_rfl) ?_
  refine s_op (a_as (by simp only [ev_const] <;> rfl)) rfl ?_
  refine s_end (fun s' hs' => ?_)
  have e4 := congrFun hs' 4
  simp only [Zu, Nat.reduceEqDiff, ↓reduceIte, newPtr, AMem.next_alloc] at e4
  clear hs'
  refine o_norm ?_
  refine t_norm ?_
  refine at_ret rfl ?_
  refine bq_ret rfl (ars_cons (ar_tmp e4) ars_nil) ?_
  exact ⟨_, _, hK, Canon.forget rfl holdM1⟩
def sp20 : ASpec := fun args M K => ∃ (a b : Value) (l : List Int), args = [a, b] ∧ Row M 1 a l.length (l.map (.int .i64)) ∧ Row M 1 b l.length (l.map (.int .i64)) ∧ l.length ≤ 1000000000 ∧ K (.ret (.bool true)) M
theorem f20_ok : Sound Try.prog 20 sp20 := by
 refine Sound.of_awp (c := bodyOf Try.f20) Try.func20 rfl rfl rfl ?_
 rintro args M K ⟨a, b, l, rfl, ha, hb, hl, hK⟩
 refine ⟨Nat.le_of_ble_eq_true rfl, ?_⟩
 have hS := noS_ok Try.prog
 have e0 : entry [a, b] 0 = a := rfl
 have e1 : entry [a, b] 1 = b := rfl
 refine at_seq rfl ?_
 refine at_region hS rfl (by kernel_rfl) ?_
 refine s_op (a_as (by simp only [ev_const] <;> rfl)) rfl ?_
 refine s_end (fun s' hs' => ?_)
 replace e0 := kp 0 hs' e0
 replace e1 := kp 1 hs' e1
 clear hs'
 refine o_norm ?_
 refine t_norm ?_
 refine at_seq rfl ?_
 refine at_seq rfl ?_
 refine at_region hS rfl (by kernel_rfl) ?_
 refine s_op (a_mv e0) rfl ?_
 refine s_op (a_len (by simp (disch := omega) only [Zu, Nat.reduceEqDiff, ↓reduceIte, alen_str, Row.len ha (P := Try.prog) Try.underlying22, Row.len hb (P := Try.prog) Try.underlying22, newPtr, AMem.next_alloc] <;> rfl)) rfl ?_
 refine s_op (a_mv e1) rfl ?_
 refine s_op (a_len (by simp (disch := omega) only [Zu, Nat.reduceEqDiff, ↓reduceIte, alen_str, Row.len ha (P := Try.prog) Try.underlying22, Row.len hb (P := Try.prog) Try.underlying22, newPtr, AMem.next_alloc] <;> rfl)) rfl ?_
 refine s_op (a_bin (by simp (disch := omega) only [Zu, Nat.reduceEqDiff, ↓reduceIte, Zd, reduceCtorEq, abin_neq, abin_aneq, ne_eq, not_false_eq_true] <;> rfl)) rfl ?_
 refine s_end (fun s' hs' => ?_)
 replace e0 := kp 0 hs' e0
 replace e1 := kp 1 hs' e1
 have e10 := congrFun hs' 10
 simp only [Zu, Nat.reduceEqDiff, ↓reduceIte, newPtr, AMem.next_alloc] at e10
 clear hs'
 refine o_norm ?_
 refine t_norm ?_
 refine at_cond rfl rfl e10 (fun hc => by simp at hc) (fun h1 => ?_)
 try simp only [Zh] at h1
 refine at_skip rfl ?_
 refine t_norm ?_
 refine at_seq rfl ?_
 refine at_seq rfl ?_
 refine at_region hS rfl (by kernel_rfl) ?_
 refine s_op (a_as (by simp only [ev_const] <;> rfl)) rfl ?_
 refine s_end (fun s' hs' => ?_)
 replace e0 := kp 0 hs' e0
 replace e1 := kp 1 hs' e1
 have e5 := congrFun hs' 5
 simp only [Zu, Nat.reduceEqDiff, ↓reduceIte, newPtr, AMem.next_alloc] at e5
 clear hs'
 refine o_norm ?_
 refine t_norm ?_
 refine at_block rfl ?_
 refine at_loop rfl (fun km s ML ds => ∃ (i : Nat), s 0 = a ∧ s 1 = b ∧ s 5 = .int .i64 i ∧ i ≤ l.length ∧ km = l.length - i ∧ M.next ≤ ML.next ∧ M.next ≤ ML.next ∧ (∀ j, j < M.next → ML.get j = M.get j) ∧ ds = []) (l.length - (0)) ⟨0, (by first | exact e0 | (rw [e0]; rfl) | (simpa using e0)), (by first | exact e1 | (rw [e1]; rfl) | (simpa using e1)), (by first | exact e5 | (rw [e5]; rfl) | (simpa using e5)), (by omega), rfl, (Nat.le_refl M.next), by omega, (fun _ _ => rfl), rfl⟩ ?_
 clear e0 e1 e5
 rintro km s M1 ds ⟨i, e0, e1, e5, hi, hk, hnxM1, hngM1, holdM1, rfl⟩
 refine at_seq rfl ?_
 refine at_seq rfl ?_
 refine at_region hS rfl (by kernel_rfl) ?_
 refine s_op (a_mv e5) rfl ?_
 refine s_op (a_mv e0) rfl ?_
 refine s_op (a_len (by simp (disch := omega) only [Zu, Nat.reduceEqDiff, ↓reduceIte, alen_str, Row.len ha (P := Try.prog) Try.underlying22, newPtr, AMem.next_alloc] <;> rfl)) rfl ?_
 refine s_op (a_bin (by simp (disch := omega) only [Zu, Nat.reduceEqDiff, ↓reduceIte, Zd, reduceCtorEq, abin_lss, ne_eq, not_false_eq_true] <;> rfl)) rfl ?_
 refine s_end (fun s' hs' => ?_)
 replace e0 := kp 0 hs' e0
 replace e1 := kp 1 hs' e1
 replace e5 := kp 5 hs' e5
 have e14 := congrFun hs' 14
 simp only [Zu, Nat.reduceEqDiff, ↓reduceIte, newPtr, AMem.next_alloc] at e14
 clear hs'
 refine o_norm ?_
 refine t_norm ?_
 refine at_cond rfl rfl e14 (fun h4 => ?_) (fun h4 => ?_)
 ·
  try simp only [Zh] at h4
  refine at_skip rfl ?_
  refine t_norm ?_
  refine at_seq rfl ?_
  refine at_block rfl ?_
  refine at_seq rfl ?_
  have hil : i < l.length := by omega
  obtain ⟨id, off, all, own, hia, hid, hget, hld⟩ := (ha.keep (M' := M1) hnxM1 holdM1).at1 Try.underlying22 (i := _) (by rfl) rfl hil ld3 ⟨_, rfl, rfl⟩ .i64
  obtain ⟨id2, off2, all2, own2, hia2, hid2, hget2, hld2⟩ := (hb.keep (M' := M1) hnxM1 holdM1).at1 Try.underlying22 (i := _) (by rfl) rfl hil ld3 ⟨_, rfl, rfl⟩ .i64
  rw [show (l.map (Value.int .i64))[i]? = some (.int .i64 l[i]) from by simp [hil]] at hld hld2
  refine at_draw ⟨[[], [], [0, 1], [0, 1, 2], [], [], [4, 5], [4, 5, 6], [0, 1, 2, 3, 4, 5, 6, 7]], [0, 1, 2, 3, 4, 5, 6, 7, 8], []⟩ hS rfl rfl (by kernel_rfl) (by kernel_rfl) ?_
  refine d_start ?_
  refine l_op rfl rfl (a_mv e0) rfl ?_ rfl
  refine l_op rfl rfl (a_mv e5) rfl ?_ rfl
  refine l_op rfl rfl (a_ia (by simp (disch := omega) only [Zu, Nat.reduceEqDiff, ↓reduceIte, hia, hia2, newPtr, AMem.next_alloc] <;> rfl)) rfl ?_ rfl
  refine l_op rfl rfl (a_load (by simp only [Zu, Nat.reduceEqDiff, ↓reduceIte, hget, hld, hget2, hld2, newPtr, AMem.next_alloc] <;> rfl) (by simp (disch := first | (refine Zx ?_; simp only [Zn]; done) | ((try simp only [Zn]); omega)) only [Zg, hget, hld, hget2, hld2, newPtr] <;> rfl) (by simp only [ld3, Zl, hget, hld, hget2, hld2, newPtr, AMem.next_alloc] <;> rfl)) rfl ?_ rfl
  refine l_op rfl rfl (a_mv e1) rfl ?_ rfl
  refine l_op rfl rfl (a_mv e5) rfl ?_ rfl
  refine l_op rfl rfl (a_ia (by simp (disch := omega) only [Zu, Nat.reduceEqDiff, ↓reduceIte, hia, hia2, newPtr, AMem.next_alloc] <;> rfl)) rfl ?_ rfl
  refine l_op rfl rfl (a_load (by simp only [Zu, Nat.reduceEqDiff, ↓reduceIte, hget, hld, hget2, hld2, newPtr, AMem.next_alloc] <;> rfl) (by simp (disch := first | (refine Zx ?_; simp only [Zn]; done) | ((try simp only [Zn]); omega)) only [Zg, hget, hld, hget2, hld2, newPtr] <;> rfl) (by simp only [ld3, Zl, hget, hld, hget2, hld2, newPtr, AMem.next_alloc] <;> rfl)) rfl ?_ rfl
  refine l_op rfl rfl (a_bin (by simp (disch := omega) only [Zu, Nat.reduceEqDiff, ↓reduceIte, Zd, reduceCtorEq, abin_neq, abin_aneq, ne_eq, not_false_eq_true] <;> rfl)) rfl ?_ rfl
  refine l_nil ?_
  refine h_end ?_ (fun s' hs' => ?_)
  · refine again_r rfl ?_
    refine again_l rfl rfl (a_load (by simp only [Zu, Nat.reduceEqDiff, ↓reduceIte, hget, hld, hget2, hld2, newPtr, AMem.next_alloc] <;> rfl) (by simp (disch := first | (refine Zx ?_; simp only [Zn]; done) | ((try simp only [Zn]); omega)) only [Zg, hget, hld, hget2, hld2, newPtr] <;> rfl) (by simp only [ld3, Zl, hget, hld, hget2, hld2, newPtr, AMem.next_alloc] <;> rfl)) ?_
    refine again_r rfl ?_
    refine again_r rfl ?_
    refine again_r rfl ?_
    refine again_l rfl rfl (a_load (by simp only [Zu, Nat.reduceEqDiff, ↓reduceIte, hget, hld, hget2, hld2, newPtr, AMem.next_alloc] <;> rfl) (by simp (disch := first | (refine Zx ?_; simp only [Zn]; done) | ((try simp only [Zn]); omega)) only [Zg, hget, hld, hget2, hld2, newPtr] <;> rfl) (by simp only [ld3, Zl, hget, hld, hget2, hld2, newPtr, AMem.next_alloc] <;> rfl)) ?_
    refine again_r rfl ?_
    refine again_r rfl ?_
    refine again_r rfl ?_
    exact again_nil
  replace e0 := kp 0 hs' e0
  replace e1 := kp 1 hs' e1
  replace e5 := kp 5 hs' e5
  have e25 := congrFun hs' 25
  simp only [Zu, Nat.reduceEqDiff, ↓reduceIte, newPtr, AMem.next_alloc] at e25
  clear hs'
  refine o_norm ?_
  refine t_norm ?_
  refine at_cond rfl rfl e25 (fun hc => by simp at hc) (fun h6 => ?_)
  try simp only [Zh] at h6
  refine at_skip rfl ?_
  refine b_norm ?_
  refine t_norm ?_
  refine at_region hS rfl (by kernel_rfl) ?_
  refine s_op (a_mv e5) rfl ?_
  refine s_op (a_bin (by simp (disch := ((try simp only [List.length_append, List.length_cons, List.length_nil]); omega)) only [Zu, Nat.reduceEqDiff, ↓reduceIte, Zd, reduceCtorEq, abin_add, abin_aadd, wrap_i64, wrap_u32, wrap_u8, wrap_u64, wrap_i32, wrap_u16, ne_eq, not_false_eq_true] <;> rfl)) rfl ?_
  refine s_as ?_
  refine s_end (fun s' hs' => ?_)
  replace e0 := kp 0 hs' e0
  replace e1 := kp 1 hs' e1
  replace e5 := congrFun hs' 5
  simp only [Zu, Nat.reduceEqDiff, ↓reduceIte, newPtr, AMem.next_alloc] at e5
  clear hs'
  refine o_norm ?_
  refine t_norm ?_
  exact ⟨l.length - (i + 1), by omega, i + 1, (by first | exact e0 | (rw [e0]; rfl) | (rw [e0]; simp; done)), (by first | exact e1 | (rw [e1]; rfl) | (rw [e1]; simp; done)), (by first | exact e5 | (rw [e5]; rfl) | (rw [e5]; simp; done)), (by omega), rfl, hnxM1, by omega, holdM1, rfl⟩
 ·
  try simp only [Zh] at h4
  refine at_exit rfl ?_
  refine t_exit ?_
  refine t_exit ?_
  refine b_here ?_
  refine t_norm ?_
  refine at_seq rfl ?_
  refine at_region hS rfl (by kernel_rfl) ?_
  refine s_op (a_as (by simp only [ev_const] <;> rfl)) rfl ?_
  refine s_end (fun s' hs' => ?_)
  have e4 := congrFun hs' 4
  simp only [Zu, Nat.reduceEqDiff, ↓reduceIte, newPtr, AMem.next_alloc] at e4
  clear hs'
  refine o_norm ?_
  refine t_norm ?_
  refine at_ret rfl ?_
  refine bq_ret rfl (ars_cons (ar_tmp e4) ars_nil) ?_
  exact ⟨_, _, hK, Canon.forget rfl holdM1⟩
def sp18 : ASpec := fun args M K => ∃ (a b : Value) (l : List Nt), args = [a, b] ∧ NtsR M a l ∧ NtsR M b l ∧ l.length ≤ 1000000000 ∧ K (.ret (.bool true)) M
set_option maxHeartbeats 1000000 in
theorem f18_ok : Sound Try.prog 18 sp18 := by
 refine Sound.of_awp (c := bodyOf Try.f18) Try.func18 rfl rfl rfl ?_
 rintro args M K ⟨a, b, l, rfl, ha, hb, hl, hK⟩
 refine ⟨Nat.le_of_ble_eq_true rfl, ?_⟩
 have hS := noS_ok Try.prog
 have e0 : entry [a, b] 0 = a := rfl
 have e1 : entry [a, b] 1 = b := rfl
 refine at_seq rfl ?_
 refine at_region hS rfl (by kernel_rfl) ?_
 refine s_op (a_as (by simp only [ev_const] <;> rfl)) rfl ?_
 refine s_end (fun s' hs' => ?_)
 replace e0 := kp 0 hs' e0
 replace e1 := kp 1 hs' e1
 clear hs'
 refine o_norm ?_
 refine t_norm ?_
 refine at_seq rfl ?_
 refine at_seq rfl ?_
 refine at_region hS rfl (by kernel_rfl) ?_
 refine s_op (a_mv e0) rfl ?_
 refine s_op (a_len (by simp (disch := omega) only [Zu, Nat.reduceEqDiff, ↓reduceIte, alen_str, NtsR.len ha, NtsR.len hb, newPtr, AMem.next_alloc] <;> rfl)) rfl ?_
 refine s_op (a_mv e1) rfl ?_
 refine s_op (a_len (by simp (disch := omega) only [Zu, Nat.reduceEqDiff, ↓reduceIte, alen_str, NtsR.len ha, NtsR.len hb, newPtr, AMem.next_alloc] <;> rfl)) rfl ?_
 refine s_op (a_bin (by simp (disch := omega) only [Zu, Nat.reduceEqDiff, ↓reduceIte, Zd, reduceCtorEq, abin_neq, abin_aneq, ne_eq, not_false_eq_true] <;> rfl)) rfl ?_
 refine s_end (fun s' hs' => ?_)
 replace e0 := kp 0 hs' e0
 replace e1 := kp 1 hs' e1
 have e10 := congrFun hs' 10
 simp only [Zu, Nat.reduceEqDiff, ↓reduceIte, newPtr, AMem.next_alloc] at e10
 clear hs'
 refine o_norm ?_
 refine t_norm ?_
 refine at_cond rfl rfl e10 (fun hc => by simp at hc) (fun h1 => ?_)
 try simp only [Zh] at h1
 refine at_skip rfl ?_
 refine t_norm ?_
 refine at_seq rfl ?_
 refine at_seq rfl ?_
 refine at_region hS rfl (by kernel_rfl) ?_
 refine s_op (a_as (by simp only [ev_const] <;> rfl)) rfl ?_
 refine s_end (fun s' hs' => ?_)
 replace e0 := kp 0 hs' e0
 replace e1 := kp 1 hs' e1
 have e5 := congrFun hs' 5
 simp only [Zu, Nat.reduceEqDiff, ↓reduceIte, newPtr, AMem.next_alloc] at e5
 clear hs'
 refine o_norm ?_
 refine t_norm ?_
 refine at_block rfl ?_
 refine at_loop rfl (fun km s ML ds => ∃ (i : Nat), s 0 = a ∧ s 1 = b ∧ s 5 = .int .i64 i ∧ i ≤ l.length ∧ km = l.length - i ∧ M.next ≤ ML.next ∧ M.next ≤ ML.next ∧ (∀ j, j < M.next → ML.get j = M.get j) ∧ ds = []) (l.length - (0)) ⟨0, (by first | exact e0 | (rw [e0]; rfl) | (simpa using e0)), (by first | exact e1 | (rw [e1]; rfl) | (simpa using e1)), (by first | exact e5 | (rw [e5]; rfl) | (simpa using e5)), (by omega), rfl, (Nat.le_refl M.next), by omega, (fun _ _ => rfl), rfl⟩ ?_
 clear e0 e1 e5
 rintro km s M1 ds ⟨i, e0, e1, e5, hi, hk, hnxM1, hngM1, holdM1, rfl⟩
 refine at_seq rfl ?_
 refine at_seq rfl ?_
 refine at_region hS rfl (by kernel_rfl) ?_
 refine s_op (a_mv e5) rfl ?_
 refine s_op (a_mv e0) rfl ?_
 refine s_op (a_len (by simp (disch := omega) only [Zu, Nat.reduceEqDiff, ↓reduceIte, alen_str, NtsR.len ha, newPtr, AMem.next_alloc] <;> rfl)) rfl ?_
 refine s_op (a_bin (by simp (disch := omega) only [Zu, Nat.reduceEqDiff, ↓reduceIte, Zd, reduceCtorEq, abin_lss, ne_eq, not_false_eq_true] <;> rfl)) rfl ?_
 refine s_end (fun s' hs' => ?_)
 replace e0 := kp 0 hs' e0
 replace e1 := kp 1 hs' e1
 replace e5 := kp 5 hs' e5
 have e14 := congrFun hs' 14
 simp only [Zu, Nat.reduceEqDiff, ↓reduceIte, newPtr, AMem.next_alloc] at e14
 clear hs'
 refine o_norm ?_
 refine t_norm ?_
 refine at_cond rfl rfl e14 (fun h4 => ?_) (fun h4 => ?_)
 ·
  try simp only [Zh] at h4
  refine at_skip rfl ?_
  refine t_norm ?_
  refine at_seq rfl ?_
  refine at_block rfl ?_
  refine at_seq rfl ?_
  have hil : i < l.length := by omega
  obtain ⟨f, hfi⟩ : ∃ f, l[i]? = some f := ⟨_, List.getElem?_eq_getElem hil⟩
  obtain ⟨id, off, all, own, hia, hid, hget, ha1, ha2, ha3, ha4, ha5⟩ := (ha.keep (M' := M1) hnxM1 holdM1).at hfi .i64
  obtain ⟨id2, off2, all2, own2, hia2, hid2, hget2, hb1, hb2, hb3, hb4, hb5⟩ := (hb.keep (M' := M1) hnxM1 holdM1).at hfi .i64
  refine at_draw ⟨[[], [], [0, 1], [0, 1, 2], [0, 1, 2, 3], [], [], [5, 6], [5, 6, 7], [5, 6, 7, 8], [0, 1, 2, 3, 4, 5, 6, 7, 8, 9], [0, 1, 2, 3, 4, 5, 6, 7, 8, 9, 10], [0, 1, 2, 3, 4, 5, 6, 7, 8, 9, 10, 11], [0, 1, 2, 3, 4, 5, 6, 7, 8, 9, 10, 11], [0, 1, 2, 3, 4, 5, 6, 7, 8, 9, 10, 11, 12, 13], [0, 1, 2, 3, 4, 5, 6, 7, 8, 9, 10, 11, 12, 13, 14], [0, 1, 2, 3, 4, 5, 6, 7, 8, 9, 10, 11, 12, 13, 14, 15], [0, 1, 2, 3, 4, 5, 6, 7, 8, 9, 10, 11], [0, 1, 2, 3, 4, 5, 6, 7, 8, 9, 10, 11], [0, 1, 2, 3, 4, 5, 6, 7, 8, 9, 10, 11, 17, 18], [0, 1, 2, 3, 4, 5, 6, 7, 8, 9, 10, 11, 17, 18, 19], [0, 1, 2, 3, 4, 5, 6, 7, 8, 9, 10, 11, 17, 18, 19, 20], [0, 1, 2, 3, 4, 5, 6, 7, 8, 9, 10, 11, 12, 13, 14, 15, 16, 17, 18, 19, 20, 21], [0, 1, 2, 3, 4, 5, 6, 7, 8, 9, 10, 11, 12, 13, 14, 15, 16, 17, 18, 19, 20, 21, 22], [0, 1, 2, 3, 4, 5, 6, 7, 8, 9, 10, 11, 12, 13, 14, 15, 16, 17, 18, 19, 20, 21, 22, 23], [0, 1, 2, 3, 4, 5, 6, 7, 8, 9, 10, 11, 12, 13, 14, 15, 16, 17, 18, 19, 20, 21, 22, 23, 24], [0, 1, 2, 3, 4, 5, 6, 7, 8, 9, 10, 11, 12, 13, 14, 15, 16, 17, 18, 19, 20, 21, 22, 23, 24], [0, 1, 2, 3, 4, 5, 6, 7, 8, 9, 10, 11, 12, 13, 14, 15, 16, 17, 18, 19, 20, 21, 22, 23, 24, 25, 26], [0, 1, 2, 3, 4, 5, 6, 7, 8, 9, 10, 11, 12, 13, 14, 15, 16, 17, 18, 19, 20, 21, 22, 23, 24, 25, 26, 27], [0, 1, 2, 3, 4, 5, 6, 7, 8, 9, 10, 11, 12, 13, 14, 15, 16, 17, 18, 19, 20, 21, 22, 23, 24, 25, 26, 27, 28], [0, 1, 2, 3, 4, 5, 6, 7, 8, 9, 10, 11, 12, 13, 14, 15, 16, 17, 18, 19, 20, 21, 22, 23, 24], [0, 1, 2, 3, 4, 5, 6, 7, 8, 9, 10, 11, 12, 13, 14, 15, 16, 17, 18, 19, 20, 21, 22, 23, 24], [0, 1, 2, 3, 4, 5, 6, 7, 8, 9, 10, 11, 12, 13, 14, 15, 16, 17, 18, 19, 20, 21, 22, 23, 24, 30, 31], [0, 1, 2, 3, 4, 5, 6, 7, 8, 9, 10, 11, 12, 13, 14, 15, 16, 17, 18, 19, 20, 21, 22, 23, 24, 30, 31, 32], [0, 1, 2, 3, 4, 5, 6, 7, 8, 9, 10, 11, 12, 13, 14, 15, 16, 17, 18, 19, 20, 21, 22, 23, 24, 30, 31, 32, 33], [0, 1, 2, 3, 4, 5, 6, 7, 8, 9, 10, 11, 12, 13, 14, 15, 16, 17, 18, 19, 20, 21, 22, 23, 24, 25, 26, 27, 28, 29, 30, 31, 32, 33, 34], [0, 1, 2, 3, 4, 5, 6, 7, 8, 9, 10, 11, 12, 13, 14, 15, 16, 17, 18, 19, 20, 21, 22, 23, 24, 25, 26, 27, 28, 29, 30, 31, 32, 33, 34, 35], [0, 1, 2, 3, 4, 5, 6, 7, 8, 9, 10, 11, 12, 13, 14, 15, 16, 17, 18, 19, 20, 21, 22, 23, 24, 25, 26, 27, 28, 29, 30, 31, 32, 33, 34, 35, 36], [0, 1, 2, 3, 4, 5, 6, 7, 8, 9, 10, 11, 12, 13, 14, 15, 16, 17, 18, 19, 20, 21, 22, 23, 24, 25, 26, 27, 28, 29, 30, 31, 32, 33, 34, 35, 36, 37], [0, 1, 2, 3, 4, 5, 6, 7, 8, 9, 10, 11, 12, 13, 14, 15, 16, 17, 18, 19, 20, 21, 22, 23, 24, 25, 26, 27, 28, 29, 30, 31, 32, 33, 34, 35, 36, 37], [0, 1, 2, 3, 4, 5, 6, 7, 8, 9, 10, 11, 12, 13, 14, 15, 16, 17, 18, 19, 20, 21, 22, 23, 24, 25, 26, 27, 28, 29, 30, 31, 32, 33, 34, 35, 36, 37, 38, 39], [0, 1, 2, 3, 4, 5, 6, 7, 8, 9, 10, 11, 12, 13, 14, 15, 16, 17, 18, 19, 20, 21, 22, 23, 24, 25, 26, 27, 28, 29, 30, 31, 32, 33, 34, 35, 36, 37, 38, 39, 40], [0, 1, 2, 3, 4, 5, 6, 7, 8, 9, 10, 11, 12, 13, 14, 15, 16, 17, 18, 19, 20, 21, 22, 23, 24, 25, 26, 27, 28, 29, 30, 31, 32, 33, 34, 35, 36, 37, 38, 39, 40, 41], [0, 1, 2, 3, 4, 5, 6, 7, 8, 9, 10, 11, 12, 13, 14, 15, 16, 17, 18, 19, 20, 21, 22, 23, 24, 25, 26, 27, 28, 29, 30, 31, 32, 33, 34, 35, 36, 37], [0, 1, 2, 3, 4, 5, 6, 7, 8, 9, 10, 11, 12, 13, 14, 15, 16, 17, 18, 19, 20, 21, 22, 23, 24, 25, 26, 27, 28, 29, 30, 31, 32, 33, 34, 35, 36, 37], [0, 1, 2, 3, 4, 5, 6, 7, 8, 9, 10, 11, 12, 13, 14, 15, 16, 17, 18, 19, 20, 21, 22, 23, 24, 25, 26, 27, 28, 29, 30, 31, 32, 33, 34, 35, 36, 37, 43, 44], [0, 1, 2, 3, 4, 5, 6, 7, 8, 9, 10, 11, 12, 13, 14, 15, 16, 17, 18, 19, 20, 21, 22, 23, 24, 25, 26, 27, 28, 29, 30, 31, 32, 33, 34, 35, 36, 37, 43, 44, 45], [0, 1, 2, 3, 4, 5, 6, 7, 8, 9, 10, 11, 12, 13, 14, 15, 16, 17, 18, 19, 20, 21, 22, 23, 24, 25, 26, 27, 28, 29, 30, 31, 32, 33, 34, 35, 36, 37, 43, 44, 45, 46], [0, 1, 2, 3, 4, 5, 6, 7, 8, 9, 10, 11, 12, 13, 14, 15, 16, 17, 18, 19, 20, 21, 22, 23, 24, 25, 26, 27, 28, 29, 30, 31, 32, 33, 34, 35, 36, 37, 38, 39, 40, 41, 42, 43, 44, 45, 46, 47], [0, 1, 2, 3, 4, 5, 6, 7, 8, 9, 10, 11, 12, 13, 14, 15, 16, 17, 18, 19, 20, 21, 22, 23, 24, 25, 26, 27, 28, 29, 30, 31, 32, 33, 34, 35, 36, 37, 38, 39, 40, 41, 42, 43, 44, 45, 46, 47, 48]], [0, 1, 2, 3, 4, 5, 6, 7, 8, 9, 10, 11, 12, 13, 14, 15, 16, 17, 18, 19, 20, 21, 22, 23, 24, 25, 26, 27, 28, 29, 30, 31, 32, 33, 34, 35, 36, 37, 38, 39, 40, 41, 42, 43, 44, 45, 46, 47, 48, 49], []⟩ hS rfl rfl (by kernel_rfl) (by kernel_rfl) ?_
  refine d_start ?_
  refine l_op rfl rfl (a_mv e0) rfl ?_ rfl
  refine l_op rfl rfl (a_mv e5) rfl ?_ rfl
  refine l_op rfl rfl (a_ia (by simp (disch := omega) only [Zu, Nat.reduceEqDiff, ↓reduceIte, hia, ha1, ha2, ha3, ha4, hia2, hb1, hb2, hb3, hb4, not_dec_self, newPtr, AMem.next_alloc] <;> rfl)) rfl ?_ rfl
  refine l_op rfl rfl (a_fa (by simp only [Zu, Nat.reduceEqDiff, ↓reduceIte, fa53_0, Nat.zero_add, ha1, ha2, ha3, ha4, hb1, hb2, hb3, hb4, fa53_1, fa53_2, fa53_3, not_dec_self, newPtr, AMem.next_alloc] <;> rfl)) rfl ?_ rfl
  refine l_op rfl rfl (a_load (by simp only [Zu, Nat.reduceEqDiff, ↓reduceIte, hget, ha1, ha2, ha3, ha4, hget2, hb1, hb2, hb3, hb4, not_dec_self, newPtr, AMem.next_alloc] <;> rfl) (by simp (disch := first | (refine Zx ?_; simp only [Zn]; done) | ((try simp only [Zn]); omega)) only [Zg, hget, ha1, ha2, ha3, ha4, hget2, hb1, hb2, hb3, hb4, not_dec_self, newPtr] <;> rfl) (by simp only [ld3, Zl, hget, ha1, ha2, ha3, ha4, hget2, hb1, hb2, hb3, hb4, not_dec_self, newPtr, AMem.next_alloc] <;> rfl)) rfl ?_ rfl
  refine l_op rfl rfl (a_mv e1) rfl ?_ rfl
  refine l_op rfl rfl (a_mv e5) rfl ?_ rfl
  refine l_op rfl rfl (a_ia (by simp (disch := omega) only [Zu, Nat.reduceEqDiff, ↓reduceIte, hia, ha1, ha2, ha3, ha4, hia2, hb1, hb2, hb3, hb4, not_dec_self, newPtr, AMem.next_alloc] <;> rfl)) rfl ?_ rfl
  refine l_op rfl rfl (a_fa (by simp only [Zu, Nat.reduceEqDiff, ↓reduceIte, fa53_0, Nat.zero_add, ha1, ha2, ha3, ha4, hb1, hb2, hb3, hb4, fa53_1, fa53_2, fa53_3, not_dec_self, newPtr, AMem.next_alloc] <;> rfl)) rfl ?_ rfl
  refine l_op rfl rfl (a_load (by simp only [Zu, Nat.reduceEqDiff, ↓reduceIte, hget, ha1, ha2, ha3, ha4, hget2, hb1, hb2, hb3, hb4, not_dec_self, newPtr, AMem.next_alloc] <;> rfl) (by simp (disch := first | (refine Zx ?_; simp only [Zn]; done) | ((try simp only [Zn]); omega)) only [Zg, hget, ha1, ha2, ha3, ha4, hget2, hb1, hb2, hb3, hb4, not_dec_self, newPtr] <;> rfl) (by simp only [ld3, Zl, hget, ha1, ha2, ha3, ha4, hget2, hb1, hb2, hb3, hb4, not_dec_self, newPtr, AMem.next_alloc] <;> rfl)) rfl ?_ rfl
  refine l_op rfl rfl (a_bin (by simp (disch := omega) only [Zu, Nat.reduceEqDiff, ↓reduceIte, Zd, reduceCtorEq, abin_neq, abin_aneq, ne_eq, not_false_eq_true, ha1, ha2, ha3, ha4, hb1, hb2, hb3, hb4, not_dec_self] <;> rfl)) rfl ?_ rfl
  refine l_op rfl rfl (a_mv (by simp only [Zu, Nat.reduceEqDiff, ↓reduceIte] <;> rfl)) rfl ?_ rfl
  refine l_op rfl (w_true (by simp only [Zu, Nat.reduceEqDiff, ↓reduceIte] <;> rfl) (by first | rfl | assumption)) (a_mv e0) rfl ?_ rfl
  refine l_op rfl (w_true (by simp only [Zu, Nat.reduceEqDiff, ↓reduceIte] <;> rfl) (by first | rfl | assumption)) (a_mv e5) rfl ?_ rfl
  refine l_op rfl (w_true (by simp only [Zu, Nat.reduceEqDiff, ↓reduceIte] <;> rfl) (by first | rfl | assumption)) (a_ia (by simp (disch := omega) only [Zu, Nat.reduceEqDiff, ↓reduceIte, hia, ha1, ha2, ha3, ha4, hia2, hb1, hb2, hb3, hb4, not_dec_self, newPtr, AMem.next_alloc] <;> rfl)) rfl ?_ rfl
  refine l_op rfl (w_true (by simp only [Zu, Nat.reduceEqDiff, ↓reduceIte] <;> rfl) (by first | rfl | assumption)) (a_fa (by simp only [Zu, Nat.reduceEqDiff, ↓reduceIte, fa53_1, Nat.zero_add, ha1, ha2, ha3, ha4, hb1, hb2, hb3, hb4, fa53_0, fa53_2, fa53_3, not_dec_self, newPtr, AMem.next_alloc] <;> rfl)) rfl ?_ rfl
  refine l_op rfl (w_true (by simp only [Zu, Nat.reduceEqDiff, ↓reduceIte] <;> rfl) (by first | rfl | assumption)) (a_load (by simp only [Zu, Nat.reduceEqDiff, ↓reduceIte, hget, ha1, ha2, ha3, ha4, hget2, hb1, hb2, hb3, hb4, not_dec_self, newPtr, AMem.next_alloc] <;> rfl) (by simp (disch := first | (refine Zx ?_; simp only [Zn]; done) | ((try simp only [Zn]); omega)) only [Zg, hget, ha1, ha2, ha3, ha4, hget2, hb1, hb2, hb3, hb4, not_dec_self, newPtr] <;> rfl) (by simp only [ld3, Zl, hget, ha1, ha2, ha3, ha4, hget2, hb1, hb2, hb3, hb4, not_dec_self, newPtr, AMem.next_alloc] <;> rfl)) rfl ?_ rfl
  refine l_op rfl (w_true (by simp only [Zu, Nat.reduceEqDiff, ↓reduceIte] <;> rfl) (by first | rfl | assumption)) (a_mv e1) rfl ?_ rfl
  refine l_op rfl (w_true (by simp only [Zu, Nat.reduceEqDiff, ↓reduceIte] <;> rfl) (by first | rfl | assumption)) (a_mv e5) rfl ?_ rfl
  refine l_op rfl (w_true (by simp only [Zu, Nat.reduceEqDiff, ↓reduceIte] <;> rfl) (by first | rfl | assumption)) (a_ia (by simp (disch := omega) only [Zu, Nat.reduceEqDiff, ↓reduceIte, hia, ha1, ha2, ha3, ha4, hia2, hb1, hb2, hb3, hb4, not_dec_self, newPtr, AMem.next_alloc] <;> rfl)) rfl ?_ rfl
  refine l_op rfl (w_true (by simp only [Zu, Nat.reduceEqDiff, ↓reduceIte] <;> rfl) (by first | rfl | assumption)) (a_fa (by simp only [Zu, Nat.reduceEqDiff, ↓reduceIte, fa53_1, Nat.zero_add, ha1, ha2, ha3, ha4, hb1, hb2, hb3, hb4, fa53_0, fa53_2, fa53_3, not_dec_self, newPtr, AMem.next_alloc] <;> rfl)) rfl ?_ rfl
  refine l_op rfl (w_true (by simp only [Zu, Nat.reduceEqDiff, ↓reduceIte] <;> rfl) (by first | rfl | assumption)) (a_load (by simp only [Zu, Nat.reduceEqDiff, ↓reduceIte, hget, ha1, ha2, ha3, ha4, hget2, hb1, hb2, hb3, hb4, not_dec_self, newPtr, AMem.next_alloc] <;> rfl) (by simp (disch := first | (refine Zx ?_; simp only [Zn]; done) | ((try simp only [Zn]); omega)) only [Zg, hget, ha1, ha2, ha3, ha4, hget2, hb1, hb2, hb3, hb4, not_dec_self, newPtr] <;> rfl) (by simp only [ld3, Zl, hget, ha1, ha2, ha3, ha4, hget2, hb1, hb2, hb3, hb4, not_dec_self, newPtr, AMem.next_alloc] <;> rfl)) rfl ?_ rfl
  refine l_op rfl (w_true (by simp only [Zu, Nat.reduceEqDiff, ↓reduceIte, Zd, reduceCtorEq] <;> rfl) (by first | rfl | assumption)) (a_bin (by simp (disch := omega) only [Zu, Nat.reduceEqDiff, ↓reduceIte, Zd, reduceCtorEq, abin_neq, abin_aneq, ne_eq, not_false_eq_true, ha1, ha2, ha3, ha4, hb1, hb2, hb3, hb4, not_dec_self] <;> rfl)) rfl ?_ rfl
  refine l_op rfl rfl (a_pick (by simp only [Zu, Nat.reduceEqDiff, ↓reduceIte, Zd, reduceCtorEq, ha1, ha2, ha3, ha4, hb1, hb2, hb3, hb4, not_dec_self] <;> rfl) (by simp only [Zu, Nat.reduceEqDiff, ↓reduceIte, Zd, reduceCtorEq, ha1, ha2, ha3, ha4, hb1, hb2, hb3, hb4, not_dec_self] <;> rfl)) rfl ?_ rfl
  refine l_op rfl rfl (a_mv (by simp only [Zu, Nat.reduceEqDiff, ↓reduceIte] <;> rfl)) rfl ?_ rfl
  refine l_op rfl (w_true (by simp only [Zu, Nat.reduceEqDiff, ↓reduceIte] <;> rfl) (by first | rfl | assumption)) (a_mv e0) rfl ?_ rfl
  refine l_op rfl (w_true (by simp only [Zu, Nat.reduceEqDiff, ↓reduceIte] <;> rfl) (by first | rfl | assumption)) (a_mv e5) rfl ?_ rfl
  refine l_op rfl (w_true (by simp only [Zu, Nat.reduceEqDiff, ↓reduceIte] <;> rfl) (by first | rfl | assumption)) (a_ia (by simp (disch := omega) only [Zu, Nat.reduceEqDiff, ↓reduceIte, hia, ha1, ha2, ha3, ha4, hia2, hb1, hb2, hb3, hb4, not_dec_self, newPtr, AMem.next_alloc] <;> rfl)) rfl ?_ rfl
  refine l_op rfl (w_true (by simp only [Zu, Nat.reduceEqDiff, ↓reduceIte] <;> rfl) (by first | rfl | assumption)) (a_fa (by simp only [Zu, Nat.reduceEqDiff, ↓reduceIte, fa53_2, Nat.zero_add, ha1, ha2, ha3, ha4, hb1, hb2, hb3, hb4, fa53_0, fa53_1, fa53_3, not_dec_self, newPtr, AMem.next_alloc] <;> rfl)) rfl ?_ rfl
  refine l_op rfl (w_true (by simp only [Zu, Nat.reduceEqDiff, ↓reduceIte] <;> rfl) (by first | rfl | assumption)) (a_load (by simp only [Zu, Nat.reduceEqDiff, ↓reduceIte, hget, ha1, ha2, ha3, ha4, hget2, hb1, hb2, hb3, hb4, not_dec_self, newPtr, AMem.next_alloc] <;> rfl) (by simp (disch := first | (refine Zx ?_; simp only [Zn]; done) | ((try simp only [Zn]); omega)) only [Zg, hget, ha1, ha2, ha3, ha4, hget2, hb1, hb2, hb3, hb4, not_dec_self, newPtr] <;> rfl) (by simp only [ld3, Zl, hget, ha1, ha2, ha3, ha4, hget2, hb1, hb2, hb3, hb4, not_dec_self, newPtr, AMem.next_alloc] <;> rfl)) rfl ?_ rfl
  refine l_op rfl (w_true (by simp only [Zu, Nat.reduceEqDiff, ↓reduceIte] <;> rfl) (by first | rfl | assumption)) (a_mv e1) rfl ?_ rfl
  refine l_op rfl (w_true (by simp only [Zu, Nat.reduceEqDiff, ↓reduceIte] <;> rfl) (by first | rfl | assumption)) (a_mv e5) rfl ?_ rfl
  refine l_op rfl (w_true (by simp only [Zu, Nat.reduceEqDiff, ↓reduceIte] <;> rfl) (by first | rfl | assumption)) (a_ia (by simp (disch := omega) only [Zu, Nat.reduceEqDiff, ↓reduceIte, hia, ha1, ha2, ha3, ha4, hia2, hb1, hb2, hb3, hb4, not_dec_self, newPtr, AMem.next_alloc] <;> rfl)) rfl ?_ rfl
  refine l_op rfl (w_true (by simp only [Zu, Nat.reduceEqDiff, ↓reduceIte] <;> rfl) (by first | rfl | assumption)) (a_fa (by simp only [Zu, Nat.reduceEqDiff, ↓reduceIte, fa53_2, Nat.zero_add, ha1, ha2, ha3, ha4, hb1, hb2, hb3, hb4, fa53_0, fa53_1, fa53_3, not_dec_self, newPtr, AMem.next_alloc] <;> rfl)) rfl ?_ rfl
  refine l_op rfl (w_true (by simp only [Zu, Nat.reduceEqDiff, ↓reduceIte] <;> rfl) (by first | rfl | assumption)) (a_load (by simp only [Zu, Nat.reduceEqDiff, ↓reduceIte, hget, ha1, ha2, ha3, ha4, hget2, hb1, hb2, hb3, hb4, not_dec_self, newPtr, AMem.next_alloc] <;> rfl) (by simp (disch := first | (refine Zx ?_; simp only [Zn]; done) | ((try simp only [Zn]); omega)) only [Zg, hget, ha1, ha2, ha3, ha4, hget2, hb1, hb2, hb3, hb4, not_dec_self, newPtr] <;> rfl) (by simp only [ld3, Zl, hget, ha1, ha2, ha3, ha4, hget2, hb1, hb2, hb3, hb4, not_dec_self, newPtr, AMem.next_alloc] <;> rfl)) rfl ?_ rfl
  refine l_op rfl (w_true (by simp only [Zu, Nat.reduceEqDiff, ↓reduceIte, Zd, reduceCtorEq] <;> rfl) (by first | rfl | assumption)) (a_bin (by simp (disch := omega) only [Zu, Nat.reduceEqDiff, ↓reduceIte, Zd, reduceCtorEq, abin_neq, abin_aneq, ne_eq, not_false_eq_true, ha1, ha2, ha3, ha4, hb1, hb2, hb3, hb4, not_dec_self] <;> rfl)) rfl ?_ rfl
  refine l_op rfl rfl (a_pick (by simp only [Zu, Nat.reduceEqDiff, ↓reduceIte, Zd, reduceCtorEq, ha1, ha2, ha3, ha4, hb1, hb2, hb3, hb4, not_dec_self] <;> rfl) (by simp only [Zu, Nat.reduceEqDiff, ↓reduceIte, Zd, reduceCtorEq, ha1, ha2, ha3, ha4, hb1, hb2, hb3, hb4, not_dec_self] <;> rfl)) rfl ?_ rfl
  refine l_op rfl rfl (a_mv (by simp only [Zu, Nat.reduceEqDiff, ↓reduceIte] <;> rfl)) rfl ?_ rfl
  refine l_op rfl (w_true (by simp only [Zu, Nat.reduceEqDiff, ↓reduceIte] <;> rfl) (by first | rfl | assumption)) (a_mv e0) rfl ?_ rfl
  refine l_op rfl (w_true (by simp only [Zu, Nat.reduceEqDiff, ↓reduceIte] <;> rfl) (by first | rfl | assumption)) (a_mv e5) rfl ?_ rfl
  refine l_op rfl (w_true (by simp only [Zu, Nat.reduceEqDiff, ↓reduceIte] <;> rfl) (by first | rfl | assumption)) (a_ia (by simp (disch := omega) only [Zu, Nat.reduceEqDiff, ↓reduceIte, hia, ha1, ha2, ha3, ha4, hia2, hb1, hb2, hb3, hb4, not_dec_self, newPtr, AMem.next_alloc] <;> rfl)) rfl ?_ rfl
  refine l_op rfl (w_true (by simp only [Zu, Nat.reduceEqDiff, ↓reduceIte] <;> rfl) (by first | rfl | assumption)) (a_fa (by simp only [Zu, Nat.reduceEqDiff, ↓reduceIte, fa53_3, Nat.zero_add, ha1, ha2, ha3, ha4, hb1, hb2, hb3, hb4, fa53_0, fa53_1, fa53_2, not_dec_self, newPtr, AMem.next_alloc] <;> rfl)) rfl ?_ rfl
  refine l_op rfl (w_true (by simp only [Zu, Nat.reduceEqDiff, ↓reduceIte] <;> rfl) (by first | rfl | assumption)) (a_load (by simp only [Zu, Nat.reduceEqDiff, ↓reduceIte, hget, ha1, ha2, ha3, ha4, hget2, hb1, hb2, hb3, hb4, not_dec_self, newPtr, AMem.next_alloc] <;> rfl) (by simp (disch := first | (refine Zx ?_; simp only [Zn]; done) | ((try simp only [Zn]); omega)) only [Zg, hget, ha1, ha2, ha3, ha4, hget2, hb1, hb2, hb3, hb4, not_dec_self, newPtr] <;> rfl) (by simp only [ld3, Zl, hget, ha1, ha2, ha3, ha4, hget2, hb1, hb2, hb3, hb4, not_dec_self, newPtr, AMem.next_alloc] <;> rfl)) rfl ?_ rfl
  refine l_op rfl (w_true (by simp only [Zu, Nat.reduceEqDiff, ↓reduceIte] <;> rfl) (by first | rfl | assumption)) (a_mv e1) rfl ?_ rfl
  refine l_op rfl (w_true (by simp only [Zu, Nat.reduceEqDiff, ↓reduceIte] <;> rfl) (by first | rfl | assumption)) (a_mv e5) rfl ?_ rfl
  refine l_op rfl (w_true (by simp only [Zu, Nat.reduceEqDiff, ↓reduceIte] <;> rfl) (by first | rfl | assumption)) (a_ia (by simp (disch := omega) only [Zu, Nat.reduceEqDiff, ↓reduceIte, hia, ha1, ha2, ha3, ha4, hia2, hb1, hb2, hb3, hb4, not_dec_self, newPtr, AMem.next_alloc] <;> rfl)) rfl ?_ rfl
  refine l_op rfl (w_true (by simp only [Zu, Nat.reduceEqDiff, ↓reduceIte] <;> rfl) (by first | rfl | assumption)) (a_fa (by simp only [Zu, Nat.reduceEqDiff, ↓reduceIte, fa53_3, Nat.zero_add, ha1, ha2, ha3, ha4, hb1, hb2, hb3, hb4, fa53_0, fa53_1, fa53_2, not_dec_self, newPtr, AMem.next_alloc] <;> rfl)) rfl ?_ rfl
  refine l_op rfl (w_true (by simp only [Zu, Nat.reduceEqDiff, ↓reduceIte] <;> rfl) (by first | rfl | assumption)) (a_load (by simp only [Zu, Nat.reduceEqDiff, ↓reduceIte, hget, ha1, ha2, ha3, ha4, hget2, hb1, hb2, hb3, hb4, not_dec_self, newPtr, AMem.next_alloc] <;> rfl) (by simp (disch := first | (refine Zx ?_; simp only [Zn]; done) | ((try simp only [Zn]); omega)) only [Zg, hget, ha1, ha2, ha3, ha4, hget2, hb1, hb2, hb3, hb4, not_dec_self, newPtr] <;> rfl) (by simp only [ld3, Zl, hget, ha1, ha2, ha3, ha4, hget2, hb1, hb2, hb3, hb4, not_dec_self, newPtr, AMem.next_alloc] <;> rfl)) rfl ?_ rfl
  refine l_op rfl (w_true (by simp only [Zu, Nat.reduceEqDiff, ↓reduceIte, Zd, reduceCtorEq] <;> rfl) (by first | rfl | assumption)) (a_bin (by simp (disch := omega) only [Zu, Nat.reduceEqDiff, ↓reduceIte, Zd, reduceCtorEq, abin_neq, abin_aneq, ne_eq, not_false_eq_true, ha1, ha2, ha3, ha4, hb1, hb2, hb3, hb4, not_dec_self] <;> rfl)) rfl ?_ rfl
  refine l_op rfl rfl (a_pick (by simp only [Zu, Nat.reduceEqDiff, ↓reduceIte, Zd, reduceCtorEq, ha1, ha2, ha3, ha4, hb1, hb2, hb3, hb4, not_dec_self] <;> rfl) (by simp only [Zu, Nat.reduceEqDiff, ↓reduceIte, Zd, reduceCtorEq, ha1, ha2, ha3, ha4, hb1, hb2, hb3, hb4, not_dec_self] <;> rfl)) rfl ?_ rfl
  refine l_nil ?_
  refine h_end ?_ (fun s' hs' => ?_)
  · refine again_r rfl ?_
    refine again_r rfl ?_
    refine again_l rfl rfl (a_load (by simp only [Zu, Nat.reduceEqDiff, ↓reduceIte, hget, ha1, ha2, ha3, ha4, hget2, hb1, hb2, hb3, hb4, not_dec_self, newPtr, AMem.next_alloc] <;> rfl) (by simp (disch := first | (refine Zx ?_; simp only [Zn]; done) | ((try simp only [Zn]); omega)) only [Zg, hget, ha1, ha2, ha3, ha4, hget2, hb1, hb2, hb3, hb4, not_dec_self, newPtr] <;> rfl) (by simp only [ld3, Zl, hget, ha1, ha2, ha3, ha4, hget2, hb1, hb2, hb3, hb4, not_dec_self, newPtr, AMem.next_alloc] <;> rfl)) ?_
    refine again_r rfl ?_
    refine again_r rfl ?_
    refine again_r rfl ?_
    refine again_r rfl ?_
    refine again_l rfl rfl (a_load (by simp only [Zu, Nat.reduceEqDiff, ↓reduceIte, hget, ha1, ha2, ha3, ha4, hget2, hb1, hb2, hb3, hb4, not_dec_self, newPtr, AMem.next_alloc] <;> rfl) (by simp (disch := first | (refine Zx ?_; simp only [Zn]; done) | ((try simp only [Zn]); omega)) only [Zg, hget, ha1, ha2, ha3, ha4, hget2, hb1, hb2, hb3, hb4, not_dec_self, newPtr] <;> rfl) (by simp only [ld3, Zl, hget, ha1, ha2, ha3, ha4, hget2, hb1, hb2, hb3, hb4, not_dec_self, newPtr, AMem.next_alloc] <;> rfl)) ?_
    refine again_r rfl ?_
    refine again_r rfl ?_
    refine again_r rfl ?_
    refine again_r rfl ?_
    refine again_r rfl ?_
    refine again_r rfl ?_
    refine again_r rfl ?_
    refine again_l rfl rfl (a_load (by simp only [Zu, Nat.reduceEqDiff, ↓reduceIte, hget, ha1, ha2, ha3, ha4, hget2, hb1, hb2, hb3, hb4, not_dec_self, newPtr, AMem.next_alloc] <;> rfl) (by simp (disch := first | (refine Zx ?_; simp only [Zn]; done) | ((try simp only [Zn]); omega)) only [Zg, hget, ha1, ha2, ha3, ha4, hget2, hb1, hb2, hb3, hb4, not_dec_self, newPtr] <;> rfl) (by simp only [ld3, Zl, hget, ha1, ha2, ha3, ha4, hget2, hb1, hb2, hb3, hb4, not_dec_self, newPtr, AMem.next_alloc] <;> rfl)) ?_
    refine again_r rfl ?_
    refine again_r rfl ?_
    refine again_r rfl ?_
    refine again_r rfl ?_
    refine again_l rfl rfl (a_load (by simp only [Zu, Nat.reduceEqDiff, ↓reduceIte, hget, ha1, ha2, ha3, ha4, hget2, hb1, hb2, hb3, hb4, not_dec_self, newPtr, AMem.next_alloc] <;> rfl) (by simp (disch := first | (refine Zx ?_; simp only [Zn]; done) | ((try simp only [Zn]); omega)) only [Zg, hget, ha1, ha2, ha3, ha4, hget2, hb1, hb2, hb3, hb4, not_dec_self, newPtr] <;> rfl) (by simp only [ld3, Zl, hget, ha1, ha2, ha3, ha4, hget2, hb1, hb2, hb3, hb4, not_dec_self, newPtr, AMem.next_alloc] <;> rfl)) ?_
    refine again_r rfl ?_
    refine again_r rfl ?_
    refine again_r rfl ?_
    refine again_r rfl ?_
    refine again_r rfl ?_
    refine again_r rfl ?_
    refine again_r rfl ?_
    refine again_l rfl rfl (a_load (by simp only [Zu, Nat.reduceEqDiff, ↓reduceIte, hget, ha1, ha2, ha3, ha4, hget2, hb1, hb2, hb3, hb4, not_dec_self, newPtr, AMem.next_alloc] <;> rfl) (by simp (disch := first | (refine Zx ?_; simp only [Zn]; done) | ((try simp only [Zn]); omega)) only [Zg, hget, ha1, ha2, ha3, ha4, hget2, hb1, hb2, hb3, hb4, not_dec_self, newPtr] <;> rfl) (by simp only [ld3, Zl, hget, ha1, ha2, ha3, ha4, hget2, hb1, hb2, hb3, hb4, not_dec_self, newPtr, AMem.next_alloc] <;> rfl)) ?_
    refine again_r rfl ?_
    refine again_r rfl ?_
    refine again_r rfl ?_
    refine again_r rfl ?_
    refine again_l rfl rfl (a_load (by simp only [Zu, Nat.reduceEqDiff, ↓reduceIte, hget, ha1, ha2, ha3, ha4, hget2, hb1, hb2, hb3, hb4, not_dec_self, newPtr, AMem.next_alloc] <;> rfl) (by simp (disch := first | (refine Zx ?_; simp only [Zn]; done) | ((try simp only [Zn]); omega)) only [Zg, hget, ha1, ha2, ha3, ha4, hget2, hb1, hb2, hb3, hb4, not_dec_self, newPtr] <;> rfl) (by simp only [ld3, Zl, hget, ha1, ha2, ha3, ha4, hget2, hb1, hb2, hb3, hb4, not_dec_self, newPtr, AMem.next_alloc] <;> rfl)) ?_
    refine again_r rfl ?_
    refine again_r rfl ?_
    refine again_r rfl ?_
    refine again_r rfl ?_
    refine again_r rfl ?_
    refine again_r rfl ?_
    refine again_l rfl rfl (a_load (by simp only [Zu, Nat.reduceEqDiff, ↓reduceIte, hget, ha1, ha2, ha3, ha4, hget2, hb1, hb2, hb3, hb4, not_dec_self, newPtr, AMem.next_alloc] <;> rfl) (by simp (disch := first | (refine Zx ?_; simp only [Zn]; done) | ((try simp only [Zn]); omega)) only [Zg, hget, ha1, ha2, ha3, ha4, hget2, hb1, hb2, hb3, hb4, not_dec_self, newPtr] <;> rfl) (by simp only [ld3, Zl, hget, ha1, ha2, ha3, ha4, hget2, hb1, hb2, hb3, hb4, not_dec_self, newPtr, AMem.next_alloc] <;> rfl)) ?_
    refine again_r rfl ?_
    refine again_r rfl ?_
    refine again_r rfl ?_
    refine again_r rfl ?_
    refine again_l rfl rfl (a_load (by simp only [Zu, Nat.reduceEqDiff, ↓reduceIte, hget, ha1, ha2, ha3, ha4, hget2, hb1, hb2, hb3, hb4, not_dec_self, newPtr, AMem.next_alloc] <;> rfl) (by simp (disch := first | (refine Zx ?_; simp only [Zn]; done) | ((try simp only [Zn]); omega)) only [Zg, hget, ha1, ha2, ha3, ha4, hget2, hb1, hb2, hb3, hb4, not_dec_self, newPtr] <;> rfl) (by simp only [ld3, Zl, hget, ha1, ha2, ha3, ha4, hget2, hb1, hb2, hb3, hb4, not_dec_self, newPtr, AMem.next_alloc] <;> rfl)) ?_
    refine again_r rfl ?_
    refine again_r rfl ?_
    refine again_r rfl ?_
    refine again_r rfl ?_
    exact again_nil
  replace e0 := kp 0 hs' e0
  replace e1 := kp 1 hs' e1
  replace e5 := kp 5 hs' e5
  have e66 := congrFun hs' 66
  simp only [Zu, Nat.reduceEqDiff, ↓reduceIte, newPtr, AMem.next_alloc] at e66
  clear hs'
  refine o_norm ?_
  refine t_norm ?_
  refine at_cond rfl rfl e66 (fun hc => by simp at hc) (fun h6 => ?_)
  try simp only [Zh] at h6
  refine at_skip rfl ?_
  refine b_norm ?_
  refine t_norm ?_
  refine at_region hS rfl (by kernel_rfl) ?_
  refine s_op (a_mv e5) rfl ?_
  refine s_op (a_bin (by simp (disch := ((try simp only [List.length_append, List.length_cons, List.length_nil]); omega)) only [Zu, Nat.reduceEqDiff, ↓reduceIte, Zd, reduceCtorEq, abin_add, abin_aadd, wrap_i64, wrap_u32, wrap_u8, wrap_u64, wrap_i32, wrap_u16, ne_eq, not_false_eq_true] <;> rfl)) rfl ?_
  refine s_as ?_
  refine s_end (fun s' hs' => ?_)
  replace e0 := kp 0 hs' e0
  replace e1 := kp 1 hs' e1
  replace e5 := congrFun hs' 5
  simp only [Zu, Nat.reduceEqDiff, ↓reduceIte, newPtr, AMem.next_alloc] at e5
  clear hs'
  refine o_norm ?_
  refine t_norm ?_
  exact ⟨l.length - (i + 1), by omega, i + 1, (by first | exact e0 | (rw [e0]; rfl) | (rw [e0]; simp; done)), (by first | exact e1 | (rw [e1]; rfl) | (rw [e1]; simp; done)), (by first | exact e5 | (rw [e5]; rfl) | (rw [e5]; simp; done)), (by omega), rfl, hnxM1, by omega, holdM1, rfl⟩
 ·
  try simp only [Zh] at h4
  refine at_exit rfl ?_
  refine t_exit ?_
  refine t_exit ?_
  refine b_here ?_
  refine t_norm ?_
  refine at_seq rfl ?_
  refine at_region hS rfl (by kernel_rfl) ?_
  refine s_op (a_as (by simp only [ev_const] <;> rfl)) rfl ?_
  refine s_end (fun s' hs' => ?_)
  have e4 := congrFun hs' 4
  simp only [Zu, Nat.reduceEqDiff, ↓reduceIte, newPtr, AMem.next_alloc] at e4
  clear hs'
  refine o_norm ?_
  refine t_norm ?_
  refine at_ret rfl ?_
  refine bq_ret rfl (ars_cons (ar_tmp e4) ars_nil) ?_
  exact ⟨_, _, hK, Canon.forget rfl holdM1⟩
def findF (l : List Int) (n : Int) : Int := match l.findIdx? (fun x => decide (x = n)) with | some i => i | none => -1
theorem findF_none {l : List Int} {n : Int} (h : ∀ j (hj : j < l.length), l[j] ≠ n) : findF l n = -1 := by
  have : l.findIdx? (fun x => decide (x = n)) = none := by
    rw [List.findIdx?_eq_none_iff]
    intro x hx
    obtain ⟨j, hj, rfl⟩ := List.mem_iff_getElem.1 hx
    simpa using h j hj
  unfold findF; rw [this]
theorem findF_some {l : List Int} {n : Int} {i : Nat} (hi : i < l.length) (he : l[i] = n) (h : ∀ j (hj : j < l.length), j < i → l[j] ≠ n) : findF l n = i := by
  have : l.findIdx? (fun x => decide (x = n)) = some i := by
    rw [List.findIdx?_eq_some_iff_getElem]
    exact ⟨hi, by simpa using he, fun j hj => by simpa using h j (by omega) hj⟩
  unfold findF; rw [this]
def sp36 : ASpec := fun args M K => ∃ (lv : Value) (n : Int) (l : List Int), args = [lv, .int .i64 n] ∧ Row M 1 lv l.length (l.map (.int .i64)) ∧ l.length ≤ 1000000000 ∧ K (.ret (.int .i64 (findF l n))) M
theorem f36_ok : Sound Try.prog 36 sp36 := by
 refine Sound.of_awp (c := bodyOf Try.f36) Try.func36 rfl rfl rfl ?_
 rintro args M K ⟨lv, n, l, rfl, ha, hl, hK⟩
 refine ⟨Nat.le_of_ble_eq_true rfl, ?_⟩
 have hS := noS_ok Try.prog
 have e0 : entry [lv, .int .i64 n] 0 = lv := rfl
 have e1 : entry [lv, .int .i64 n] 1 = .int .i64 n := rfl
 refine at_seq rfl ?_
 refine at_region hS rfl (by kernel_rfl) ?_
 refine s_op (a_as (by simp only [ev_const] <;> rfl)) rfl ?_
 refine s_end (fun s' hs' => ?_)
 replace e0 := kp 0 hs' e0
 replace e1 := kp 1 hs' e1
 clear hs'
 refine o_norm ?_
 refine t_norm ?_
 refine at_seq rfl ?_
 refine at_seq rfl ?_
 refine at_region hS rfl (by kernel_rfl) ?_
 refine s_op (a_as (by simp only [ev_const] <;> rfl)) rfl ?_
 refine s_end (fun s' hs' => ?_)
 replace e0 := kp 0 hs' e0
 replace e1 := kp 1 hs' e1
 have e5 := congrFun hs' 5
 simp only [Zu, Nat.reduceEqDiff, ↓reduceIte, newPtr, AMem.next_alloc] at e5
 clear hs'
 refine o_norm ?_
 refine t_norm ?_
 refine at_block rfl ?_
 refine at_loop rfl (fun km s ML ds => ∃ (i : Nat), s 0 = lv ∧ s 1 = .int .i64 n ∧ s 5 = .int .i64 i ∧ i ≤ l.length ∧ (∀ j (hj : j < l.length), j < i → l[j] ≠ n) ∧ km = l.length - i ∧ M.next ≤ ML.next ∧ M.next ≤ ML.next ∧ (∀ j, j < M.next → ML.get j = M.get j) ∧ ds = []) (l.length - (0)) ⟨0, (by first | exact e0 | (rw [e0]; rfl) | (simpa using e0)), (by first | exact e1 | (rw [e1]; rfl) | (simpa using e1)), (by first | exact e5 | (rw [e5]; rfl) | (simpa using e5)), (by omega), (fun j hj h => by omega), rfl, (Nat.le_refl M.next), by omega, (fun _ _ => rfl), rfl⟩ ?_
 clear e0 e1 e5
 rintro km s M1 ds ⟨i, e0, e1, e5, hi, hne, hk, hnxM1, hngM1, holdM1, rfl⟩
 refine at_seq rfl ?_
 refine at_seq rfl ?_
 refine at_region hS rfl (by kernel_rfl) ?_
 refine s_op (a_mv e5) rfl ?_
 refine s_op (a_mv e0) rfl ?_
 refine s_op (a_len (by simp (disch := omega) only [Zu, Nat.reduceEqDiff, ↓reduceIte, alen_str, Row.len ha (P := Try.prog) Try.underlying22, newPtr, AMem.next_alloc] <;> rfl)) rfl ?_
 refine s_op (a_bin (by simp (disch := omega) only [Zu, Nat.reduceEqDiff, ↓reduceIte, Zd, reduceCtorEq, abin_lss, ne_eq, not_false_eq_true] <;> rfl)) rfl ?_
 refine s_end (fun s' hs' => ?_)
 replace e0 := kp 0 hs' e0
 replace e1 := kp 1 hs' e1
 replace e5 := kp 5 hs' e5
 have e9 := congrFun hs' 9
 simp only [Zu, Nat.reduceEqDiff, ↓reduceIte, newPtr, AMem.next_alloc] at e9
 clear hs'
 refine o_norm ?_
 refine t_norm ?_
 refine at_cond rfl rfl e9 (fun h2 => ?_) (fun h2 => ?_)
 ·
  try simp only [Zh] at h2
  refine at_skip rfl ?_
  refine t_norm ?_
  refine at_seq rfl ?_
  refine at_block rfl ?_
  refine at_seq rfl ?_
  have hil : i < l.length := by omega
  obtain ⟨id, off, all, own, hia, hid, hget, hld⟩ := (ha.keep (M' := M1) hnxM1 holdM1).at1 Try.underlying22 (i := _) (by rfl) rfl hil ld3 ⟨_, rfl, rfl⟩ .i64
  rw [show (l.map (Value.int .i64))[i]? = some (.int .i64 l[i]) from by simp [hil]] at hld
  refine at_region hS rfl (by kernel_rfl) ?_
  refine s_op (a_mv e0) rfl ?_
  refine s_op (a_mv e5) rfl ?_
  refine s_op (a_ia (by simp (disch := omega) only [Zu, Nat.reduceEqDiff, ↓reduceIte, hia, newPtr, AMem.next_alloc] <;> rfl)) rfl ?_
  refine s_op (a_load (by simp only [Zu, Nat.reduceEqDiff, ↓reduceIte, hget, hld, newPtr, AMem.next_alloc] <;> rfl) (by simp (disch := first | (refine Zx ?_; simp only [Zn]; done) | ((try simp only [Zn]); omega)) only [Zg, hget, hld, newPtr] <;> rfl) (by simp only [ld3, Zl, hget, hld, newPtr, AMem.next_alloc] <;> rfl)) rfl ?_
  refine s_op (a_mv e1) rfl ?_
  refine s_op (a_bin (by simp (disch := omega) only [Zu, Nat.reduceEqDiff, ↓reduceIte, Zd, reduceCtorEq, abin_eql, abin_aeql, ne_eq, not_false_eq_true] <;> rfl)) rfl ?_
  refine s_end (fun s' hs' => ?_)
  replace e0 := kp 0 hs' e0
  replace e1 := kp 1 hs' e1
  replace e5 := kp 5 hs' e5
  have e17 := congrFun hs' 17
  simp only [Zu, Nat.reduceEqDiff, ↓reduceIte, newPtr, AMem.next_alloc] at e17
  clear hs'
  refine o_norm ?_
  refine t_norm ?_
  refine at_cond rfl rfl e17 (fun h4 => ?_) (fun h4 => ?_)
  ·
   try simp only [Zh] at h4
   refine at_seq rfl ?_
   refine at_region hS rfl (by kernel_rfl) ?_
   refine s_op (a_mv e5) rfl ?_
   refine s_as ?_
   refine s_end (fun s' hs' => ?_)
   have e4 := congrFun hs' 4
   simp only [Zu, Nat.reduceEqDiff, ↓reduceIte, newPtr, AMem.next_alloc] at e4
   clear hs'
   try clear e5
   refine o_norm ?_
   refine t_norm ?_
   refine at_ret rfl ?_
   refine b_ret ?_
   refine t_ret ?_
   refine t_ret ?_
   refine b_ret ?_
   refine t_ret ?_
   rw [findF_some hil h4 hne] at hK
   refine bq_ret rfl (ars_cons (ar_tmp e4) ars_nil) ?_
   exact ⟨_, _, hK, Canon.forget rfl holdM1⟩
  ·
   try simp only [Zh] at h4
   refine at_skip rfl ?_
   refine b_norm ?_
   refine t_norm ?_
   refine at_region hS rfl (by kernel_rfl) ?_
   refine s_op (a_mv e5) rfl ?_
   refine s_op (a_bin (by simp (disch := ((try simp only [List.length_append, List.length_cons, List.length_nil]); omega)) only [Zu, Nat.reduceEqDiff, ↓reduceIte, Zd, reduceCtorEq, abin_add, abin_aadd, wrap_i64, wrap_u32, wrap_u8, wrap_u64, wrap_i32, wrap_u16, ne_eq, not_false_eq_true] <;> rfl)) rfl ?_
   refine s_as ?_
   refine s_end (fun s' hs' => ?_)
   replace e0 := kp 0 hs' e0
   replace e1 := kp 1 hs' e1
   replace e5 := congrFun hs' 5
   simp only [Zu, Nat.reduceEqDiff, ↓reduceIte, newPtr, AMem.next_alloc] at e5
   clear hs'
   refine o_norm ?_
   refine t_norm ?_
   exact ⟨l.length - (i + 1), by omega, i + 1, (by first | exact e0 | (rw [e0]; rfl) | (rw [e0]; simp; done)), (by first | exact e1 | (rw [e1]; rfl) | (rw [e1]; simp; done)), (by first | exact e5 | (rw [e5]; rfl) | (rw [e5]; simp; done)), (by omega), (fun j hj h => by rcases (by omega : j < i ∨ j = i) with h' | h'; exact hne j hj h'; subst h'; exact h4), rfl, hnxM1, by omega, holdM1, rfl⟩
 ·
  try simp only [Zh] at h2
  refine at_exit rfl ?_
  refine t_exit ?_
  refine t_exit ?_
  refine b_here ?_
  refine t_norm ?_
  refine at_seq rfl ?_
  refine at_region hS rfl (by kernel_rfl) ?_
  refine s_op (a_as (by simp only [ev_const] <;> rfl)) rfl ?_
  refine s_end (fun s' hs' => ?_)
  have e4 := congrFun hs' 4
  simp only [Zu, Nat.reduceEqDiff, ↓reduceIte, newPtr, AMem.next_alloc] at e4
  clear hs'
  refine o_norm ?_
  refine t_norm ?_
  refine at_ret rfl ?_
  rw [findF_none (fun j hj => hne j hj (by omega))] at hK
  refine bq_ret rfl (ars_cons (ar_tmp e4) ars_nil) ?_
  exact ⟨_, _, hK, Canon.forget rfl holdM1⟩
def fewP (os : List Ou) : Prop := os.length ≤ 40 ∧ ∀ (i : Nat) (o : Ou), os[i]? = some o → o.frames.length ≤ 3 ∧ o.notes.length ≤ 30 ∧ ∀ (q : Nat) (f : Fr), o.frames[q]? = some f → f.data.length ≤ 200
def sp13 : ASpec := fun args M K => ∃ (lv : Value) (os : List Ou), args = [lv] ∧ OusR M lv os ∧ ∀ b : Bool, (b = true → fewP os) → K (.ret (.bool b)) M
theorem f13_ok : Sound Try.prog 13 sp13 := by
 refine Sound.of_awp (c := bodyOf Try.f13) Try.func13 rfl rfl rfl ?_
 rintro args M K ⟨lv, os, rfl, hos, hK⟩
 refine ⟨Nat.le_of_ble_eq_true rfl, ?_⟩
 have hS := noS_ok Try.prog
 have e0 : entry [lv] 0 = lv := rfl
 refine at_seq rfl ?_
 refine at_region hS rfl (by kernel_rfl) ?_
 refine s_op (a_as (by simp only [ev_const] <;> rfl)) rfl ?_
 refine s_end (fun s' hs' => ?_)
 replace e0 := kp 0 hs' e0
 clear hs'
 refine o_norm ?_
 refine t_norm ?_
 refine at_seq rfl ?_
 refine at_seq rfl ?_
 refine at_region hS rfl (by kernel_rfl) ?_
 refine s_op (a_as (by simp only [ev_const] <;> rfl)) rfl ?_
 refine s_end (fun s' hs' => ?_)
 replace e0 := kp 0 hs' e0
 have e3 := congrFun hs' 3
 simp only [Zu, Nat.reduceEqDiff, ↓reduceIte, newPtr, AMem.next_alloc] at e3
 clear hs'
 refine o_norm ?_
 refine t_norm ?_
 refine at_block rfl ?_
 refine at_loop rfl (fun km s ML ds => ∃ (i : Nat), s 0 = lv ∧ s 3 = .int .i64 i ∧ i ≤ os.length ∧ i ≤ 40 ∧ (∀ (j : Nat) (o : Ou), j < i → os[j]? = some o → o.frames.length ≤ 3 ∧ o.notes.length ≤ 30 ∧ ∀ (q : Nat) (f : Fr), o.frames[q]? = some f → f.data.length ≤ 200) ∧ km = os.length - i ∧ M.next ≤ ML.next ∧ M.next ≤ ML.next ∧ (∀ j, j < M.next → ML.get j = M.get j) ∧ ds = []) (os.length - (0)) ⟨0, (by first | exact e0 | (rw [e0]; rfl) | (simpa using e0)), (by first | exact e3 | (rw [e3]; rfl) | (simpa using e3)), (by omega), (by omega), (fun j o h => by omega), rfl, (Nat.le_refl M.next), by omega, (fun _ _ => rfl), rfl⟩ ?_
 clear e0 e3
 rintro km s M1 ds ⟨i, e0, e3, hi, hi40, hfew, hk, hnxM1, hngM1, holdM1, rfl⟩
 refine at_seq rfl ?_
 refine at_seq rfl ?_
 by_cases hv : (i : Int) < os.length
 ·
  refine at_region hS rfl (by kernel_rfl) ?_
  refine s_op (a_mv e3) rfl ?_
  refine s_op (a_mv e0) rfl ?_
  refine s_op (a_len (by simp (disch := omega) only [Zu, Nat.reduceEqDiff, ↓reduceIte, alen_str, OusR.len hos, hv, newPtr, AMem.next_alloc] <;> rfl)) rfl ?_
  refine s_op (a_bin (by simp (disch := omega) only [Zu, Nat.reduceEqDiff, ↓reduceIte, Zd, reduceCtorEq, abin_lss, ne_eq, not_false_eq_true, hv] <;> rfl)) rfl ?_
  refine s_mv ?_
  refine s_tk ?_
  refine s_op (a_mv e3) rfl ?_
  refine s_tk ?_
  refine s_op (a_bin (by simp (disch := omega) only [Zu, Nat.reduceEqDiff, ↓reduceIte, Zd, reduceCtorEq, abin_lss, ne_eq, not_false_eq_true, hv] <;> rfl)) rfl ?_
  refine s_op (a_pick (by simp only [Zu, Nat.reduceEqDiff, ↓reduceIte, Zd, reduceCtorEq, hv] <;> rfl) (by simp only [Zu, Nat.reduceEqDiff, ↓reduceIte, Zd, reduceCtorEq, hv] <;> rfl)) rfl ?_
  refine s_end (fun s' hs' => ?_)
  replace e0 := kp 0 hs' e0
  replace e3 := kp 3 hs' e3
  have e12 := congrFun hs' 12
  simp only [Zu, Nat.reduceEqDiff, ↓reduceIte, newPtr, AMem.next_alloc] at e12
  clear hs'
  refine o_norm ?_
  refine t_norm ?_
  refine at_cond rfl rfl e12 (fun h2 => ?_) (fun h2 => ?_)
  ·
   try simp only [Zh] at h2
   refine at_skip rfl ?_
   refine t_norm ?_
   refine at_seq rfl ?_
   refine at_block rfl ?_
   refine at_seq rfl ?_
   refine at_seq rfl ?_
   have hil : i < os.length := by omega
   have hi39 : i < 40 := by omega
   obtain ⟨o, hoi⟩ : ∃ o, os[i]? = some o := ⟨_, List.getElem?_eq_getElem hil⟩
   obtain ⟨id, off, all, own, fv, nv, hia, hid, hget, hl1, hl2, hl3, hfr, hnr⟩ := (hos.keep (M' := M1) hnxM1 holdM1).at hoi .i64
   by_cases hv3 : (3 : Int) < o.frames.length
   ·
    refine at_region hS rfl (by kernel_rfl) ?_
    refine s_op (a_mv e0) rfl ?_
    refine s_op (a_mv e3) rfl ?_
    refine s_op (a_ia (by simp (disch := omega) only [Zu, Nat.reduceEqDiff, ↓reduceIte, hia, hv3, newPtr, AMem.next_alloc] <;> rfl)) rfl ?_
    refine s_op (a_fa (by simp only [Zu, Nat.reduceEqDiff, ↓reduceIte, fa31_0, Nat.zero_add, fa31_1, hv3, newPtr, AMem.next_alloc] <;> rfl)) rfl ?_
    refine s_op (a_load (by simp only [Zu, Nat.reduceEqDiff, ↓reduceIte, hget, hl1, hl2, hv3, newPtr, AMem.next_alloc] <;> rfl) (by simp (disch := first | (refine Zx ?_; simp only [Zn]; done) | ((try simp only [Zn]); omega)) only [Zg, hget, hl1, hl2, hv3, newPtr] <;> rfl) (by simp only [hget, hl1, hl2, hv3, newPtr, AMem.next_alloc] <;> rfl)) rfl ?_
    refine s_op (a_len (by simp (disch := omega) only [Zu, Nat.reduceEqDiff, ↓reduceIte, alen_str, FrsR.len hfr, NtsR.len hnr, hv3, newPtr, AMem.next_alloc] <;> rfl)) rfl ?_
    refine s_op (a_bin (by simp (disch := omega) only [Zu, Nat.reduceEqDiff, ↓reduceIte, Zd, reduceCtorEq, abin_gtr, ne_eq, not_false_eq_true, hv3] <;> rfl)) rfl ?_
    refine s_mv ?_
    refine s_lv ?_
    refine s_lv ?_
    refine s_lv ?_
    refine s_lv ?_
    refine s_lv ?_
    refine s_lv ?_
    refine s_lv ?_
    refine s_op (a_pick (by simp only [Zu, Nat.reduceEqDiff, ↓reduceIte, Zd, reduceCtorEq, hv3] <;> rfl) (by simp only [Zu, Nat.reduceEqDiff, ↓reduceIte, Zd, reduceCtorEq, hv3] <;> rfl)) rfl ?_
    refine s_end (fun s' hs' => ?_)
    replace e0 := kp 0 hs' e0
    replace e3 := kp 3 hs' e3
    have e30 := congrFun hs' 30
    simp only [Zu, Nat.reduceEqDiff, ↓reduceIte, newPtr, AMem.next_alloc] at e30
    clear hs'
    refine o_norm ?_
    refine t_norm ?_
    refine at_cond rfl rfl e30 (fun h4 => ?_) (fun hc => by cases hc)
    try simp only [Zh] at h4
    refine at_seq rfl ?_
    refine at_region hS rfl (by kernel_rfl) ?_
    refine s_op (a_as (by simp only [ev_const] <;> rfl)) rfl ?_
    refine s_end (fun s' hs' => ?_)
    have e2 := congrFun hs' 2
    simp only [Zu, Nat.reduceEqDiff, ↓reduceIte, newPtr, AMem.next_alloc] at e2
    clear hs'
    refine o_norm ?_
    refine t_norm ?_
    refine at_ret rfl ?_
    refine t_ret ?_
    refine b_ret ?_
    refine t_ret ?_
    refine t_ret ?_
    refine b_ret ?_
    refine t_ret ?_
    refine bq_ret rfl (ars_cons (ar_tmp e2) ars_nil) ?_
    exact ⟨_, _, hK false (fun h => by cases h), Canon.forget rfl holdM1⟩
   ·
    refine at_region hS rfl (by kernel_rfl) ?_
    refine s_op (a_mv e0) rfl ?_
    refine s_op (a_mv e3) rfl ?_
    refine s_op (a_ia (by simp (disch := omega) only [Zu, Nat.reduceEqDiff, ↓reduceIte, hia, hv3, newPtr, AMem.next_alloc] <;> rfl)) rfl ?_
    refine s_op (a_fa (by simp only [Zu, Nat.reduceEqDiff, ↓reduceIte, fa31_0, Nat.zero_add, fa31_1, hv3, newPtr, AMem.next_alloc] <;> rfl)) rfl ?_
    refine s_op (a_load (by simp only [Zu, Nat.reduceEqDiff, ↓reduceIte, hget, hl1, hl2, hv3, newPtr, AMem.next_alloc] <;> rfl) (by simp (disch := first | (refine Zx ?_; simp only [Zn]; done) | ((try simp only [Zn]); omega)) only [Zg, hget, hl1, hl2, hv3, newPtr] <;> rfl) (by simp only [hget, hl1, hl2, hv3, newPtr, AMem.next_alloc] <;> rfl)) rfl ?_
    refine s_op (a_len (by simp (disch := omega) only [Zu, Nat.reduceEqDiff, ↓reduceIte, alen_str, FrsR.len hfr, NtsR.len hnr, hv3, newPtr, AMem.next_alloc] <;> rfl)) rfl ?_
    refine s_op (a_bin (by simp (disch := omega) only [Zu, Nat.reduceEqDiff, ↓reduceIte, Zd, reduceCtorEq, abin_gtr, ne_eq, not_false_eq_true, hv3] <;> rfl)) rfl ?_
    refine s_mv ?_
    refine s_tk ?_
    refine s_op (a_mv e0) rfl ?_
    refine s_tk ?_
    refine s_op (a_mv e3) rfl ?_
    refine s_tk ?_
    refine s_op (a_ia (by simp (disch := omega) only [Zu, Nat.reduceEqDiff, ↓reduceIte, hia, hv3, newPtr, AMem.next_alloc] <;> rfl)) rfl ?_
    refine s_tk ?_
    refine s_op (a_fa (by simp only [Zu, Nat.reduceEqDiff, ↓reduceIte, fa31_1, Nat.zero_add, fa31_0, hv3, newPtr, AMem.next_alloc] <;> rfl)) rfl ?_
    refine s_tk ?_
    refine s_op (a_load (by simp only [Zu, Nat.reduceEqDiff, ↓reduceIte, hget, hl1, hl2, hv3, newPtr, AMem.next_alloc] <;> rfl) (by simp (disch := first | (refine Zx ?_; simp only [Zn]; done) | ((try simp only [Zn]); omega)) only [Zg, hget, hl1, hl2, hv3, newPtr] <;> rfl) (by simp only [hget, hl1, hl2, hv3, newPtr, AMem.next_alloc] <;> rfl)) rfl ?_
    refine s_tk ?_
    refine s_op (a_len (by simp (disch := omega) only [Zu, Nat.reduceEqDiff, ↓reduceIte, alen_str, FrsR.len hfr, NtsR.len hnr, hv3, newPtr, AMem.next_alloc] <;> rfl)) rfl ?_
    refine s_tk ?_
    refine s_op (a_bin (by simp (disch := omega) only [Zu, Nat.reduceEqDiff, ↓reduceIte, Zd, reduceCtorEq, abin_gtr, ne_eq, not_false_eq_true, hv3] <;> rfl)) rfl ?_
    refine s_op (a_pick (by simp only [Zu, Nat.reduceEqDiff, ↓reduceIte, Zd, reduceCtorEq, hv3] <;> rfl) (by simp only [Zu, Nat.reduceEqDiff, ↓reduceIte, Zd, reduceCtorEq, hv3] <;> rfl)) rfl ?_
    refine s_end (fun s' hs' => ?_)
    replace e0 := kp 0 hs' e0
    replace e3 := kp 3 hs' e3
    have e30 := congrFun hs' 30
    simp only [Zu, Nat.reduceEqDiff, ↓reduceIte, newPtr, AMem.next_alloc] at e30
    clear hs'
    refine o_norm ?_
    refine t_norm ?_
    refine at_cond rfl rfl e30 (fun h4 => ?_) (fun h4 => ?_)
    ·
     try simp only [Zh] at h4
     refine at_seq rfl ?_
     refine at_region hS rfl (by kernel_rfl) ?_
     refine s_op (a_as (by simp only [ev_const] <;> rfl)) rfl ?_
     refine s_end (fun s' hs' => ?_)
     have e2 := congrFun hs' 2
     simp only [Zu, Nat.reduceEqDiff, ↓reduceIte, newPtr, AMem.next_alloc] at e2
     clear hs'
     refine o_norm ?_
     refine t_norm ?_
     refine at_ret rfl ?_
     refine t_ret ?_
     refine b_ret ?_
     refine t_ret ?_
     refine t_ret ?_
     refine b_ret ?_
     refine t_ret ?_
     refine bq_ret rfl (ars_cons (ar_tmp e2) ars_nil) ?_
     exact ⟨_, _, hK false (fun h => by cases h), Canon.forget rfl holdM1⟩
    ·
     try simp only [Zh] at h4
     have hf3 : o.frames.length ≤ 3 := by omega
     have hn30 : o.notes.length ≤ 30 := by omega
     refine at_skip rfl ?_
     refine t_norm ?_
     refine at_seq rfl ?_
     refine at_region hS rfl (by kernel_rfl) ?_
     refine s_op (a_as (by simp only [ev_const] <;> rfl)) rfl ?_
     refine s_end (fun s' hs' => ?_)
     replace e0 := kp 0 hs' e0
     replace e3 := kp 3 hs' e3
     have e4 := congrFun hs' 4
     simp only [Zu, Nat.reduceEqDiff, ↓reduceIte, newPtr, AMem.next_alloc] at e4
     clear hs'
     refine o_norm ?_
     refine t_norm ?_
     refine at_block rfl ?_
     refine at_loop rfl (fun km s ML ds => ∃ (q : Nat), s 0 = lv ∧ s 3 = .int .i64 i ∧ s 4 = .int .i64 q ∧ q ≤ o.frames.length ∧ (∀ j, j < M1.next → ML.get j = M1.get j) ∧ (∀ (j : Nat) (f : Fr), j < q → o.frames[j]? = some f → f.data.length ≤ 200) ∧ km = o.frames.length - q ∧ M.next ≤ ML.next ∧ M1.next ≤ ML.next ∧ (∀ j, j < M.next → ML.get j = M.get j) ∧ ds = []) (o.frames.length - (0)) ⟨0, (by first | exact e0 | (rw [e0]; rfl) | (simpa using e0)), (by first | exact e3 | (rw [e3]; rfl) | (simpa using e3)), (by first | exact e4 | (rw [e4]; rfl) | (simpa using e4)), (by omega), (fun _ _ => rfl), (fun j f h => by omega), rfl, hnxM1, by omega, holdM1, rfl⟩ ?_
     clear e0 e3 e4
     rintro km s M2 ds ⟨q, e0, e3, e4, hq, hc7, hdat, hk, hnxM2, hngM2, holdM2, rfl⟩
     refine at_seq rfl ?_
     refine at_seq rfl ?_
     have hget7 := (hc7 id hid).trans hget
     refine at_region hS rfl (by kernel_rfl) ?_
     refine s_op (a_mv e4) rfl ?_
     refine s_op (a_mv e0) rfl ?_
     refine s_op (a_mv e3) rfl ?_
     refine s_op (a_ia (by simp (disch := omega) only [Zu, Nat.reduceEqDiff, ↓reduceIte, hia, newPtr, AMem.next_alloc] <;> rfl)) rfl ?_
     refine s_op (a_fa (by simp only [Zu, Nat.reduceEqDiff, ↓reduceIte, fa31_0, Nat.zero_add, newPtr, AMem.next_alloc] <;> rfl)) rfl ?_
     refine s_op (a_load (by simp only [Zu, Nat.reduceEqDiff, ↓reduceIte, hget7, hl1, newPtr, AMem.next_alloc] <;> rfl) (by simp (disch := first | (refine Zx ?_; simp only [Zn]; done) | ((try simp only [Zn]); omega)) only [Zg, hget7, hl1, newPtr] <;> rfl) (by simp only [hget7, hl1, newPtr, AMem.next_alloc] <;> rfl)) rfl ?_
     refine s_op (a_len (by simp (disch := omega) only [Zu, Nat.reduceEqDiff, ↓reduceIte, alen_str, FrsR.len hfr, newPtr, AMem.next_alloc] <;> rfl)) rfl ?_
     refine s_op (a_bin (by simp (disch := omega) only [Zu, Nat.reduceEqDiff, ↓reduceIte, Zd, reduceCtorEq, abin_lss, ne_eq, not_false_eq_true] <;> rfl)) rfl ?_
     refine s_end (fun s' hs' => ?_)
     replace e0 := kp 0 hs' e0
     replace e3 := kp 3 hs' e3
     replace e4 := kp 4 hs' e4
     have e38 := congrFun hs' 38
     simp only [Zu, Nat.reduceEqDiff, ↓reduceIte, newPtr, AMem.next_alloc] at e38
     clear hs'
     refine o_norm ?_
     refine t_norm ?_
     refine at_cond rfl rfl e38 (fun h7 => ?_) (fun h7 => ?_)
     ·
      try simp only [Zh] at h7
      refine at_skip rfl ?_
      refine t_norm ?_
      refine at_seq rfl ?_
      refine at_block rfl ?_
      refine at_seq rfl ?_
      have hql : q < o.frames.length := by omega
      obtain ⟨f, hfq⟩ : ∃ f, o.frames[q]? = some f := ⟨_, List.getElem?_eq_getElem hql⟩
      obtain ⟨id2, off2, all2, own2, hia2, hid2, hget2, hm1, hm2, hm3⟩ := (hfr.keep (M' := M2) (by omega) hc7).at hfq .i64
      refine at_region hS rfl (by kernel_rfl) ?_
      refine s_op (a_mv e0) rfl ?_
      refine s_op (a_mv e3) rfl ?_
      refine s_op (a_ia (by simp (disch := omega) only [Zu, Nat.reduceEqDiff, ↓reduceIte, hia, hia2, hm2, newPtr, AMem.next_alloc] <;> rfl)) rfl ?_
      refine s_op (a_fa (by simp only [Zu, Nat.reduceEqDiff, ↓reduceIte, fa31_0, Nat.zero_add, hm2, fa34_1, newPtr, AMem.next_alloc] <;> rfl)) rfl ?_
      refine s_op (a_load (by simp only [Zu, Nat.reduceEqDiff, ↓reduceIte, hget7, hl1, hget2, hm2, newPtr, AMem.next_alloc] <;> rfl) (by simp (disch := first | (refine Zx ?_; simp only [Zn]; done) | ((try simp only [Zn]); omega)) only [Zg, hget7, hl1, hget2, hm2, newPtr] <;> rfl) (by simp only [hget7, hl1, hget2, hm2, newPtr, AMem.next_alloc] <;> rfl)) rfl ?_
      refine s_op (a_mv e4) rfl ?_
      refine s_op (a_ia (by simp (disch := omega) only [Zu, Nat.reduceEqDiff, ↓reduceIte, hia, hia2, hm2, newPtr, AMem.next_alloc] <;> rfl)) rfl ?_
      refine s_op (a_fa (by simp only [Zu, Nat.reduceEqDiff, ↓reduceIte, fa34_1, Nat.zero_add, fa31_0, hm2, newPtr, AMem.next_alloc] <;> rfl)) rfl ?_
      refine s_op (a_load (by simp only [Zu, Nat.reduceEqDiff, ↓reduceIte, hget7, hl1, hget2, hm2, newPtr, AMem.next_alloc] <;> rfl) (by simp (disch := first | (refine Zx ?_; simp only [Zn]; done) | ((try simp only [Zn]); omega)) only [Zg, hget7, hl1, hget2, hm2, newPtr] <;> rfl) (by simp only [ld9, Zl, hget7, hl1, hget2, hm2, newPtr, AMem.next_alloc] <;> rfl)) rfl ?_
      refine s_op (a_len (by simp (disch := omega) only [Zu, Nat.reduceEqDiff, ↓reduceIte, alen_str, hm2, hlenS, newPtr, AMem.next_alloc] <;> rfl)) rfl ?_
      refine s_op (a_bin (by simp (disch := omega) only [Zu, Nat.reduceEqDiff, ↓reduceIte, Zd, reduceCtorEq, abin_gtr, ne_eq, not_false_eq_true, hm2] <;> rfl)) rfl ?_
      refine s_end (fun s' hs' => ?_)
      replace e0 := kp 0 hs' e0
      replace e3 := kp 3 hs' e3
      replace e4 := kp 4 hs' e4
      have e51 := congrFun hs' 51
      simp only [Zu, Nat.reduceEqDiff, ↓reduceIte, newPtr, AMem.next_alloc] at e51
      clear hs'
      refine o_norm ?_
      refine t_norm ?_
      refine at_cond rfl rfl e51 (fun h9 => ?_) (fun h9 => ?_)
      ·
       try simp only [Zh] at h9
       refine at_seq rfl ?_
       refine at_region hS rfl (by kernel_rfl) ?_
       refine s_op (a_as (by simp only [ev_const] <;> rfl)) rfl ?_
       refine s_end (fun s' hs' => ?_)
       have e2 := congrFun hs' 2
       simp only [Zu, Nat.reduceEqDiff, ↓reduceIte, newPtr, AMem.next_alloc] at e2
       clear hs'
       refine o_norm ?_
       refine t_norm ?_
       refine at_ret rfl ?_
       refine b_ret ?_
       refine t_ret ?_
       refine t_ret ?_
       refine b_ret ?_
       refine b_ret ?_
       refine t_ret ?_
       refine t_ret ?_
       refine b_ret ?_
       refine t_ret ?_
       refine bq_ret rfl (ars_cons (ar_tmp e2) ars_nil) ?_
       exact ⟨_, _, hK false (fun h => by cases h), Canon.forget rfl holdM2⟩
      ·
       try simp only [Zh] at h9
       refine at_skip rfl ?_
       refine b_norm ?_
       refine t_norm ?_
       refine at_region hS rfl (by kernel_rfl) ?_
       refine s_op (a_mv e4) rfl ?_
       refine s_op (a_bin (by simp (disch := ((try simp only [List.length_append, List.length_cons, List.length_nil]); omega)) only [Zu, Nat.reduceEqDiff, ↓reduceIte, Zd, reduceCtorEq, abin_add, abin_aadd, wrap_i64, wrap_u32, wrap_u8, wrap_u64, wrap_i32, wrap_u16, ne_eq, not_false_eq_true] <;> rfl)) rfl ?_
       refine s_as ?_
       refine s_end (fun s' hs' => ?_)
       replace e0 := kp 0 hs' e0
       replace e3 := kp 3 hs' e3
       replace e4 := congrFun hs' 4
       simp only [Zu, Nat.reduceEqDiff, ↓reduceIte, newPtr, AMem.next_alloc] at e4
       clear hs'
       refine o_norm ?_
       refine t_norm ?_
       exact ⟨o.frames.length - (q + 1), by omega, q + 1, (by first | exact e0 | (rw [e0]; rfl) | (rw [e0]; simp; done)), (by first | exact e3 | (rw [e3]; rfl) | (rw [e3]; simp; done)), (by first | exact e4 | (rw [e4]; rfl) | (rw [e4]; simp; done)), (by omega), hc7, (fun j f' h hf' => by rcases (by omega : j < q ∨ j = q) with h' | h'; exact hdat j f' h' hf'; subst h'; rw [hfq] at hf'; cases hf'; omega), rfl, hnxM2, by omega, holdM2, rfl⟩
     ·
      try simp only [Zh] at h7
      have hqe : q = o.frames.length := by omega
      refine at_exit rfl ?_
      refine t_exit ?_
      refine t_exit ?_
      refine b_here ?_
      refine b_norm ?_
      refine t_norm ?_
      refine at_region hS rfl (by kernel_rfl) ?_
      refine s_op (a_mv e3) rfl ?_
      refine s_op (a_bin (by simp (disch := ((try simp only [List.length_append, List.length_cons, List.length_nil]); omega)) only [Zu, Nat.reduceEqDiff, ↓reduceIte, Zd, reduceCtorEq, abin_add, abin_aadd, wrap_i64, wrap_u32, wrap_u8, wrap_u64, wrap_i32, wrap_u16, ne_eq, not_false_eq_true] <;> rfl)) rfl ?_
      refine s_as ?_
      refine s_end (fun s' hs' => ?_)
      replace e0 := kp 0 hs' e0
      replace e3 := congrFun hs' 3
      simp only [Zu, Nat.reduceEqDiff, ↓reduceIte, newPtr, AMem.next_alloc] at e3
      clear hs'
      refine o_norm ?_
      refine t_norm ?_
      exact ⟨os.length - (i + 1), by omega, i + 1, (by first | exact e0 | (rw [e0]; rfl) | (rw [e0]; simp; done)), (by first | exact e3 | (rw [e3]; rfl) | (rw [e3]; simp; done)), (by omega), (by omega), (fun j o' h ho' => by rcases (by omega : j < i ∨ j = i) with h' | h'; exact hfew j o' h' ho'; subst h'; rw [hoi] at ho'; cases ho'; exact ⟨hf3, hn30, fun q' f hq' => hdat q' f (by rw [hqe]; exact (List.getElem?_eq_some_iff.1 hq').1) hq'⟩), rfl, hnxM2, by omega, holdM2, rfl⟩
  ·
   try simp only [Zh] at h2
   refine at_exit rfl ?_
   refine t_exit ?_
   refine t_exit ?_
   refine b_here ?_
   refine t_norm ?_
   refine at_seq rfl ?_
   refine at_region hS rfl (by kernel_rfl) ?_
   refine s_op (a_mv e0) rfl ?_
   refine s_op (a_len (by simp (disch := omega) only [Zu, Nat.reduceEqDiff, ↓reduceIte, alen_str, OusR.len hos, newPtr, AMem.next_alloc] <;> rfl)) rfl ?_
   refine s_op (a_bin (by simp (disch := omega) only [Zu, Nat.reduceEqDiff, ↓reduceIte, Zd, reduceCtorEq, abin_leq, ne_eq, not_false_eq_true] <;> rfl)) rfl ?_
   refine s_as ?_
   refine s_end (fun s' hs' => ?_)
   have e2 := congrFun hs' 2
   simp only [Zu, Nat.reduceEqDiff, ↓reduceIte, newPtr, AMem.next_alloc] at e2
   clear hs'
   try clear e0
   refine o_norm ?_
   refine t_norm ?_
   refine at_ret rfl ?_
   refine bq_ret rfl (ars_cons (ar_tmp e2) ars_nil) ?_
   exact ⟨_, _, hK _ (fun h => by have h := of_decide_eq_true h; exact ⟨by omega, fun j o ho => hfew j o (by have := (List.getElem?_eq_some_iff.1 ho).1; omega) ho⟩), Canon.forget rfl holdM1⟩
 ·
  refine at_region hS rfl (by kernel_rfl) ?_
  refine s_op (a_mv e3) rfl ?_
  refine s_op (a_mv e0) rfl ?_
  refine s_op (a_len (by simp (disch := omega) only [Zu, Nat.reduceEqDiff, ↓reduceIte, alen_str, OusR.len hos, hv, newPtr, AMem.next_alloc] <;> rfl)) rfl ?_
  refine s_op (a_bin (by simp (disch := omega) only [Zu, Nat.reduceEqDiff, ↓reduceIte, Zd, reduceCtorEq, abin_lss, ne_eq, not_false_eq_true, hv] <;> rfl)) rfl ?_
  refine s_mv ?_
  refine s_lv ?_
  refine s_lv ?_
  refine s_op (a_pick (by simp only [Zu, Nat.reduceEqDiff, ↓reduceIte, Zd, reduceCtorEq, hv] <;> rfl) (by simp only [Zu, Nat.reduceEqDiff, ↓reduceIte, Zd, reduceCtorEq, hv] <;> rfl)) rfl ?_
  refine s_end (fun s' hs' => ?_)
  replace e0 := kp 0 hs' e0
  replace e3 := kp 3 hs' e3
  have e12 := congrFun hs' 12
  simp only [Zu, Nat.reduceEqDiff, ↓reduceIte, newPtr, AMem.next_alloc] at e12
  clear hs'
  refine o_norm ?_
  refine t_norm ?_
  refine at_cond rfl rfl e12 (fun hc => by cases hc) (fun h2 => ?_)
  try simp only [Zh] at h2
  refine at_exit rfl ?_
  refine t_exit ?_
  refine t_exit ?_
  refine b_here ?_
  refine t_norm ?_
  refine at_seq rfl ?_
  refine at_region hS rfl (by kernel_rfl) ?_
  refine s_op (a_mv e0) rfl ?_
  refine s_op (a_len (by simp (disch := omega) only [Zu, Nat.reduceEqDiff, ↓reduceIte, alen_str, OusR.len hos, newPtr, AMem.next_alloc] <;> rfl)) rfl ?_
  refine s_op (a_bin (by simp (disch := omega) only [Zu, Nat.reduceEqDiff, ↓reduceIte, Zd, reduceCtorEq, abin_leq, ne_eq, not_false_eq_true] <;> rfl)) rfl ?_
  refine s_as ?_
  refine s_end (fun s' hs' => ?_)
  have e2 := congrFun hs' 2
  simp only [Zu, Nat.reduceEqDiff, ↓reduceIte, newPtr, AMem.next_alloc] at e2
  clear hs'
  try clear e0
  refine o_norm ?_
  refine t_norm ?_
  refine at_ret rfl ?_
  refine bq_ret rfl (ars_cons (ar_tmp e2) ars_nil) ?_
  exact ⟨_, _, hK _ (fun h => by have h := of_decide_eq_true h; exact ⟨by omega, fun j o ho => hfew j o (by have := (List.getElem?_eq_some_iff.1 ho).1; omega) ho⟩), Canon.forget rfl holdM1⟩
end Go.Proofs.Ytdkdkpiemigfkaa
set_option linter.unusedVariables false
set_option linter.unusedSimpArgs false
set_option maxRecDepth 8000
namespace Go.Proofs.Ytdkdkpiemigfkaa
open Go Go.Proofs
def ethT (l : List UInt8) : Int := numF ((l.drop 12).take 2)
def segGet (l : List UInt8) : Option (Tup × Segh × List UInt8) :=
  if (ethGetF l).2.2 ≠ 0 ∨ ethT l ≠ 2048 then none else
  if (ipGetF (ethGetF l).2.1).2.2 ≠ 0 ∨ (ipGetF (ethGetF l).2.1).1.proto ≠ 6 then none else
  if (tcpGetF (ipGetF (ethGetF l).2.1).1.src (ipGetF (ethGetF l).2.1).1.dst (ipGetF (ethGetF l).2.1).2.1).2.2 ≠ 0 then none else
  some (⟨6, (ipGetF (ethGetF l).2.1).1.src, (ipGetF (ethGetF l).2.1).1.dst, (tcpGetF (ipGetF (ethGetF l).2.1).1.src (ipGetF (ethGetF l).2.1).1.dst (ipGetF (ethGetF l).2.1).2.1).1.src, (tcpGetF (ipGetF (ethGetF l).2.1).1.src (ipGetF (ethGetF l).2.1).1.dst (ipGetF (ethGetF l).2.1).2.1).1.dst⟩,
    (tcpGetF (ipGetF (ethGetF l).2.1).1.src (ipGetF (ethGetF l).2.1).1.dst (ipGetF (ethGetF l).2.1).2.1).1, (tcpGetF (ipGetF (ethGetF l).2.1).1.src (ipGetF (ethGetF l).2.1).1.dst (ipGetF (ethGetF l).2.1).2.1).2.1)
theorem part_le (l : List UInt8) (a b : Nat) : (part l a b).length ≤ l.length := by unfold part; rw [List.length_take, List.length_drop]; omega
theorem eth_facts (l : List UInt8) : ∃ et : Int, (ethGetF l).1.length = 13 ∧ (ethGetF l).1.all (·.oneCell') = true ∧ (ethGetF l).1[12]? = some (.int .i64 et) ∧ ((ethGetF l).2.2 = 0 → et = ethT l) ∧ (ethGetF l).2.1.length ≤ l.length := by
  unfold ethGetF
  split
  · exact ⟨0, rfl, ethCells_one _ _ _, rfl, fun h => absurd h (by decide), by simp⟩
  · split
    · exact ⟨0, rfl, ethCells_one _ _ _, rfl, fun h => absurd h (by decide), by simp⟩
    · have h6 : (l.take 6).length = 6 := by rw [List.length_take]; omega
      have h6' : ((l.drop 6).take 6).length = 6 := by rw [List.length_take, List.length_drop]; omega
      refine ⟨_, ethCells_length h6 h6', ethCells_one _ _ _, ?_, fun _ => rfl, by simp⟩
      unfold ethCells
      rw [List.getElem?_append_right (by rw [List.length_append, byteCells_length, byteCells_length]; omega), List.length_append, byteCells_length, byteCells_length, h6, h6']
      rfl
theorem u32_0 : u32 0 := ⟨by decide, by decide⟩
theorem ip_facts {l : List UInt8} (h : (ipGetF l).2.2 = 0) : u32 (ipGetF l).1.src ∧ u32 (ipGetF l).1.dst := by
  unfold ipGetF at h ⊢
  split
  · exact ⟨u32_0, u32_0⟩
  split
  · exact ⟨u32_0, u32_0⟩
  split
  · exact ⟨u32_0, u32_0⟩
  split
  · exact ⟨u32_0, u32_0⟩
  split
  · exact ⟨u32_0, u32_0⟩
  split
  · exact ⟨u32_0, u32_0⟩
  split
  · exact ⟨u32_0, u32_0⟩
  split
  · exact ⟨u32_0, u32_0⟩
  exact ⟨numF_bound4 _ (part_length (by omega)), numF_bound4 _ (part_length (by omega))⟩
theorem ip_len (l : List UInt8) : (ipGetF l).2.1.length ≤ l.length := by
  unfold ipGetF
  repeat' split
  all_goals first | exact part_le _ _ _ | simp
def tup0 : Tup := ⟨0, 0, 0, 0, 0⟩
def retSG : Option (Tup × Segh × List UInt8) → Value
  | none => .tuple #[.agg tup0.cells.toArray, .agg seg0.cells.toArray, asString [], .bool false]
  | some (t, h, b) => .tuple #[.agg t.cells.toArray, .agg h.cells.toArray, asString b, .bool true]
theorem ipc_6 (h : IPh) : h.cells[6]? = some (.int .i64 h.proto) := rfl
theorem ipc_7 (h : IPh) : h.cells[7]? = some (.int .u32 h.src) := rfl
theorem ipc_8 (h : IPh) : h.cells[8]? = some (.int .u32 h.dst) := rfl
theorem sgc_0 (h : Segh) : h.cells[0]? = some (.int .i64 h.src) := rfl
theorem sgc_1 (h : Segh) : h.cells[1]? = some (.int .i64 h.dst) := rfl
theorem sgc_4 (h : Segh) : h.cells[4]? = some (.int .i64 h.flags) := rfl
def sp34 : ASpec := fun args M K => ∃ l : List UInt8, args = [asString l] ∧ l.length ≤ 100000000 ∧ K (.ret (retSG (segGet l))) M
noncomputable def S34 : FuncId → ASpec := tab [(46, sp46), (47, sp47), (48, sp48)]
theorem S34_46 : S34 46 = sp46 := rfl
theorem S34_47 : S34 47 = sp47 := rfl
theorem S34_48 : S34 48 = sp48 := rfl
theorem S34_ok : ∀ f, Sound Try.prog f (S34 f) := tab_sound _ (by simp [f46_ok, f47_ok, f48_ok])
set_option maxHeartbeats 1000000 in
theorem f34_ok : Sound Try.prog 34 sp34 := by
 refine Sound.of_awp (c := bodyOf Try.f34) Try.func34 rfl rfl rfl ?_
 rintro args M K ⟨l, rfl, hll, hK⟩
 refine ⟨Nat.le_of_ble_eq_true rfl, ?_⟩
 have hS := S34_ok
 have e0 : entry [asString l] 0 = asString l := rfl
 have hz57 : azero Try.prog 57 = some seg0.cells := z57
 have hz39 : azero Try.prog 39 = some tup0.cells := z39
 have hz61 : azero Try.prog 61 = some eth0 := z61
 have hz64 : azero Try.prog 64 = some ip0.cells := z64
 have hb57 : abuild Try.prog 57 [] = some seg0.cells := b57
 have hb39 : abuild Try.prog 39 [] = some tup0.cells := by kernel_rfl
 have hst57 : ∀ h k : Segh, astore Try.prog 57 h.cells 0 (.agg k.cells.toArray) = some k.cells := st57
 have hst39 : ∀ h k : Tup, astore Try.prog 39 h.cells 0 (.agg k.cells.toArray) = some k.cells := st39
 have hst64 : ∀ h k : IPh, astore Try.prog 64 h.cells 0 (.agg k.cells.toArray) = some k.cells := st64
 obtain ⟨et, c13, c1, c12, hT, hlen1⟩ := eth_facts l
 have hst61 : astore Try.prog 61 eth0 0 (.agg (ethGetF l).1.toArray) = some (ethGetF l).1 := st61 rfl c13 c1
 have hno : ∀ e, e ≠ 0 → segGet l = none → True := fun _ _ _ => trivial
 have hsg : segGet l = segGet l := rfl
 conv at hsg => rhs; unfold segGet
 generalize hr1 : ethGetF l = r1 at *
 refine at_seq rfl ?_
 refine at_region hS rfl (by kernel_rfl) ?_
 refine s_op (a_alloc hz39) rfl ?_
 refine s_op (a_alloc hz57) rfl ?_
 refine s_op (a_as (by simp only [ev_const] <;> rfl)) rfl ?_
 refine s_op (a_as (by simp only [ev_const] <;> rfl)) rfl ?_
 refine s_end (fun s' hs' => ?_)
 replace e0 := kp 0 hs' e0
 have e2 := congrFun hs' 2
 have e3 := congrFun hs' 3
 simp only [Zu, Nat.reduceEqDiff, ↓reduceIte, newPtr, AMem.next_alloc] at e2 e3
 clear hs'
 refine o_norm ?_
 refine q_mem (fun M1 hEM1 => ?_)
 have hnM1 := congrArg AMem.next hEM1; simp only [Zn, Nat.add_assoc, Nat.reduceAdd] at hnM1
 have hnxM1 : M.next ≤ M1.next := by have := (Nat.le_refl M.next); omega
 have holdM1 : ∀ j, j < M.next → M1.get j = M.get j := fun j hj => by have := (Nat.le_refl M.next); rw [hEM1]; simp (disch := first | (refine Zx ?_; simp only [Zn]; done) | ((try simp only [Zn]); omega)) only [Zg]; done
 have gM1_0 := congrArg (fun m => AMem.get m M.next) hEM1; try simp (disch := first | (refine Zx ?_; simp only [Zn]; done) | ((try simp only [Zn]); omega)) only [Zg, Nat.add_assoc, Nat.reduceAdd] at gM1_0
 have gM1_1 := congrArg (fun m => AMem.get m (M.next + 1)) hEM1; try simp (disch := first | (refine Zx ?_; simp only [Zn]; done) | ((try simp only [Zn]); omega)) only [Zg, Nat.add_assoc, Nat.reduceAdd] at gM1_1
 clear hEM1
 refine t_norm ?_
 refine at_seq rfl ?_
 refine at_region hS rfl (by kernel_rfl) ?_
 refine s_op (a_mv e0) rfl ?_
 refine s_call (by simp only [Zu, Nat.reduceEqDiff, ↓reduceIte, retEth, hst61, newPtr, AMem.next_alloc, gM1_0, gM1_1] <;> rfl) (by simp only [Zu, Nat.reduceEqDiff, ↓reduceIte, Zm, retEth, hst61, newPtr, AMem.next_alloc, gM1_0, gM1_1] <;> rfl) ?_
 rw [S34_46]; refine ⟨l, rfl, by omega, ?_⟩; rw [hr1]
 show EA _ _ _ _ _ _
 refine s_mv ?_
 refine s_op (a_ext (by simp only [Zu, Nat.reduceEqDiff, ↓reduceIte, retEth, hst61, newPtr, AMem.next_alloc] <;> rfl) (by first | exact ext4_0 | exact ext3_0 | exact ext2_0 | rfl)) rfl ?_
 refine s_op (a_ext (by simp only [Zu, Nat.reduceEqDiff, ↓reduceIte, retEth, hst61, newPtr, AMem.next_alloc] <;> rfl) (by first | exact ext4_1 | exact ext3_1 | exact ext2_1 | rfl)) rfl ?_
 refine s_op (a_ext (by simp only [Zu, Nat.reduceEqDiff, ↓reduceIte, retEth, hst61, newPtr, AMem.next_alloc] <;> rfl) (by first | exact ext4_2 | exact ext3_2 | exact ext2_2 | rfl)) rfl ?_
 refine s_op (a_alloc hz61) rfl ?_
 refine s_op (a_store (by simp only [Zu, Nat.reduceEqDiff, ↓reduceIte, retEth, hst61, newPtr, AMem.next_alloc, gM1_0, gM1_1] <;> rfl) (by simp (disch := first | (refine Zx ?_; simp only [Zn]; done) | ((try simp only [Zn]); omega)) only [Zg, retEth, hst61, newPtr, gM1_0, gM1_1] <;> rfl) (by simp only [Zu, Nat.reduceEqDiff, ↓reduceIte, retEth, hst61, newPtr, AMem.next_alloc, gM1_0, gM1_1] <;> rfl) (by simp only [retEth, hst61, newPtr, AMem.next_alloc, gM1_0, gM1_1] <;> rfl)) rfl ?_
 refine s_as ?_
 refine s_as ?_
 refine s_end (fun s' hs' => ?_)
 replace e2 := kp 2 hs' e2
 replace e3 := kp 3 hs' e3
 have e6 := congrFun hs' 6
 have e7 := congrFun hs' 7
 have e8 := congrFun hs' 8
 simp only [Zu, Nat.reduceEqDiff, ↓reduceIte, newPtr, AMem.next_alloc] at e6 e7 e8
 clear hs'
 try clear e0
 refine o_norm ?_
 refine q_mem (fun M2 hEM2 => ?_)
 have hnM2 := congrArg AMem.next hEM2; simp only [Zn, Nat.add_assoc, Nat.reduceAdd] at hnM2
 have hnxM2 : M.next ≤ M2.next := by have := hnxM1; omega
 have holdM2 : ∀ j, j < M.next → M2.get j = M.get j := fun j hj => by have := hnxM1; rw [hEM2]; simp (disch := first | (refine Zx ?_; simp only [Zn]; done) | ((try simp only [Zn]); omega)) only [Zg]; exact holdM1 j hj
 have gM2_0 := congrArg (fun m => AMem.get m M.next) hEM2; try simp (disch := first | (refine Zx ?_; simp only [Zn]; done) | ((try simp only [Zn]); omega)) only [Zg, Nat.add_assoc, Nat.reduceAdd, gM1_0, gM1_1] at gM2_0
 have gM2_1 := congrArg (fun m => AMem.get m (M.next + 1)) hEM2; try simp (disch := first | (refine Zx ?_; simp only [Zn]; done) | ((try simp only [Zn]); omega)) only [Zg, Nat.add_assoc, Nat.reduceAdd, gM1_0, gM1_1] at gM2_1
 have gM2_2 := congrArg (fun m => AMem.get m M1.next) hEM2; try simp (disch := first | (refine Zx ?_; simp only [Zn]; done) | ((try simp only [Zn]); omega)) only [Zg, Nat.add_assoc, Nat.reduceAdd, gM1_0, gM1_1] at gM2_2
 clear hEM2
 refine t_norm ?_
 refine at_seq rfl ?_
 refine at_seq rfl ?_
 by_cases hx : r1.2.2 = 0
 ·
  refine at_region hS rfl (by kernel_rfl) ?_
  refine s_op (a_mv e8) rfl ?_
  refine s_op (a_bin (by simp (disch := omega) only [Zu, Nat.reduceEqDiff, ↓reduceIte, Zd, reduceCtorEq, abin_neq, abin_aneq, ne_eq, not_false_eq_true, Nat.zero_add, c12, hx] <;> rfl)) rfl ?_
  refine s_mv ?_
  refine s_tk ?_
  refine s_op (a_fa (by simp only [Zu, Nat.reduceEqDiff, ↓reduceIte, fa61_2, Nat.zero_add, c12, hx, newPtr, AMem.next_alloc, e6] <;> rfl)) rfl ?_
  refine s_tk ?_
  refine s_op (a_load (by simp only [Zu, Nat.reduceEqDiff, ↓reduceIte, Nat.zero_add, ld3, c12, hx, newPtr, AMem.next_alloc, gM2_0, gM2_1, gM2_2] <;> rfl) (by simp (disch := first | (refine Zx ?_; simp only [Zn]; done) | ((try simp only [Zn]); omega)) only [Zg, Nat.zero_add, ld3, c12, hx, newPtr, gM2_0, gM2_1, gM2_2] <;> rfl) (by simp only [ld3, Zl, Nat.zero_add, c12, hx, newPtr, AMem.next_alloc, gM2_0, gM2_1, gM2_2] <;> rfl)) rfl ?_
  refine s_tk ?_
  refine s_op (a_bin (by simp (disch := omega) only [Zu, Nat.reduceEqDiff, ↓reduceIte, Zd, reduceCtorEq, abin_neq, abin_aneq, ne_eq, not_false_eq_true, Nat.zero_add, c12, hx] <;> rfl)) rfl ?_
  refine s_op (a_pick (by simp only [Zu, Nat.reduceEqDiff, ↓reduceIte, Zd, reduceCtorEq, Nat.zero_add, c12, hx] <;> rfl) (by simp only [Zu, Nat.reduceEqDiff, ↓reduceIte, Zd, reduceCtorEq, Nat.zero_add, c12, hx] <;> rfl)) rfl ?_
  refine s_end (fun s' hs' => ?_)
  replace e2 := kp 2 hs' e2
  replace e3 := kp 3 hs' e3
  replace e7 := kp 7 hs' e7
  have e23 := congrFun hs' 23
  simp only [Zu, Nat.reduceEqDiff, ↓reduceIte, newPtr, AMem.next_alloc] at e23
  clear hs'
  try clear e6 e8
  refine o_norm ?_
  refine t_norm ?_
  refine at_cond rfl rfl e23 (fun h2 => ?_) (fun h2 => ?_)
  ·
   try simp only [Zh] at h2
   refine at_seq rfl ?_
   refine at_region hS rfl (by kernel_rfl) ?_
   refine s_op (a_build (by simp only [Zm, Array.toList, hb57, hb39, hst57, hst39, newPtr, AMem.next_alloc] <;> rfl)) rfl ?_
   refine s_op (a_build (by simp only [Zm, Array.toList, hb57, hb39, hst57, hst39, newPtr, AMem.next_alloc] <;> rfl)) rfl ?_
   refine s_op (a_store e2 (by simp (disch := first | (refine Zx ?_; simp only [Zn]; done) | ((try simp only [Zn]); omega)) only [Zg, hb57, hb39, hst57, hst39, newPtr, gM2_0, gM2_1, gM2_2, e2] <;> rfl) (by simp only [Zu, Nat.reduceEqDiff, ↓reduceIte, hb57, hb39, hst57, hst39, newPtr, AMem.next_alloc, gM2_0, gM2_1, gM2_2, e2] <;> rfl) (by simp only [hb57, hb39, hst57, hst39, newPtr, AMem.next_alloc, gM2_0, gM2_1, gM2_2, e2] <;> rfl)) rfl ?_
   refine s_op (a_store e3 (by simp (disch := first | (refine Zx ?_; simp only [Zn]; done) | ((try simp only [Zn]); omega)) only [Zg, hb57, hb39, hst57, hst39, newPtr, gM2_0, gM2_1, gM2_2, e3] <;> rfl) (by simp only [Zu, Nat.reduceEqDiff, ↓reduceIte, hb57, hb39, hst57, hst39, newPtr, AMem.next_alloc, gM2_0, gM2_1, gM2_2, e3] <;> rfl) (by simp only [hb57, hb39, hst57, hst39, newPtr, AMem.next_alloc, gM2_0, gM2_1, gM2_2, e3] <;> rfl)) rfl ?_
   refine s_op (a_as (by simp only [ev_const] <;> rfl)) rfl ?_
   refine s_op (a_as (by simp only [ev_const] <;> rfl)) rfl ?_
   refine s_end (fun s' hs' => ?_)
   replace e2 := kp 2 hs' e2
   replace e3 := kp 3 hs' e3
   have e4 := congrFun hs' 4
   have e5 := congrFun hs' 5
   simp only [Zu, Nat.reduceEqDiff, ↓reduceIte, newPtr, AMem.next_alloc] at e4 e5
   clear hs'
   refine o_norm ?_
   refine q_mem (fun M3 hEM3 => ?_)
   have hnM3 := congrArg AMem.next hEM3; simp only [Zn, Nat.add_assoc, Nat.reduceAdd] at hnM3
   have hnxM3 : M.next ≤ M3.next := by have := hnxM2; omega
   have holdM3 : ∀ j, j < M.next → M3.get j = M.get j := fun j hj => by have := hnxM2; rw [hEM3]; simp (disch := first | (refine Zx ?_; simp only [Zn]; done) | ((try simp only [Zn]); omega)) only [Zg]; exact holdM2 j hj
   have gM3_0 := congrArg (fun m => AMem.get m M.next) hEM3; try simp (disch := first | (refine Zx ?_; simp only [Zn]; done) | ((try simp only [Zn]); omega)) only [Zg, Nat.add_assoc, Nat.reduceAdd, gM2_0, gM2_1, gM2_2] at gM3_0
   have gM3_1 := congrArg (fun m => AMem.get m (M.next + 1)) hEM3; try simp (disch := first | (refine Zx ?_; simp only [Zn]; done) | ((try simp only [Zn]); omega)) only [Zg, Nat.add_assoc, Nat.reduceAdd, gM2_0, gM2_1, gM2_2] at gM3_1
   have gM3_2 := congrArg (fun m => AMem.get m M1.next) hEM3; try simp (disch := first | (refine Zx ?_; simp only [Zn]; done) | ((try simp only [Zn]); omega)) only [Zg, Nat.add_assoc, Nat.reduceAdd, gM2_0, gM2_1, gM2_2] at gM3_2
   clear hEM3
   refine t_norm ?_
   refine at_ret rfl ?_
   refine t_ret ?_
   have hF : segGet l = none := by rw [hsg]; exact if_pos (by first | exact Or.inl hx | exact Or.inr (by rw [← hT hx]; simpa using h2))
   rw [hF] at hK
   refine bq_ret rfl (ars_cons (ar_cell e2 (by assumption) (ld39 _)) (ars_cons (ar_cell e3 (by assumption) (ld57 _)) (ars_cons (ar_tmp e4) (ars_cons (ar_tmp e5) ars_nil)))) ?_
   exact ⟨_, _, hK, Canon.forget rfl holdM3⟩
  ·
   try simp only [Zh] at h2
   have het : ethT l = 2048 := by rw [← hT hx]; simpa using h2
   rw [if_neg (by simp [hx, het])] at hsg
   have hlen2 := ip_len r1.2.1
   have hip := ip_facts (l := r1.2.1)
   generalize hr2 : ipGetF r1.2.1 = r2 at *
   refine at_skip rfl ?_
   refine t_norm ?_
   refine at_seq rfl ?_
   refine at_region hS rfl (by kernel_rfl) ?_
   refine s_op (a_mv e7) rfl ?_
   refine s_call (by simp only [Zu, Nat.reduceEqDiff, ↓reduceIte, retIP, hst64, newPtr, AMem.next_alloc, gM2_0, gM2_1, gM2_2] <;> rfl) (by simp only [Zu, Nat.reduceEqDiff, ↓reduceIte, Zm, retIP, hst64, newPtr, AMem.next_alloc, gM2_0, gM2_1, gM2_2] <;> rfl) ?_
   rw [S34_47]; refine ⟨_, rfl, by omega, ?_⟩; rw [hr2]
   show EA _ _ _ _ _ _
   refine s_mv ?_
   refine s_op (a_ext (by simp only [Zu, Nat.reduceEqDiff, ↓reduceIte, retIP, hst64, newPtr, AMem.next_alloc] <;> rfl) (by first | exact ext4_0 | exact ext3_0 | exact ext2_0 | rfl)) rfl ?_
   refine s_op (a_ext (by simp only [Zu, Nat.reduceEqDiff, ↓reduceIte, retIP, hst64, newPtr, AMem.next_alloc] <;> rfl) (by first | exact ext4_1 | exact ext3_1 | exact ext2_1 | rfl)) rfl ?_
   refine s_op (a_ext (by simp only [Zu, Nat.reduceEqDiff, ↓reduceIte, retIP, hst64, newPtr, AMem.next_alloc] <;> rfl) (by first | exact ext4_2 | exact ext3_2 | exact ext2_2 | rfl)) rfl ?_
   refine s_op (a_alloc hz64) rfl ?_
   refine s_op (a_store (by simp only [Zu, Nat.reduceEqDiff, ↓reduceIte, retIP, hst64, newPtr, AMem.next_alloc, gM2_0, gM2_1, gM2_2] <;> rfl) (by simp (disch := first | (refine Zx ?_; simp only [Zn]; done) | ((try simp only [Zn]); omega)) only [Zg, retIP, hst64, newPtr, gM2_0, gM2_1, gM2_2] <;> rfl) (by simp only [Zu, Nat.reduceEqDiff, ↓reduceIte, retIP, hst64, newPtr, AMem.next_alloc, gM2_0, gM2_1, gM2_2] <;> rfl) (by simp only [retIP, hst64, newPtr, AMem.next_alloc, gM2_0, gM2_1, gM2_2] <;> rfl)) rfl ?_
   refine s_as ?_
   refine s_as ?_
   refine s_end (fun s' hs' => ?_)
   replace e2 := kp 2 hs' e2
   replace e3 := kp 3 hs' e3
   replace e7 := congrFun hs' 7
   have e8 := congrFun hs' 8
   have e9 := congrFun hs' 9
   simp only [Zu, Nat.reduceEqDiff, ↓reduceIte, newPtr, AMem.next_alloc] at e7 e8 e9
   clear hs'
   refine o_norm ?_
   refine q_mem (fun M4 hEM4 => ?_)
   have hnM4 := congrArg AMem.next hEM4; simp only [Zn, Nat.add_assoc, Nat.reduceAdd] at hnM4
   have hnxM4 : M.next ≤ M4.next := by have := hnxM2; omega
   have holdM4 : ∀ j, j < M.next → M4.get j = M.get j := fun j hj => by have := hnxM2; rw [hEM4]; simp (disch := first | (refine Zx ?_; simp only [Zn]; done) | ((try simp only [Zn]); omega)) only [Zg]; exact holdM2 j hj
   have gM4_0 := congrArg (fun m => AMem.get m M.next) hEM4; try simp (disch := first | (refine Zx ?_; simp only [Zn]; done) | ((try simp only [Zn]); omega)) only [Zg, Nat.add_assoc, Nat.reduceAdd, gM2_0, gM2_1, gM2_2] at gM4_0
   have gM4_1 := congrArg (fun m => AMem.get m (M.next + 1)) hEM4; try simp (disch := first | (refine Zx ?_; simp only [Zn]; done) | ((try simp only [Zn]); omega)) only [Zg, Nat.add_assoc, Nat.reduceAdd, gM2_0, gM2_1, gM2_2] at gM4_1
   have gM4_2 := congrArg (fun m => AMem.get m M1.next) hEM4; try simp (disch := first | (refine Zx ?_; simp only [Zn]; done) | ((try simp only [Zn]); omega)) only [Zg, Nat.add_assoc, Nat.reduceAdd, gM2_0, gM2_1, gM2_2] at gM4_2
   have gM4_3 := congrArg (fun m => AMem.get m M2.next) hEM4; try simp (disch := first | (refine Zx ?_; simp only [Zn]; done) | ((try simp only [Zn]); omega)) only [Zg, Nat.add_assoc, Nat.reduceAdd, gM2_0, gM2_1, gM2_2] at gM4_3
   clear hEM4
   refine t_norm ?_
   refine at_seq rfl ?_
   refine at_seq rfl ?_
   by_cases hy : r2.2.2 = 0
   ·
    refine at_region hS rfl (by kernel_rfl) ?_
    refine s_op (a_mv e8) rfl ?_
    refine s_op (a_bin (by simp (disch := omega) only [Zu, Nat.reduceEqDiff, ↓reduceIte, Zd, reduceCtorEq, abin_neq, abin_aneq, ne_eq, not_false_eq_true, Nat.zero_add, hy] <;> rfl)) rfl ?_
    refine s_mv ?_
    refine s_tk ?_
    refine s_op (a_fa (by simp only [Zu, Nat.reduceEqDiff, ↓reduceIte, fa64_6, Nat.zero_add, hy, newPtr, AMem.next_alloc, e9] <;> rfl)) rfl ?_
    refine s_tk ?_
    refine s_op (a_load (by simp only [Zu, Nat.reduceEqDiff, ↓reduceIte, Nat.zero_add, ld3, ipc_6, hy, newPtr, AMem.next_alloc, gM4_0, gM4_1, gM4_2, gM4_3] <;> rfl) (by simp (disch := first | (refine Zx ?_; simp only [Zn]; done) | ((try simp only [Zn]); omega)) only [Zg, Nat.zero_add, ld3, ipc_6, hy, newPtr, gM4_0, gM4_1, gM4_2, gM4_3] <;> rfl) (by simp only [ld3, Zl, Nat.zero_add, ipc_6, hy, newPtr, AMem.next_alloc, gM4_0, gM4_1, gM4_2, gM4_3] <;> rfl)) rfl ?_
    refine s_tk ?_
    refine s_op (a_bin (by simp (disch := omega) only [Zu, Nat.reduceEqDiff, ↓reduceIte, Zd, reduceCtorEq, abin_neq, abin_aneq, ne_eq, not_false_eq_true, Nat.zero_add, hy] <;> rfl)) rfl ?_
    refine s_op (a_pick (by simp only [Zu, Nat.reduceEqDiff, ↓reduceIte, Zd, reduceCtorEq, Nat.zero_add, hy] <;> rfl) (by simp only [Zu, Nat.reduceEqDiff, ↓reduceIte, Zd, reduceCtorEq, Nat.zero_add, hy] <;> rfl)) rfl ?_
    refine s_end (fun s' hs' => ?_)
    replace e2 := kp 2 hs' e2
    replace e3 := kp 3 hs' e3
    replace e7 := kp 7 hs' e7
    replace e9 := kp 9 hs' e9
    have e38 := congrFun hs' 38
    simp only [Zu, Nat.reduceEqDiff, ↓reduceIte, newPtr, AMem.next_alloc] at e38
    clear hs'
    try clear e8
    refine o_norm ?_
    refine t_norm ?_
    refine at_cond rfl rfl e38 (fun h5 => ?_) (fun h5 => ?_)
    ·
     try simp only [Zh] at h5
     refine at_seq rfl ?_
     refine at_region hS rfl (by kernel_rfl) ?_
     refine s_op (a_build (by simp only [Zm, Array.toList, hb57, hb39, hst57, hst39, newPtr, AMem.next_alloc] <;> rfl)) rfl ?_
     refine s_op (a_build (by simp only [Zm, Array.toList, hb57, hb39, hst57, hst39, newPtr, AMem.next_alloc] <;> rfl)) rfl ?_
     refine s_op (a_store e2 (by simp (disch := first | (refine Zx ?_; simp only [Zn]; done) | ((try simp only [Zn]); omega)) only [Zg, hb57, hb39, hst57, hst39, newPtr, gM4_0, gM4_1, gM4_2, gM4_3, e2] <;> rfl) (by simp only [Zu, Nat.reduceEqDiff, ↓reduceIte, hb57, hb39, hst57, hst39, newPtr, AMem.next_alloc, gM4_0, gM4_1, gM4_2, gM4_3, e2] <;> rfl) (by simp only [hb57, hb39, hst57, hst39, newPtr, AMem.next_alloc, gM4_0, gM4_1, gM4_2, gM4_3, e2] <;> rfl)) rfl ?_
     refine s_op (a_store e3 (by simp (disch := first | (refine Zx ?_; simp only [Zn]; done) | ((try simp only [Zn]); omega)) only [Zg, hb57, hb39, hst57, hst39, newPtr, gM4_0, gM4_1, gM4_2, gM4_3, e3] <;> rfl) (by simp only [Zu, Nat.reduceEqDiff, ↓reduceIte, hb57, hb39, hst57, hst39, newPtr, AMem.next_alloc, gM4_0, gM4_1, gM4_2, gM4_3, e3] <;> rfl) (by simp only [hb57, hb39, hst57, hst39, newPtr, AMem.next_alloc, gM4_0, gM4_1, gM4_2, gM4_3, e3] <;> rfl)) rfl ?_
     refine s_op (a_as (by simp only [ev_const] <;> rfl)) rfl ?_
     refine s_op (a_as (by simp only [ev_const] <;> rfl)) rfl ?_
     refine s_end (fun s' hs' => ?_)
     replace e2 := kp 2 hs' e2
     replace e3 := kp 3 hs' e3
     have e4 := congrFun hs' 4
     have e5 := congrFun hs' 5
     simp only [Zu, Nat.reduceEqDiff, ↓reduceIte, newPtr, AMem.next_alloc] at e4 e5
     clear hs'
     refine o_norm ?_
     refine q_mem (fun M5 hEM5 => ?_)
     have hnM5 := congrArg AMem.next hEM5; simp only [Zn, Nat.add_assoc, Nat.reduceAdd] at hnM5
     have hnxM5 : M.next ≤ M5.next := by have := hnxM4; omega
     have holdM5 : ∀ j, j < M.next → M5.get j = M.get j := fun j hj => by have := hnxM4; rw [hEM5]; simp (disch := first | (refine Zx ?_; simp only [Zn]; done) | ((try simp only [Zn]); omega)) only [Zg]; exact holdM4 j hj
     have gM5_0 := congrArg (fun m => AMem.get m M.next) hEM5; try simp (disch := first | (refine Zx ?_; simp only [Zn]; done) | ((try simp only [Zn]); omega)) only [Zg, Nat.add_assoc, Nat.reduceAdd, gM4_0, gM4_1, gM4_2, gM4_3] at gM5_0
     have gM5_1 := congrArg (fun m => AMem.get m (M.next + 1)) hEM5; try simp (disch := first | (refine Zx ?_; simp only [Zn]; done) | ((try simp only [Zn]); omega)) only [Zg, Nat.add_assoc, Nat.reduceAdd, gM4_0, gM4_1, gM4_2, gM4_3] at gM5_1
     have gM5_2 := congrArg (fun m => AMem.get m M1.next) hEM5; try simp (disch := first | (refine Zx ?_; simp only [Zn]; done) | ((try simp only [Zn]); omega)) only [Zg, Nat.add_assoc, Nat.reduceAdd, gM4_0, gM4_1, gM4_2, gM4_3] at gM5_2
     have gM5_3 := congrArg (fun m => AMem.get m M2.next) hEM5; try simp (disch := first | (refine Zx ?_; simp only [Zn]; done) | ((try simp only [Zn]); omega)) only [Zg, Nat.add_assoc, Nat.reduceAdd, gM4_0, gM4_1, gM4_2, gM4_3] at gM5_3
     clear hEM5
     refine t_norm ?_
     refine at_ret rfl ?_
     refine t_ret ?_
     have hF : segGet l = none := by rw [hsg]; exact if_pos (by first | exact Or.inl hy | exact Or.inr (by simpa using h5))
     rw [hF] at hK
     refine bq_ret rfl (ars_cons (ar_cell e2 (by assumption) (ld39 _)) (ars_cons (ar_cell e3 (by assumption) (ld57 _)) (ars_cons (ar_tmp e4) (ars_cons (ar_tmp e5) ars_nil)))) ?_
     exact ⟨_, _, hK, Canon.forget rfl holdM5⟩
    ·
     try simp only [Zh] at h5
     have hpr : r2.1.proto = 6 := by simpa using h5
     rw [if_neg (by simp [hy, hpr])] at hsg
     obtain ⟨hs, hd⟩ := hip hy
     generalize hr3 : tcpGetF r2.1.src r2.1.dst r2.2.1 = r3 at *
     refine at_skip rfl ?_
     refine t_norm ?_
     refine at_seq rfl ?_
     refine at_region hS rfl (by kernel_rfl) ?_
     refine s_op (a_fa (by simp only [Zu, Nat.reduceEqDiff, ↓reduceIte, fa64_7, Nat.zero_add, fa64_8, retSeg, hst57, newPtr, AMem.next_alloc, e9] <;> rfl)) rfl ?_
     refine s_op (a_load (by simp only [Zu, Nat.reduceEqDiff, ↓reduceIte, Nat.zero_add, ld23, ipc_7, ipc_8, retSeg, hst57, newPtr, AMem.next_alloc, gM4_0, gM4_1, gM4_2, gM4_3] <;> rfl) (by simp (disch := first | (refine Zx ?_; simp only [Zn]; done) | ((try simp only [Zn]); omega)) only [Zg, Nat.zero_add, ld23, ipc_7, ipc_8, retSeg, hst57, newPtr, gM4_0, gM4_1, gM4_2, gM4_3] <;> rfl) (by simp only [ld23, Zl, Nat.zero_add, ipc_7, ipc_8, retSeg, hst57, newPtr, AMem.next_alloc, gM4_0, gM4_1, gM4_2, gM4_3] <;> rfl)) rfl ?_
     refine s_op (a_fa (by simp only [Zu, Nat.reduceEqDiff, ↓reduceIte, fa64_8, Nat.zero_add, fa64_7, retSeg, hst57, newPtr, AMem.next_alloc, e9] <;> rfl)) rfl ?_
     refine s_op (a_load (by simp only [Zu, Nat.reduceEqDiff, ↓reduceIte, Nat.zero_add, ld23, ipc_7, ipc_8, retSeg, hst57, newPtr, AMem.next_alloc, gM4_0, gM4_1, gM4_2, gM4_3] <;> rfl) (by simp (disch := first | (refine Zx ?_; simp only [Zn]; done) | ((try simp only [Zn]); omega)) only [Zg, Nat.zero_add, ld23, ipc_7, ipc_8, retSeg, hst57, newPtr, gM4_0, gM4_1, gM4_2, gM4_3] <;> rfl) (by simp only [ld23, Zl, Nat.zero_add, ipc_7, ipc_8, retSeg, hst57, newPtr, AMem.next_alloc, gM4_0, gM4_1, gM4_2, gM4_3] <;> rfl)) rfl ?_
     refine s_op (a_mv e7) rfl ?_
     refine s_call (by simp only [Zu, Nat.reduceEqDiff, ↓reduceIte, Nat.zero_add, retSeg, hst57, newPtr, AMem.next_alloc, gM4_0, gM4_1, gM4_2, gM4_3] <;> rfl) (by simp only [Zu, Nat.reduceEqDiff, ↓reduceIte, Zm, Nat.zero_add, retSeg, hst57, newPtr, AMem.next_alloc, gM4_0, gM4_1, gM4_2, gM4_3] <;> rfl) ?_
     rw [S34_48]; refine ⟨_, _, _, rfl, ⟨hs, hd, by omega⟩, ?_⟩; rw [hr3]
     show EA _ _ _ _ _ _
     refine s_mv ?_
     refine s_op (a_ext (by simp only [Zu, Nat.reduceEqDiff, ↓reduceIte, Nat.zero_add, retSeg, hst57, newPtr, AMem.next_alloc] <;> rfl) (by first | exact ext4_0 | exact ext3_0 | exact ext2_0 | rfl)) rfl ?_
     refine s_op (a_ext (by simp only [Zu, Nat.reduceEqDiff, ↓reduceIte, Nat.zero_add, retSeg, hst57, newPtr, AMem.next_alloc] <;> rfl) (by first | exact ext4_1 | exact ext3_1 | exact ext2_1 | rfl)) rfl ?_
     refine s_op (a_ext (by simp only [Zu, Nat.reduceEqDiff, ↓reduceIte, Nat.zero_add, retSeg, hst57, newPtr, AMem.next_alloc] <;> rfl) (by first | exact ext4_2 | exact ext3_2 | exact ext2_2 | rfl)) rfl ?_
     refine s_op (a_alloc hz57) rfl ?_
     refine s_op (a_store (by simp only [Zu, Nat.reduceEqDiff, ↓reduceIte, Nat.zero_add, retSeg, hst57, newPtr, AMem.next_alloc, gM4_0, gM4_1, gM4_2, gM4_3] <;> rfl) (by simp (disch := first | (refine Zx ?_; simp only [Zn]; done) | ((try simp only [Zn]); omega)) only [Zg, Nat.zero_add, retSeg, hst57, newPtr, gM4_0, gM4_1, gM4_2, gM4_3] <;> rfl) (by simp only [Zu, Nat.reduceEqDiff, ↓reduceIte, Nat.zero_add, retSeg, hst57, newPtr, AMem.next_alloc, gM4_0, gM4_1, gM4_2, gM4_3] <;> rfl) (by simp only [Nat.zero_add, retSeg, hst57, newPtr, AMem.next_alloc, gM4_0, gM4_1, gM4_2, gM4_3] <;> rfl)) rfl ?_
     refine s_as ?_
     refine s_as ?_
     refine s_end (fun s' hs' => ?_)
     replace e2 := kp 2 hs' e2
     replace e3 := kp 3 hs' e3
     replace e7 := congrFun hs' 7
     have e8 := congrFun hs' 8
     replace e9 := kp 9 hs' e9
     have e10 := congrFun hs' 10
     simp only [Zu, Nat.reduceEqDiff, ↓reduceIte, newPtr, AMem.next_alloc] at e7 e8 e10
     clear hs'
     refine o_norm ?_
     refine q_mem (fun M6 hEM6 => ?_)
     have hnM6 := congrArg AMem.next hEM6; simp only [Zn, Nat.add_assoc, Nat.reduceAdd] at hnM6
     have hnxM6 : M.next ≤ M6.next := by have := hnxM4; omega
     have holdM6 : ∀ j, j < M.next → M6.get j = M.get j := fun j hj => by have := hnxM4; rw [hEM6]; simp (disch := first | (refine Zx ?_; simp only [Zn]; done) | ((try simp only [Zn]); omega)) only [Zg]; exact holdM4 j hj
     have gM6_0 := congrArg (fun m => AMem.get m M.next) hEM6; try simp (disch := first | (refine Zx ?_; simp only [Zn]; done) | ((try simp only [Zn]); omega)) only [Zg, Nat.add_assoc, Nat.reduceAdd, gM4_0, gM4_1, gM4_2, gM4_3] at gM6_0
     have gM6_1 := congrArg (fun m => AMem.get m (M.next + 1)) hEM6; try simp (disch := first | (refine Zx ?_; simp only [Zn]; done) | ((try simp only [Zn]); omega)) only [Zg, Nat.add_assoc, Nat.reduceAdd, gM4_0, gM4_1, gM4_2, gM4_3] at gM6_1
     have gM6_2 := congrArg (fun m => AMem.get m M1.next) hEM6; try simp (disch := first | (refine Zx ?_; simp only [Zn]; done) | ((try simp only [Zn]); omega)) only [Zg, Nat.add_assoc, Nat.reduceAdd, gM4_0, gM4_1, gM4_2, gM4_3] at gM6_2
     have gM6_3 := congrArg (fun m => AMem.get m M2.next) hEM6; try simp (disch := first | (refine Zx ?_; simp only [Zn]; done) | ((try simp only [Zn]); omega)) only [Zg, Nat.add_assoc, Nat.reduceAdd, gM4_0, gM4_1, gM4_2, gM4_3] at gM6_3
     have gM6_4 := congrArg (fun m => AMem.get m M4.next) hEM6; try simp (disch := first | (refine Zx ?_; simp only [Zn]; done) | ((try simp only [Zn]); omega)) only [Zg, Nat.add_assoc, Nat.reduceAdd, gM4_0, gM4_1, gM4_2, gM4_3] at gM6_4
     clear hEM6
     refine t_norm ?_
     refine at_seq rfl ?_
     refine at_seq rfl ?_
     refine at_region hS rfl (by kernel_rfl) ?_
     refine s_op (a_mv e8) rfl ?_
     refine s_op (a_bin (by simp (disch := omega) only [Zu, Nat.reduceEqDiff, ↓reduceIte, Zd, reduceCtorEq, abin_neq, abin_aneq, ne_eq, not_false_eq_true] <;> rfl)) rfl ?_
     refine s_end (fun s' hs' => ?_)
     replace e2 := kp 2 hs' e2
     replace e3 := kp 3 hs' e3
     replace e7 := kp 7 hs' e7
     replace e9 := kp 9 hs' e9
     replace e10 := kp 10 hs' e10
     have e52 := congrFun hs' 52
     simp only [Zu, Nat.reduceEqDiff, ↓reduceIte, newPtr, AMem.next_alloc] at e52
     clear hs'
     try clear e8
     refine o_norm ?_
     refine t_norm ?_
     refine at_cond rfl rfl e52 (fun h8 => ?_) (fun h8 => ?_)
     ·
      try simp only [Zh] at h8
      refine at_seq rfl ?_
      refine at_region hS rfl (by kernel_rfl) ?_
      refine s_op (a_build (by simp only [Zm, Array.toList, hb57, hb39, hst57, hst39, newPtr, AMem.next_alloc] <;> rfl)) rfl ?_
      refine s_op (a_build (by simp only [Zm, Array.toList, hb57, hb39, hst57, hst39, newPtr, AMem.next_alloc] <;> rfl)) rfl ?_
      refine s_op (a_store e2 (by simp (disch := first | (refine Zx ?_; simp only [Zn]; done) | ((try simp only [Zn]); omega)) only [Zg, hb57, hb39, hst57, hst39, newPtr, gM6_0, gM6_1, gM6_2, gM6_3, gM6_4, e2] <;> rfl) (by simp only [Zu, Nat.reduceEqDiff, ↓reduceIte, hb57, hb39, hst57, hst39, newPtr, AMem.next_alloc, gM6_0, gM6_1, gM6_2, gM6_3, gM6_4, e2] <;> rfl) (by simp only [hb57, hb39, hst57, hst39, newPtr, AMem.next_alloc, gM6_0, gM6_1, gM6_2, gM6_3, gM6_4, e2] <;> rfl)) rfl ?_
      refine s_op (a_store e3 (by simp (disch := first | (refine Zx ?_; simp only [Zn]; done) | ((try simp only [Zn]); omega)) only [Zg, hb57, hb39, hst57, hst39, newPtr, gM6_0, gM6_1, gM6_2, gM6_3, gM6_4, e3] <;> rfl) (by simp only [Zu, Nat.reduceEqDiff, ↓reduceIte, hb57, hb39, hst57, hst39, newPtr, AMem.next_alloc, gM6_0, gM6_1, gM6_2, gM6_3, gM6_4, e3] <;> rfl) (by simp only [hb57, hb39, hst57, hst39, newPtr, AMem.next_alloc, gM6_0, gM6_1, gM6_2, gM6_3, gM6_4, e3] <;> rfl)) rfl ?_
      refine s_op (a_as (by simp only [ev_const] <;> rfl)) rfl ?_
      refine s_op (a_as (by simp only [ev_const] <;> rfl)) rfl ?_
      refine s_end (fun s' hs' => ?_)
      replace e2 := kp 2 hs' e2
      replace e3 := kp 3 hs' e3
      have e4 := congrFun hs' 4
      have e5 := congrFun hs' 5
      simp only [Zu, Nat.reduceEqDiff, ↓reduceIte, newPtr, AMem.next_alloc] at e4 e5
      clear hs'
      refine o_norm ?_
      refine q_mem (fun M7 hEM7 => ?_)
      have hnM7 := congrArg AMem.next hEM7; simp only [Zn, Nat.add_assoc, Nat.reduceAdd] at hnM7
      have hnxM7 : M.next ≤ M7.next := by have := hnxM6; omega
      have holdM7 : ∀ j, j < M.next → M7.get j = M.get j := fun j hj => by have := hnxM6; rw [hEM7]; simp (disch := first | (refine Zx ?_; simp only [Zn]; done) | ((try simp only [Zn]); omega)) only [Zg]; exact holdM6 j hj
      have gM7_0 := congrArg (fun m => AMem.get m M.next) hEM7; try simp (disch := first | (refine Zx ?_; simp only [Zn]; done) | ((try simp only [Zn]); omega)) only [Zg, Nat.add_assoc, Nat.reduceAdd, gM6_0, gM6_1, gM6_2, gM6_3, gM6_4] at gM7_0
      have gM7_1 := congrArg (fun m => AMem.get m (M.next + 1)) hEM7; try simp (disch := first | (refine Zx ?_; simp only [Zn]; done) | ((try simp only [Zn]); omega)) only [Zg, Nat.add_assoc, Nat.reduceAdd, gM6_0, gM6_1, gM6_2, gM6_3, gM6_4] at gM7_1
      have gM7_2 := congrArg (fun m => AMem.get m M1.next) hEM7; try simp (disch := first | (refine Zx ?_; simp only [Zn]; done) | ((try simp only [Zn]); omega)) only [Zg, Nat.add_assoc, Nat.reduceAdd, gM6_0, gM6_1, gM6_2, gM6_3, gM6_4] at gM7_2
      have gM7_3 := congrArg (fun m => AMem.get m M2.next) hEM7; try simp (disch := first | (refine Zx ?_; simp only [Zn]; done) | ((try simp only [Zn]); omega)) only [Zg, Nat.add_assoc, Nat.reduceAdd, gM6_0, gM6_1, gM6_2, gM6_3, gM6_4] at gM7_3
      have gM7_4 := congrArg (fun m => AMem.get m M4.next) hEM7; try simp (disch := first | (refine Zx ?_; simp only [Zn]; done) | ((try simp only [Zn]); omega)) only [Zg, Nat.add_assoc, Nat.reduceAdd, gM6_0, gM6_1, gM6_2, gM6_3, gM6_4] at gM7_4
      clear hEM7
      refine t_norm ?_
      refine at_ret rfl ?_
      refine t_ret ?_
      have hF : segGet l = none := by rw [hsg]; exact if_pos (by simpa using h8)
      rw [hF] at hK
      refine bq_ret rfl (ars_cons (ar_cell e2 (by assumption) (ld39 _)) (ars_cons (ar_cell e3 (by assumption) (ld57 _)) (ars_cons (ar_tmp e4) (ars_cons (ar_tmp e5) ars_nil)))) ?_
      exact ⟨_, _, hK, Canon.forget rfl holdM7⟩
     ·
      try simp only [Zh] at h8
      refine at_skip rfl ?_
      refine t_norm ?_
      refine at_seq rfl ?_
      refine at_draw ⟨[[], [0], [], [2], [], [4], [], [6], [0, 1, 2, 3, 4, 5, 6, 7], [], [], [0, 1, 2, 3, 4, 5, 6, 7, 8], [0, 1, 2, 3, 4, 5, 6, 7, 8, 9, 11], [0, 1, 2, 3, 4, 5, 6, 7, 8, 9, 10, 11, 12], [0, 1, 2, 3, 4, 5, 6, 7, 8, 9, 10, 11, 12, 13]], [0, 1, 2, 3, 4, 5, 6, 7, 8, 9, 10], [(11, []), (12, [13, 14])]⟩ hS rfl rfl (by kernel_rfl) (by kernel_rfl) ?_
      refine d_start ?_
      refine l_op rfl rfl (a_fa (by simp only [Zu, Nat.reduceEqDiff, ↓reduceIte, fa64_7, Nat.zero_add, fa64_8, fa57_0, fa57_1, bd39v, hst57, hst39, newPtr, AMem.next_alloc, e9] <;> rfl)) rfl ?_ rfl
      refine l_op rfl rfl (a_load (by simp only [Zu, Nat.reduceEqDiff, ↓reduceIte, Nat.zero_add, ld23, ld3, ipc_7, ipc_8, sgc_0, sgc_1, ld57, bd39v, hst57, hst39, newPtr, AMem.next_alloc, gM6_0, gM6_1, gM6_2, gM6_3, gM6_4] <;> rfl) (by simp (disch := first | (refine Zx ?_; simp only [Zn]; done) | ((try simp only [Zn]); omega)) only [Zg, Nat.zero_add, ld23, ld3, ipc_7, ipc_8, sgc_0, sgc_1, ld57, bd39v, hst57, hst39, newPtr, gM6_0, gM6_1, gM6_2, gM6_3, gM6_4] <;> rfl) (by simp only [ld23, Zl, Nat.zero_add, ld3, ipc_7, ipc_8, sgc_0, sgc_1, ld57, bd39v, hst57, hst39, newPtr, AMem.next_alloc, gM6_0, gM6_1, gM6_2, gM6_3, gM6_4] <;> rfl)) rfl ?_ rfl
      refine l_op rfl rfl (a_fa (by simp only [Zu, Nat.reduceEqDiff, ↓reduceIte, fa64_8, Nat.zero_add, fa64_7, fa57_0, fa57_1, bd39v, hst57, hst39, newPtr, AMem.next_alloc, e9] <;> rfl)) rfl ?_ rfl
      refine l_op rfl rfl (a_load (by simp only [Zu, Nat.reduceEqDiff, ↓reduceIte, Nat.zero_add, ld23, ld3, ipc_7, ipc_8, sgc_0, sgc_1, ld57, bd39v, hst57, hst39, newPtr, AMem.next_alloc, gM6_0, gM6_1, gM6_2, gM6_3, gM6_4] <;> rfl) (by simp (disch := first | (refine Zx ?_; simp only [Zn]; done) | ((try simp only [Zn]); omega)) only [Zg, Nat.zero_add, ld23, ld3, ipc_7, ipc_8, sgc_0, sgc_1, ld57, bd39v, hst57, hst39, newPtr, gM6_0, gM6_1, gM6_2, gM6_3, gM6_4] <;> rfl) (by simp only [ld23, Zl, Nat.zero_add, ld3, ipc_7, ipc_8, sgc_0, sgc_1, ld57, bd39v, hst57, hst39, newPtr, AMem.next_alloc, gM6_0, gM6_1, gM6_2, gM6_3, gM6_4] <;> rfl)) rfl ?_ rfl
      refine l_op rfl rfl (a_fa (by simp only [Zu, Nat.reduceEqDiff, ↓reduceIte, fa57_0, Nat.zero_add, fa64_7, fa64_8, fa57_1, bd39v, hst57, hst39, newPtr, AMem.next_alloc, e10] <;> rfl)) rfl ?_ rfl
      refine l_op rfl rfl (a_load (by simp only [Zu, Nat.reduceEqDiff, ↓reduceIte, Nat.zero_add, ld23, ld3, ipc_7, ipc_8, sgc_0, sgc_1, ld57, bd39v, hst57, hst39, newPtr, AMem.next_alloc, gM6_0, gM6_1, gM6_2, gM6_3, gM6_4] <;> rfl) (by simp (disch := first | (refine Zx ?_; simp only [Zn]; done) | ((try simp only [Zn]); omega)) only [Zg, Nat.zero_add, ld23, ld3, ipc_7, ipc_8, sgc_0, sgc_1, ld57, bd39v, hst57, hst39, newPtr, gM6_0, gM6_1, gM6_2, gM6_3, gM6_4] <;> rfl) (by simp only [ld3, Zl, Nat.zero_add, ld23, ipc_7, ipc_8, sgc_0, sgc_1, ld57, bd39v, hst57, hst39, newPtr, AMem.next_alloc, gM6_0, gM6_1, gM6_2, gM6_3, gM6_4] <;> rfl)) rfl ?_ rfl
      refine l_op rfl rfl (a_fa (by simp only [Zu, Nat.reduceEqDiff, ↓reduceIte, fa57_1, Nat.zero_add, fa64_7, fa64_8, fa57_0, bd39v, hst57, hst39, newPtr, AMem.next_alloc, e10] <;> rfl)) rfl ?_ rfl
      refine l_op rfl rfl (a_load (by simp only [Zu, Nat.reduceEqDiff, ↓reduceIte, Nat.zero_add, ld23, ld3, ipc_7, ipc_8, sgc_0, sgc_1, ld57, bd39v, hst57, hst39, newPtr, AMem.next_alloc, gM6_0, gM6_1, gM6_2, gM6_3, gM6_4] <;> rfl) (by simp (disch := first | (refine Zx ?_; simp only [Zn]; done) | ((try simp only [Zn]); omega)) only [Zg, Nat.zero_add, ld23, ld3, ipc_7, ipc_8, sgc_0, sgc_1, ld57, bd39v, hst57, hst39, newPtr, gM6_0, gM6_1, gM6_2, gM6_3, gM6_4] <;> rfl) (by simp only [ld3, Zl, Nat.zero_add, ld23, ipc_7, ipc_8, sgc_0, sgc_1, ld57, bd39v, hst57, hst39, newPtr, AMem.next_alloc, gM6_0, gM6_1, gM6_2, gM6_3, gM6_4] <;> rfl)) rfl ?_ rfl
      refine l_op rfl rfl (a_build (by simp only [Zu, Nat.reduceEqDiff, ↓reduceIte, Zm, Array.toList, Nat.zero_add, bd39v, hst57, hst39, newPtr, AMem.next_alloc] <;> rfl)) rfl ?_ rfl
      refine l_op rfl rfl (a_load e10 (by simp (disch := first | (refine Zx ?_; simp only [Zn]; done) | ((try simp only [Zn]); omega)) only [Zg, Nat.zero_add, ld23, ld3, ipc_7, ipc_8, sgc_0, sgc_1, ld57, bd39v, hst57, hst39, newPtr, gM6_0, gM6_1, gM6_2, gM6_3, gM6_4, e10] <;> rfl) (by simp only [Nat.zero_add, ld23, ld3, ipc_7, ipc_8, sgc_0, sgc_1, ld57, bd39v, hst57, hst39, newPtr, AMem.next_alloc, gM6_0, gM6_1, gM6_2, gM6_3, gM6_4, e10] <;> rfl)) rfl ?_ rfl
      refine l_op rfl rfl (a_mv e7) rfl ?_ rfl
      refine l_nil ?_
      refine h_op ?_ rfl rfl rfl ?_
      · refine again_r rfl ?_
        refine again_l rfl rfl (a_load e10 (by simp (disch := first | (refine Zx ?_; simp only [Zn]; done) | ((try simp only [Zn]); omega)) only [Zg, Nat.zero_add, ld23, ld3, ipc_7, ipc_8, sgc_0, sgc_1, ld57, bd39v, hst57, hst39, newPtr, gM6_0, gM6_1, gM6_2, gM6_3, gM6_4, e10] <;> rfl) (by simp only [Nat.zero_add, ld23, ld3, ipc_7, ipc_8, sgc_0, sgc_1, ld57, bd39v, hst57, hst39, newPtr, AMem.next_alloc, gM6_0, gM6_1, gM6_2, gM6_3, gM6_4, e10] <;> rfl)) ?_
        refine again_r rfl ?_
        refine again_l rfl rfl (a_load (by simp only [Zu, Nat.reduceEqDiff, ↓reduceIte, Nat.zero_add, ld23, ld3, ipc_7, ipc_8, sgc_0, sgc_1, ld57, bd39v, hst57, hst39, newPtr, AMem.next_alloc, gM6_0, gM6_1, gM6_2, gM6_3, gM6_4] <;> rfl) (by simp (disch := first | (refine Zx ?_; simp only [Zn]; done) | ((try simp only [Zn]); omega)) only [Zg, Nat.zero_add, ld23, ld3, ipc_7, ipc_8, sgc_0, sgc_1, ld57, bd39v, hst57, hst39, newPtr, gM6_0, gM6_1, gM6_2, gM6_3, gM6_4] <;> rfl) (by simp only [ld3, Zl, Nat.zero_add, ld23, ipc_7, ipc_8, sgc_0, sgc_1, ld57, bd39v, hst57, hst39, newPtr, AMem.next_alloc, gM6_0, gM6_1, gM6_2, gM6_3, gM6_4] <;> rfl)) ?_
        refine again_r rfl ?_
        refine again_l rfl rfl (a_load (by simp only [Zu, Nat.reduceEqDiff, ↓reduceIte, Nat.zero_add, ld23, ld3, ipc_7, ipc_8, sgc_0, sgc_1, ld57, bd39v, hst57, hst39, newPtr, AMem.next_alloc, gM6_0, gM6_1, gM6_2, gM6_3, gM6_4] <;> rfl) (by simp (disch := first | (refine Zx ?_; simp only [Zn]; done) | ((try simp only [Zn]); omega)) only [Zg, Nat.zero_add, ld23, ld3, ipc_7, ipc_8, sgc_0, sgc_1, ld57, bd39v, hst57, hst39, newPtr, gM6_0, gM6_1, gM6_2, gM6_3, gM6_4] <;> rfl) (by simp only [ld3, Zl, Nat.zero_add, ld23, ipc_7, ipc_8, sgc_0, sgc_1, ld57, bd39v, hst57, hst39, newPtr, AMem.next_alloc, gM6_0, gM6_1, gM6_2, gM6_3, gM6_4] <;> rfl)) ?_
        refine again_r rfl ?_
        refine again_l rfl rfl (a_load (by simp only [Zu, Nat.reduceEqDiff, ↓reduceIte, Nat.zero_add, ld23, ld3, ipc_7, ipc_8, sgc_0, sgc_1, ld57, bd39v, hst57, hst39, newPtr, AMem.next_alloc, gM6_0, gM6_1, gM6_2, gM6_3, gM6_4] <;> rfl) (by simp (disch := first | (refine Zx ?_; simp only [Zn]; done) | ((try simp only [Zn]); omega)) only [Zg, Nat.zero_add, ld23, ld3, ipc_7, ipc_8, sgc_0, sgc_1, ld57, bd39v, hst57, hst39, newPtr, gM6_0, gM6_1, gM6_2, gM6_3, gM6_4] <;> rfl) (by simp only [ld23, Zl, Nat.zero_add, ld3, ipc_7, ipc_8, sgc_0, sgc_1, ld57, bd39v, hst57, hst39, newPtr, AMem.next_alloc, gM6_0, gM6_1, gM6_2, gM6_3, gM6_4] <;> rfl)) ?_
        refine again_r rfl ?_
        refine again_l rfl rfl (a_load (by simp only [Zu, Nat.reduceEqDiff, ↓reduceIte, Nat.zero_add, ld23, ld3, ipc_7, ipc_8, sgc_0, sgc_1, ld57, bd39v, hst57, hst39, newPtr, AMem.next_alloc, gM6_0, gM6_1, gM6_2, gM6_3, gM6_4] <;> rfl) (by simp (disch := first | (refine Zx ?_; simp only [Zn]; done) | ((try simp only [Zn]); omega)) only [Zg, Nat.zero_add, ld23, ld3, ipc_7, ipc_8, sgc_0, sgc_1, ld57, bd39v, hst57, hst39, newPtr, gM6_0, gM6_1, gM6_2, gM6_3, gM6_4] <;> rfl) (by simp only [ld23, Zl, Nat.zero_add, ld3, ipc_7, ipc_8, sgc_0, sgc_1, ld57, bd39v, hst57, hst39, newPtr, AMem.next_alloc, gM6_0, gM6_1, gM6_2, gM6_3, gM6_4] <;> rfl)) ?_
        refine again_r rfl ?_
        exact again_nil
      refine s_op (a_store e2 (by simp (disch := first | (refine Zx ?_; simp only [Zn]; done) | ((try simp only [Zn]); omega)) only [Zg, Nat.zero_add, bd39v, hst57, hst39, newPtr, gM6_0, gM6_1, gM6_2, gM6_3, gM6_4, e2] <;> rfl) (by simp only [Zu, Nat.reduceEqDiff, ↓reduceIte, Nat.zero_add, bd39v, hst57, hst39, newPtr, AMem.next_alloc, gM6_0, gM6_1, gM6_2, gM6_3, gM6_4, e2] <;> rfl) (by simp only [Nat.zero_add, bd39v, hst57, hst39, newPtr, AMem.next_alloc, gM6_0, gM6_1, gM6_2, gM6_3, gM6_4, e2] <;> rfl)) rfl ?_
      refine s_end (fun s' hs' => ?_); subst hs'
      refine l_nil ?_
      refine h_op ?_ rfl rfl rfl ?_
      · refine again_r rfl ?_
        refine again_l rfl rfl (a_load e10 (by simp (disch := first | (refine Zx ?_; simp only [Zn]; done) | ((try simp only [Zn]); omega)) only [Zg, Nat.zero_add, ld23, ld3, ipc_7, ipc_8, sgc_0, sgc_1, ld57, bd39v, hst57, hst39, newPtr, gM6_0, gM6_1, gM6_2, gM6_3, gM6_4, e10] <;> rfl) (by simp only [Nat.zero_add, ld23, ld3, ipc_7, ipc_8, sgc_0, sgc_1, ld57, bd39v, hst57, hst39, newPtr, AMem.next_alloc, gM6_0, gM6_1, gM6_2, gM6_3, gM6_4, e10] <;> rfl)) ?_
        exact again_nil
      refine s_op (a_store e3 (by simp (disch := first | (refine Zx ?_; simp only [Zn]; done) | ((try simp only [Zn]); omega)) only [Zg, Nat.zero_add, bd39v, hst57, hst39, newPtr, gM6_0, gM6_1, gM6_2, gM6_3, gM6_4, e3] <;> rfl) (by simp only [Zu, Nat.reduceEqDiff, ↓reduceIte, Nat.zero_add, bd39v, hst57, hst39, newPtr, AMem.next_alloc, gM6_0, gM6_1, gM6_2, gM6_3, gM6_4, e3] <;> rfl) (by simp only [Nat.zero_add, bd39v, hst57, hst39, newPtr, AMem.next_alloc, gM6_0, gM6_1, gM6_2, gM6_3, gM6_4, e3] <;> rfl)) rfl ?_
      refine s_end (fun s' hs' => ?_); subst hs'
      refine l_op rfl rfl (a_as (by simp only [Zu, Nat.reduceEqDiff, ↓reduceIte] <;> rfl)) rfl ?_ rfl
      refine l_op rfl rfl (a_as (by simp only [ev_const] <;> rfl)) rfl ?_ rfl
      refine l_nil ?_
      refine h_end ?_ (fun s' hs' => ?_)
      · refine again_r rfl ?_
        refine again_r rfl ?_
        refine again_r rfl ?_
        exact again_nil
      replace e2 := kp 2 hs' e2
      replace e3 := kp 3 hs' e3
      have e4 := congrFun hs' 4
      have e5 := congrFun hs' 5
      simp only [Zu, Nat.reduceEqDiff, ↓reduceIte, newPtr, AMem.next_alloc] at e4 e5
      clear hs'
      try clear e7 e9 e10
      refine o_norm ?_
      refine q_mem (fun M8 hEM8 => ?_)
      have hnM8 := congrArg AMem.next hEM8; simp only [Zn, Nat.add_assoc, Nat.reduceAdd] at hnM8
      have hnxM8 : M.next ≤ M8.next := by have := hnxM6; omega
      have holdM8 : ∀ j, j < M.next → M8.get j = M.get j := fun j hj => by have := hnxM6; rw [hEM8]; simp (disch := first | (refine Zx ?_; simp only [Zn]; done) | ((try simp only [Zn]); omega)) only [Zg]; exact holdM6 j hj
      have gM8_0 := congrArg (fun m => AMem.get m M.next) hEM8; try simp (disch := first | (refine Zx ?_; simp only [Zn]; done) | ((try simp only [Zn]); omega)) only [Zg, Nat.add_assoc, Nat.reduceAdd, gM6_0, gM6_1, gM6_2, gM6_3, gM6_4] at gM8_0
      have gM8_1 := congrArg (fun m => AMem.get m (M.next + 1)) hEM8; try simp (disch := first | (refine Zx ?_; simp only [Zn]; done) | ((try simp only [Zn]); omega)) only [Zg, Nat.add_assoc, Nat.reduceAdd, gM6_0, gM6_1, gM6_2, gM6_3, gM6_4] at gM8_1
      have gM8_2 := congrArg (fun m => AMem.get m M1.next) hEM8; try simp (disch := first | (refine Zx ?_; simp only [Zn]; done) | ((try simp only [Zn]); omega)) only [Zg, Nat.add_assoc, Nat.reduceAdd, gM6_0, gM6_1, gM6_2, gM6_3, gM6_4] at gM8_2
      have gM8_3 := congrArg (fun m => AMem.get m M2.next) hEM8; try simp (disch := first | (refine Zx ?_; simp only [Zn]; done) | ((try simp only [Zn]); omega)) only [Zg, Nat.add_assoc, Nat.reduceAdd, gM6_0, gM6_1, gM6_2, gM6_3, gM6_4] at gM8_3
      have gM8_4 := congrArg (fun m => AMem.get m M4.next) hEM8; try simp (disch := first | (refine Zx ?_; simp only [Zn]; done) | ((try simp only [Zn]); omega)) only [Zg, Nat.add_assoc, Nat.reduceAdd, gM6_0, gM6_1, gM6_2, gM6_3, gM6_4] at gM8_4
      clear hEM8
      refine t_norm ?_
      refine at_ret rfl ?_
      have hF : segGet l = some (⟨6, r2.1.src, r2.1.dst, r3.1.src, r3.1.dst⟩, r3.1, r3.2.1) := by rw [hsg]; exact if_neg (by simpa using h8)
      rw [hF] at hK
      refine bq_ret rfl (ars_cons (ar_cell e2 (by assumption) (ld39 _)) (ars_cons (ar_cell e3 (by assumption) (ld57 _)) (ars_cons (ar_tmp e4) (ars_cons (ar_tmp e5) ars_nil)))) ?_
      exact ⟨_, _, hK, Canon.forget rfl holdM8⟩
   ·
    refine at_region hS rfl (by kernel_rfl) ?_
    refine s_op (a_mv e8) rfl ?_
    refine s_op (a_bin (by simp (disch := omega) only [Zu, Nat.reduceEqDiff, ↓reduceIte, Zd, reduceCtorEq, abin_neq, abin_aneq, ne_eq, not_false_eq_true, Nat.zero_add, hy] <;> rfl)) rfl ?_
    refine s_mv ?_
    refine s_lv ?_
    refine s_lv ?_
    refine s_lv ?_
    refine s_op (a_pick (by simp only [Zu, Nat.reduceEqDiff, ↓reduceIte, Zd, reduceCtorEq, Nat.zero_add, hy] <;> rfl) (by simp only [Zu, Nat.reduceEqDiff, ↓reduceIte, Zd, reduceCtorEq, Nat.zero_add, hy] <;> rfl)) rfl ?_
    refine s_end (fun s' hs' => ?_)
    replace e2 := kp 2 hs' e2
    replace e3 := kp 3 hs' e3
    replace e7 := kp 7 hs' e7
    replace e9 := kp 9 hs' e9
    have e38 := congrFun hs' 38
    simp only [Zu, Nat.reduceEqDiff, ↓reduceIte, newPtr, AMem.next_alloc] at e38
    clear hs'
    try clear e8
    refine o_norm ?_
    refine t_norm ?_
    refine at_cond rfl rfl e38 (fun h5 => ?_) (fun hc => by cases hc)
    try simp only [Zh] at h5
    refine at_seq rfl ?_
    refine at_region hS rfl (by kernel_rfl) ?_
    refine s_op (a_build (by simp only [Zm, Array.toList, hb57, hb39, hst57, hst39, newPtr, AMem.next_alloc] <;> rfl)) rfl ?_
    refine s_op (a_build (by simp only [Zm, Array.toList, hb57, hb39, hst57, hst39, newPtr, AMem.next_alloc] <;> rfl)) rfl ?_
    refine s_op (a_store e2 (by simp (disch := first | (refine Zx ?_; simp only [Zn]; done) | ((try simp only [Zn]); omega)) only [Zg, hb57, hb39, hst57, hst39, newPtr, gM4_0, gM4_1, gM4_2, gM4_3, e2] <;> rfl) (by simp only [Zu, Nat.reduceEqDiff, ↓reduceIte, hb57, hb39, hst57, hst39, newPtr, AMem.next_alloc, gM4_0, gM4_1, gM4_2, gM4_3, e2] <;> rfl) (by simp only [hb57, hb39, hst57, hst39, newPtr, AMem.next_alloc, gM4_0, gM4_1, gM4_2, gM4_3, e2] <;> rfl)) rfl ?_
    refine s_op (a_store e3 (by simp (disch := first | (refine Zx ?_; simp only [Zn]; done) | ((try simp only [Zn]); omega)) only [Zg, hb57, hb39, hst57, hst39, newPtr, gM4_0, gM4_1, gM4_2, gM4_3, e3] <;> rfl) (by simp only [Zu, Nat.reduceEqDiff, ↓reduceIte, hb57, hb39, hst57, hst39, newPtr, AMem.next_alloc, gM4_0, gM4_1, gM4_2, gM4_3, e3] <;> rfl) (by simp only [hb57, hb39, hst57, hst39, newPtr, AMem.next_alloc, gM4_0, gM4_1, gM4_2, gM4_3, e3] <;> rfl)) rfl ?_
    refine s_op (a_as (by simp only [ev_const] <;> rfl)) rfl ?_
    refine s_op (a_as (by simp only [ev_const] <;> rfl)) rfl ?_
    refine s_end (fun s' hs' => ?_)
    replace e2 := kp 2 hs' e2
    replace e3 := kp 3 hs' e3
    have e4 := congrFun hs' 4
    have e5 := congrFun hs' 5
    simp only [Zu, Nat.reduceEqDiff, ↓reduceIte, newPtr, AMem.next_alloc] at e4 e5
    clear hs'
    refine o_norm ?_
    refine q_mem (fun M9 hEM9 => ?_)
    have hnM9 := congrArg AMem.next hEM9; simp only [Zn, Nat.add_assoc, Nat.reduceAdd] at hnM9
    have hnxM9 : M.next ≤ M9.next := by have := hnxM4; omega
    have holdM9 : ∀ j, j < M.next → M9.get j = M.get j := fun j hj => by have := hnxM4; rw [hEM9]; simp (disch := first | (refine Zx ?_; simp only [Zn]; done) | ((try simp only [Zn]); omega)) only [Zg]; exact holdM4 j hj
    have gM9_0 := congrArg (fun m => AMem.get m M.next) hEM9; try simp (disch := first | (refine Zx ?_; simp only [Zn]; done) | ((try simp only [Zn]); omega)) only [Zg, Nat.add_assoc, Nat.reduceAdd, gM4_0, gM4_1, gM4_2, gM4_3] at gM9_0
    have gM9_1 := congrArg (fun m => AMem.get m (M.next + 1)) hEM9; try simp (disch := first | (refine Zx ?_; simp only [Zn]; done) | ((try simp only [Zn]); omega)) only [Zg, Nat.add_assoc, Nat.reduceAdd, gM4_0, gM4_1, gM4_2, gM4_3] at gM9_1
    have gM9_2 := congrArg (fun m => AMem.get m M1.next) hEM9; try simp (disch := first | (refine Zx ?_; simp only [Zn]; done) | ((try simp only [Zn]); omega)) only [Zg, Nat.add_assoc, Nat.reduceAdd, gM4_0, gM4_1, gM4_2, gM4_3] at gM9_2
    have gM9_3 := congrArg (fun m => AMem.get m M2.next) hEM9; try simp (disch := first | (refine Zx ?_; simp only [Zn]; done) | ((try simp only [Zn]); omega)) only [Zg, Nat.add_assoc, Nat.reduceAdd, gM4_0, gM4_1, gM4_2, gM4_3] at gM9_3
    clear hEM9
    refine t_norm ?_
    refine at_ret rfl ?_
    refine t_ret ?_
    have hF : segGet l = none := by rw [hsg]; exact if_pos (by first | exact Or.inl hy | exact Or.inr (by simpa using h5))
    rw [hF] at hK
    refine bq_ret rfl (ars_cons (ar_cell e2 (by assumption) (ld39 _)) (ars_cons (ar_cell e3 (by assumption) (ld57 _)) (ars_cons (ar_tmp e4) (ars_cons (ar_tmp e5) ars_nil)))) ?_
    exact ⟨_, _, hK, Canon.forget rfl holdM9⟩
 ·
  refine at_region hS rfl (by kernel_rfl) ?_
  refine s_op (a_mv e8) rfl ?_
  refine s_op (a_bin (by simp (disch := omega) only [Zu, Nat.reduceEqDiff, ↓reduceIte, Zd, reduceCtorEq, abin_neq, abin_aneq, ne_eq, not_false_eq_true, Nat.zero_add, c12, hx] <;> rfl)) rfl ?_
  refine s_mv ?_
  refine s_lv ?_
  refine s_lv ?_
  refine s_lv ?_
  refine s_op (a_pick (by simp only [Zu, Nat.reduceEqDiff, ↓reduceIte, Zd, reduceCtorEq, Nat.zero_add, c12, hx] <;> rfl) (by simp only [Zu, Nat.reduceEqDiff, ↓reduceIte, Zd, reduceCtorEq, Nat.zero_add, c12, hx] <;> rfl)) rfl ?_
  refine s_end (fun s' hs' => ?_)
  replace e2 := kp 2 hs' e2
  replace e3 := kp 3 hs' e3
  replace e7 := kp 7 hs' e7
  have e23 := congrFun hs' 23
  simp only [Zu, Nat.reduceEqDiff, ↓reduceIte, newPtr, AMem.next_alloc] at e23
  clear hs'
  try clear e6 e8
  refine o_norm ?_
  refine t_norm ?_
  refine at_cond rfl rfl e23 (fun h2 => ?_) (fun hc => by cases hc)
  try simp only [Zh] at h2
  refine at_seq rfl ?_
  refine at_region hS rfl (by kernel_rfl) ?_
  refine s_op (a_build (by simp only [Zm, Array.toList, hb57, hb39, hst57, hst39, newPtr, AMem.next_alloc] <;> rfl)) rfl ?_
  refine s_op (a_build (by simp only [Zm, Array.toList, hb57, hb39, hst57, hst39, newPtr, AMem.next_alloc] <;> rfl)) rfl ?_
  refine s_op (a_store e2 (by simp (disch := first | (refine Zx ?_; simp only [Zn]; done) | ((try simp only [Zn]); omega)) only [Zg, hb57, hb39, hst57, hst39, newPtr, gM2_0, gM2_1, gM2_2, e2] <;> rfl) (by simp only [Zu, Nat.reduceEqDiff, ↓reduceIte, hb57, hb39, hst57, hst39, newPtr, AMem.next_alloc, gM2_0, gM2_1, gM2_2, e2] <;> rfl) (by simp only [hb57, hb39, hst57, hst39, newPtr, AMem.next_alloc, gM2_0, gM2_1, gM2_2, e2] <;> rfl)) rfl ?_
  refine s_op (a_store e3 (by simp (disch := first | (refine Zx ?_; simp only [Zn]; done) | ((try simp only [Zn]); omega)) only [Zg, hb57, hb39, hst57, hst39, newPtr, gM2_0, gM2_1, gM2_2, e3] <;> rfl) (by simp only [Zu, Nat.reduceEqDiff, ↓reduceIte, hb57, hb39, hst57, hst39, newPtr, AMem.next_alloc, gM2_0, gM2_1, gM2_2, e3] <;> rfl) (by simp only [hb57, hb39, hst57, hst39, newPtr, AMem.next_alloc, gM2_0, gM2_1, gM2_2, e3] <;> rfl)) rfl ?_
  refine s_op (a_as (by simp only [ev_const] <;> rfl)) rfl ?_
  refine s_op (a_as (by simp only [ev_const] <;> rfl)) rfl ?_
  refine s_end (fun s' hs' => ?_)
  replace e2 := kp 2 hs' e2
  replace e3 := kp 3 hs' e3
  have e4 := congrFun hs' 4
  have e5 := congrFun hs' 5
  simp only [Zu, Nat.reduceEqDiff, ↓reduceIte, newPtr, AMem.next_alloc] at e4 e5
  clear hs'
  refine o_norm ?_
  refine q_mem (fun M10 hEM10 => ?_)
  have hnM10 := congrArg AMem.next hEM10; simp only [Zn, Nat.add_assoc, Nat.reduceAdd] at hnM10
  have hnxM10 : M.next ≤ M10.next := by have := hnxM2; omega
  have holdM10 : ∀ j, j < M.next → M10.get j = M.get j := fun j hj => by have := hnxM2; rw [hEM10]; simp (disch := first | (refine Zx ?_; simp only [Zn]; done) | ((try simp only [Zn]); omega)) only [Zg]; exact holdM2 j hj
  have gM10_0 := congrArg (fun m => AMem.get m M.next) hEM10; try simp (disch := first | (refine Zx ?_; simp only [Zn]; done) | ((try simp only [Zn]); omega)) only [Zg, Nat.add_assoc, Nat.reduceAdd, gM2_0, gM2_1, gM2_2] at gM10_0
  have gM10_1 := congrArg (fun m => AMem.get m (M.next + 1)) hEM10; try simp (disch := first | (refine Zx ?_; simp only [Zn]; done) | ((try simp only [Zn]); omega)) only [Zg, Nat.add_assoc, Nat.reduceAdd, gM2_0, gM2_1, gM2_2] at gM10_1
  have gM10_2 := congrArg (fun m => AMem.get m M1.next) hEM10; try simp (disch := first | (refine Zx ?_; simp only [Zn]; done) | ((try simp only [Zn]); omega)) only [Zg, Nat.add_assoc, Nat.reduceAdd, gM2_0, gM2_1, gM2_2] at gM10_2
  clear hEM10
  refine t_norm ?_
  refine at_ret rfl ?_
  refine t_ret ?_
  have hF : segGet l = none := by rw [hsg]; exact if_pos (by first | exact Or.inl hx | exact Or.inr (by rw [← hT hx]; simpa using h2))
  rw [hF] at hK
  refine bq_ret rfl (ars_cons (ar_cell e2 (by assumption) (ld39 _)) (ars_cons (ar_cell e3 (by assumption) (ld57 _)) (ars_cons (ar_tmp e4) (ars_cons (ar_tmp e5) ars_nil)))) ?_
  exact ⟨_, _, hK, Canon.forget rfl holdM10⟩
end Go.Proofs.Ytdkdkpiemigfkaa
set_option linter.unusedVariables false
set_option linter.unusedSimpArgs false
set_option maxRecDepth 8000
namespace Go.Proofs.Ytdkdkpiemigfkaa
open Go Go.Proofs
def sgC (t : Tup) (h : Segh) (b : List UInt8) : List Value := t.cells ++ (h.cells ++ [asString b])
theorem sgC_len (t : Tup) (h : Segh) (b : List UInt8) : (sgC t h b).length = 13 := rfl
theorem z71 : azero Try.prog 71 = some (sgC tup0 seg0 []) := by kernel_rfl
theorem b71 : abuild Try.prog 71 [] = some (sgC tup0 seg0 []) := by kernel_rfl
theorem st71 (t t' : Tup) (h h' : Segh) (b b' : List UInt8) : astore Try.prog 71 (sgC t h b) 0 (.agg (sgC t' h' b').toArray) = some (sgC t' h' b') := astore_whole (i := _) (by rfl) rfl rfl rfl
theorem ld71 (t : Tup) (h : Segh) (b : List UInt8) : aload Try.prog 71 (sgC t h b) 0 = some (.agg (sgC t h b).toArray) := aload_whole Try.underlying71 (i := _) (by rfl) rfl rfl
theorem bd71 (t : Tup) (h : Segh) (b : List UInt8) : abuild Try.prog 71 [(0, .agg t.cells.toArray), (1, .agg h.cells.toArray), (2, asString b)] = some (sgC t h b) := by
  have := abuild_all (P := Try.prog) (i := _) (z := _) [5, 7, 1] [.agg t.cells.toArray, .agg h.cells.toArray, asString b] Try.underlying71 (by rfl) rfl (by kernel_rfl) (by kernel_rfl) (by kernel_rfl) rfl
  exact this
def sp40 : ASpec := fun args M K => ∃ l : List UInt8, args = [asString l] ∧ l.length ≤ 100000000 ∧ (∀ t h b, segGet l = some (t, h, b) → K (.ret (.tuple #[.agg (sgC t h b).toArray, .bool true])) M) ∧ (segGet l = none → ∀ t h b, K (.ret (.tuple #[.agg (sgC t h b).toArray, .bool false])) M)
noncomputable def S40 : FuncId → ASpec := tab [(56, sp56), (57, sp57), (58, sp58)]
theorem S40_56 : S40 56 = sp56 := rfl
theorem S40_57 : S40 57 = sp57 := rfl
theorem S40_58 : S40 58 = sp58 := rfl
theorem S40_ok : ∀ f, Sound Try.prog f (S40 f) := tab_sound _ (by simp [f56_ok, f57_ok, f58_ok])
set_option maxHeartbeats 1000000 in
theorem f40_ok : Sound Try.prog 40 sp40 := by
 refine Sound.of_awp (c := bodyOf Try.f40) Try.func40 rfl rfl rfl ?_
 rintro args M K ⟨l, rfl, hll, hK1, hK0⟩
 refine ⟨Nat.le_of_ble_eq_true rfl, ?_⟩
 have hS := S40_ok
 have e0 : entry [asString l] 0 = asString l := rfl
 have hz57 : azero Try.prog 57 = some seg0.cells := z57
 have hz61 : azero Try.prog 61 = some eth0 := z61
 have hz64 : azero Try.prog 64 = some ip0.cells := z64
 have hst57 : ∀ h k : Segh, astore Try.prog 57 h.cells 0 (.agg k.cells.toArray) = some k.cells := st57
 have hst64 : ∀ h k : IPh, astore Try.prog 64 h.cells 0 (.agg k.cells.toArray) = some k.cells := st64
 obtain ⟨et, c13, c1, c12, hT, hlen1⟩ := eth_facts l
 have hst61 : astore Try.prog 61 eth0 0 (.agg (ethGetF l).1.toArray) = some (ethGetF l).1 := st61 rfl c13 c1
 have hsg : segGet l = segGet l := rfl
 conv at hsg => rhs; unfold segGet
 generalize hr1 : ethGetF l = r1 at *
 refine at_seq rfl ?_
 refine at_region hS rfl (by kernel_rfl) ?_
 refine s_op (a_alloc z71) rfl ?_
 refine s_op (a_as (by simp only [ev_const] <;> rfl)) rfl ?_
 refine s_end (fun s' hs' => ?_)
 replace e0 := kp 0 hs' e0
 have e2 := congrFun hs' 2
 simp only [Zu, Nat.reduceEqDiff, ↓reduceIte, newPtr, AMem.next_alloc] at e2
 clear hs'
 refine o_norm ?_
 refine q_mem (fun M1 hEM1 => ?_)
 have hnM1 := congrArg AMem.next hEM1; simp only [Zn, Nat.add_assoc, Nat.reduceAdd] at hnM1
 have hnxM1 : M.next ≤ M1.next := by have := (Nat.le_refl M.next); omega
 have holdM1 : ∀ j, j < M.next → M1.get j = M.get j := fun j hj => by have := (Nat.le_refl M.next); rw [hEM1]; simp (disch := first | (refine Zx ?_; simp only [Zn]; done) | ((try simp only [Zn]); omega)) only [Zg]; done
 have gM1_0 := congrArg (fun m => AMem.get m M.next) hEM1; try simp (disch := first | (refine Zx ?_; simp only [Zn]; done) | ((try simp only [Zn]); omega)) only [Zg, Nat.add_assoc, Nat.reduceAdd] at gM1_0
 clear hEM1
 refine t_norm ?_
 refine at_seq rfl ?_
 refine at_region hS rfl (by kernel_rfl) ?_
 refine s_op (a_mv e0) rfl ?_
 refine s_call (by simp only [Zu, Nat.reduceEqDiff, ↓reduceIte, retEth, hst61, newPtr, AMem.next_alloc, gM1_0] <;> rfl) (by simp only [Zu, Nat.reduceEqDiff, ↓reduceIte, Zm, retEth, hst61, newPtr, AMem.next_alloc, gM1_0] <;> rfl) ?_
 rw [S40_56]; refine ⟨l, rfl, by omega, ?_⟩; rw [hr1]
 show EA _ _ _ _ _ _
 refine s_mv ?_
 refine s_op (a_ext (by simp only [Zu, Nat.reduceEqDiff, ↓reduceIte, retEth, hst61, newPtr, AMem.next_alloc] <;> rfl) (by first | exact ext4_0 | exact ext3_0 | exact ext2_0 | rfl)) rfl ?_
 refine s_op (a_ext (by simp only [Zu, Nat.reduceEqDiff, ↓reduceIte, retEth, hst61, newPtr, AMem.next_alloc] <;> rfl) (by first | exact ext4_1 | exact ext3_1 | exact ext2_1 | rfl)) rfl ?_
 refine s_op (a_ext (by simp only [Zu, Nat.reduceEqDiff, ↓reduceIte, retEth, hst61, newPtr, AMem.next_alloc] <;> rfl) (by first | exact ext4_2 | exact ext3_2 | exact ext2_2 | rfl)) rfl ?_
 refine s_op (a_alloc hz61) rfl ?_
 refine s_op (a_store (by simp only [Zu, Nat.reduceEqDiff, ↓reduceIte, retEth, hst61, newPtr, AMem.next_alloc, gM1_0] <;> rfl) (by simp (disch := first | (refine Zx ?_; simp only [Zn]; done) | ((try simp only [Zn]); omega)) only [Zg, retEth, hst61, newPtr, gM1_0] <;> rfl) (by simp only [Zu, Nat.reduceEqDiff, ↓reduceIte, retEth, hst61, newPtr, AMem.next_alloc, gM1_0] <;> rfl) (by simp only [retEth, hst61, newPtr, AMem.next_alloc, gM1_0] <;> rfl)) rfl ?_
 refine s_as ?_
 refine s_as ?_
 refine s_end (fun s' hs' => ?_)
 replace e2 := kp 2 hs' e2
 have e4 := congrFun hs' 4
 have e5 := congrFun hs' 5
 have e6 := congrFun hs' 6
 simp only [Zu, Nat.reduceEqDiff, ↓reduceIte, newPtr, AMem.next_alloc] at e4 e5 e6
 clear hs'
 try clear e0
 refine o_norm ?_
 refine q_mem (fun M2 hEM2 => ?_)
 have hnM2 := congrArg AMem.next hEM2; simp only [Zn, Nat.add_assoc, Nat.reduceAdd] at hnM2
 have hnxM2 : M.next ≤ M2.next := by have := hnxM1; omega
 have holdM2 : ∀ j, j < M.next → M2.get j = M.get j := fun j hj => by have := hnxM1; rw [hEM2]; simp (disch := first | (refine Zx ?_; simp only [Zn]; done) | ((try simp only [Zn]); omega)) only [Zg]; exact holdM1 j hj
 have gM2_0 := congrArg (fun m => AMem.get m M.next) hEM2; try simp (disch := first | (refine Zx ?_; simp only [Zn]; done) | ((try simp only [Zn]); omega)) only [Zg, Nat.add_assoc, Nat.reduceAdd, gM1_0] at gM2_0
 have gM2_1 := congrArg (fun m => AMem.get m M1.next) hEM2; try simp (disch := first | (refine Zx ?_; simp only [Zn]; done) | ((try simp only [Zn]); omega)) only [Zg, Nat.add_assoc, Nat.reduceAdd, gM1_0] at gM2_1
 clear hEM2
 refine t_norm ?_
 refine at_seq rfl ?_
 refine at_seq rfl ?_
 by_cases hx : r1.2.2 = 0
 ·
  refine at_region hS rfl (by kernel_rfl) ?_
  refine s_op (a_mv e6) rfl ?_
  refine s_op (a_bin (by simp (disch := omega) only [Zu, Nat.reduceEqDiff, ↓reduceIte, Zd, reduceCtorEq, abin_neq, abin_aneq, ne_eq, not_false_eq_true, Nat.zero_add, c12, hx] <;> rfl)) rfl ?_
  refine s_mv ?_
  refine s_tk ?_
  refine s_op (a_fa (by simp only [Zu, Nat.reduceEqDiff, ↓reduceIte, fa61_2, Nat.zero_add, c12, hx, newPtr, AMem.next_alloc, e4] <;> rfl)) rfl ?_
  refine s_tk ?_
  refine s_op (a_load (by simp only [Zu, Nat.reduceEqDiff, ↓reduceIte, Nat.zero_add, ld3, c12, hx, newPtr, AMem.next_alloc, gM2_0, gM2_1] <;> rfl) (by simp (disch := first | (refine Zx ?_; simp only [Zn]; done) | ((try simp only [Zn]); omega)) only [Zg, Nat.zero_add, ld3, c12, hx, newPtr, gM2_0, gM2_1] <;> rfl) (by simp only [ld3, Zl, Nat.zero_add, c12, hx, newPtr, AMem.next_alloc, gM2_0, gM2_1] <;> rfl)) rfl ?_
  refine s_tk ?_
  refine s_op (a_bin (by simp (disch := omega) only [Zu, Nat.reduceEqDiff, ↓reduceIte, Zd, reduceCtorEq, abin_neq, abin_aneq, ne_eq, not_false_eq_true, Nat.zero_add, c12, hx] <;> rfl)) rfl ?_
  refine s_op (a_pick (by simp only [Zu, Nat.reduceEqDiff, ↓reduceIte, Zd, reduceCtorEq, Nat.zero_add, c12, hx] <;> rfl) (by simp only [Zu, Nat.reduceEqDiff, ↓reduceIte, Zd, reduceCtorEq, Nat.zero_add, c12, hx] <;> rfl)) rfl ?_
  refine s_end (fun s' hs' => ?_)
  replace e2 := kp 2 hs' e2
  replace e5 := kp 5 hs' e5
  have e22 := congrFun hs' 22
  simp only [Zu, Nat.reduceEqDiff, ↓reduceIte, newPtr, AMem.next_alloc] at e22
  clear hs'
  try clear e4 e6
  refine o_norm ?_
  refine t_norm ?_
  refine at_cond rfl rfl e22 (fun h2 => ?_) (fun h2 => ?_)
  ·
   try simp only [Zh] at h2
   refine at_seq rfl ?_
   refine at_region hS rfl (by kernel_rfl) ?_
   refine s_op (a_build (by simp only [Zm, Array.toList, b71, st71, newPtr, AMem.next_alloc] <;> rfl)) rfl ?_
   refine s_op (a_store e2 (by simp (disch := first | (refine Zx ?_; simp only [Zn]; done) | ((try simp only [Zn]); omega)) only [Zg, b71, st71, newPtr, gM2_0, gM2_1, e2] <;> rfl) (by simp only [Zu, Nat.reduceEqDiff, ↓reduceIte, b71, st71, newPtr, AMem.next_alloc, gM2_0, gM2_1, e2] <;> rfl) (by simp only [b71, st71, newPtr, AMem.next_alloc, gM2_0, gM2_1, e2] <;> rfl)) rfl ?_
   refine s_op (a_as (by simp only [ev_const] <;> rfl)) rfl ?_
   refine s_end (fun s' hs' => ?_)
   replace e2 := kp 2 hs' e2
   have e3 := congrFun hs' 3
   simp only [Zu, Nat.reduceEqDiff, ↓reduceIte, newPtr, AMem.next_alloc] at e3
   clear hs'
   refine o_norm ?_
   refine q_mem (fun M3 hEM3 => ?_)
   have hnM3 := congrArg AMem.next hEM3; simp only [Zn, Nat.add_assoc, Nat.reduceAdd] at hnM3
   have hnxM3 : M.next ≤ M3.next := by have := hnxM2; omega
   have holdM3 : ∀ j, j < M.next → M3.get j = M.get j := fun j hj => by have := hnxM2; rw [hEM3]; simp (disch := first | (refine Zx ?_; simp only [Zn]; done) | ((try simp only [Zn]); omega)) only [Zg]; exact holdM2 j hj
   have gM3_0 := congrArg (fun m => AMem.get m M.next) hEM3; try simp (disch := first | (refine Zx ?_; simp only [Zn]; done) | ((try simp only [Zn]); omega)) only [Zg, Nat.add_assoc, Nat.reduceAdd, gM2_0, gM2_1] at gM3_0
   have gM3_1 := congrArg (fun m => AMem.get m M1.next) hEM3; try simp (disch := first | (refine Zx ?_; simp only [Zn]; done) | ((try simp only [Zn]); omega)) only [Zg, Nat.add_assoc, Nat.reduceAdd, gM2_0, gM2_1] at gM3_1
   clear hEM3
   refine t_norm ?_
   refine at_ret rfl ?_
   refine t_ret ?_
   have hF : segGet l = none := by rw [hsg]; exact if_pos (by first | exact Or.inl hx | exact Or.inr (by rw [← hT hx]; simpa using h2))
   have hK := hK0 hF tup0 seg0 []
   refine bq_ret rfl (ars_cons (ar_cell e2 (by assumption) (ld71 _ _ _)) (ars_cons (ar_tmp e3) ars_nil)) ?_
   exact ⟨_, _, hK, Canon.forget rfl holdM3⟩
  ·
   try simp only [Zh] at h2
   have het : ethT l = 2048 := by rw [← hT hx]; simpa using h2
   rw [if_neg (by simp [hx, het])] at hsg
   have hlen2 := ip_len r1.2.1
   have hip := ip_facts (l := r1.2.1)
   generalize hr2 : ipGetF r1.2.1 = r2 at *
   refine at_skip rfl ?_
   refine t_norm ?_
   refine at_seq rfl ?_
   refine at_region hS rfl (by kernel_rfl) ?_
   refine s_op (a_mv e5) rfl ?_
   refine s_call (by simp only [Zu, Nat.reduceEqDiff, ↓reduceIte, retIP, hst64, newPtr, AMem.next_alloc, gM2_0, gM2_1] <;> rfl) (by simp only [Zu, Nat.reduceEqDiff, ↓reduceIte, Zm, retIP, hst64, newPtr, AMem.next_alloc, gM2_0, gM2_1] <;> rfl) ?_
   rw [S40_57]; refine ⟨_, rfl, by omega, ?_⟩; rw [hr2]
   show EA _ _ _ _ _ _
   refine s_mv ?_
   refine s_op (a_ext (by simp only [Zu, Nat.reduceEqDiff, ↓reduceIte, retIP, hst64, newPtr, AMem.next_alloc] <;> rfl) (by first | exact ext4_0 | exact ext3_0 | exact ext2_0 | rfl)) rfl ?_
   refine s_op (a_ext (by simp only [Zu, Nat.reduceEqDiff, ↓reduceIte, retIP, hst64, newPtr, AMem.next_alloc] <;> rfl) (by first | exact ext4_1 | exact ext3_1 | exact ext2_1 | rfl)) rfl ?_
   refine s_op (a_ext (by simp only [Zu, Nat.reduceEqDiff, ↓reduceIte, retIP, hst64, newPtr, AMem.next_alloc] <;> rfl) (by first | exact ext4_2 | exact ext3_2 | exact ext2_2 | rfl)) rfl ?_
   refine s_op (a_alloc hz64) rfl ?_
   refine s_op (a_store (by simp only [Zu, Nat.reduceEqDiff, ↓reduceIte, retIP, hst64, newPtr, AMem.next_alloc, gM2_0, gM2_1] <;> rfl) (by simp (disch := first | (refine Zx ?_; simp only [Zn]; done) | ((try simp only [Zn]); omega)) only [Zg, retIP, hst64, newPtr, gM2_0, gM2_1] <;> rfl) (by simp only [Zu, Nat.reduceEqDiff, ↓reduceIte, retIP, hst64, newPtr, AMem.next_alloc, gM2_0, gM2_1] <;> rfl) (by simp only [retIP, hst64, newPtr, AMem.next_alloc, gM2_0, gM2_1] <;> rfl)) rfl ?_
   refine s_as ?_
   refine s_as ?_
   refine s_end (fun s' hs' => ?_)
   replace e2 := kp 2 hs' e2
   replace e5 := congrFun hs' 5
   have e6 := congrFun hs' 6
   have e7 := congrFun hs' 7
   simp only [Zu, Nat.reduceEqDiff, ↓reduceIte, newPtr, AMem.next_alloc] at e5 e6 e7
   clear hs'
   refine o_norm ?_
   refine q_mem (fun M4 hEM4 => ?_)
   have hnM4 := congrArg AMem.next hEM4; simp only [Zn, Nat.add_assoc, Nat.reduceAdd] at hnM4
   have hnxM4 : M.next ≤ M4.next := by have := hnxM2; omega
   have holdM4 : ∀ j, j < M.next → M4.get j = M.get j := fun j hj => by have := hnxM2; rw [hEM4]; simp (disch := first | (refine Zx ?_; simp only [Zn]; done) | ((try simp only [Zn]); omega)) only [Zg]; exact holdM2 j hj
   have gM4_0 := congrArg (fun m => AMem.get m M.next) hEM4; try simp (disch := first | (refine Zx ?_; simp only [Zn]; done) | ((try simp only [Zn]); omega)) only [Zg, Nat.add_assoc, Nat.reduceAdd, gM2_0, gM2_1] at gM4_0
   have gM4_1 := congrArg (fun m => AMem.get m M1.next) hEM4; try simp (disch := first | (refine Zx ?_; simp only [Zn]; done) | ((try simp only [Zn]); omega)) only [Zg, Nat.add_assoc, Nat.reduceAdd, gM2_0, gM2_1] at gM4_1
   have gM4_2 := congrArg (fun m => AMem.get m M2.next) hEM4; try simp (disch := first | (refine Zx ?_; simp only [Zn]; done) | ((try simp only [Zn]); omega)) only [Zg, Nat.add_assoc, Nat.reduceAdd, gM2_0, gM2_1] at gM4_2
   clear hEM4
   refine t_norm ?_
   refine at_seq rfl ?_
   refine at_seq rfl ?_
   by_cases hy : r2.2.2 = 0
   ·
    refine at_region hS rfl (by kernel_rfl) ?_
    refine s_op (a_mv e6) rfl ?_
    refine s_op (a_bin (by simp (disch := omega) only [Zu, Nat.reduceEqDiff, ↓reduceIte, Zd, reduceCtorEq, abin_neq, abin_aneq, ne_eq, not_false_eq_true, Nat.zero_add, hy] <;> rfl)) rfl ?_
    refine s_mv ?_
    refine s_tk ?_
    refine s_op (a_fa (by simp only [Zu, Nat.reduceEqDiff, ↓reduceIte, fa64_6, Nat.zero_add, hy, newPtr, AMem.next_alloc, e7] <;> rfl)) rfl ?_
    refine s_tk ?_
    refine s_op (a_load (by simp only [Zu, Nat.reduceEqDiff, ↓reduceIte, Nat.zero_add, ld3, ipc_6, hy, newPtr, AMem.next_alloc, gM4_0, gM4_1, gM4_2] <;> rfl) (by simp (disch := first | (refine Zx ?_; simp only [Zn]; done) | ((try simp only [Zn]); omega)) only [Zg, Nat.zero_add, ld3, ipc_6, hy, newPtr, gM4_0, gM4_1, gM4_2] <;> rfl) (by simp only [ld3, Zl, Nat.zero_add, ipc_6, hy, newPtr, AMem.next_alloc, gM4_0, gM4_1, gM4_2] <;> rfl)) rfl ?_
    refine s_tk ?_
    refine s_op (a_bin (by simp (disch := omega) only [Zu, Nat.reduceEqDiff, ↓reduceIte, Zd, reduceCtorEq, abin_neq, abin_aneq, ne_eq, not_false_eq_true, Nat.zero_add, hy] <;> rfl)) rfl ?_
    refine s_op (a_pick (by simp only [Zu, Nat.reduceEqDiff, ↓reduceIte, Zd, reduceCtorEq, Nat.zero_add, hy] <;> rfl) (by simp only [Zu, Nat.reduceEqDiff, ↓reduceIte, Zd, reduceCtorEq, Nat.zero_add, hy] <;> rfl)) rfl ?_
    refine s_end (fun s' hs' => ?_)
    replace e2 := kp 2 hs' e2
    replace e5 := kp 5 hs' e5
    replace e7 := kp 7 hs' e7
    have e36 := congrFun hs' 36
    simp only [Zu, Nat.reduceEqDiff, ↓reduceIte, newPtr, AMem.next_alloc] at e36
    clear hs'
    try clear e6
    refine o_norm ?_
    refine t_norm ?_
    refine at_cond rfl rfl e36 (fun h5 => ?_) (fun h5 => ?_)
    ·
     try simp only [Zh] at h5
     refine at_seq rfl ?_
     refine at_region hS rfl (by kernel_rfl) ?_
     refine s_op (a_build (by simp only [Zm, Array.toList, b71, st71, newPtr, AMem.next_alloc] <;> rfl)) rfl ?_
     refine s_op (a_store e2 (by simp (disch := first | (refine Zx ?_; simp only [Zn]; done) | ((try simp only [Zn]); omega)) only [Zg, b71, st71, newPtr, gM4_0, gM4_1, gM4_2, e2] <;> rfl) (by simp only [Zu, Nat.reduceEqDiff, ↓reduceIte, b71, st71, newPtr, AMem.next_alloc, gM4_0, gM4_1, gM4_2, e2] <;> rfl) (by simp only [b71, st71, newPtr, AMem.next_alloc, gM4_0, gM4_1, gM4_2, e2] <;> rfl)) rfl ?_
     refine s_op (a_as (by simp only [ev_const] <;> rfl)) rfl ?_
     refine s_end (fun s' hs' => ?_)
     replace e2 := kp 2 hs' e2
     have e3 := congrFun hs' 3
     simp only [Zu, Nat.reduceEqDiff, ↓reduceIte, newPtr, AMem.next_alloc] at e3
     clear hs'
     refine o_norm ?_
     refine q_mem (fun M5 hEM5 => ?_)
     have hnM5 := congrArg AMem.next hEM5; simp only [Zn, Nat.add_assoc, Nat.reduceAdd] at hnM5
     have hnxM5 : M.next ≤ M5.next := by have := hnxM4; omega
     have holdM5 : ∀ j, j < M.next → M5.get j = M.get j := fun j hj => by have := hnxM4; rw [hEM5]; simp (disch := first | (refine Zx ?_; simp only [Zn]; done) | ((try simp only [Zn]); omega)) only [Zg]; exact holdM4 j hj
     have gM5_0 := congrArg (fun m => AMem.get m M.next) hEM5; try simp (disch := first | (refine Zx ?_; simp only [Zn]; done) | ((try simp only [Zn]); omega)) only [Zg, Nat.add_assoc, Nat.reduceAdd, gM4_0, gM4_1, gM4_2] at gM5_0
     have gM5_1 := congrArg (fun m => AMem.get m M1.next) hEM5; try simp (disch := first | (refine Zx ?_; simp only [Zn]; done) | ((try simp only [Zn]); omega)) only [Zg, Nat.add_assoc, Nat.reduceAdd, gM4_0, gM4_1, gM4_2] at gM5_1
     have gM5_2 := congrArg (fun m => AMem.get m M2.next) hEM5; try simp (disch := first | (refine Zx ?_; simp only [Zn]; done) | ((try simp only [Zn]); omega)) only [Zg, Nat.add_assoc, Nat.reduceAdd, gM4_0, gM4_1, gM4_2] at gM5_2
     clear hEM5
     refine t_norm ?_
     refine at_ret rfl ?_
     refine t_ret ?_
     have hF : segGet l = none := by rw [hsg]; exact if_pos (by first | exact Or.inl hy | exact Or.inr (by simpa using h5))
     have hK := hK0 hF tup0 seg0 []
     refine bq_ret rfl (ars_cons (ar_cell e2 (by assumption) (ld71 _ _ _)) (ars_cons (ar_tmp e3) ars_nil)) ?_
     exact ⟨_, _, hK, Canon.forget rfl holdM5⟩
    ·
     try simp only [Zh] at h5
     have hpr : r2.1.proto = 6 := by simpa using h5
     rw [if_neg (by simp [hy, hpr])] at hsg
     obtain ⟨hs, hd⟩ := hip hy
     generalize hr3 : tcpGetF r2.1.src r2.1.dst r2.2.1 = r3 at *
     refine at_skip rfl ?_
     refine t_norm ?_
     refine at_seq rfl ?_
     refine at_region hS rfl (by kernel_rfl) ?_
     refine s_op (a_fa (by simp only [Zu, Nat.reduceEqDiff, ↓reduceIte, fa64_7, Nat.zero_add, fa64_8, retSeg, hst57, newPtr, AMem.next_alloc, e7] <;> rfl)) rfl ?_
     refine s_op (a_load (by simp only [Zu, Nat.reduceEqDiff, ↓reduceIte, Nat.zero_add, ld23, ipc_7, ipc_8, retSeg, hst57, newPtr, AMem.next_alloc, gM4_0, gM4_1, gM4_2] <;> rfl) (by simp (disch := first | (refine Zx ?_; simp only [Zn]; done) | ((try simp only [Zn]); omega)) only [Zg, Nat.zero_add, ld23, ipc_7, ipc_8, retSeg, hst57, newPtr, gM4_0, gM4_1, gM4_2] <;> rfl) (by simp only [ld23, Zl, Nat.zero_add, ipc_7, ipc_8, retSeg, hst57, newPtr, AMem.next_alloc, gM4_0, gM4_1, gM4_2] <;> rfl)) rfl ?_
     refine s_op (a_fa (by simp only [Zu, Nat.reduceEqDiff, ↓reduceIte, fa64_8, Nat.zero_add, fa64_7, retSeg, hst57, newPtr, AMem.next_alloc, e7] <;> rfl)) rfl ?_
     refine s_op (a_load (by simp only [Zu, Nat.reduceEqDiff, ↓reduceIte, Nat.zero_add, ld23, ipc_7, ipc_8, retSeg, hst57, newPtr, AMem.next_alloc, gM4_0, gM4_1, gM4_2] <;> rfl) (by simp (disch := first | (refine Zx ?_; simp only [Zn]; done) | ((try simp only [Zn]); omega)) only [Zg, Nat.zero_add, ld23, ipc_7, ipc_8, retSeg, hst57, newPtr, gM4_0, gM4_1, gM4_2] <;> rfl) (by simp only [ld23, Zl, Nat.zero_add, ipc_7, ipc_8, retSeg, hst57, newPtr, AMem.next_alloc, gM4_0, gM4_1, gM4_2] <;> rfl)) rfl ?_
     refine s_op (a_mv e5) rfl ?_
     refine s_call (by simp only [Zu, Nat.reduceEqDiff, ↓reduceIte, Nat.zero_add, retSeg, hst57, newPtr, AMem.next_alloc, gM4_0, gM4_1, gM4_2] <;> rfl) (by simp only [Zu, Nat.reduceEqDiff, ↓reduceIte, Zm, Nat.zero_add, retSeg, hst57, newPtr, AMem.next_alloc, gM4_0, gM4_1, gM4_2] <;> rfl) ?_
     rw [S40_58]; refine ⟨_, _, _, rfl, ⟨hs, hd, by omega⟩, ?_⟩; rw [hr3]
     show EA _ _ _ _ _ _
     refine s_mv ?_
     refine s_op (a_ext (by simp only [Zu, Nat.reduceEqDiff, ↓reduceIte, Nat.zero_add, retSeg, hst57, newPtr, AMem.next_alloc] <;> rfl) (by first | exact ext4_0 | exact ext3_0 | exact ext2_0 | rfl)) rfl ?_
     refine s_op (a_ext (by simp only [Zu, Nat.reduceEqDiff, ↓reduceIte, Nat.zero_add, retSeg, hst57, newPtr, AMem.next_alloc] <;> rfl) (by first | exact ext4_1 | exact ext3_1 | exact ext2_1 | rfl)) rfl ?_
     refine s_op (a_ext (by simp only [Zu, Nat.reduceEqDiff, ↓reduceIte, Nat.zero_add, retSeg, hst57, newPtr, AMem.next_alloc] <;> rfl) (by first | exact ext4_2 | exact ext3_2 | exact ext2_2 | rfl)) rfl ?_
     refine s_op (a_alloc hz57) rfl ?_
     refine s_op (a_store (by simp only [Zu, Nat.reduceEqDiff, ↓reduceIte, Nat.zero_add, retSeg, hst57, newPtr, AMem.next_alloc, gM4_0, gM4_1, gM4_2] <;> rfl) (by simp (disch := first | (refine Zx ?_; simp only [Zn]; done) | ((try simp only [Zn]); omega)) only [Zg, Nat.zero_add, retSeg, hst57, newPtr, gM4_0, gM4_1, gM4_2] <;> rfl) (by simp only [Zu, Nat.reduceEqDiff, ↓reduceIte, Nat.zero_add, retSeg, hst57, newPtr, AMem.next_alloc, gM4_0, gM4_1, gM4_2] <;> rfl) (by simp only [Nat.zero_add, retSeg, hst57, newPtr, AMem.next_alloc, gM4_0, gM4_1, gM4_2] <;> rfl)) rfl ?_
     refine s_as ?_
     refine s_as ?_
     refine s_end (fun s' hs' => ?_)
     replace e2 := kp 2 hs' e2
     have e6 := congrFun hs' 6
     replace e7 := kp 7 hs' e7
     have e8 := congrFun hs' 8
     have e9 := congrFun hs' 9
     simp only [Zu, Nat.reduceEqDiff, ↓reduceIte, newPtr, AMem.next_alloc] at e6 e8 e9
     clear hs'
     try clear e5
     refine o_norm ?_
     refine q_mem (fun M6 hEM6 => ?_)
     have hnM6 := congrArg AMem.next hEM6; simp only [Zn, Nat.add_assoc, Nat.reduceAdd] at hnM6
     have hnxM6 : M.next ≤ M6.next := by have := hnxM4; omega
     have holdM6 : ∀ j, j < M.next → M6.get j = M.get j := fun j hj => by have := hnxM4; rw [hEM6]; simp (disch := first | (refine Zx ?_; simp only [Zn]; done) | ((try simp only [Zn]); omega)) only [Zg]; exact holdM4 j hj
     have gM6_0 := congrArg (fun m => AMem.get m M.next) hEM6; try simp (disch := first | (refine Zx ?_; simp only [Zn]; done) | ((try simp only [Zn]); omega)) only [Zg, Nat.add_assoc, Nat.reduceAdd, gM4_0, gM4_1, gM4_2] at gM6_0
     have gM6_1 := congrArg (fun m => AMem.get m M1.next) hEM6; try simp (disch := first | (refine Zx ?_; simp only [Zn]; done) | ((try simp only [Zn]); omega)) only [Zg, Nat.add_assoc, Nat.reduceAdd, gM4_0, gM4_1, gM4_2] at gM6_1
     have gM6_2 := congrArg (fun m => AMem.get m M2.next) hEM6; try simp (disch := first | (refine Zx ?_; simp only [Zn]; done) | ((try simp only [Zn]); omega)) only [Zg, Nat.add_assoc, Nat.reduceAdd, gM4_0, gM4_1, gM4_2] at gM6_2
     have gM6_3 := congrArg (fun m => AMem.get m M4.next) hEM6; try simp (disch := first | (refine Zx ?_; simp only [Zn]; done) | ((try simp only [Zn]); omega)) only [Zg, Nat.add_assoc, Nat.reduceAdd, gM4_0, gM4_1, gM4_2] at gM6_3
     clear hEM6
     refine t_norm ?_
     refine at_seq rfl ?_
     refine at_region hS rfl (by kernel_rfl) ?_
     refine s_op (a_fa (by simp only [Zu, Nat.reduceEqDiff, ↓reduceIte, fa64_6, Nat.zero_add, fa64_7, fa64_8, fa57_0, fa57_1, bd39v, bd71, st71, newPtr, AMem.next_alloc, e7] <;> rfl)) rfl ?_
     refine s_op (a_load (by simp only [Zu, Nat.reduceEqDiff, ↓reduceIte, Nat.zero_add, ld23, ld3, ipc_6, ipc_7, ipc_8, sgc_0, sgc_1, ld57, bd39v, bd71, st71, newPtr, AMem.next_alloc, gM6_0, gM6_1, gM6_2, gM6_3] <;> rfl) (by simp (disch := first | (refine Zx ?_; simp only [Zn]; done) | ((try simp only [Zn]); omega)) only [Zg, Nat.zero_add, ld23, ld3, ipc_6, ipc_7, ipc_8, sgc_0, sgc_1, ld57, bd39v, bd71, st71, newPtr, gM6_0, gM6_1, gM6_2, gM6_3] <;> rfl) (by simp only [ld3, Zl, Nat.zero_add, ld23, ipc_6, ipc_7, ipc_8, sgc_0, sgc_1, ld57, bd39v, bd71, st71, newPtr, AMem.next_alloc, gM6_0, gM6_1, gM6_2, gM6_3] <;> rfl)) rfl ?_
     refine s_op (a_fa (by simp only [Zu, Nat.reduceEqDiff, ↓reduceIte, fa64_7, Nat.zero_add, fa64_6, fa64_8, fa57_0, fa57_1, bd39v, bd71, st71, newPtr, AMem.next_alloc, e7] <;> rfl)) rfl ?_
     refine s_op (a_load (by simp only [Zu, Nat.reduceEqDiff, ↓reduceIte, Nat.zero_add, ld23, ld3, ipc_6, ipc_7, ipc_8, sgc_0, sgc_1, ld57, bd39v, bd71, st71, newPtr, AMem.next_alloc, gM6_0, gM6_1, gM6_2, gM6_3] <;> rfl) (by simp (disch := first | (refine Zx ?_; simp only [Zn]; done) | ((try simp only [Zn]); omega)) only [Zg, Nat.zero_add, ld23, ld3, ipc_6, ipc_7, ipc_8, sgc_0, sgc_1, ld57, bd39v, bd71, st71, newPtr, gM6_0, gM6_1, gM6_2, gM6_3] <;> rfl) (by simp only [ld23, Zl, Nat.zero_add, ld3, ipc_6, ipc_7, ipc_8, sgc_0, sgc_1, ld57, bd39v, bd71, st71, newPtr, AMem.next_alloc, gM6_0, gM6_1, gM6_2, gM6_3] <;> rfl)) rfl ?_
     refine s_op (a_fa (by simp only [Zu, Nat.reduceEqDiff, ↓reduceIte, fa64_8, Nat.zero_add, fa64_6, fa64_7, fa57_0, fa57_1, bd39v, bd71, st71, newPtr, AMem.next_alloc, e7] <;> rfl)) rfl ?_
     refine s_op (a_load (by simp only [Zu, Nat.reduceEqDiff, ↓reduceIte, Nat.zero_add, ld23, ld3, ipc_6, ipc_7, ipc_8, sgc_0, sgc_1, ld57, bd39v, bd71, st71, newPtr, AMem.next_alloc, gM6_0, gM6_1, gM6_2, gM6_3] <;> rfl) (by simp (disch := first | (refine Zx ?_; simp only [Zn]; done) | ((try simp only [Zn]); omega)) only [Zg, Nat.zero_add, ld23, ld3, ipc_6, ipc_7, ipc_8, sgc_0, sgc_1, ld57, bd39v, bd71, st71, newPtr, gM6_0, gM6_1, gM6_2, gM6_3] <;> rfl) (by simp only [ld23, Zl, Nat.zero_add, ld3, ipc_6, ipc_7, ipc_8, sgc_0, sgc_1, ld57, bd39v, bd71, st71, newPtr, AMem.next_alloc, gM6_0, gM6_1, gM6_2, gM6_3] <;> rfl)) rfl ?_
     refine s_op (a_fa (by simp only [Zu, Nat.reduceEqDiff, ↓reduceIte, fa57_0, Nat.zero_add, fa64_6, fa64_7, fa64_8, fa57_1, bd39v, bd71, st71, newPtr, AMem.next_alloc, e8] <;> rfl)) rfl ?_
     refine s_op (a_load (by simp only [Zu, Nat.reduceEqDiff, ↓reduceIte, Nat.zero_add, ld23, ld3, ipc_6, ipc_7, ipc_8, sgc_0, sgc_1, ld57, bd39v, bd71, st71, newPtr, AMem.next_alloc, gM6_0, gM6_1, gM6_2, gM6_3] <;> rfl) (by simp (disch := first | (refine Zx ?_; simp only [Zn]; done) | ((try simp only [Zn]); omega)) only [Zg, Nat.zero_add, ld23, ld3, ipc_6, ipc_7, ipc_8, sgc_0, sgc_1, ld57, bd39v, bd71, st71, newPtr, gM6_0, gM6_1, gM6_2, gM6_3] <;> rfl) (by simp only [ld3, Zl, Nat.zero_add, ld23, ipc_6, ipc_7, ipc_8, sgc_0, sgc_1, ld57, bd39v, bd71, st71, newPtr, AMem.next_alloc, gM6_0, gM6_1, gM6_2, gM6_3] <;> rfl)) rfl ?_
     refine s_op (a_fa (by simp only [Zu, Nat.reduceEqDiff, ↓reduceIte, fa57_1, Nat.zero_add, fa64_6, fa64_7, fa64_8, fa57_0, bd39v, bd71, st71, newPtr, AMem.next_alloc, e8] <;> rfl)) rfl ?_
     refine s_op (a_load (by simp only [Zu, Nat.reduceEqDiff, ↓reduceIte, Nat.zero_add, ld23, ld3, ipc_6, ipc_7, ipc_8, sgc_0, sgc_1, ld57, bd39v, bd71, st71, newPtr, AMem.next_alloc, gM6_0, gM6_1, gM6_2, gM6_3] <;> rfl) (by simp (disch := first | (refine Zx ?_; simp only [Zn]; done) | ((try simp only [Zn]); omega)) only [Zg, Nat.zero_add, ld23, ld3, ipc_6, ipc_7, ipc_8, sgc_0, sgc_1, ld57, bd39v, bd71, st71, newPtr, gM6_0, gM6_1, gM6_2, gM6_3] <;> rfl) (by simp only [ld3, Zl, Nat.zero_add, ld23, ipc_6, ipc_7, ipc_8, sgc_0, sgc_1, ld57, bd39v, bd71, st71, newPtr, AMem.next_alloc, gM6_0, gM6_1, gM6_2, gM6_3] <;> rfl)) rfl ?_
     refine s_op (a_build (by simp only [Zu, Nat.reduceEqDiff, ↓reduceIte, Zm, Array.toList, Nat.zero_add, bd39v, bd71, st71, newPtr, AMem.next_alloc] <;> rfl)) rfl ?_
     refine s_op (a_load e8 (by simp (disch := first | (refine Zx ?_; simp only [Zn]; done) | ((try simp only [Zn]); omega)) only [Zg, Nat.zero_add, ld23, ld3, ipc_6, ipc_7, ipc_8, sgc_0, sgc_1, ld57, bd39v, bd71, st71, newPtr, gM6_0, gM6_1, gM6_2, gM6_3, e8] <;> rfl) (by simp only [Nat.zero_add, ld23, ld3, ipc_6, ipc_7, ipc_8, sgc_0, sgc_1, ld57, bd39v, bd71, st71, newPtr, AMem.next_alloc, gM6_0, gM6_1, gM6_2, gM6_3, e8] <;> rfl)) rfl ?_
     refine s_op (a_mv e9) rfl ?_
     refine s_op (a_build (by simp only [Zu, Nat.reduceEqDiff, ↓reduceIte, Zm, Array.toList, Nat.zero_add, bd39v, bd71, st71, newPtr, AMem.next_alloc] <;> rfl)) rfl ?_
     refine s_op (a_mv e6) rfl ?_
     refine s_op (a_bin (by simp (disch := omega) only [Zu, Nat.reduceEqDiff, ↓reduceIte, Zd, reduceCtorEq, abin_eql, abin_aeql, ne_eq, not_false_eq_true, Nat.zero_add, bd39v, bd71, st71] <;> rfl)) rfl ?_
     refine s_op (a_store e2 (by simp (disch := first | (refine Zx ?_; simp only [Zn]; done) | ((try simp only [Zn]); omega)) only [Zg, Nat.zero_add, bd39v, bd71, st71, newPtr, gM6_0, gM6_1, gM6_2, gM6_3, e2] <;> rfl) (by simp only [Zu, Nat.reduceEqDiff, ↓reduceIte, Nat.zero_add, bd39v, bd71, st71, newPtr, AMem.next_alloc, gM6_0, gM6_1, gM6_2, gM6_3, e2] <;> rfl) (by simp only [Nat.zero_add, bd39v, bd71, st71, newPtr, AMem.next_alloc, gM6_0, gM6_1, gM6_2, gM6_3, e2] <;> rfl)) rfl ?_
     refine s_as ?_
     refine s_end (fun s' hs' => ?_)
     replace e2 := kp 2 hs' e2
     have e3 := congrFun hs' 3
     simp only [Zu, Nat.reduceEqDiff, ↓reduceIte, newPtr, AMem.next_alloc] at e3
     clear hs'
     try clear e6 e7 e8 e9
     refine o_norm ?_
     refine q_mem (fun M7 hEM7 => ?_)
     have hnM7 := congrArg AMem.next hEM7; simp only [Zn, Nat.add_assoc, Nat.reduceAdd] at hnM7
     have hnxM7 : M.next ≤ M7.next := by have := hnxM6; omega
     have holdM7 : ∀ j, j < M.next → M7.get j = M.get j := fun j hj => by have := hnxM6; rw [hEM7]; simp (disch := first | (refine Zx ?_; simp only [Zn]; done) | ((try simp only [Zn]); omega)) only [Zg]; exact holdM6 j hj
     have gM7_0 := congrArg (fun m => AMem.get m M.next) hEM7; try simp (disch := first | (refine Zx ?_; simp only [Zn]; done) | ((try simp only [Zn]); omega)) only [Zg, Nat.add_assoc, Nat.reduceAdd, gM6_0, gM6_1, gM6_2, gM6_3] at gM7_0
     have gM7_1 := congrArg (fun m => AMem.get m M1.next) hEM7; try simp (disch := first | (refine Zx ?_; simp only [Zn]; done) | ((try simp only [Zn]); omega)) only [Zg, Nat.add_assoc, Nat.reduceAdd, gM6_0, gM6_1, gM6_2, gM6_3] at gM7_1
     have gM7_2 := congrArg (fun m => AMem.get m M2.next) hEM7; try simp (disch := first | (refine Zx ?_; simp only [Zn]; done) | ((try simp only [Zn]); omega)) only [Zg, Nat.add_assoc, Nat.reduceAdd, gM6_0, gM6_1, gM6_2, gM6_3] at gM7_2
     have gM7_3 := congrArg (fun m => AMem.get m M4.next) hEM7; try simp (disch := first | (refine Zx ?_; simp only [Zn]; done) | ((try simp only [Zn]); omega)) only [Zg, Nat.add_assoc, Nat.reduceAdd, gM6_0, gM6_1, gM6_2, gM6_3] at gM7_3
     clear hEM7
     refine t_norm ?_
     refine at_ret rfl ?_
     have hK : K (.ret (.tuple #[.agg (sgC ⟨r2.1.proto, r2.1.src, r2.1.dst, r3.1.src, r3.1.dst⟩ r3.1 r3.2.1).toArray, .bool (decide (r3.2.2 = 0))])) M := by
       by_cases h0 : r3.2.2 = 0
       · have hF : segGet l = some (⟨6, r2.1.src, r2.1.dst, r3.1.src, r3.1.dst⟩, r3.1, r3.2.1) := by rw [hsg]; exact if_neg (by simpa using h0)
         have := hK1 _ _ _ hF
         rw [hpr]; simpa only [h0, decide_true] using this
       · have hF : segGet l = none := by rw [hsg]; exact if_pos h0
         have := hK0 hF ⟨r2.1.proto, r2.1.src, r2.1.dst, r3.1.src, r3.1.dst⟩ r3.1 r3.2.1
         simpa only [h0, decide_false] using this
     refine bq_ret rfl (ars_cons (ar_cell e2 (by assumption) (ld71 _ _ _)) (ars_cons (ar_tmp e3) ars_nil)) ?_
     exact ⟨_, _, hK, Canon.forget rfl holdM7⟩
   ·
    refine at_region hS rfl (by kernel_rfl) ?_
    refine s_op (a_mv e6) rfl ?_
    refine s_op (a_bin (by simp (disch := omega) only [Zu, Nat.reduceEqDiff, ↓reduceIte, Zd, reduceCtorEq, abin_neq, abin_aneq, ne_eq, not_false_eq_true, Nat.zero_add, hy] <;> rfl)) rfl ?_
    refine s_mv ?_
    refine s_lv ?_
    refine s_lv ?_
    refine s_lv ?_
    refine s_op (a_pick (by simp only [Zu, Nat.reduceEqDiff, ↓reduceIte, Zd, reduceCtorEq, Nat.zero_add, hy] <;> rfl) (by simp only [Zu, Nat.reduceEqDiff, ↓reduceIte, Zd, reduceCtorEq, Nat.zero_add, hy] <;> rfl)) rfl ?_
    refine s_end (fun s' hs' => ?_)
    replace e2 := kp 2 hs' e2
    replace e5 := kp 5 hs' e5
    replace e7 := kp 7 hs' e7
    have e36 := congrFun hs' 36
    simp only [Zu, Nat.reduceEqDiff, ↓reduceIte, newPtr, AMem.next_alloc] at e36
    clear hs'
    try clear e6
    refine o_norm ?_
    refine t_norm ?_
    refine at_cond rfl rfl e36 (fun h5 => ?_) (fun hc => by cases hc)
    try simp only [Zh] at h5
    refine at_seq rfl ?_
    refine at_region hS rfl (by kernel_rfl) ?_
    refine s_op (a_build (by simp only [Zm, Array.toList, b71, st71, newPtr, AMem.next_alloc] <;> rfl)) rfl ?_
    refine s_op (a_store e2 (by simp (disch := first | (refine Zx ?_; simp only [Zn]; done) | ((try simp only [Zn]); omega)) only [Zg, b71, st71, newPtr, gM4_0, gM4_1, gM4_2, e2] <;> rfl) (by simp only [Zu, Nat.reduceEqDiff, ↓reduceIte, b71, st71, newPtr, AMem.next_alloc, gM4_0, gM4_1, gM4_2, e2] <;> rfl) (by simp only [b71, st71, newPtr, AMem.next_alloc, gM4_0, gM4_1, gM4_2, e2] <;> rfl)) rfl ?_
    refine s_op (a_as (by simp only [ev_const] <;> rfl)) rfl ?_
    refine s_end (fun s' hs' => ?_)
    replace e2 := kp 2 hs' e2
    have e3 := congrFun hs' 3
    simp only [Zu, Nat.reduceEqDiff, ↓reduceIte, newPtr, AMem.next_alloc] at e3
    clear hs'
    refine o_norm ?_
    refine q_mem (fun M8 hEM8 => ?_)
    have hnM8 := congrArg AMem.next hEM8; simp only [Zn, Nat.add_assoc, Nat.reduceAdd] at hnM8
    have hnxM8 : M.next ≤ M8.next := by have := hnxM4; omega
    have holdM8 : ∀ j, j < M.next → M8.get j = M.get j := fun j hj => by have := hnxM4; rw [hEM8]; simp (disch := first | (refine Zx ?_; simp only [Zn]; done) | ((try simp only [Zn]); omega)) only [Zg]; exact holdM4 j hj
    have gM8_0 := congrArg (fun m => AMem.get m M.next) hEM8; try simp (disch := first | (refine Zx ?_; simp only [Zn]; done) | ((try simp only [Zn]); omega)) only [Zg, Nat.add_assoc, Nat.reduceAdd, gM4_0, gM4_1, gM4_2] at gM8_0
    have gM8_1 := congrArg (fun m => AMem.get m M1.next) hEM8; try simp (disch := first | (refine Zx ?_; simp only [Zn]; done) | ((try simp only [Zn]); omega)) only [Zg, Nat.add_assoc, Nat.reduceAdd, gM4_0, gM4_1, gM4_2] at gM8_1
    have gM8_2 := congrArg (fun m => AMem.get m M2.next) hEM8; try simp (disch := first | (refine Zx ?_; simp only [Zn]; done) | ((try simp only [Zn]); omega)) only [Zg, Nat.add_assoc, Nat.reduceAdd, gM4_0, gM4_1, gM4_2] at gM8_2
    clear hEM8
    refine t_norm ?_
    refine at_ret rfl ?_
    refine t_ret ?_
    have hF : segGet l = none := by rw [hsg]; exact if_pos (by first | exact Or.inl hy | exact Or.inr (by simpa using h5))
    have hK := hK0 hF tup0 seg0 []
    refine bq_ret rfl (ars_cons (ar_cell e2 (by assumption) (ld71 _ _ _)) (ars_cons (ar_tmp e3) ars_nil)) ?_
    exact ⟨_, _, hK, Canon.forget rfl holdM8⟩
 ·
  refine at_region hS rfl (by kernel_rfl) ?_
  refine s_op (a_mv e6) rfl ?_
  refine s_op (a_bin (by simp (disch := omega) only [Zu, Nat.reduceEqDiff, ↓reduceIte, Zd, reduceCtorEq, abin_neq, abin_aneq, ne_eq, not_false_eq_true, Nat.zero_add, c12, hx] <;> rfl)) rfl ?_
  refine s_mv ?_
  refine s_lv ?_
  refine s_lv ?_
  refine s_lv ?_
  refine s_op (a_pick (by simp only [Zu, Nat.reduceEqDiff, ↓reduceIte, Zd, reduceCtorEq, Nat.zero_add, c12, hx] <;> rfl) (by simp only [Zu, Nat.reduceEqDiff, ↓reduceIte, Zd, reduceCtorEq, Nat.zero_add, c12, hx] <;> rfl)) rfl ?_
  refine s_end (fun s' hs' => ?_)
  replace e2 := kp 2 hs' e2
  replace e5 := kp 5 hs' e5
  have e22 := congrFun hs' 22
  simp only [Zu, Nat.reduceEqDiff, ↓reduceIte, newPtr, AMem.next_alloc] at e22
  clear hs'
  try clear e4 e6
  refine o_norm ?_
  refine t_norm ?_
  refine at_cond rfl rfl e22 (fun h2 => ?_) (fun hc => by cases hc)
  try simp only [Zh] at h2
  refine at_seq rfl ?_
  refine at_region hS rfl (by kernel_rfl) ?_
  refine s_op (a_build (by simp only [Zm, Array.toList, b71, st71, newPtr, AMem.next_alloc] <;> rfl)) rfl ?_
  refine s_op (a_store e2 (by simp (disch := first | (refine Zx ?_; simp only [Zn]; done) | ((try simp only [Zn]); omega)) only [Zg, b71, st71, newPtr, gM2_0, gM2_1, e2] <;> rfl) (by simp only [Zu, Nat.reduceEqDiff, ↓reduceIte, b71, st71, newPtr, AMem.next_alloc, gM2_0, gM2_1, e2] <;> rfl) (by simp only [b71, st71, newPtr, AMem.next_alloc, gM2_0, gM2_1, e2] <;> rfl)) rfl ?_
  refine s_op (a_as (by simp only [ev_const] <;> rfl)) rfl ?_
  refine s_end (fun s' hs' => ?_)
  replace e2 := kp 2 hs' e2
  have e3 := congrFun hs' 3
  simp only [Zu, Nat.reduceEqDiff, ↓reduceIte, newPtr, AMem.next_alloc] at e3
  clear hs'
  refine o_norm ?_
  refine q_mem (fun M9 hEM9 => ?_)
  have hnM9 := congrArg AMem.next hEM9; simp only [Zn, Nat.add_assoc, Nat.reduceAdd] at hnM9
  have hnxM9 : M.next ≤ M9.next := by have := hnxM2; omega
  have holdM9 : ∀ j, j < M.next → M9.get j = M.get j := fun j hj => by have := hnxM2; rw [hEM9]; simp (disch := first | (refine Zx ?_; simp only [Zn]; done) | ((try simp only [Zn]); omega)) only [Zg]; exact holdM2 j hj
  have gM9_0 := congrArg (fun m => AMem.get m M.next) hEM9; try simp (disch := first | (refine Zx ?_; simp only [Zn]; done) | ((try simp only [Zn]); omega)) only [Zg, Nat.add_assoc, Nat.reduceAdd, gM2_0, gM2_1] at gM9_0
  have gM9_1 := congrArg (fun m => AMem.get m M1.next) hEM9; try simp (disch := first | (refine Zx ?_; simp only [Zn]; done) | ((try simp only [Zn]); omega)) only [Zg, Nat.add_assoc, Nat.reduceAdd, gM2_0, gM2_1] at gM9_1
  clear hEM9
  refine t_norm ?_
  refine at_ret rfl ?_
  refine t_ret ?_
  have hF : segGet l = none := by rw [hsg]; exact if_pos (by first | exact Or.inl hx | exact Or.inr (by rw [← hT hx]; simpa using h2))
  have hK := hK0 hF tup0 seg0 []
  refine bq_ret rfl (ars_cons (ar_cell e2 (by assumption) (ld71 _ _ _)) (ars_cons (ar_tmp e3) ars_nil)) ?_
  exact ⟨_, _, hK, Canon.forget rfl holdM9⟩
end Go.Proofs.Ytdkdkpiemigfkaa
set_option linter.unusedVariables false
set_option linter.unusedSimpArgs false
set_option maxRecDepth 8000
namespace Go.Proofs.Ytdkdkpiemigfkaa
open Go Go.Proofs
abbrev SG := Tup × Segh × List UInt8
def segsL (fs : List Fr) : List SG := fs.filterMap fun f => segGet f.data
def segsF (os : List Ou) : List SG := segsL (os.flatMap Ou.frames)
theorem segsL_app (a b : List Fr) : segsL (a ++ b) = segsL a ++ segsL b := List.filterMap_append
theorem segsL_one (f : Fr) : segsL [f] = (segGet f.data).toList := by
  unfold segsL; cases h : segGet f.data <;> simp [List.filterMap_cons, h]
theorem segs_at {os : List Ou} {i q : Nat} {o : Ou} {f : Fr} {r : SG} (hoi : os[i]? = some o) (hfq : o.frames[q]? = some f) (hr : segGet f.data = some r) : (segsF os)[(segsL ((os.take i).flatMap Ou.frames ++ o.frames.take q)).length]? = some r := by
  have hlt : i < os.length := (List.getElem?_eq_some_iff.1 hoi).1
  have hql : q < o.frames.length := (List.getElem?_eq_some_iff.1 hfq).1
  have e1 : os.flatMap Ou.frames = (os.take i).flatMap Ou.frames ++ (o.frames ++ (os.drop (i + 1)).flatMap Ou.frames) := by
    conv => lhs; rw [← List.take_append_drop i os]
    rw [List.flatMap_append, List.drop_eq_getElem_cons hlt, (List.getElem?_eq_some_iff.1 hoi).2, List.flatMap_cons]
  have e2 : o.frames = o.frames.take q ++ ([f] ++ o.frames.drop (q + 1)) := by
    conv => lhs; rw [← List.take_append_drop q o.frames]
    rw [List.drop_eq_getElem_cons hql, (List.getElem?_eq_some_iff.1 hfq).2]; rfl
  have e3 : os.flatMap Ou.frames = ((os.take i).flatMap Ou.frames ++ o.frames.take q) ++ ([f] ++ (o.frames.drop (q + 1) ++ (os.drop (i + 1)).flatMap Ou.frames)) := by
    rw [e1]; conv => lhs; rw [e2]
    simp only [List.append_assoc]
  unfold segsF
  rw [e3, segsL_app, List.getElem?_append_right (Nat.le_refl _), Nat.sub_self, segsL_app, segsL_one, hr]
  rfl
theorem ld36 (cs : List Value) (off : Nat) : aload Try.prog 36 cs off = cs[off]? := aload_one Try.underlying36 rfl rfl cs off
def sp39 : ASpec := fun args M K => ∃ (id c : Nat) (own : Bool) (lv : Value) (os : List Ou) (Mb : AMem) (I : Nat → AMem → Prop),
  args = [.func (.yield id) #[] #[], .pointer (some ⟨c, 0, none⟩)] ∧ OusR Mb lv os ∧ fewO os ∧ (∀ f ∈ os.flatMap Ou.frames, f.data.length ≤ 100000000) ∧ I 0 M ∧
  (∀ i M1, I i M1 → M.next ≤ M1.next ∧ Mb.next ≤ M1.next ∧ (∀ j, j < Mb.next → M1.get j = Mb.get j) ∧ M1.get c = .cells [lv] own) ∧
  (∀ i M1 M2, I i M1 → M1.next ≤ M2.next → (∀ j, j < M1.next → M2.get j = M1.get j) → I i M2) ∧
  (∀ i M1 t h b, (segsF os)[i]? = some (t, h, b) → I i M1 → YRound Try.prog id [.agg (sgC t h b).toArray] M1 fun res M2 => res = .ret (.bool true) ∧ M1.next ≤ M2.next ∧ I (i + 1) M2) ∧
  (∀ M1, I (segsF os).length M1 → K (.ret (.tuple #[])) M1)
noncomputable def S39 : FuncId → ASpec := tab [(40, sp40)]
theorem S39_40 : S39 40 = sp40 := rfl
theorem S39_ok : ∀ f, Sound Try.prog f (S39 f) := tab_sound _ (by simp [f40_ok])
set_option maxHeartbeats 1000000 in
theorem f39_ok : Sound Try.prog 39 sp39 := by
 refine Sound.of_awp (c := bodyOf Try.f39) Try.func39 rfl rfl rfl ?_
 rintro args M K ⟨id, c, own, lv, os, Mb, I, rfl, hos, ⟨hb1, hb2, hb3⟩, hdat, hI0, hIb, hIs, hIy, hK⟩
 refine ⟨Nat.le_of_ble_eq_true rfl, ?_⟩
 have hS := S39_ok
 have e0 : entry [.func (.yield id) #[] #[], .pointer (some ⟨c, 0, none⟩)] 0 = .func (.yield id) #[] #[] := rfl
 have e1 : entry [.func (.yield id) #[] #[], .pointer (some ⟨c, 0, none⟩)] 1 = .pointer (some ⟨c, 0, none⟩) := rfl
 have hb0 := (hIb 0 M hI0).2.2.1
 have hn0 := (hIb 0 M hI0).2.1
 have hc0 := (hIb 0 M hI0).2.2.2
 refine at_seq rfl ?_
 refine at_region hS rfl (by kernel_rfl) ?_
 refine s_op (a_load e1 (by simp (disch := first | (refine Zx ?_; simp only [Zn]; done) | ((try simp only [Zn]); omega)) only [Zg, hc0, ld36, List.getElem?_cons_zero, newPtr, e1] <;> rfl) (by simp only [hc0, ld36, List.getElem?_cons_zero, newPtr, AMem.next_alloc, e1] <;> rfl)) rfl ?_
 refine s_op (a_len (by simp (disch := omega) only [Zu, Nat.reduceEqDiff, ↓reduceIte, alen_str, hc0, List.getElem?_cons_zero, OusR.len hos, newPtr, AMem.next_alloc] <;> rfl)) rfl ?_
 refine s_op (a_mv (by simp only [ev_const] <;> rfl)) rfl ?_
 refine s_end (fun s' hs' => ?_)
 replace e0 := kp 0 hs' e0
 have e9 := congrFun hs' 9
 have e10 := congrFun hs' 10
 have e11 := congrFun hs' 11
 simp only [Zu, Nat.reduceEqDiff, ↓reduceIte, newPtr, AMem.next_alloc] at e9 e10 e11
 clear hs'
 try clear e1
 refine o_norm ?_
 refine t_norm ?_
 refine at_block rfl ?_
 refine at_loop rfl (fun km s ML ds => ∃ (i : Nat), s 0 = .func (.yield id) #[] #[] ∧ s 9 = lv ∧ s 10 = .int .i64 os.length ∧ s 11 = .int .i64 i ∧ i ≤ os.length ∧ I (segsL ((os.take i).flatMap Ou.frames)).length ML ∧ km = os.length - i ∧ Mb.next ≤ ML.next ∧ M.next ≤ ML.next ∧ (∀ j, j < Mb.next → ML.get j = Mb.get j) ∧ ds = []) (os.length - (0)) ⟨0, (by first | exact e0 | (rw [e0]; rfl) | (simpa using e0)), (by first | exact e9 | (rw [e9]; rfl) | (simpa using e9)), (by first | exact e10 | (rw [e10]; rfl) | (simpa using e10)), (by first | exact e11 | (rw [e11]; rfl) | (simpa using e11)), (by omega), hI0, rfl, hn0, by omega, hb0, rfl⟩ ?_
 clear e0 e9 e10 e11
 rintro km s M1 ds ⟨i, e0, e9, e10, e11, hi, hI, hk, hnxM1, hngM1, holdM1, rfl⟩
 refine at_seq rfl ?_
 refine at_region hS rfl (by kernel_rfl) ?_
 refine s_op (a_bin (by simp (disch := omega) only [Zu, Nat.reduceEqDiff, ↓reduceIte, Zd, reduceCtorEq, abin_lss, ne_eq, not_false_eq_true, e10, e11] <;> rfl)) rfl ?_
 refine s_end (fun s' hs' => ?_)
 replace e0 := kp 0 hs' e0
 replace e9 := kp 9 hs' e9
 replace e10 := kp 10 hs' e10
 replace e11 := kp 11 hs' e11
 have e12 := congrFun hs' 12
 simp only [Zu, Nat.reduceEqDiff, ↓reduceIte, newPtr, AMem.next_alloc] at e12
 clear hs'
 refine o_norm ?_
 refine t_norm ?_
 refine at_seq rfl ?_
 refine at_cond rfl rfl e12 (fun h1 => ?_) (fun h1 => ?_)
 ·
  try simp only [Zh] at h1
  refine at_skip rfl ?_
  refine t_norm ?_
  refine at_seq rfl ?_
  refine at_block rfl ?_
  refine at_seq rfl ?_
  have hil : i < os.length := by omega
  obtain ⟨o, hoi⟩ : ∃ o, os[i]? = some o := ⟨_, List.getElem?_eq_getElem hil⟩
  obtain ⟨zi, off, all, own2, fv, nv, hia, hid, hget, hl1, hl2, hl3, hfr, hnr⟩ := hos.at hoi .i64
  have hst := st31 (Row.oneCell hfr) (Row.oneCell hnr)
  have hfl := flatMap_le hoi Ou.frames
  have hgetM := (holdM1 zi hid).trans hget
  refine at_region hS rfl (by kernel_rfl) ?_
  refine s_op (a_ia (by simp (disch := omega) only [Zu, Nat.reduceEqDiff, ↓reduceIte, hia, hst, newPtr, AMem.next_alloc, e9, e11] <;> rfl)) rfl ?_
  refine s_op (a_load (by simp only [Zu, Nat.reduceEqDiff, ↓reduceIte, hgetM, hl3, hst, newPtr, AMem.next_alloc] <;> rfl) (by simp (disch := first | (refine Zx ?_; simp only [Zn]; done) | ((try simp only [Zn]); omega)) only [Zg, hgetM, hl3, hst, newPtr] <;> rfl) (by simp only [hgetM, hl3, hst, newPtr, AMem.next_alloc] <;> rfl)) rfl ?_
  refine s_op (a_alloc z31) rfl ?_
  refine s_op (a_store (by simp only [Zu, Nat.reduceEqDiff, ↓reduceIte, hgetM, hst, newPtr, AMem.next_alloc] <;> rfl) (by simp (disch := first | (refine Zx ?_; simp only [Zn]; done) | ((try simp only [Zn]); omega)) only [Zg, hgetM, hst, newPtr] <;> rfl) (by simp only [Zu, Nat.reduceEqDiff, ↓reduceIte, hgetM, hst, newPtr, AMem.next_alloc] <;> rfl) (by simp only [hgetM, hst, newPtr, AMem.next_alloc] <;> rfl)) rfl ?_
  refine s_end (fun s' hs' => ?_)
  replace e0 := kp 0 hs' e0
  have e4 := congrFun hs' 4
  replace e9 := kp 9 hs' e9
  replace e10 := kp 10 hs' e10
  replace e11 := kp 11 hs' e11
  simp only [Zu, Nat.reduceEqDiff, ↓reduceIte, newPtr, AMem.next_alloc] at e4
  clear hs'
  refine o_norm ?_
  refine q_mem (fun M2 hEM2 => ?_)
  have hnM2 := congrArg AMem.next hEM2; simp only [Zn, Nat.add_assoc, Nat.reduceAdd] at hnM2
  have hnxM2 : Mb.next ≤ M2.next := by have := hnxM1; omega
  have holdM2 : ∀ j, j < Mb.next → M2.get j = Mb.get j := fun j hj => by have := hnxM1; rw [hEM2]; simp (disch := first | (refine Zx ?_; simp only [Zn]; done) | ((try simp only [Zn]); omega)) only [Zg]; exact holdM1 j hj
  have hcM2 : ∀ j, j < M1.next → M2.get j = M1.get j := fun j hj => by rw [hEM2]; simp (disch := first | (refine Zx ?_; simp only [Zn]; done) | ((try simp only [Zn]); omega)) only [Zg]
  have gM2_0 := congrArg (fun m => AMem.get m M1.next) hEM2; try simp (disch := first | (refine Zx ?_; simp only [Zn]; done) | ((try simp only [Zn]); omega)) only [Zg, Nat.add_assoc, Nat.reduceAdd] at gM2_0
  clear hEM2
  have hI2 := hIs _ _ M2 hI (by omega) hcM2
  have hat := fun q f r => segs_at (q := q) (f := f) (r := r) hoi
  clear hI hget hia hgetM
  generalize hA : (os.take i).flatMap Ou.frames = A at *
  refine t_norm ?_
  refine at_seq rfl ?_
  refine at_region hS rfl (by kernel_rfl) ?_
  refine s_op (a_fa (by simp only [Zu, Nat.reduceEqDiff, ↓reduceIte, fa31_0, Nat.zero_add, List.getElem?_cons_zero, newPtr, AMem.next_alloc, e4] <;> rfl)) rfl ?_
  refine s_op (a_load (by simp only [Zu, Nat.reduceEqDiff, ↓reduceIte, ld27, List.getElem?_cons_zero, newPtr, AMem.next_alloc, gM2_0] <;> rfl) (by simp (disch := first | (refine Zx ?_; simp only [Zn]; done) | ((try simp only [Zn]); omega)) only [Zg, ld27, List.getElem?_cons_zero, newPtr, gM2_0] <;> rfl) (by simp only [ld27, List.getElem?_cons_zero, newPtr, AMem.next_alloc, gM2_0] <;> rfl)) rfl ?_
  refine s_op (a_len (by simp (disch := omega) only [Zu, Nat.reduceEqDiff, ↓reduceIte, alen_str, List.getElem?_cons_zero, FrsR.len hfr, newPtr, AMem.next_alloc, gM2_0] <;> rfl)) rfl ?_
  refine s_op (a_mv (by simp only [ev_const] <;> rfl)) rfl ?_
  refine s_end (fun s' hs' => ?_)
  replace e0 := kp 0 hs' e0
  replace e9 := kp 9 hs' e9
  replace e10 := kp 10 hs' e10
  replace e11 := kp 11 hs' e11
  have e16 := congrFun hs' 16
  have e17 := congrFun hs' 17
  have e18 := congrFun hs' 18
  simp only [Zu, Nat.reduceEqDiff, ↓reduceIte, newPtr, AMem.next_alloc] at e16 e17 e18
  clear hs'
  try clear e4
  refine o_norm ?_
  refine t_norm ?_
  refine at_block rfl ?_
  refine at_loop rfl (fun km s ML ds => ∃ (q : Nat), s 0 = .func (.yield id) #[] #[] ∧ s 9 = lv ∧ s 10 = .int .i64 os.length ∧ s 11 = .int .i64 i ∧ s 16 = fv ∧ s 17 = .int .i64 o.frames.length ∧ s 18 = .int .i64 q ∧ q ≤ o.frames.length ∧ I (segsL (A ++ o.frames.take q)).length ML ∧ km = o.frames.length - q ∧ Mb.next ≤ ML.next ∧ M2.next ≤ ML.next ∧ (∀ j, j < Mb.next → ML.get j = Mb.get j) ∧ ds = []) (o.frames.length - (0)) ⟨0, (by first | exact e0 | (rw [e0]; rfl) | (simpa using e0)), (by first | exact e9 | (rw [e9]; rfl) | (simpa using e9)), (by first | exact e10 | (rw [e10]; rfl) | (simpa using e10)), (by first | exact e11 | (rw [e11]; rfl) | (simpa using e11)), (by first | exact e16 | (rw [e16]; rfl) | (simpa using e16)), (by first | exact e17 | (rw [e17]; rfl) | (simpa using e17)), (by first | exact e18 | (rw [e18]; rfl) | (simpa using e18)), (by omega), (by simpa using hI2), rfl, hnxM2, by omega, holdM2, rfl⟩ ?_
  clear e0 e9 e10 e11 e16 e17 e18
  rintro km s M3 ds ⟨q, e0, e9, e10, e11, e16, e17, e18, hq, hI, hk, hnxM3, hngM3, holdM3, rfl⟩
  refine at_seq rfl ?_
  refine at_region hS rfl (by kernel_rfl) ?_
  refine s_op (a_bin (by simp (disch := omega) only [Zu, Nat.reduceEqDiff, ↓reduceIte, Zd, reduceCtorEq, abin_lss, ne_eq, not_false_eq_true, e17, e18] <;> rfl)) rfl ?_
  refine s_end (fun s' hs' => ?_)
  replace e0 := kp 0 hs' e0
  replace e9 := kp 9 hs' e9
  replace e10 := kp 10 hs' e10
  replace e11 := kp 11 hs' e11
  replace e16 := kp 16 hs' e16
  replace e17 := kp 17 hs' e17
  replace e18 := kp 18 hs' e18
  have e19 := congrFun hs' 19
  simp only [Zu, Nat.reduceEqDiff, ↓reduceIte, newPtr, AMem.next_alloc] at e19
  clear hs'
  refine o_norm ?_
  refine t_norm ?_
  refine at_seq rfl ?_
  refine at_cond rfl rfl e19 (fun h4 => ?_) (fun h4 => ?_)
  ·
   try simp only [Zh] at h4
   refine at_skip rfl ?_
   refine t_norm ?_
   refine at_seq rfl ?_
   refine at_block rfl ?_
   refine at_seq rfl ?_
   have hql : q < o.frames.length := by omega
   obtain ⟨f, hfq⟩ : ∃ f, o.frames[q]? = some f := ⟨_, List.getElem?_eq_getElem hql⟩
   have hfd : f.data.length ≤ 100000000 := hdat f (by rw [List.mem_flatMap]; exact ⟨o, List.mem_of_getElem? hoi, List.mem_of_getElem? hfq⟩)
   obtain ⟨zi2, off2, all2, own3, hia, hid2, hget, hl1, hl2, hl3⟩ := hfr.at hfq .i64
   have hgetM := (holdM3 zi2 hid2).trans hget
   have hst2 := st34 ⟨0, []⟩ f
   refine at_region hS rfl (by kernel_rfl) ?_
   refine s_op (a_ia (by simp (disch := omega) only [Zu, Nat.reduceEqDiff, ↓reduceIte, hia, hst2, newPtr, AMem.next_alloc, e16, e18] <;> rfl)) rfl ?_
   refine s_op (a_load (by simp only [Zu, Nat.reduceEqDiff, ↓reduceIte, hgetM, hl3, hst2, newPtr, AMem.next_alloc] <;> rfl) (by simp (disch := first | (refine Zx ?_; simp only [Zn]; done) | ((try simp only [Zn]); omega)) only [Zg, hgetM, hl3, hst2, newPtr] <;> rfl) (by simp only [hgetM, hl3, hst2, newPtr, AMem.next_alloc] <;> rfl)) rfl ?_
   refine s_op (a_alloc z34) rfl ?_
   refine s_op (a_store (by simp only [Zu, Nat.reduceEqDiff, ↓reduceIte, hgetM, hst2, newPtr, AMem.next_alloc] <;> rfl) (by simp (disch := first | (refine Zx ?_; simp only [Zn]; done) | ((try simp only [Zn]); omega)) only [Zg, hgetM, hst2, newPtr] <;> rfl) (by simp only [Zu, Nat.reduceEqDiff, ↓reduceIte, hgetM, hst2, newPtr, AMem.next_alloc] <;> rfl) (by simp only [hgetM, hst2, newPtr, AMem.next_alloc] <;> rfl)) rfl ?_
   refine s_end (fun s' hs' => ?_)
   replace e0 := kp 0 hs' e0
   have e6 := congrFun hs' 6
   replace e9 := kp 9 hs' e9
   replace e10 := kp 10 hs' e10
   replace e11 := kp 11 hs' e11
   replace e16 := kp 16 hs' e16
   replace e17 := kp 17 hs' e17
   replace e18 := kp 18 hs' e18
   simp only [Zu, Nat.reduceEqDiff, ↓reduceIte, newPtr, AMem.next_alloc] at e6
   clear hs'
   refine o_norm ?_
   refine q_mem (fun M4 hEM4 => ?_)
   have hnM4 := congrArg AMem.next hEM4; simp only [Zn, Nat.add_assoc, Nat.reduceAdd] at hnM4
   have hnxM4 : Mb.next ≤ M4.next := by have := hnxM3; omega
   have holdM4 : ∀ j, j < Mb.next → M4.get j = Mb.get j := fun j hj => by have := hnxM3; rw [hEM4]; simp (disch := first | (refine Zx ?_; simp only [Zn]; done) | ((try simp only [Zn]); omega)) only [Zg]; exact holdM3 j hj
   have hcM4 : ∀ j, j < M3.next → M4.get j = M3.get j := fun j hj => by rw [hEM4]; simp (disch := first | (refine Zx ?_; simp only [Zn]; done) | ((try simp only [Zn]); omega)) only [Zg]
   have gM4_0 := congrArg (fun m => AMem.get m M3.next) hEM4; try simp (disch := first | (refine Zx ?_; simp only [Zn]; done) | ((try simp only [Zn]); omega)) only [Zg, Nat.add_assoc, Nat.reduceAdd] at gM4_0
   clear hEM4
   have hI5 := hIs _ _ M4 hI (by omega) hcM4
   clear hI hget hgetM hia
   refine t_norm ?_
   refine at_seq rfl ?_
   by_cases hsr : ∃ r, segGet f.data = some r
   ·
    refine at_region hS rfl (by kernel_rfl) ?_
    refine s_op (a_fa (by simp only [Zu, Nat.reduceEqDiff, ↓reduceIte, fa34_1, Nat.zero_add, fcells1, st71, newPtr, AMem.next_alloc, e6] <;> rfl)) rfl ?_
    refine s_op (a_load (by simp only [Zu, Nat.reduceEqDiff, ↓reduceIte, ld9, fcells1, Nat.zero_add, st71, newPtr, AMem.next_alloc, gM4_0] <;> rfl) (by simp (disch := first | (refine Zx ?_; simp only [Zn]; done) | ((try simp only [Zn]); omega)) only [Zg, ld9, fcells1, Nat.zero_add, st71, newPtr, gM4_0] <;> rfl) (by simp only [ld9, Zl, fcells1, Nat.zero_add, st71, newPtr, AMem.next_alloc, gM4_0] <;> rfl)) rfl ?_
    refine s_call (by simp only [Zu, Nat.reduceEqDiff, ↓reduceIte, fcells1, Nat.zero_add, st71, newPtr, AMem.next_alloc, gM4_0] <;> rfl) (by simp only [Zu, Nat.reduceEqDiff, ↓reduceIte, Zm, fcells1, Nat.zero_add, st71, newPtr, AMem.next_alloc, gM4_0] <;> rfl) ?_
    rw [S39_40]; refine ⟨_, rfl, hfd, fun t h b he => ?_, fun hn => absurd hn (by obtain ⟨r, hr⟩ := hsr; rw [hr]; simp)⟩
    show EA _ _ _ _ _ _
    refine s_mv ?_
    refine s_op (a_ext (by simp only [Zu, Nat.reduceEqDiff, ↓reduceIte, fcells1, Nat.zero_add, st71, newPtr, AMem.next_alloc] <;> rfl) (by first | exact ext4_0 | exact ext3_0 | exact ext2_0 | rfl)) rfl ?_
    refine s_op (a_ext (by simp only [Zu, Nat.reduceEqDiff, ↓reduceIte, fcells1, Nat.zero_add, st71, newPtr, AMem.next_alloc] <;> rfl) (by first | exact ext4_1 | exact ext3_1 | exact ext2_1 | rfl)) rfl ?_
    refine s_op (a_alloc z71) rfl ?_
    refine s_op (a_store (by simp only [Zu, Nat.reduceEqDiff, ↓reduceIte, fcells1, Nat.zero_add, st71, newPtr, AMem.next_alloc, gM4_0] <;> rfl) (by simp (disch := first | (refine Zx ?_; simp only [Zn]; done) | ((try simp only [Zn]); omega)) only [Zg, fcells1, Nat.zero_add, st71, newPtr, gM4_0] <;> rfl) (by simp only [Zu, Nat.reduceEqDiff, ↓reduceIte, fcells1, Nat.zero_add, st71, newPtr, AMem.next_alloc, gM4_0] <;> rfl) (by simp only [fcells1, Nat.zero_add, st71, newPtr, AMem.next_alloc, gM4_0] <;> rfl)) rfl ?_
    refine s_as ?_
    refine s_end (fun s' hs' => ?_)
    replace e0 := kp 0 hs' e0
    have e7 := congrFun hs' 7
    have e8 := congrFun hs' 8
    replace e9 := kp 9 hs' e9
    replace e10 := kp 10 hs' e10
    replace e11 := kp 11 hs' e11
    replace e16 := kp 16 hs' e16
    replace e17 := kp 17 hs' e17
    replace e18 := kp 18 hs' e18
    simp only [Zu, Nat.reduceEqDiff, ↓reduceIte, newPtr, AMem.next_alloc] at e7 e8
    clear hs'
    try clear e6
    refine o_norm ?_
    refine q_mem (fun M5 hEM5 => ?_)
    have hnM5 := congrArg AMem.next hEM5; simp only [Zn, Nat.add_assoc, Nat.reduceAdd] at hnM5
    have hnxM5 : Mb.next ≤ M5.next := by have := hnxM4; omega
    have holdM5 : ∀ j, j < Mb.next → M5.get j = Mb.get j := fun j hj => by have := hnxM4; rw [hEM5]; simp (disch := first | (refine Zx ?_; simp only [Zn]; done) | ((try simp only [Zn]); omega)) only [Zg]; exact holdM4 j hj
    have hcM5 : ∀ j, j < M4.next → M5.get j = M4.get j := fun j hj => by rw [hEM5]; simp (disch := first | (refine Zx ?_; simp only [Zn]; done) | ((try simp only [Zn]); omega)) only [Zg]
    have gM5_0 := congrArg (fun m => AMem.get m M3.next) hEM5; try simp (disch := first | (refine Zx ?_; simp only [Zn]; done) | ((try simp only [Zn]); omega)) only [Zg, Nat.add_assoc, Nat.reduceAdd, gM4_0] at gM5_0
    have gM5_1 := congrArg (fun m => AMem.get m M4.next) hEM5; try simp (disch := first | (refine Zx ?_; simp only [Zn]; done) | ((try simp only [Zn]); omega)) only [Zg, Nat.add_assoc, Nat.reduceAdd, gM4_0] at gM5_1
    clear hEM5
    have hI6 := hIs _ _ M5 hI5 (by omega) hcM5
    refine t_norm ?_
    refine at_seq rfl ?_
    refine at_region hS rfl (by kernel_rfl) ?_
    refine s_op (a_mv e8) rfl ?_
    refine s_mv ?_
    refine s_tk ?_
    refine s_op (a_mv e0) rfl ?_
    refine s_tk ?_
    refine s_op (a_load e7 (by simp (disch := first | (refine Zx ?_; simp only [Zn]; done) | ((try simp only [Zn]); omega)) only [Zg, ld71, newPtr, gM5_0, gM5_1, e7] <;> rfl) (by simp only [ld71, newPtr, AMem.next_alloc, gM5_0, gM5_1, e7] <;> rfl)) rfl ?_
    refine s_take (w_true (by simp only [Zu, Nat.reduceEqDiff, ↓reduceIte, e8] <;> rfl) rfl) ?_
    refine s_yield (by simp only [Zu, Nat.reduceEqDiff, ↓reduceIte, e0] <;> rfl) (by simp only [Zu, Nat.reduceEqDiff, ↓reduceIte, Zm] <;> rfl) ?_
    refine YRound.mono (hIy _ _ t h b (hat q f (t, h, b) hfq he) hI6) ?_
    rintro res M7 ⟨rfl, hng0, hI7⟩
    show EA _ _ _ _ _ _
    refine s_tk ?_
    refine s_op (a_un (by simp (disch := omega) only [Zu, Nat.reduceEqDiff, ↓reduceIte, Zd, reduceCtorEq, aun, wrap_i64, IntKind.signed] <;> rfl)) rfl ?_
    refine s_op (a_pick (by simp only [Zu, Nat.reduceEqDiff, ↓reduceIte, Zd, reduceCtorEq] <;> rfl) (by simp only [Zu, Nat.reduceEqDiff, ↓reduceIte, Zd, reduceCtorEq] <;> rfl)) rfl ?_
    refine s_end (fun s' hs' => ?_)
    replace e0 := kp 0 hs' e0
    replace e9 := kp 9 hs' e9
    replace e10 := kp 10 hs' e10
    replace e11 := kp 11 hs' e11
    replace e16 := kp 16 hs' e16
    replace e17 := kp 17 hs' e17
    replace e18 := kp 18 hs' e18
    have e34 := congrFun hs' 34
    simp only [Zu, Nat.reduceEqDiff, ↓reduceIte, newPtr, AMem.next_alloc] at e34
    clear hs'
    try clear e7 e8
    refine o_norm ?_
    obtain ⟨hm7, hn7, hb7, hc7⟩ := hIb _ _ hI7
    have hng7 : M1.next ≤ M7.next := by omega
    have hI7 : I (segsL (A ++ o.frames.take q) ++ (segGet f.data).toList).length M7 := by rw [he, List.length_append]; exact hI7
    refine t_norm ?_
    refine at_cond rfl rfl e34 (fun hc => by cases hc) (fun h7 => ?_)
    try simp only [Zh] at h7
    refine at_skip rfl ?_
    refine b_norm ?_
    refine t_norm ?_
    refine at_region hS rfl (by kernel_rfl) ?_
    refine s_op (a_bin (by simp (disch := ((try simp only [List.length_append, List.length_cons, List.length_nil]); omega)) only [Zu, Nat.reduceEqDiff, ↓reduceIte, Zd, reduceCtorEq, abin_add, abin_aadd, wrap_i64, wrap_u32, wrap_u8, wrap_u64, wrap_i32, wrap_u16, ne_eq, not_false_eq_true, e18] <;> rfl)) rfl ?_
    refine s_mv ?_
    refine s_end (fun s' hs' => ?_)
    replace e0 := kp 0 hs' e0
    replace e9 := kp 9 hs' e9
    replace e10 := kp 10 hs' e10
    replace e11 := kp 11 hs' e11
    replace e16 := kp 16 hs' e16
    replace e17 := kp 17 hs' e17
    replace e18 := congrFun hs' 18
    simp only [Zu, Nat.reduceEqDiff, ↓reduceIte, newPtr, AMem.next_alloc] at e18
    clear hs'
    refine o_norm ?_
    refine t_norm ?_
    exact ⟨o.frames.length - (q + 1), by omega, q + 1, (by first | exact e0 | (rw [e0]; rfl) | (rw [e0]; simp; done)), (by first | exact e9 | (rw [e9]; rfl) | (rw [e9]; simp; done)), (by first | exact e10 | (rw [e10]; rfl) | (rw [e10]; simp; done)), (by first | exact e11 | (rw [e11]; rfl) | (rw [e11]; simp; done)), (by first | exact e16 | (rw [e16]; rfl) | (rw [e16]; simp; done)), (by first | exact e17 | (rw [e17]; rfl) | (rw [e17]; simp; done)), (by first | exact e18 | (rw [e18]; rfl) | (rw [e18]; simp; done)), (by omega), (by rw [take_snocO hfq, ← List.append_assoc, segsL_app, segsL_one]; exact hI7), rfl, hn7, by omega, hb7, rfl⟩
   ·
    refine at_region hS rfl (by kernel_rfl) ?_
    refine s_op (a_fa (by simp only [Zu, Nat.reduceEqDiff, ↓reduceIte, fa34_1, Nat.zero_add, fcells1, st71, newPtr, AMem.next_alloc, e6] <;> rfl)) rfl ?_
    refine s_op (a_load (by simp only [Zu, Nat.reduceEqDiff, ↓reduceIte, ld9, fcells1, Nat.zero_add, st71, newPtr, AMem.next_alloc, gM4_0] <;> rfl) (by simp (disch := first | (refine Zx ?_; simp only [Zn]; done) | ((try simp only [Zn]); omega)) only [Zg, ld9, fcells1, Nat.zero_add, st71, newPtr, gM4_0] <;> rfl) (by simp only [ld9, Zl, fcells1, Nat.zero_add, st71, newPtr, AMem.next_alloc, gM4_0] <;> rfl)) rfl ?_
    refine s_call (by simp only [Zu, Nat.reduceEqDiff, ↓reduceIte, fcells1, Nat.zero_add, st71, newPtr, AMem.next_alloc, gM4_0] <;> rfl) (by simp only [Zu, Nat.reduceEqDiff, ↓reduceIte, Zm, fcells1, Nat.zero_add, st71, newPtr, AMem.next_alloc, gM4_0] <;> rfl) ?_
    rw [S39_40]; refine ⟨_, rfl, hfd, fun t h b he => absurd ⟨_, he⟩ hsr, fun hn t h b => ?_⟩
    show EA _ _ _ _ _ _
    refine s_mv ?_
    refine s_op (a_ext (by simp only [Zu, Nat.reduceEqDiff, ↓reduceIte, fcells1, Nat.zero_add, st71, newPtr, AMem.next_alloc] <;> rfl) (by first | exact ext4_0 | exact ext3_0 | exact ext2_0 | rfl)) rfl ?_
    refine s_op (a_ext (by simp only [Zu, Nat.reduceEqDiff, ↓reduceIte, fcells1, Nat.zero_add, st71, newPtr, AMem.next_alloc] <;> rfl) (by first | exact ext4_1 | exact ext3_1 | exact ext2_1 | rfl)) rfl ?_
    refine s_op (a_alloc z71) rfl ?_
    refine s_op (a_store (by simp only [Zu, Nat.reduceEqDiff, ↓reduceIte, fcells1, Nat.zero_add, st71, newPtr, AMem.next_alloc, gM4_0] <;> rfl) (by simp (disch := first | (refine Zx ?_; simp only [Zn]; done) | ((try simp only [Zn]); omega)) only [Zg, fcells1, Nat.zero_add, st71, newPtr, gM4_0] <;> rfl) (by simp only [Zu, Nat.reduceEqDiff, ↓reduceIte, fcells1, Nat.zero_add, st71, newPtr, AMem.next_alloc, gM4_0] <;> rfl) (by simp only [fcells1, Nat.zero_add, st71, newPtr, AMem.next_alloc, gM4_0] <;> rfl)) rfl ?_
    refine s_as ?_
    refine s_end (fun s' hs' => ?_)
    replace e0 := kp 0 hs' e0
    have e7 := congrFun hs' 7
    have e8 := congrFun hs' 8
    replace e9 := kp 9 hs' e9
    replace e10 := kp 10 hs' e10
    replace e11 := kp 11 hs' e11
    replace e16 := kp 16 hs' e16
    replace e17 := kp 17 hs' e17
    replace e18 := kp 18 hs' e18
    simp only [Zu, Nat.reduceEqDiff, ↓reduceIte, newPtr, AMem.next_alloc] at e7 e8
    clear hs'
    try clear e6
    refine o_norm ?_
    refine q_mem (fun M6 hEM6 => ?_)
    have hnM6 := congrArg AMem.next hEM6; simp only [Zn, Nat.add_assoc, Nat.reduceAdd] at hnM6
    have hnxM6 : Mb.next ≤ M6.next := by have := hnxM4; omega
    have holdM6 : ∀ j, j < Mb.next → M6.get j = Mb.get j := fun j hj => by have := hnxM4; rw [hEM6]; simp (disch := first | (refine Zx ?_; simp only [Zn]; done) | ((try simp only [Zn]); omega)) only [Zg]; exact holdM4 j hj
    have hcM6 : ∀ j, j < M4.next → M6.get j = M4.get j := fun j hj => by rw [hEM6]; simp (disch := first | (refine Zx ?_; simp only [Zn]; done) | ((try simp only [Zn]); omega)) only [Zg]
    have gM6_0 := congrArg (fun m => AMem.get m M3.next) hEM6; try simp (disch := first | (refine Zx ?_; simp only [Zn]; done) | ((try simp only [Zn]); omega)) only [Zg, Nat.add_assoc, Nat.reduceAdd, gM4_0] at gM6_0
    have gM6_1 := congrArg (fun m => AMem.get m M4.next) hEM6; try simp (disch := first | (refine Zx ?_; simp only [Zn]; done) | ((try simp only [Zn]); omega)) only [Zg, Nat.add_assoc, Nat.reduceAdd, gM4_0] at gM6_1
    clear hEM6
    have hI6 := hIs _ _ M6 hI5 (by omega) hcM6
    refine t_norm ?_
    refine at_seq rfl ?_
    refine at_region hS rfl (by kernel_rfl) ?_
    refine s_op (a_mv e8) rfl ?_
    refine s_mv ?_
    refine s_lv ?_
    refine s_lv ?_
    refine s_lv ?_
    refine s_lv ?_
    refine s_op (a_pick (by simp only [Zu, Nat.reduceEqDiff, ↓reduceIte, Zd, reduceCtorEq] <;> rfl) (by simp only [Zu, Nat.reduceEqDiff, ↓reduceIte, Zd, reduceCtorEq] <;> rfl)) rfl ?_
    refine s_end (fun s' hs' => ?_)
    replace e0 := kp 0 hs' e0
    replace e9 := kp 9 hs' e9
    replace e10 := kp 10 hs' e10
    replace e11 := kp 11 hs' e11
    replace e16 := kp 16 hs' e16
    replace e17 := kp 17 hs' e17
    replace e18 := kp 18 hs' e18
    have e34 := congrFun hs' 34
    simp only [Zu, Nat.reduceEqDiff, ↓reduceIte, newPtr, AMem.next_alloc] at e34
    clear hs'
    try clear e7 e8
    refine o_norm ?_
    have hI7 : I (segsL (A ++ o.frames.take q) ++ (segGet f.data).toList).length M6 := by rw [hn]; simpa using hI6
    refine t_norm ?_
    refine at_cond rfl rfl e34 (fun hc => by cases hc) (fun h7 => ?_)
    try simp only [Zh] at h7
    refine at_skip rfl ?_
    refine b_norm ?_
    refine t_norm ?_
    refine at_region hS rfl (by kernel_rfl) ?_
    refine s_op (a_bin (by simp (disch := ((try simp only [List.length_append, List.length_cons, List.length_nil]); omega)) only [Zu, Nat.reduceEqDiff, ↓reduceIte, Zd, reduceCtorEq, abin_add, abin_aadd, wrap_i64, wrap_u32, wrap_u8, wrap_u64, wrap_i32, wrap_u16, ne_eq, not_false_eq_true, e18] <;> rfl)) rfl ?_
    refine s_mv ?_
    refine s_end (fun s' hs' => ?_)
    replace e0 := kp 0 hs' e0
    replace e9 := kp 9 hs' e9
    replace e10 := kp 10 hs' e10
    replace e11 := kp 11 hs' e11
    replace e16 := kp 16 hs' e16
    replace e17 := kp 17 hs' e17
    replace e18 := congrFun hs' 18
    simp only [Zu, Nat.reduceEqDiff, ↓reduceIte, newPtr, AMem.next_alloc] at e18
    clear hs'
    refine o_norm ?_
    refine t_norm ?_
    exact ⟨o.frames.length - (q + 1), by omega, q + 1, (by first | exact e0 | (rw [e0]; rfl) | (rw [e0]; simp; done)), (by first | exact e9 | (rw [e9]; rfl) | (rw [e9]; simp; done)), (by first | exact e10 | (rw [e10]; rfl) | (rw [e10]; simp; done)), (by first | exact e11 | (rw [e11]; rfl) | (rw [e11]; simp; done)), (by first | exact e16 | (rw [e16]; rfl) | (rw [e16]; simp; done)), (by first | exact e17 | (rw [e17]; rfl) | (rw [e17]; simp; done)), (by first | exact e18 | (rw [e18]; rfl) | (rw [e18]; simp; done)), (by omega), (by rw [take_snocO hfq, ← List.append_assoc, segsL_app, segsL_one]; exact hI7), rfl, hnxM6, by omega, holdM6, rfl⟩
  ·
   try simp only [Zh] at h4
   have hqe : q = o.frames.length := by omega
   refine at_exit rfl ?_
   refine t_exit ?_
   refine t_exit ?_
   refine b_here ?_
   refine b_norm ?_
   refine t_norm ?_
   refine at_region hS rfl (by kernel_rfl) ?_
   refine s_op (a_bin (by simp (disch := ((try simp only [List.length_append, List.length_cons, List.length_nil]); omega)) only [Zu, Nat.reduceEqDiff, ↓reduceIte, Zd, reduceCtorEq, abin_add, abin_aadd, wrap_i64, wrap_u32, wrap_u8, wrap_u64, wrap_i32, wrap_u16, ne_eq, not_false_eq_true, e11] <;> rfl)) rfl ?_
   refine s_mv ?_
   refine s_end (fun s' hs' => ?_)
   replace e0 := kp 0 hs' e0
   replace e9 := kp 9 hs' e9
   replace e10 := kp 10 hs' e10
   replace e11 := congrFun hs' 11
   simp only [Zu, Nat.reduceEqDiff, ↓reduceIte, newPtr, AMem.next_alloc] at e11
   clear hs'
   refine o_norm ?_
   refine t_norm ?_
   exact ⟨os.length - (i + 1), by omega, i + 1, (by first | exact e0 | (rw [e0]; rfl) | (rw [e0]; simp; done)), (by first | exact e9 | (rw [e9]; rfl) | (rw [e9]; simp; done)), (by first | exact e10 | (rw [e10]; rfl) | (rw [e10]; simp; done)), (by first | exact e11 | (rw [e11]; rfl) | (rw [e11]; simp; done)), (by omega), (by rw [flatMap_snoc hoi, hA]; rw [hqe, List.take_length] at hI; exact hI), rfl, hnxM3, by omega, holdM3, rfl⟩
 ·
  try simp only [Zh] at h1
  have hie : i = os.length := by omega
  refine at_exit rfl ?_
  refine t_exit ?_
  refine t_exit ?_
  refine b_here ?_
  refine bq_norm rfl ars_nil ?_
  exact ⟨_, _, hK _ (by rw [hie, List.take_length] at hI; exact hI), Canon.refl (by have := (hIb _ _ hI).1; exact this)⟩
end Go.Proofs.Ytdkdkpiemigfkaa
set_option linter.unusedVariables false
set_option maxRecDepth 8000
namespace Go.Proofs.Ytdkdkpiemigfkaa
open Go Go.Proofs Go.RowKit Go.Maps Go.Sort Go.Shelf
def keys33_ren : Go.Shelf.Ren := ⟨fun | 7 => 33 | 10 => 45 | n => n, fun | 23 => 75 | 26 => 3 | 3 => 4 | 28 => 78 | 0 => 0 | 27 => 77 | 33 => 92 | 4 => 4 | n => n, fun | n => n⟩
theorem keys33 : Go.Proofs.SlLaysZI.n7 Try.prog keys33_ren where
  mixed := by kernel_rfl
  f7 := ⟨"maps.Keys[map[int]bool,int,bool]", by decide, Try.func33.trans (congrArg some (by kernel_rfl))⟩
  f10 := ⟨"maps.Keys[map[int]bool,int,bool]$1", by decide, Try.func45.trans (congrArg some (by kernel_rfl))⟩
  t0 := Try.underlying0
  a0 := Try.isAgg0
  z0 := Try.sizeOf0
  v0 := Try.zeroValue0
  t4 := Try.underlying4
  a4 := Try.isAgg4
  z4 := Try.sizeOf4
  v4 := Try.zeroValue4
  t23 := Try.underlying75
  a23 := Try.isAgg75
  z23 := Try.sizeOf75
  v23 := Try.zeroValue75
  t26 := Try.underlying3
  a26 := Try.isAgg3
  z26 := Try.sizeOf3
  v26 := Try.zeroValue3
  t27 := Try.underlying77
  a27 := Try.isAgg77
  z27 := Try.sizeOf77
  v27 := Try.zeroValue77
  t28 := Try.underlying78
  a28 := Try.isAgg78
  z28 := Try.sizeOf78
  v28 := Try.zeroValue78
  t33 := Try.underlying92
  a33 := Try.isAgg92
  z33 := Try.sizeOf92
  v33 := Try.zeroValue92
def sorted32_ren : Go.Shelf.Ren := ⟨fun | 6 => 32 | 8 => 43 | 9 => 44 | 11 => 62 | 13 => 64 | 12 => 63 | 23 => 84 | 24 => 85 | 14 => 75 | 15 => 76 | 16 => 77 | 17 => 78 | 18 => 79 | 19 => 80 | 20 => 81 | 21 => 82 | 22 => 83 | 25 => 97 | 26 => 98 | 27 => 99 | 28 => 100 | 29 => 101 | 30 => 102 | 31 => 105 | n => n, fun | 26 => 3 | 28 => 78 | 24 => 22 | 0 => 0 | 3 => 3 | 37 => 110 | 48 => 23 | 50 => 134 | 4 => 4 | 40 => 125 | 39 => 124 | 45 => 130 | 5 => 5 | 9 => 9 | 51 => 137 | 55 => 141 | 57 => 144 | 58 => 145 | 33 => 92 | n => n, fun | n => n⟩
theorem sorted32 : Go.Proofs.SlLaysZI.n6 Try.prog sorted32_ren where
  mixed := by kernel_rfl
  f6 := ⟨"slices.Sorted[int]", by decide, Try.func32.trans (congrArg some (by kernel_rfl))⟩
  f8 := ⟨"slices.Collect[int]", by decide, Try.func43.trans (congrArg some (by kernel_rfl))⟩
  f11 := ⟨"slices.AppendSeq[[]int,int]", by decide, Try.func62.trans (congrArg some (by kernel_rfl))⟩
  t0 := Try.underlying0
  a0 := Try.isAgg0
  z0 := Try.sizeOf0
  v0 := Try.zeroValue0
  t24 := Try.underlying22
  a24 := Try.isAgg22
  z24 := Try.sizeOf22
  v24 := Try.zeroValue22
  t26 := Try.underlying3
  a26 := Try.isAgg3
  z26 := Try.sizeOf3
  v26 := Try.zeroValue3
  t28 := Try.underlying78
  a28 := Try.isAgg78
  z28 := Try.sizeOf78
  v28 := Try.zeroValue78
  i26 := by kernel_rfl
def sort44_ren : Go.Shelf.Ren := ⟨fun | 5 => 44 | 8 => 64 | 7 => 63 | 19 => 84 | 20 => 85 | 10 => 75 | 11 => 76 | 12 => 77 | 13 => 78 | 14 => 79 | 15 => 80 | 16 => 81 | 17 => 82 | 18 => 83 | 30 => 97 | 31 => 98 | 32 => 99 | 33 => 100 | 34 => 101 | 35 => 102 | 40 => 105 | n => n, fun | 23 => 22 | 25 => 3 | 3 => 3 | 32 => 110 | 22 => 22 | 0 => 0 | 44 => 23 | 46 => 134 | 4 => 4 | 36 => 125 | 35 => 124 | 41 => 130 | 5 => 5 | 9 => 9 | 53 => 137 | 57 => 141 | 63 => 144 | 64 => 145 | n => n, fun | n => n⟩
theorem sort44 : Go.Proofs.SlLaysM.n5 Try.prog sort44_ren where
  mixed := by kernel_rfl
  f5 := ⟨"slices.Sort[[]int,int]", by decide, Try.func44.trans (congrArg some (by kernel_rfl))⟩
  f7 := ⟨"slices.pdqsortOrdered[int]", by decide, Try.func63.trans (congrArg some (by kernel_rfl))⟩
  f8 := Try.func64.trans (congrArg some (by kernel_rfl))
  f10 := ⟨"slices.insertionSortOrdered[int]", by decide, Try.func75.trans (congrArg some (by kernel_rfl))⟩
  f11 := ⟨"slices.heapSortOrdered[int]", by decide, Try.func76.trans (congrArg some (by kernel_rfl))⟩
  f12 := ⟨"slices.breakPatternsOrdered[int]", by decide, Try.func77.trans (congrArg some (by kernel_rfl))⟩
  f13 := ⟨"slices.choosePivotOrdered[int]", by decide, Try.func78.trans (congrArg some (by kernel_rfl))⟩
  f14 := ⟨"slices.reverseRangeOrdered[int]", by decide, Try.func79.trans (congrArg some (by kernel_rfl))⟩
  f15 := ⟨"slices.partialInsertionSortOrdered[int]", by decide, Try.func80.trans (congrArg some (by kernel_rfl))⟩
  f16 := ⟨"cmp.Less[int]", by decide, Try.func81.trans (congrArg some (by kernel_rfl))⟩
  f17 := ⟨"slices.partitionEqualOrdered[int]", by decide, Try.func82.trans (congrArg some (by kernel_rfl))⟩
  f18 := ⟨"slices.partitionOrdered[int]", by decide, Try.func83.trans (congrArg some (by kernel_rfl))⟩
  f19 := Try.func84.trans (congrArg some (by kernel_rfl))
  f20 := Try.func85.trans (congrArg some (by kernel_rfl))
  f30 := ⟨"slices.siftDownOrdered[int]", by decide, Try.func97.trans (congrArg some (by kernel_rfl))⟩
  f31 := Try.func98.trans (congrArg some (by kernel_rfl))
  f32 := Try.func99.trans (congrArg some (by kernel_rfl))
  f33 := ⟨"slices.medianAdjacentOrdered[int]", by decide, Try.func100.trans (congrArg some (by kernel_rfl))⟩
  f34 := ⟨"slices.medianOrdered[int]", by decide, Try.func101.trans (congrArg some (by kernel_rfl))⟩
  f35 := ⟨"cmp.isNaN[int]", by decide, Try.func102.trans (congrArg some (by kernel_rfl))⟩
  f40 := ⟨"slices.order2Ordered[int]", by decide, Try.func105.trans (congrArg some (by kernel_rfl))⟩
  t0 := Try.underlying0
  a0 := Try.isAgg0
  z0 := Try.sizeOf0
  v0 := Try.zeroValue0
  t3 := Try.underlying3
  a3 := Try.isAgg3
  z3 := Try.sizeOf3
  v3 := Try.zeroValue3
  t4 := Try.underlying4
  a4 := Try.isAgg4
  z4 := Try.sizeOf4
  v4 := Try.zeroValue4
  t5 := Try.underlying5
  a5 := Try.isAgg5
  z5 := Try.sizeOf5
  v5 := Try.zeroValue5
  t9 := Try.underlying9
  a9 := Try.isAgg9
  z9 := Try.sizeOf9
  v9 := Try.zeroValue9
  t22 := Try.underlying22
  a22 := Try.isAgg22
  z22 := Try.sizeOf22
  v22 := Try.zeroValue22
  t23 := Try.underlying22
  a23 := Try.isAgg22
  z23 := Try.sizeOf22
  v23 := Try.zeroValue22
  t25 := Try.underlying3
  a25 := Try.isAgg3
  z25 := Try.sizeOf3
  v25 := Try.zeroValue3
  t32 := Try.underlying110
  a32 := Try.isAgg110
  z32 := Try.sizeOf110
  v32 := Try.zeroValue110
  t35 := Try.underlying124
  a35 := Try.isAgg124
  z35 := Try.sizeOf124
  v35 := Try.zeroValue124
  t36 := Try.underlying125
  a36 := Try.isAgg125
  z36 := Try.sizeOf125
  v36 := Try.zeroValue125
  t41 := Try.underlying130
  a41 := Try.isAgg130
  z41 := Try.sizeOf130
  v41 := Try.zeroValue130
  t44 := Try.underlying23
  a44 := Try.isAgg23
  z44 := Try.sizeOf23
  v44 := Try.zeroValue23
  t46 := Try.underlying134
  a46 := Try.isAgg134
  z46 := Try.sizeOf134
  v46 := Try.zeroValue134
  t53 := Try.underlying137
  a53 := Try.isAgg137
  z53 := Try.sizeOf137
  v53 := Try.zeroValue137
  t57 := Try.underlying141
  a57 := Try.isAgg141
  z57 := Try.sizeOf141
  v57 := Try.zeroValue141
  t63 := Try.underlying144
  a63 := Try.isAgg144
  z63 := Try.sizeOf144
  v63 := Try.zeroValue144
  t64 := Try.underlying145
  a64 := Try.isAgg145
  z64 := Try.sizeOf145
  v64 := Try.zeroValue145
theorem sorts32 (m : Nat) : AnyZI.SortsIn Try.prog sorted32_ren Fence.wide m :=
  ⟨fun blk off cap ss W hH hblk hsz => callsIn_wide.2 (AnyM.slices_Sort_int sort44 blk off cap ss W hH hblk hsz),
   fun p cap W => callsIn_wide.2 (AnyM.slices_Sort_int_none sort44 p cap W)⟩
theorem keys33_calls (mb : Option Nat) (W : World) : CallsIn Fence.wide 5 Try.prog 33 #[.map mb] W fun e w' => e = .returned (.func (.func 45) #[] #[.pointer (some ⟨W.heap.size, 0, none⟩)]) ∧ w' = W.alloc (.cells #[.map mb] 75) :=
  AnyZI.keys_in keys33 Fence.wide 5 trivial rfl mb W
set_option maxHeartbeats 1000000 in
theorem sorted32_calls {H : Type} (c b nn : Nat) (D0 : DataW H) (R : Value → Option (DataW H × List MemPlace)) (w : World) (hlt : c < w.heap.size) (hcell : w.cell? ⟨c, 0, none⟩ = some (.map (some b))) (hown : w.ownsMap Try.prog 3 R b nn D0) (hmax : Maps.size D0 ≤ maxLen) (hbytes : Maps.size D0 * 8 ≤ 140737488355328) :
    CallsIn Fence.wide 5 Try.prog 32 #[.func (.func 45) #[] #[.pointer (some ⟨c, 0, none⟩)]] w fun e w' => ∃ (v : Value) (ss : List Int), e = .returned v ∧ ss.Perm (intKeys D0) ∧
      w'.ownsRow w.heap.size 3 1 v ss.length ((ss.mergeSort (fun x y => decide (x ≤ y))).map encZ) ∧ (v = .slice none 0 0 ↔ ss = []) ∧ Below w.heap.size w w' := by
  have hseq : SeqGives Fence.wide 2 Try.prog 45 #[.pointer (some ⟨c, 0, none⟩)] encZ (fun ss => ss.Perm (intKeys D0)) (Maps.size D0) w :=
    AnyZI.keys_gives (ρ := keys33_ren) { keys33 with } Fence.wide _ trivial rfl (by omega) c b nn D0 _ hlt hcell hown
  exact AnyZI.sorted_in sorted32 Fence.wide 5 trivial trivial trivial trivial rfl (by omega) (sorts32 _) (enters_of Try.func44 (by kernel_rfl) rfl) 45 #[.pointer (some ⟨c, 0, none⟩)] trivial (enters_of Try.func45 (by kernel_rfl) rfl) _ _ hmax hbytes _ hseq
end Go.Proofs.Ytdkdkpiemigfkaa
set_option linter.unusedVariables false
set_option linter.unusedSimpArgs false
set_option maxRecDepth 8000
namespace Go.Proofs.Ytdkdkpiemigfkaa
open Go Go.Proofs Go.RowKit Go.Maps Go.Sort Go.Shelf
theorem Sim.add {F : Nat → Prop} {ρ : Rho} {M : AMem} {w w' : World} (h : Sim F ρ M w) (hb : Below w.heap.size w w') {o : AObj} {pl : Pl} (hg : w.heap.size ≤ pl.block)
    (ho : ∀ ρ', (∀ i pl, ρ i = some pl → ρ' i = some pl) → ObjR F ρ' pl w' o) : Sim F (ρ.put M.next pl) (M.alloc o) w' ∧ RhoLe M.next ρ (ρ.put M.next pl) ∧ Kept F w w' := by
  have hnone : ρ M.next = none := by
    cases hn : ρ M.next with
    | none => rfl
    | some pl => exact absurd (h.dom _ _ hn) (Nat.lt_irrefl _)
  have hup := Rho.put_up (pl := pl) hnone
  have hput : ∀ i p, (ρ.put M.next pl) i = some p → (i = M.next ∧ p = pl) ∨ (i ≠ M.next ∧ ρ i = some p) := by
    intro i p hi
    unfold Rho.put at hi
    split at hi
    · rename_i he; cases hi; exact .inl ⟨he, rfl⟩
    · rename_i he; exact .inr ⟨he, hi⟩
  refine ⟨⟨fun b hb' => h.top b (Nat.le_trans hb.size hb'), ?_, ?_, ?_⟩, ?_, ⟨hb.os, hb.tape, hb.output, hb.size, fun b hF => ?_⟩⟩
  · intro i p hi
    rcases hput i p hi with ⟨rfl, _⟩ | ⟨_, hi⟩
    · simp
    · have := h.dom i p hi; simp; omega
  · intro i p hi
    rcases hput i p hi with ⟨rfl, rfl⟩ | ⟨hne, hi⟩
    · rw [get_new]; exact ho _ hup
    · rw [get_old hne]; exact (h.obj i p hi).carry (fun hl => hb.block _ (h.lt hi hl)) hup
  · intro i j pi pj hi hj hij ho' hl
    rcases hput i pi hi with ⟨hi1, hi2⟩ | ⟨hne, hi2⟩ <;> rcases hput j pj hj with ⟨hj1, hj2⟩ | ⟨hne', hj2⟩
    · exact absurd (hi1.trans hj1.symm) hij
    · rw [get_old hne'] at hl
      have := h.lt hj2 hl
      subst hi2
      omega
    · rw [get_old hne] at ho'
      have hlive : (M.get i).live = true := by cases hg : M.get i <;> rw [hg] at ho' <;> simp [AObj.own, AObj.live] at ho' ⊢
      have := h.lt hi2 hlive
      subst hj2
      omega
    · rw [get_old hne] at ho'; rw [get_old hne'] at hl
      exact h.sep i j pi pj hi2 hj2 hij ho' hl
  · intro i hi
    unfold Rho.put
    rw [if_neg (by omega)]
  · refine hb.block b ?_
    by_cases hlt : b < w.heap.size
    · exact hlt
    · exact absurd (h.top b (by omega)) hF
theorem VRl.one {ρ : Rho} {v : Value} {cargs : Array Value} (h : VRl ρ [v] cargs.toList) : ∃ c, cargs = #[c] ∧ VR ρ v c := by
  have hl : cargs.toList.length = 1 := h.1.symm
  match hc : cargs.toList, hl with
  | [c], _ =>
    refine ⟨c, ?_, h.2 0 v c rfl (by rw [hc]; rfl)⟩
    apply Array.ext'
    rw [hc]
def sp33 : ASpec := fun args M K => ∃ id : Nat, args = [.map (some id)] ∧ K (.ret (.func (.func 45) #[] #[.pointer (some ⟨M.next, 0, none⟩)])) (M.alloc (.box0 (.map (some id))))
theorem f33_ok : Sound Try.prog 33 sp33 := by
  rintro args M K ⟨id, rfl, hK⟩
  refine ⟨⟨_, Try.func33, rfl, rfl⟩, fun F ρ w cargs ha hM => ?_⟩
  obtain ⟨c, rfl, hc⟩ := ha.one
  obtain ⟨pl, hpl, rfl⟩ := hc.map_inv
  refine (callsIn_wide.1 (keys33_calls (some pl.block) w)).mono ?_
  rintro e w' ⟨rfl, rfl⟩
  obtain ⟨s1, u1, k1⟩ := hM.alloc (o := .box0 (.map (some id))) (x := .cells #[.map (some pl.block)] 75) (ext := 1) (fun ρ' hup => ⟨rfl, .map (some pl.block), 75, _, by show (w.heap.push _)[w.heap.size]? = _; simp; rfl, .map (hup _ _ hpl)⟩)
  refine ⟨_, .func (.func 45) #[] #[.pointer (some ⟨w.heap.size, 0, none⟩)], .ret (.func (.func 45) #[] #[.pointer (some ⟨M.next, 0, none⟩)]), _, hK, rfl, u1, by simp, ?_, s1, k1⟩
  refine .func rfl rfl (fun i x y hx => by simp at hx) rfl (fun i x y hx hy => ?_)
  cases i with
  | zero =>
    simp at hx hy
    subst hx hy
    exact .ptr (pl := ⟨w.heap.size, 0, 1⟩) (by simp [Rho.put])
  | succ i => simp at hx
theorem insert_perm {H : Type} (x : Lit × DataW H) : ∀ l : List (Lit × DataW H), (DataW.insert x l).Perm (x :: l) := by
  intro l
  induction l with
  | nil => exact .refl _
  | cons y r ih =>
    simp only [DataW.insert]
    split
    · exact .refl _
    · exact (ih.cons y).trans (.swap _ _ _)
theorem foldr_insert_perm {H : Type} : ∀ l : List (Lit × DataW H), (l.foldr DataW.insert []).Perm l := by
  intro l
  induction l with
  | nil => exact .refl _
  | cons x l ih => exact (insert_perm x _).trans (ih.cons x)
theorem intKeys_of {H : Type} {ks : List Int} : ∀ (L : List (Lit × DataW H)), L.map Prod.fst = ks.map (Lit.int .i64) → intKeys (.map L) = ks := by
  induction ks with
  | nil => intro L h; cases L with | nil => rfl | cons a b => simp at h
  | cons k ks ih =>
    intro L h
    cases L with
    | nil => simp at h
    | cons a b =>
      simp only [List.map_cons, List.cons.injEq] at h
      have := ih b h.2
      simp only [intKeys] at this ⊢
      rw [List.map_cons, this, h.1]; rfl
def srt (l : List Int) : List Int := l.mergeSort fun x y => decide (x ≤ y)
def sp32 : ASpec := fun args M K => ∃ (c id : Nat) (es : List (Value × Value)) (ks : List Int), args = [.func (.func 45) #[] #[.pointer (some ⟨c, 0, none⟩)]] ∧ M.get c = .box0 (.map (some id)) ∧ M.get id = .map es ∧ es.map Prod.fst = ks.map (.int .i64) ∧ ks.Nodup ∧
  (∀ k ∈ ks, inI64 k) ∧ ks.length ≤ 1000000 ∧ retOwn M 1 ks.length ((srt ks).map (.int .i64)) K
theorem f32_ok : Sound Try.prog 32 sp32 := by
  rintro args M K ⟨c, id, es, ks, rfl, hgc, hgm, hks, hnd, hrange, hlen, hK⟩
  refine ⟨⟨_, Try.func32, rfl, rfl⟩, fun F ρ w cargs ha hM => ?_⟩
  obtain ⟨cv, rfl, hcv⟩ := ha.one
  obtain ⟨f', g', rfl, hf1, hf2⟩ := hcv.func_inv rfl
  obtain rfl : f' = #[] := by
    have := hf1.1; simp at this; exact (Array.eq_empty_of_size_eq_zero this.symm)
  obtain ⟨y, rfl, hy⟩ : ∃ y, g' = #[y] ∧ VR ρ (.pointer (some ⟨c, 0, none⟩)) y := by
    have hl : VRl ρ [.pointer (some ⟨c, 0, none⟩)] g'.toList := by have := VRs.toList hf2; simpa using this
    exact hl.one
  obtain ⟨_, plc, hplc, rfl⟩ := hy.ptr_inv
  have hoc := hM.obj c plc hplc
  rw [hgc] at hoc
  obtain ⟨hbase, mv, e0, fz, hheap, hmv⟩ := hoc
  obtain ⟨plm, hplm, rfl⟩ := hmv.map_inv
  have hom := hM.obj id plm hplm
  rw [hgm] at hom
  obtain ⟨hFm, E, clock, hE, hEs, hst, hent⟩ := hom
  have hel : es.length = ks.length := by have := congrArg List.length hks; simpa using this
  have hkey : ∀ (i : Nat) (x : MapEntry), E[i]? = some x → ∃ k, ks[i]? = some k ∧ x.key = .int .i64 k := by
    intro i x hx
    have hi : i < E.size := (Array.getElem?_eq_some_iff.1 hx).1
    have hie : i < es.length := by omega
    obtain ⟨x', hx', hk, _⟩ := hent i es[i].1 es[i].2 (by rw [List.getElem?_eq_getElem hie])
    rw [hx] at hx'; cases hx'
    have h1 : (es.map Prod.fst)[i]? = some es[i].1 := by simp [hie]
    rw [hks] at h1
    have hik : i < ks.length := by omega
    have h2 : (ks.map (Value.int .i64))[i]? = some (.int .i64 ks[i]) := by simp [hik]
    rw [h2] at h1
    cases h1' : es[i].1 with
    | int kk n =>
      rw [h1'] at h1 hk
      cases h1
      exact ⟨_, List.getElem?_eq_getElem hik, hk.int_inv⟩
    | _ => rw [h1'] at h1; cases h1
  have hmapk : E.toList.map (fun x => x.key) = ks.map (Value.int .i64) := by
    apply List.ext_getElem?
    intro i
    rw [List.getElem?_map, List.getElem?_map]
    cases hx : E[i]? with
    | none =>
      have h1 : E.size ≤ i := Array.getElem?_eq_none_iff.1 hx
      have h2 : ks[i]? = none := List.getElem?_eq_none (by omega)
      have h3 : E.toList[i]? = none := by simpa using h1
      rw [h2, h3]; rfl
    | some x =>
      obtain ⟨k, hk1, hk2⟩ := hkey i x hx
      have h3 : E.toList[i]? = some x := by simpa using hx
      rw [hk1, h3]; simp [hk2]
  have hRd : ∀ x ∈ E.toList, ∃ k, inI64 k ∧ x.key = .int .i64 k ∧ Go.WideElems.rd Try.prog 3 (fun _ => some ((.nil : DataW Unit), ([] : List MemPlace))) x = some (.int .i64 k, .nil) := by
    intro x hx
    obtain ⟨i, hi, rfl⟩ := List.mem_iff_getElem.1 hx
    obtain ⟨k, hk1, hk2⟩ := hkey i _ (Array.getElem?_eq_getElem (by simpa using hi))
    have hr := hrange k (List.mem_of_getElem? hk1)
    have hko : keyOf Try.prog 3 E.toList[i].key = some (.int .i64 k) := by
      have h2 : E.toList[i].key = .int .i64 k := by simpa using hk2
      rw [h2]
      simp only [keyOf, Try.underlying3, mapKey, Lit.wf]
      rw [if_pos ⟨trivial, by rw [Bool.and_eq_true, decide_eq_true_iff, decide_eq_true_iff]; exact hr⟩]
    exact ⟨k, hr, by simpa using hk2, by simp only [Go.WideElems.rd, hko]; rfl⟩
  have hfit : Go.WideElems.Fit Try.prog 3 (fun _ => some ((.nil : DataW Unit), ([] : List MemPlace))) E clock := by
    refine ⟨by unfold maxLen; omega, ⟨fun x hx => ?_, ?_, ?_⟩, fun x hx => ?_⟩
    · obtain ⟨i, hi, rfl⟩ := List.mem_iff_getElem.1 hx
      exact hst.1 i _ (by rw [Array.getElem?_eq_getElem (by simpa using hi)]; rfl)
    · rw [List.nodup_iff_pairwise_ne, List.pairwise_iff_getElem]
      intro i j hi hj hij
      simp only [List.length_map] at hi hj
      have := hst.2 i j _ _ (by rw [Array.getElem?_eq_getElem (by simpa using hi)]) (by rw [Array.getElem?_eq_getElem (by simpa using hj)]) hij
      simp; omega
    · have e1 : E.toList.map (·.key) = ks.map (Value.int .i64) := hmapk
      rw [e1]
      refine (List.pairwise_map.2 (hnd.imp ?_))
      intro a b hab he
      exact hab (by cases he; rfl)
    · obtain ⟨k, _, _, h⟩ := hRd x hx
      exact ⟨_, h⟩
  have hown : w.ownsMap Try.prog 3 (fun _ => some ((.nil : DataW Unit), ([] : List MemPlace))) plm.block E.size (.map ((E.toList.map (Go.WideElems.rg Try.prog 3 (fun _ => some ((.nil : DataW Unit), ([] : List MemPlace))))).foldr DataW.insert [])) :=
    ⟨E, clock, hE, hfit, Nat.le_refl _, rfl⟩
  have hperm : (intKeys (.map ((E.toList.map (Go.WideElems.rg Try.prog 3 (fun _ => some ((.nil : DataW Unit), ([] : List MemPlace))))).foldr DataW.insert []))).Perm ks := by
    have h1 : (intKeys (.map ((E.toList.map (Go.WideElems.rg Try.prog 3 (fun _ => some ((.nil : DataW Unit), ([] : List MemPlace))))).foldr DataW.insert []))).Perm (intKeys (.map (E.toList.map (Go.WideElems.rg Try.prog 3 (fun _ => some ((.nil : DataW Unit), ([] : List MemPlace)))))) ) := (foldr_insert_perm _).map _
    have h0 : (E.toList.map (Go.WideElems.rg Try.prog 3 (fun _ => some ((.nil : DataW Unit), ([] : List MemPlace))))).map Prod.fst = ks.map (Lit.int .i64) := by
      rw [List.map_map]
      have h2 : E.toList.map (Prod.fst ∘ Go.WideElems.rg Try.prog 3 (fun _ => some ((.nil : DataW Unit), ([] : List MemPlace)))) = E.toList.map (fun x => match x.key with | .int _ k => Lit.int .i64 k | _ => .bool false) := by
        apply List.map_congr_left
        intro x hx
        obtain ⟨k, _, hk, hr⟩ := hRd x hx
        simp only [Function.comp, Go.WideElems.rg, hr, hk, Option.getD_some]
      rw [h2]
      have h3 : E.toList.map (fun x => match x.key with | .int _ k => Lit.int .i64 k | _ => .bool false) = (E.toList.map (fun x => x.key)).map (fun v => match v with | .int _ k => Lit.int .i64 k | _ => .bool false) := by rw [List.map_map]; rfl
      rw [h3, hmapk, List.map_map]
      rfl
    rw [intKeys_of _ h0] at h1
    exact h1
  have hsize : Maps.size (.map ((E.toList.map (Go.WideElems.rg Try.prog 3 (fun _ => some ((.nil : DataW Unit), ([] : List MemPlace))))).foldr DataW.insert [])) = ks.length := by
    show ((E.toList.map _).foldr DataW.insert []).length = _
    rw [(foldr_insert_perm _).length_eq, List.length_map]; simp; omega
  have hcell : w.cell? ⟨plc.block, 0, none⟩ = some (.map (some plm.block)) := by simp [World.cell?, hheap]
  have hlt : plc.block < w.heap.size := (Array.getElem?_eq_some_iff.1 hheap).1
  have hcall := sorted32_calls plc.block plm.block E.size _ _ w hlt hcell hown (by rw [hsize]; unfold maxLen; omega) (by rw [hsize]; omega)
  have hptr : (Value.pointer (some ⟨plc.block, plc.base + 0, none⟩)) = .pointer (some ⟨plc.block, 0, none⟩) := by rw [hbase]
  rw [hptr]
  refine (callsIn_wide.1 hcall).mono ?_
  rintro e w' ⟨v, ss, rfl, hss, hrow, hnil, hb⟩
  have hp2 : ss.Perm ks := hss.trans hperm
  have hsl : ss.length = ks.length := hp2.length_eq
  have hsort : ss.mergeSort (fun x y => decide (x ≤ y)) = srt ks := mergeSort_of_perm_i hp2
  rw [hsort, hsl] at hrow
  have hsrtl : (srt ks).length = ks.length := by unfold srt; exact List.length_mergeSort _
  rcases hrow.2 with ⟨rfl, hz⟩ | ⟨g, cap, cur, rfl, hg1, hg2, hg3, hg4, hg5, hg6⟩
  · have hM' : Sim F ρ M w' := hM.world hb.size (fun i pl hi hl => hb.block _ (hM.lt hi hl))
    have hkeep : Kept F w w' := ⟨hb.os, hb.tape, hb.output, hb.size, fun b hF => hb.block b (by
      by_cases hbl : b < w.heap.size
      · exact hbl
      · exact absurd (hM.top b (by omega)) hF)⟩
    have hk0 : ks = [] := List.eq_nil_of_length_eq_zero hz
    subst hk0
    exact ⟨ρ, .slice none 0 0, .ret (.slice none 0 0), M, hK _ M (Nat.le_refl _) (fun _ _ => rfl) (by rw [show srt [] = [] from by simp [srt]]; exact Own.nil _ _ _), rfl, .refl _ _, Nat.le_refl _, .scalar rfl, hM', hkeep⟩
  · obtain ⟨s1, u1, k1⟩ := hM.add hb (o := .cells ((srt ks).map (.int .i64)) true) (pl := ⟨g, 0, cap⟩) hg1 (fun ρ' hup => by
      refine ⟨cur, 3, 0, 0, hg2, by simp [hsrtl]; omega, by simp; omega, fun i x hx => ?_, fun _ => ⟨hM.top _ hg1, fun i _ => by omega⟩⟩
      have hi : i < ks.length := by
        have := (List.getElem?_eq_some_iff.1 hx).1
        simpa [hsrtl] using this
      have h1 : (cur.toList.take (ks.length * 1))[i]? = some x := by rw [hg6]; exact hx
      rw [List.getElem?_take, if_pos (by omega)] at h1
      refine ⟨x, by simpa using h1, ?_⟩
      simp only [List.getElem?_map, Option.map_eq_some_iff] at hx
      obtain ⟨z, _, rfl⟩ := hx
      exact .scalar rfl)
    refine ⟨_, .slice (some ⟨g, 0, none⟩) ks.length cap, .ret (.slice (some ⟨M.next, 0, none⟩) ks.length 1), _, hK _ _ (by simp) (fun j hj => get_old (by omega)) ⟨by simp [hsrtl], .inr ⟨M.next, rfl, Nat.le_refl _, by simp, get_new⟩⟩, rfl, u1, by simp, ?_, s1, k1⟩
    exact .slice (pl := ⟨g, 0, cap⟩) (by simp [Rho.put]) hg3 (by simp)
end Go.Proofs.Ytdkdkpiemigfkaa
