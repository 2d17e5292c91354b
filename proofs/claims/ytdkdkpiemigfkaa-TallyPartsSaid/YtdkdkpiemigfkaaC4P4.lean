/- Part 4 of the proof of the given statement (theorem tallyParts_holds, in the last part): for every input the law returns true, and each argument reads behind the call as it read before. No condition beyond the statement's own. -/
import Derived.Test.YtdkdkpiemigfkaaC4P3
set_option linter.unusedVariables false
set_option linter.unusedSimpArgs false
set_option maxRecDepth 8000
namespace Go.Proofs.Ytdkdkpiemigfkaa
open Go Go.Proofs
def chk : Nat → List UInt8 → Bool
  | 0, l => decide ((l.length : Int) < 20)
  | 1, l => !decide (byteAt l 0 / 16 = 4) || decide (4 * (byteAt l 0 % 16) < 20)
  | 2, l => decide ((l.length : Int) < 4 * (byteAt l 0 % 16))
  | 3, l => decide (numF (part l 2 4) < 4 * (byteAt l 0 % 16))
  | 4, l => decide ((l.length : Int) < numF (part l 2 4))
  | 5, l => decide (byteAt l 6 / 128 = 1)
  | 6, l => decide (2000 < numF (part l 2 4) - 4 * (byteAt l 0 % 16))
  | 7, l => !decide (ocF (part l 0 (4 * (byteAt l 0 % 16)).toNat) = 0)
  | _, _ => false
def spC (j : Nat) : ASpec := fun args M K => ∃ l : List UInt8, args = [asString l] ∧ l.length ≤ 1000000000 ∧ (∀ i, i < j → chk i l = false) ∧ K (.ret (.bool (chk j l))) M
def spN (m : Nat) (f : List UInt8 → Int) : ASpec := fun args M K => ∃ l : List UInt8, args = [asString l] ∧ l.length ≤ 1000000000 ∧ m ≤ l.length ∧ K (.ret (.int .i64 (f l))) M
theorem shr8_7' {a : Int} {k' : IntKind} : abin .shr (.int .u8 a) (.int k' 7) = some (.int .u8 (a / 128)) := by simp [abin, IntKind.bits, Int.fdiv_eq_ediv_of_nonneg]
def sp72 : ASpec := spN 1 fun l => 4 * (byteAt l 0 % 16)
def sp73 : ASpec := spN 4 fun l => numF (part l 2 4)
theorem f72_ok : Sound Try.prog 72 sp72 := by
 refine Sound.of_awp (c := bodyOf Try.f72) Try.func72 rfl rfl rfl ?_
 rintro args M K ⟨l, rfl, hll, h1, hK⟩
 refine ⟨Nat.le_of_ble_eq_true rfl, ?_⟩
 have hS := noS_ok Try.prog
 have e0 : entry [asString l] 0 = asString l := rfl
 obtain ⟨z0, z1⟩ := byteAt_bound l 0
 refine at_seq rfl ?_
 refine at_region hS rfl (by kernel_rfl) ?_
 refine s_op (a_as (by simp only [ev_const] <;> rfl)) rfl ?_
 refine s_end (fun s' hs' => ?_)
 replace e0 := kp 0 hs' e0
 clear hs'
 refine o_norm ?_
 refine t_norm ?_
 refine at_seq rfl ?_
 refine at_region hS rfl (by kernel_rfl) ?_
 refine s_op (a_mv e0) rfl ?_
 refine s_op (a_index (by simp (disch := omega) only [Zu, Nat.reduceEqDiff, ↓reduceIte, Zs, Int.reduceToNat, and_15] <;> rfl)) rfl ?_
 refine s_op (a_convi (by simp only [Zu, Nat.reduceEqDiff, ↓reduceIte, Zs, Int.reduceToNat, and_15, newPtr, AMem.next_alloc] <;> rfl) rfl rfl (by simp (disch := omega) only [wrap_i64]; try rfl)) rfl ?_
 refine s_op (a_bin (by simp (disch := omega) only [Zu, Nat.reduceEqDiff, ↓reduceIte, Zd, reduceCtorEq, abin_and, and_255, and_15, and_65535, and_8191, ne_eq, not_false_eq_true, Zs, Int.reduceToNat] <;> rfl)) rfl ?_
 refine s_op (a_bin (by simp (disch := omega) only [Zu, Nat.reduceEqDiff, ↓reduceIte, Zd, reduceCtorEq, abin_mul, wrap_i64, wrap_u32, wrap_u8, wrap_u64, wrap_i32, wrap_u16, ne_eq, not_false_eq_true, Zs, Int.reduceToNat, and_15] <;> rfl)) rfl ?_
 refine s_as ?_
 refine s_end (fun s' hs' => ?_)
 have e2 := congrFun hs' 2
 simp only [Zu, Nat.reduceEqDiff, ↓reduceIte, newPtr, AMem.next_alloc] at e2
 clear hs'
 try clear e0
 refine o_norm ?_
 refine t_norm ?_
 refine at_ret rfl ?_
 refine bq_ret rfl (ars_cons (ar_tmp e2) ars_nil) ?_
 exact ⟨_, _, hK, Canon.forget rfl (fun _ _ => rfl)⟩
noncomputable def S73 : FuncId → ASpec := tab [(70, sp70)]
theorem S73_70 : S73 70 = sp70 := rfl
theorem S73_ok : ∀ f, Sound Try.prog f (S73 f) := tab_sound _ (by simp [f70_ok])
theorem f73_ok : Sound Try.prog 73 sp73 := by
 refine Sound.of_awp (c := bodyOf Try.f73) Try.func73 rfl rfl rfl ?_
 rintro args M K ⟨l, rfl, hll, h1, hK⟩
 refine ⟨Nat.le_of_ble_eq_true rfl, ?_⟩
 have hS := S73_ok
 have e0 : entry [asString l] 0 = asString l := rfl
 refine at_seq rfl ?_
 refine at_region hS rfl (by kernel_rfl) ?_
 refine s_op (a_as (by simp only [ev_const] <;> rfl)) rfl ?_
 refine s_end (fun s' hs' => ?_)
 replace e0 := kp 0 hs' e0
 clear hs'
 refine o_norm ?_
 refine t_norm ?_
 refine at_seq rfl ?_
 refine at_region hS rfl (by kernel_rfl) ?_
 refine s_op (a_mv e0) rfl ?_
 refine s_op (a_slice (by simp (disch := omega) only [Zu, Nat.reduceEqDiff, ↓reduceIte, Zs, Int.reduceToNat] <;> rfl)) rfl ?_
 refine s_call (by simp only [Zu, Nat.reduceEqDiff, ↓reduceIte, Zs, Int.reduceToNat, newPtr, AMem.next_alloc] <;> rfl) (by simp only [Zu, Nat.reduceEqDiff, ↓reduceIte, Zm, Zs, Int.reduceToNat, newPtr, AMem.next_alloc] <;> rfl) ?_
 rw [S73_70]; refine ⟨_, rfl, by rw [part_length (by omega)]; omega, ?_⟩
 show EA _ _ _ _ _ _
 refine s_as ?_
 refine s_end (fun s' hs' => ?_)
 have e2 := congrFun hs' 2
 simp only [Zu, Nat.reduceEqDiff, ↓reduceIte, newPtr, AMem.next_alloc] at e2
 clear hs'
 try clear e0
 refine o_norm ?_
 refine t_norm ?_
 refine at_ret rfl ?_
 refine bq_ret rfl (ars_cons (ar_tmp e2) ars_nil) ?_
 exact ⟨_, _, hK, Canon.forget rfl (fun _ _ => rfl)⟩
noncomputable def SC : FuncId → ASpec := tab [(72, sp72), (73, sp73), (95, sp95)]
theorem SC_72 : SC 72 = sp72 := rfl
theorem SC_73 : SC 73 = sp73 := rfl
theorem SC_95 : SC 95 = sp95 := rfl
theorem SC_ok : ∀ f, Sound Try.prog f (SC f) := tab_sound _ (by simp [f72_ok, f73_ok, f95_ok])
def sp87 : ASpec := spC 0
theorem f87_ok : Sound Try.prog 87 sp87 := by
 refine Sound.of_awp (c := bodyOf Try.f87) Try.func87 rfl rfl rfl ?_
 rintro args M K ⟨l, rfl, hll, hpre, hK⟩
 refine ⟨Nat.le_of_ble_eq_true rfl, ?_⟩
 have hS := SC_ok
 have e0 : entry [asString l] 0 = asString l := rfl
 obtain ⟨z0, z1⟩ := byteAt_bound l 0
 simp only [chk] at hK
 refine at_seq rfl ?_
 refine at_region hS rfl (by kernel_rfl) ?_
 refine s_op (a_as (by simp only [ev_const] <;> rfl)) rfl ?_
 refine s_end (fun s' hs' => ?_)
 replace e0 := kp 0 hs' e0
 clear hs'
 refine o_norm ?_
 refine t_norm ?_
 refine at_seq rfl ?_
 refine at_region hS rfl (by kernel_rfl) ?_
 refine s_op (a_mv e0) rfl ?_
 refine s_op (a_len (by simp (disch := omega) only [Zu, Nat.reduceEqDiff, ↓reduceIte, alen_str, Zs, Int.reduceToNat, hlenS, newPtr, AMem.next_alloc] <;> rfl)) rfl ?_
 refine s_op (a_bin (by simp (disch := omega) only [Zu, Nat.reduceEqDiff, ↓reduceIte, Zd, reduceCtorEq, abin_lss, ne_eq, not_false_eq_true, Zs, Int.reduceToNat] <;> rfl)) rfl ?_
 refine s_as ?_
 refine s_end (fun s' hs' => ?_)
 have e2 := congrFun hs' 2
 simp only [Zu, Nat.reduceEqDiff, ↓reduceIte, newPtr, AMem.next_alloc] at e2
 clear hs'
 try clear e0
 refine o_norm ?_
 refine t_norm ?_
 refine at_ret rfl ?_
 refine bq_ret rfl (ars_cons (ar_tmp e2) ars_nil) ?_
 exact ⟨_, _, hK, Canon.forget rfl (fun _ _ => rfl)⟩
def sp88 : ASpec := spC 1
theorem f88_ok : Sound Try.prog 88 sp88 := by
 refine Sound.of_awp (c := bodyOf Try.f88) Try.func88 rfl rfl rfl ?_
 rintro args M K ⟨l, rfl, hll, hpre, hK⟩
 refine ⟨Nat.le_of_ble_eq_true rfl, ?_⟩
 have hS := SC_ok
 have e0 : entry [asString l] 0 = asString l := rfl
 obtain ⟨z0, z1⟩ := byteAt_bound l 0
 have p0 : ¬ (l.length : Int) < 20 := of_decide_eq_false (hpre 0 (by omega))
 simp only [chk] at hK
 refine at_seq rfl ?_
 refine at_region hS rfl (by kernel_rfl) ?_
 refine s_op (a_as (by simp only [ev_const] <;> rfl)) rfl ?_
 refine s_end (fun s' hs' => ?_)
 replace e0 := kp 0 hs' e0
 clear hs'
 refine o_norm ?_
 refine t_norm ?_
 refine at_seq rfl ?_
 by_cases hv : byteAt l 0 / 16 = 4
 ·
  refine at_region hS rfl (by kernel_rfl) ?_
  refine s_op (a_mv e0) rfl ?_
  refine s_op (a_index (by simp (disch := omega) only [Zu, Nat.reduceEqDiff, ↓reduceIte, Zs, Int.reduceToNat, hv] <;> rfl)) rfl ?_
  refine s_op (a_bin (by simp (disch := omega) only [Zu, Nat.reduceEqDiff, ↓reduceIte, Zd, reduceCtorEq, shr_8, shr_16, shr_4, shr8_4, shr8_7, ne_eq, not_false_eq_true, Zs, Int.reduceToNat, hv] <;> rfl)) rfl ?_
  refine s_op (a_bin (by simp (disch := omega) only [Zu, Nat.reduceEqDiff, ↓reduceIte, Zd, reduceCtorEq, abin_neq, abin_aneq, ne_eq, not_false_eq_true, Zs, Int.reduceToNat, hv] <;> rfl)) rfl ?_
  refine s_mv ?_
  refine s_tk ?_
  refine s_op (a_mv e0) rfl ?_
  refine s_tk ?_
  refine s_call (by simp only [Zu, Nat.reduceEqDiff, ↓reduceIte, Zs, Int.reduceToNat, hlenS, hv, newPtr, AMem.next_alloc] <;> rfl) (by simp only [Zu, Nat.reduceEqDiff, ↓reduceIte, Zm, Zs, Int.reduceToNat, hlenS, hv, newPtr, AMem.next_alloc] <;> rfl) ?_
  rw [SC_72]; refine ⟨_, rfl, hll, by omega, ?_⟩
  show EA _ _ _ _ _ _
  refine s_tk ?_
  refine s_op (a_bin (by simp (disch := omega) only [Zu, Nat.reduceEqDiff, ↓reduceIte, Zd, reduceCtorEq, abin_lss, ne_eq, not_false_eq_true, Zs, Int.reduceToNat, hv] <;> rfl)) rfl ?_
  refine s_op (a_pick (by simp only [Zu, Nat.reduceEqDiff, ↓reduceIte, Zd, reduceCtorEq, hv] <;> rfl) (by simp only [Zu, Nat.reduceEqDiff, ↓reduceIte, Zd, reduceCtorEq, hv] <;> rfl)) rfl ?_
  refine s_as ?_
  refine s_end (fun s' hs' => ?_)
  have e2 := congrFun hs' 2
  simp only [Zu, Nat.reduceEqDiff, ↓reduceIte, newPtr, AMem.next_alloc] at e2
  clear hs'
  try clear e0
  refine o_norm ?_
  refine t_norm ?_
  refine at_ret rfl ?_
  simp only [hv, Zd, Bool.false_or, Bool.true_or] at hK
  refine bq_ret rfl (ars_cons (ar_tmp e2) ars_nil) ?_
  exact ⟨_, _, hK, Canon.forget rfl (fun _ _ => rfl)⟩
 ·
  refine at_region hS rfl (by kernel_rfl) ?_
  refine s_op (a_mv e0) rfl ?_
  refine s_op (a_index (by simp (disch := omega) only [Zu, Nat.reduceEqDiff, ↓reduceIte, Zs, Int.reduceToNat, hv] <;> rfl)) rfl ?_
  refine s_op (a_bin (by simp (disch := omega) only [Zu, Nat.reduceEqDiff, ↓reduceIte, Zd, reduceCtorEq, shr_8, shr_16, shr_4, shr8_4, shr8_7, ne_eq, not_false_eq_true, Zs, Int.reduceToNat, hv] <;> rfl)) rfl ?_
  refine s_op (a_bin (by simp (disch := omega) only [Zu, Nat.reduceEqDiff, ↓reduceIte, Zd, reduceCtorEq, abin_neq, abin_aneq, ne_eq, not_false_eq_true, Zs, Int.reduceToNat, hv] <;> rfl)) rfl ?_
  refine s_mv ?_
  refine s_lv ?_
  refine s_lv ?_
  refine s_lv ?_
  refine s_op (a_pick (by simp only [Zu, Nat.reduceEqDiff, ↓reduceIte, Zd, reduceCtorEq, hv] <;> rfl) (by simp only [Zu, Nat.reduceEqDiff, ↓reduceIte, Zd, reduceCtorEq, hv] <;> rfl)) rfl ?_
  refine s_as ?_
  refine s_end (fun s' hs' => ?_)
  have e2 := congrFun hs' 2
  simp only [Zu, Nat.reduceEqDiff, ↓reduceIte, newPtr, AMem.next_alloc] at e2
  clear hs'
  try clear e0
  refine o_norm ?_
  refine t_norm ?_
  refine at_ret rfl ?_
  simp only [hv, Zd, Bool.false_or, Bool.true_or] at hK
  refine bq_ret rfl (ars_cons (ar_tmp e2) ars_nil) ?_
  exact ⟨_, _, hK, Canon.forget rfl (fun _ _ => rfl)⟩
def sp89 : ASpec := spC 2
theorem f89_ok : Sound Try.prog 89 sp89 := by
 refine Sound.of_awp (c := bodyOf Try.f89) Try.func89 rfl rfl rfl ?_
 rintro args M K ⟨l, rfl, hll, hpre, hK⟩
 refine ⟨Nat.le_of_ble_eq_true rfl, ?_⟩
 have hS := SC_ok
 have e0 : entry [asString l] 0 = asString l := rfl
 obtain ⟨z0, z1⟩ := byteAt_bound l 0
 have p0 : ¬ (l.length : Int) < 20 := of_decide_eq_false (hpre 0 (by omega))
 have p1 : byteAt l 0 / 16 = 4 ∧ ¬ (4 * (byteAt l 0 % 16) < 20) := by have := hpre 1 (by omega); simp only [chk, Bool.or_eq_false_iff, Zh] at this; exact this
 simp only [chk] at hK
 refine at_seq rfl ?_
 refine at_region hS rfl (by kernel_rfl) ?_
 refine s_op (a_as (by simp only [ev_const] <;> rfl)) rfl ?_
 refine s_end (fun s' hs' => ?_)
 replace e0 := kp 0 hs' e0
 clear hs'
 refine o_norm ?_
 refine t_norm ?_
 refine at_seq rfl ?_
 refine at_region hS rfl (by kernel_rfl) ?_
 refine s_op (a_mv e0) rfl ?_
 refine s_op (a_len (by simp (disch := omega) only [Zu, Nat.reduceEqDiff, ↓reduceIte, alen_str, Zs, Int.reduceToNat, hlenS, newPtr, AMem.next_alloc] <;> rfl)) rfl ?_
 refine s_op (a_mv e0) rfl ?_
 refine s_call (by simp only [Zu, Nat.reduceEqDiff, ↓reduceIte, Zs, Int.reduceToNat, hlenS, newPtr, AMem.next_alloc] <;> rfl) (by simp only [Zu, Nat.reduceEqDiff, ↓reduceIte, Zm, Zs, Int.reduceToNat, hlenS, newPtr, AMem.next_alloc] <;> rfl) ?_
 rw [SC_72]; refine ⟨_, rfl, hll, by omega, ?_⟩
 show EA _ _ _ _ _ _
 refine s_op (a_bin (by simp (disch := omega) only [Zu, Nat.reduceEqDiff, ↓reduceIte, Zd, reduceCtorEq, abin_lss, ne_eq, not_false_eq_true, Zs, Int.reduceToNat] <;> rfl)) rfl ?_
 refine s_as ?_
 refine s_end (fun s' hs' => ?_)
 have e2 := congrFun hs' 2
 simp only [Zu, Nat.reduceEqDiff, ↓reduceIte, newPtr, AMem.next_alloc] at e2
 clear hs'
 try clear e0
 refine o_norm ?_
 refine t_norm ?_
 refine at_ret rfl ?_
 refine bq_ret rfl (ars_cons (ar_tmp e2) ars_nil) ?_
 exact ⟨_, _, hK, Canon.forget rfl (fun _ _ => rfl)⟩
def sp90 : ASpec := spC 3
theorem f90_ok : Sound Try.prog 90 sp90 := by
 refine Sound.of_awp (c := bodyOf Try.f90) Try.func90 rfl rfl rfl ?_
 rintro args M K ⟨l, rfl, hll, hpre, hK⟩
 refine ⟨Nat.le_of_ble_eq_true rfl, ?_⟩
 have hS := SC_ok
 have e0 : entry [asString l] 0 = asString l := rfl
 obtain ⟨z0, z1⟩ := byteAt_bound l 0
 have p0 : ¬ (l.length : Int) < 20 := of_decide_eq_false (hpre 0 (by omega))
 have p1 : byteAt l 0 / 16 = 4 ∧ ¬ (4 * (byteAt l 0 % 16) < 20) := by have := hpre 1 (by omega); simp only [chk, Bool.or_eq_false_iff, Zh] at this; exact this
 have p2 : ¬ ((l.length : Int) < 4 * (byteAt l 0 % 16)) := of_decide_eq_false (hpre 2 (by omega))
 obtain ⟨a0, a1⟩ := numF_bound (part l 2 4) (part_length (by omega))
 simp only [chk] at hK
 refine at_seq rfl ?_
 refine at_region hS rfl (by kernel_rfl) ?_
 refine s_op (a_as (by simp only [ev_const] <;> rfl)) rfl ?_
 refine s_end (fun s' hs' => ?_)
 replace e0 := kp 0 hs' e0
 clear hs'
 refine o_norm ?_
 refine t_norm ?_
 refine at_seq rfl ?_
 refine at_region hS rfl (by kernel_rfl) ?_
 refine s_op (a_mv e0) rfl ?_
 refine s_call (by simp only [Zu, Nat.reduceEqDiff, ↓reduceIte, Zs, Int.reduceToNat, hlenS, newPtr, AMem.next_alloc] <;> rfl) (by simp only [Zu, Nat.reduceEqDiff, ↓reduceIte, Zm, Zs, Int.reduceToNat, hlenS, newPtr, AMem.next_alloc] <;> rfl) ?_
 rw [SC_73]; refine ⟨_, rfl, hll, by omega, ?_⟩
 show EA _ _ _ _ _ _
 refine s_op (a_mv e0) rfl ?_
 refine s_call (by simp only [Zu, Nat.reduceEqDiff, ↓reduceIte, Zs, Int.reduceToNat, hlenS, newPtr, AMem.next_alloc] <;> rfl) (by simp only [Zu, Nat.reduceEqDiff, ↓reduceIte, Zm, Zs, Int.reduceToNat, hlenS, newPtr, AMem.next_alloc] <;> rfl) ?_
 rw [SC_72]; refine ⟨_, rfl, hll, by omega, ?_⟩
 show EA _ _ _ _ _ _
 refine s_op (a_bin (by simp (disch := omega) only [Zu, Nat.reduceEqDiff, ↓reduceIte, Zd, reduceCtorEq, abin_lss, ne_eq, not_false_eq_true, Zs, Int.reduceToNat] <;> rfl)) rfl ?_
 refine s_as ?_
 refine s_end (fun s' hs' => ?_)
 have e2 := congrFun hs' 2
 simp only [Zu, Nat.reduceEqDiff, ↓reduceIte, newPtr, AMem.next_alloc] at e2
 clear hs'
 try clear e0
 refine o_norm ?_
 refine t_norm ?_
 refine at_ret rfl ?_
 refine bq_ret rfl (ars_cons (ar_tmp e2) ars_nil) ?_
 exact ⟨_, _, hK, Canon.forget rfl (fun _ _ => rfl)⟩
def sp91 : ASpec := spC 4
theorem f91_ok : Sound Try.prog 91 sp91 := by
 refine Sound.of_awp (c := bodyOf Try.f91) Try.func91 rfl rfl rfl ?_
 rintro args M K ⟨l, rfl, hll, hpre, hK⟩
 refine ⟨Nat.le_of_ble_eq_true rfl, ?_⟩
 have hS := SC_ok
 have e0 : entry [asString l] 0 = asString l := rfl
 obtain ⟨z0, z1⟩ := byteAt_bound l 0
 have p0 : ¬ (l.length : Int) < 20 := of_decide_eq_false (hpre 0 (by omega))
 have p1 : byteAt l 0 / 16 = 4 ∧ ¬ (4 * (byteAt l 0 % 16) < 20) := by have := hpre 1 (by omega); simp only [chk, Bool.or_eq_false_iff, Zh] at this; exact this
 have p2 : ¬ ((l.length : Int) < 4 * (byteAt l 0 % 16)) := of_decide_eq_false (hpre 2 (by omega))
 obtain ⟨a0, a1⟩ := numF_bound (part l 2 4) (part_length (by omega))
 simp only [chk] at hK
 refine at_seq rfl ?_
 refine at_region hS rfl (by kernel_rfl) ?_
 refine s_op (a_as (by simp only [ev_const] <;> rfl)) rfl ?_
 refine s_end (fun s' hs' => ?_)
 replace e0 := kp 0 hs' e0
 clear hs'
 refine o_norm ?_
 refine t_norm ?_
 refine at_seq rfl ?_
 refine at_region hS rfl (by kernel_rfl) ?_
 refine s_op (a_mv e0) rfl ?_
 refine s_op (a_len (by simp (disch := omega) only [Zu, Nat.reduceEqDiff, ↓reduceIte, alen_str, Zs, Int.reduceToNat, hlenS, newPtr, AMem.next_alloc] <;> rfl)) rfl ?_
 refine s_op (a_mv e0) rfl ?_
 refine s_call (by simp only [Zu, Nat.reduceEqDiff, ↓reduceIte, Zs, Int.reduceToNat, hlenS, newPtr, AMem.next_alloc] <;> rfl) (by simp only [Zu, Nat.reduceEqDiff, ↓reduceIte, Zm, Zs, Int.reduceToNat, hlenS, newPtr, AMem.next_alloc] <;> rfl) ?_
 rw [SC_73]; refine ⟨_, rfl, hll, by omega, ?_⟩
 show EA _ _ _ _ _ _
 refine s_op (a_bin (by simp (disch := omega) only [Zu, Nat.reduceEqDiff, ↓reduceIte, Zd, reduceCtorEq, abin_lss, ne_eq, not_false_eq_true, Zs, Int.reduceToNat] <;> rfl)) rfl ?_
 refine s_as ?_
 refine s_end (fun s' hs' => ?_)
 have e2 := congrFun hs' 2
 simp only [Zu, Nat.reduceEqDiff, ↓reduceIte, newPtr, AMem.next_alloc] at e2
 clear hs'
 try clear e0
 refine o_norm ?_
 refine t_norm ?_
 refine at_ret rfl ?_
 refine bq_ret rfl (ars_cons (ar_tmp e2) ars_nil) ?_
 exact ⟨_, _, hK, Canon.forget rfl (fun _ _ => rfl)⟩
def sp92 : ASpec := spC 5
theorem f92_ok : Sound Try.prog 92 sp92 := by
 refine Sound.of_awp (c := bodyOf Try.f92) Try.func92 rfl rfl rfl ?_
 rintro args M K ⟨l, rfl, hll, hpre, hK⟩
 refine ⟨Nat.le_of_ble_eq_true rfl, ?_⟩
 have hS := SC_ok
 have e0 : entry [asString l] 0 = asString l := rfl
 obtain ⟨z0, z1⟩ := byteAt_bound l 0
 have p0 : ¬ (l.length : Int) < 20 := of_decide_eq_false (hpre 0 (by omega))
 have p1 : byteAt l 0 / 16 = 4 ∧ ¬ (4 * (byteAt l 0 % 16) < 20) := by have := hpre 1 (by omega); simp only [chk, Bool.or_eq_false_iff, Zh] at this; exact this
 have p2 : ¬ ((l.length : Int) < 4 * (byteAt l 0 % 16)) := of_decide_eq_false (hpre 2 (by omega))
 obtain ⟨a0, a1⟩ := numF_bound (part l 2 4) (part_length (by omega))
 simp only [chk] at hK
 refine at_seq rfl ?_
 refine at_region hS rfl (by kernel_rfl) ?_
 refine s_op (a_as (by simp only [ev_const] <;> rfl)) rfl ?_
 refine s_end (fun s' hs' => ?_)
 replace e0 := kp 0 hs' e0
 clear hs'
 refine o_norm ?_
 refine t_norm ?_
 refine at_seq rfl ?_
 refine at_region hS rfl (by kernel_rfl) ?_
 refine s_op (a_mv e0) rfl ?_
 refine s_op (a_index (by simp (disch := omega) only [Zu, Nat.reduceEqDiff, ↓reduceIte, Zs, Int.reduceToNat, shr8_7'] <;> rfl)) rfl ?_
 refine s_op (a_bin (by simp (disch := omega) only [Zu, Nat.reduceEqDiff, ↓reduceIte, Zd, reduceCtorEq, shr_8, shr_16, shr_4, shr8_4, shr8_7, ne_eq, not_false_eq_true, Zs, Int.reduceToNat, shr8_7'] <;> rfl)) rfl ?_
 refine s_op (a_bin (by simp (disch := omega) only [Zu, Nat.reduceEqDiff, ↓reduceIte, Zd, reduceCtorEq, abin_eql, abin_aeql, ne_eq, not_false_eq_true, Zs, Int.reduceToNat, shr8_7'] <;> rfl)) rfl ?_
 refine s_as ?_
 refine s_end (fun s' hs' => ?_)
 have e2 := congrFun hs' 2
 simp only [Zu, Nat.reduceEqDiff, ↓reduceIte, newPtr, AMem.next_alloc] at e2
 clear hs'
 try clear e0
 refine o_norm ?_
 refine t_norm ?_
 refine at_ret rfl ?_
 refine bq_ret rfl (ars_cons (ar_tmp e2) ars_nil) ?_
 exact ⟨_, _, hK, Canon.forget rfl (fun _ _ => rfl)⟩
def sp93 : ASpec := spC 6
theorem f93_ok : Sound Try.prog 93 sp93 := by
 refine Sound.of_awp (c := bodyOf Try.f93) Try.func93 rfl rfl rfl ?_
 rintro args M K ⟨l, rfl, hll, hpre, hK⟩
 refine ⟨Nat.le_of_ble_eq_true rfl, ?_⟩
 have hS := SC_ok
 have e0 : entry [asString l] 0 = asString l := rfl
 obtain ⟨z0, z1⟩ := byteAt_bound l 0
 have p0 : ¬ (l.length : Int) < 20 := of_decide_eq_false (hpre 0 (by omega))
 have p1 : byteAt l 0 / 16 = 4 ∧ ¬ (4 * (byteAt l 0 % 16) < 20) := by have := hpre 1 (by omega); simp only [chk, Bool.or_eq_false_iff, Zh] at this; exact this
 have p2 : ¬ ((l.length : Int) < 4 * (byteAt l 0 % 16)) := of_decide_eq_false (hpre 2 (by omega))
 obtain ⟨a0, a1⟩ := numF_bound (part l 2 4) (part_length (by omega))
 obtain ⟨w0, w1⟩ := byteAt_bound l 6
 simp only [chk] at hK
 refine at_seq rfl ?_
 refine at_region hS rfl (by kernel_rfl) ?_
 refine s_op (a_as (by simp only [ev_const] <;> rfl)) rfl ?_
 refine s_end (fun s' hs' => ?_)
 replace e0 := kp 0 hs' e0
 clear hs'
 refine o_norm ?_
 refine t_norm ?_
 refine at_seq rfl ?_
 refine at_region hS rfl (by kernel_rfl) ?_
 refine s_op (a_mv e0) rfl ?_
 refine s_call (by simp only [Zu, Nat.reduceEqDiff, ↓reduceIte, Zs, Int.reduceToNat, hlenS, newPtr, AMem.next_alloc] <;> rfl) (by simp only [Zu, Nat.reduceEqDiff, ↓reduceIte, Zm, Zs, Int.reduceToNat, hlenS, newPtr, AMem.next_alloc] <;> rfl) ?_
 rw [SC_73]; refine ⟨_, rfl, hll, by omega, ?_⟩
 show EA _ _ _ _ _ _
 refine s_op (a_mv e0) rfl ?_
 refine s_call (by simp only [Zu, Nat.reduceEqDiff, ↓reduceIte, Zs, Int.reduceToNat, hlenS, newPtr, AMem.next_alloc] <;> rfl) (by simp only [Zu, Nat.reduceEqDiff, ↓reduceIte, Zm, Zs, Int.reduceToNat, hlenS, newPtr, AMem.next_alloc] <;> rfl) ?_
 rw [SC_72]; refine ⟨_, rfl, hll, by omega, ?_⟩
 show EA _ _ _ _ _ _
 refine s_op (a_bin (by simp (disch := omega) only [Zu, Nat.reduceEqDiff, ↓reduceIte, Zd, reduceCtorEq, abin_sub, wrap_i64, wrap_u32, wrap_u8, wrap_u64, wrap_i32, wrap_u16, ne_eq, not_false_eq_true, Zs, Int.reduceToNat] <;> rfl)) rfl ?_
 refine s_op (a_bin (by simp (disch := omega) only [Zu, Nat.reduceEqDiff, ↓reduceIte, Zd, reduceCtorEq, abin_gtr, ne_eq, not_false_eq_true, Zs, Int.reduceToNat] <;> rfl)) rfl ?_
 refine s_as ?_
 refine s_end (fun s' hs' => ?_)
 have e2 := congrFun hs' 2
 simp only [Zu, Nat.reduceEqDiff, ↓reduceIte, newPtr, AMem.next_alloc] at e2
 clear hs'
 try clear e0
 refine o_norm ?_
 refine t_norm ?_
 refine at_ret rfl ?_
 refine bq_ret rfl (ars_cons (ar_tmp e2) ars_nil) ?_
 exact ⟨_, _, hK, Canon.forget rfl (fun _ _ => rfl)⟩
def sp94 : ASpec := spC 7
theorem f94_ok : Sound Try.prog 94 sp94 := by
 refine Sound.of_awp (c := bodyOf Try.f94) Try.func94 rfl rfl rfl ?_
 rintro args M K ⟨l, rfl, hll, hpre, hK⟩
 refine ⟨Nat.le_of_ble_eq_true rfl, ?_⟩
 have hS := SC_ok
 have e0 : entry [asString l] 0 = asString l := rfl
 obtain ⟨z0, z1⟩ := byteAt_bound l 0
 have p0 : ¬ (l.length : Int) < 20 := of_decide_eq_false (hpre 0 (by omega))
 have p1 : byteAt l 0 / 16 = 4 ∧ ¬ (4 * (byteAt l 0 % 16) < 20) := by have := hpre 1 (by omega); simp only [chk, Bool.or_eq_false_iff, Zh] at this; exact this
 have p2 : ¬ ((l.length : Int) < 4 * (byteAt l 0 % 16)) := of_decide_eq_false (hpre 2 (by omega))
 obtain ⟨a0, a1⟩ := numF_bound (part l 2 4) (part_length (by omega))
 obtain ⟨w0, w1⟩ := byteAt_bound l 6
 simp only [chk] at hK
 refine at_seq rfl ?_
 refine at_region hS rfl (by kernel_rfl) ?_
 refine s_op (a_as (by simp only [ev_const] <;> rfl)) rfl ?_
 refine s_end (fun s' hs' => ?_)
 replace e0 := kp 0 hs' e0
 clear hs'
 refine o_norm ?_
 refine t_norm ?_
 refine at_seq rfl ?_
 refine at_region hS rfl (by kernel_rfl) ?_
 refine s_op (a_mv e0) rfl ?_
 refine s_op (a_mv e0) rfl ?_
 refine s_call (by simp only [Zu, Nat.reduceEqDiff, ↓reduceIte, Zs, Int.reduceToNat, hlenS, newPtr, AMem.next_alloc] <;> rfl) (by simp only [Zu, Nat.reduceEqDiff, ↓reduceIte, Zm, Zs, Int.reduceToNat, hlenS, newPtr, AMem.next_alloc] <;> rfl) ?_
 rw [SC_72]; refine ⟨_, rfl, hll, by omega, ?_⟩
 show EA _ _ _ _ _ _
 refine s_op (a_slice (by simp (disch := omega) only [Zu, Nat.reduceEqDiff, ↓reduceIte, Zs, Int.reduceToNat] <;> rfl)) rfl ?_
 refine s_op (a_bslice (by simp only [Zu, Nat.reduceEqDiff, ↓reduceIte, Zm, Array.toList, Zs, Int.reduceToNat, newPtr, AMem.next_alloc]; exact abuildSlice_all [_] rfl rfl rfl rfl rfl (by decide) (by decide) rfl (by simp only [List.mem_cons, List.not_mem_nil, or_false, forall_eq_or_imp, forall_eq]; repeat' (first | rfl | apply And.intro)))) rfl ?_
 refine s_call (by simp only [Zu, Nat.reduceEqDiff, ↓reduceIte, Zs, Int.reduceToNat, hlenS, newPtr, AMem.next_alloc] <;> rfl) (by simp only [Zu, Nat.reduceEqDiff, ↓reduceIte, Zm, Zs, Int.reduceToNat, hlenS, newPtr, AMem.next_alloc] <;> rfl) ?_
 rw [SC_95]; refine ⟨_, [part l 0 (4 * (byteAt l 0 % 16)).toNat], rfl, ⟨rfl, .inr ⟨_, 0, _, _, rfl, by simp, get_new, Nat.le_refl _, rfl⟩⟩, ⟨by simp [part_length (show (4 * (byteAt l 0 % 16)).toNat ≤ l.length by omega)]; omega, by simp⟩, ?_⟩
 show EA _ _ _ _ _ _
 refine s_op (a_bin (by simp (disch := omega) only [Zu, Nat.reduceEqDiff, ↓reduceIte, Zd, reduceCtorEq, abin_neq, abin_aneq, ne_eq, not_false_eq_true, Zs, Int.reduceToNat] <;> rfl)) rfl ?_
 refine s_as ?_
 refine s_end (fun s' hs' => ?_)
 have e2 := congrFun hs' 2
 simp only [Zu, Nat.reduceEqDiff, ↓reduceIte, newPtr, AMem.next_alloc] at e2
 clear hs'
 try clear e0
 refine o_norm ?_
 refine q_mem (fun M1 hEM1 => ?_)
 have hnM1 := congrArg AMem.next hEM1; simp only [Zn, Nat.add_assoc, Nat.reduceAdd] at hnM1
 have hnxM1 : M.next ≤ M1.next := by have := (Nat.le_refl M.next); omega
 have holdM1 : ∀ j, j < M.next → M1.get j = M.get j := fun j hj => by have := (Nat.le_refl M.next); rw [hEM1]; simp (disch := first | (refine Zx ?_; simp only [Zn]; done) | ((try simp only [Zn]); omega)) only [Zg]; done
 have gM1_0 := congrArg (fun m => AMem.get m M.next) hEM1; try simp (disch := first | (refine Zx ?_; simp only [Zn]; done) | ((try simp only [Zn]); omega)) only [Zg, Nat.add_assoc, Nat.reduceAdd] at gM1_0
 clear hEM1
 refine t_norm ?_
 refine at_ret rfl ?_
 rw [show [part l 0 (4 * (byteAt l 0 % 16)).toNat].flatten = part l 0 (4 * (byteAt l 0 % 16)).toNat from by simp] at e2
 refine bq_ret rfl (ars_cons (ar_tmp e2) ars_nil) ?_
 exact ⟨_, _, hK, Canon.forget rfl holdM1⟩
end Go.Proofs.Ytdkdkpiemigfkaa
set_option linter.unusedVariables false
set_option linter.unusedSimpArgs false
set_option maxRecDepth 8000
namespace Go.Proofs.Ytdkdkpiemigfkaa
open Go Go.Proofs
def chkE (j : Nat) : Int := ([2, 3, 2, 3, 2, 3, 5, 4] : List Int).getD j 0
def chkFn (f : Nat) : Value := .func (.func f) #[] #[]
def chkCells : List Value := [chkFn 87, .int .i64 2, chkFn 88, .int .i64 3, chkFn 89, .int .i64 2, chkFn 90, .int .i64 3, chkFn 91, .int .i64 2, chkFn 92, .int .i64 3, chkFn 93, .int .i64 5, chkFn 94, .int .i64 4]
def sp71 : ASpec := fun args M K => args = [] ∧ K (.ret (.slice (some ⟨M.next, 0, none⟩) 8 2)) (M.alloc (.cells chkCells true))
theorem bd119 (f : Nat) (e : Int) : abuild Try.prog 119 [(0, .func (.func f) #[] #[]), (1, .int .i64 e)] = some [.func (.func f) #[] #[], .int .i64 e] :=
  abuild_all (i := _) (z := _) [1, 1] [.func (.func f) #[] #[], .int .i64 e] Try.underlying119 (by rfl) rfl (by kernel_rfl) (by kernel_rfl) (by kernel_rfl) rfl
theorem f71_ok : Sound Try.prog 71 sp71 := by
 refine Sound.of_awp (c := bodyOf Try.f71) Try.func71 rfl rfl rfl ?_
 rintro args M K ⟨rfl, hK⟩
 refine ⟨Nat.le_of_ble_eq_true rfl, ?_⟩
 have hS := noS_ok Try.prog
 refine at_seq rfl ?_
 refine at_region hS rfl (by kernel_rfl) ?_
 refine s_op (a_as (by simp only [ev_const] <;> rfl)) rfl ?_
 refine s_end (fun s' hs' => ?_)
 clear hs'
 refine o_norm ?_
 refine t_norm ?_
 refine at_seq rfl ?_
 refine at_region hS rfl (by kernel_rfl) ?_
 refine s_op (a_build (by simp only [Zu, Zm, Array.toList, bd119, newPtr, AMem.next_alloc] <;> rfl)) rfl ?_
 refine s_op (a_build (by simp only [Zu, Zm, Array.toList, bd119, newPtr, AMem.next_alloc] <;> rfl)) rfl ?_
 refine s_op (a_build (by simp only [Zu, Zm, Array.toList, bd119, newPtr, AMem.next_alloc] <;> rfl)) rfl ?_
 refine s_op (a_build (by simp only [Zu, Zm, Array.toList, bd119, newPtr, AMem.next_alloc] <;> rfl)) rfl ?_
 refine s_op (a_build (by simp only [Zu, Zm, Array.toList, bd119, newPtr, AMem.next_alloc] <;> rfl)) rfl ?_
 refine s_op (a_build (by simp only [Zu, Zm, Array.toList, bd119, newPtr, AMem.next_alloc] <;> rfl)) rfl ?_
 refine s_op (a_build (by simp only [Zu, Zm, Array.toList, bd119, newPtr, AMem.next_alloc] <;> rfl)) rfl ?_
 refine s_op (a_build (by simp only [Zu, Zm, Array.toList, bd119, newPtr, AMem.next_alloc] <;> rfl)) rfl ?_
 refine s_op (a_bslice (by simp only [Zu, Nat.reduceEqDiff, ↓reduceIte, Zm, Array.toList, bd119, newPtr, AMem.next_alloc]; exact abuildSlice_all [_, _, _, _, _, _, _, _] rfl rfl rfl rfl rfl (by decide) (by decide) rfl (by simp only [List.mem_cons, List.not_mem_nil, or_false, forall_eq_or_imp, forall_eq]; repeat' (first | rfl | apply And.intro)))) rfl ?_
 refine s_as ?_
 refine s_end (fun s' hs' => ?_)
 have e0 := congrFun hs' 0
 simp only [Zu, Nat.reduceEqDiff, ↓reduceIte, newPtr, AMem.next_alloc] at e0
 clear hs'
 refine o_norm ?_
 refine t_norm ?_
 refine at_ret rfl ?_
 refine bq_ret rfl (ars_cons (ar_tmp e0) ars_nil) ?_
 exact ⟨_, _, hK, Canon.refl (by simp)⟩
theorem ld117 (cs : List Value) (off : Nat) : aload Try.prog 117 cs off = cs[off]? := aload_one Try.underlying117 rfl rfl cs off
theorem z119 : azero Try.prog 119 = some [.nilFunc, .int .i64 0] := by kernel_rfl
theorem st119 (f : Nat) (e : Int) : astore Try.prog 119 [.nilFunc, .int .i64 0] 0 (.agg #[.func (.func f) #[] #[], .int .i64 e]) = some [.func (.func f) #[] #[], .int .i64 e] := astore_whole (i := _) (vs := [.func (.func f) #[] #[], .int .i64 e]) (by rfl) rfl rfl rfl
theorem fa119_0 (id off : Nat) : afieldAddr Try.prog 119 (.pointer (some ⟨id, off, none⟩)) 0 = some (.pointer (some ⟨id, off, none⟩)) := by kernel_rfl
theorem fa119_1 (id off : Nat) : afieldAddr Try.prog 119 (.pointer (some ⟨id, off, none⟩)) 1 = some (.pointer (some ⟨id, off + 1, none⟩)) := by kernel_rfl
theorem aia_119 {id off len : Nat} {j : Int} {k : IntKind} (h0 : 0 ≤ j) (h1 : j < len) : aindexAddr Try.prog 115 (.slice (some ⟨id, off, none⟩) len 2) (.int k j) = some (.pointer (some ⟨id, off + j.toNat * 2, none⟩)) := by
  have hi : ∃ i, Try.prog.info? 119 = some i ∧ i.size = 2 := ⟨_, rfl, rfl⟩
  obtain ⟨i, hi1, hi2⟩ := hi
  simp only [aindexAddr, Try.underlying115, hi1, hi2, h0, h1, and_self, if_true]
theorem chk_ld' {off : Nat} (h : off + 2 ≤ chkCells.length) : aload Try.prog 119 chkCells off = some (.agg ((chkCells.drop off).take 2).toArray) := aload_agg (i := _) Try.underlying119 (by rfl) rfl rfl h
theorem chk_ld : ∀ j : Nat, j < 8 → aload Try.prog 119 chkCells (j * 2) = some (.agg #[.func (.func (87 + j)) #[] #[], .int .i64 (chkE j)]) := by
  intro j hj
  rcases (by omega : j = 0 ∨ j = 1 ∨ j = 2 ∨ j = 3 ∨ j = 4 ∨ j = 5 ∨ j = 6 ∨ j = 7) with h | h | h | h | h | h | h | h <;> subst h <;>
    (rw [chk_ld' (by decide)]; rfl)
noncomputable def S57t (f : Nat) : ASpec := if 87 ≤ f ∧ f < 95 then spC (f - 87) else tab [(70, sp70), (71, sp71), (72, sp72), (73, sp73)] f
noncomputable def S57 : FuncId → ASpec := S57t
theorem S57_70 : S57 70 = sp70 := rfl
theorem S57_71 : S57 71 = sp71 := rfl
theorem S57_72 : S57 72 = sp72 := rfl
theorem S57_73 : S57 73 = sp73 := rfl
theorem S57_c {j : Nat} (h : j < 8) : S57 (87 + j) = spC j := by
  show S57t (87 + j) = _
  unfold S57t
  rw [if_pos ⟨by omega, by omega⟩, show 87 + j - 87 = j from by omega]
theorem S57_ok : ∀ f, Sound Try.prog f (S57 f) := by
  intro (f : Nat)
  show Sound Try.prog f (S57t f)
  unfold S57t
  split
  · rename_i h
    rcases (by omega : f = 87 ∨ f = 88 ∨ f = 89 ∨ f = 90 ∨ f = 91 ∨ f = 92 ∨ f = 93 ∨ f = 94) with h | h | h | h | h | h | h | h <;> subst h
    · exact f87_ok
    · exact f88_ok
    · exact f89_ok
    · exact f90_ok
    · exact f91_ok
    · exact f92_ok
    · exact f93_ok
    · exact f94_ok
  · exact tab_sound _ (by simp [f70_ok, f71_ok, f72_ok, f73_ok]) f
theorem numF_two (l : List UInt8) (h : 8 ≤ l.length) : numF (part l 6 8) = byteAt l 6 * 256 + byteAt l 7 := by
  have e : part l 6 8 = [l.getD 6 0, l.getD 7 0] := by
    unfold part
    have h6 : l.drop 6 = l[6] :: l[7] :: l.drop 8 := by rw [List.drop_eq_getElem_cons (by omega), List.drop_eq_getElem_cons (by omega)]
    rw [h6, show l.getD 6 0 = l[6] from by simp [show 6 < l.length from by omega], show l.getD 7 0 = l[7] from by simp [show 7 < l.length from by omega]]
    rfl
  rw [e]
  unfold numF byteAt
  simp [numGo]
theorem ipGetF_hit {l : List UInt8} {j : Nat} (hj : j < 8) (hpre : ∀ i, i < j → chk i l = false) (h : chk j l = true) : ipGetF l = (ip0, [], chkE j) := by
  have c : ∀ i, i < j → chk i l = false := hpre
  have hp0 : part l 0 (4 * (byteAt l 0 % 16)).toNat = l.take (4 * (byteAt l 0 % 16)).toNat := by simp [part]
  have d5 : 8 ≤ l.length → (32768 ≤ numF (part l 6 8) ↔ byteAt l 6 / 128 = 1) := by
    intro h8
    rw [numF_two l h8]
    have := byteAt_bound l 6; have := byteAt_bound l 7
    omega
  rcases (by omega : j = 0 ∨ j = 1 ∨ j = 2 ∨ j = 3 ∨ j = 4 ∨ j = 5 ∨ j = 6 ∨ j = 7) with h' | h' | h' | h' | h' | h' | h' | h' <;> subst h'
  all_goals (try have c0 := c 0 (by omega)); (try have c1 := c 1 (by omega)); (try have c2 := c 2 (by omega)); (try have c3 := c 3 (by omega)); (try have c4 := c 4 (by omega)); (try have c5 := c 5 (by omega)); (try have c6 := c 6 (by omega))
  all_goals clear c hpre
  all_goals simp only [chk, Bool.or_eq_false_iff, Bool.or_eq_true, Zh] at *
  all_goals unfold ipGetF
  · rw [if_pos (by omega)]; rfl
  · rw [if_neg (by omega), if_pos (by omega)]; rfl
  · rw [if_neg (by omega), if_neg (by omega), if_pos (by omega)]; rfl
  · rw [if_neg (by omega), if_neg (by omega), if_neg (by omega), if_pos (by omega)]; rfl
  · rw [if_neg (by omega), if_neg (by omega), if_neg (by omega), if_neg (by omega), if_pos (by omega)]; rfl
  · have := d5 (by omega)
    rw [if_neg (by omega), if_neg (by omega), if_neg (by omega), if_neg (by omega), if_neg (by omega), if_pos (by omega)]; rfl
  · have := d5 (by omega)
    rw [if_neg (by omega), if_neg (by omega), if_neg (by omega), if_neg (by omega), if_neg (by omega), if_neg (by omega), if_pos (by omega)]; rfl
  · have := d5 (by omega)
    rw [if_neg (by omega), if_neg (by omega), if_neg (by omega), if_neg (by omega), if_neg (by omega), if_neg (by omega), if_neg (by omega), if_pos (by rw [← hp0]; exact h)]; rfl
theorem ipGetF_all {l : List UInt8} (c : ∀ i, i < 8 → chk i l = false) : (20 ≤ l.length ∧ 20 ≤ 4 * (byteAt l 0 % 16) ∧ 4 * (byteAt l 0 % 16) ≤ l.length ∧ 4 * (byteAt l 0 % 16) ≤ numF (part l 2 4) ∧ numF (part l 2 4) ≤ l.length) ∧
    ipGetF l = (ipHead l, part l (4 * (byteAt l 0 % 16)).toNat (numF (part l 2 4)).toNat, 0) := by
  have hp0 : part l 0 (4 * (byteAt l 0 % 16)).toNat = l.take (4 * (byteAt l 0 % 16)).toNat := by simp [part]
  have d5 : 8 ≤ l.length → (32768 ≤ numF (part l 6 8) ↔ byteAt l 6 / 128 = 1) := by
    intro h8
    rw [numF_two l h8]
    have := byteAt_bound l 6; have := byteAt_bound l 7
    omega
  have c0 := c 0 (by omega)
  have c1 := c 1 (by omega)
  have c2 := c 2 (by omega)
  have c3 := c 3 (by omega)
  have c4 := c 4 (by omega)
  have c5 := c 5 (by omega)
  have c6 := c 6 (by omega)
  have c7 := c 7 (by omega)
  clear c
  simp only [chk, Bool.or_eq_false_iff, Bool.or_eq_true, Zh] at *
  have := d5 (by omega)
  refine ⟨by omega, ?_⟩
  unfold ipGetF
  rw [if_neg (by omega), if_neg (by omega), if_neg (by omega), if_neg (by omega), if_neg (by omega), if_neg (by omega), if_neg (by omega), if_neg (by rw [← hp0]; simp [c7])]
def sp57 : ASpec := fun args M K => ∃ l : List UInt8, args = [asString l] ∧ l.length ≤ 1000000000 ∧ K (.ret (retIP (ipGetF l))) M
set_option maxHeartbeats 2000000 in
theorem f57_ok : Sound Try.prog 57 sp57 := by
 refine Sound.of_awp (c := bodyOf Try.f57) Try.func57 rfl rfl rfl ?_
 rintro args M K ⟨l, rfl, hll, hK⟩
 refine ⟨Nat.le_of_ble_eq_true rfl, ?_⟩
 have hS := S57_ok
 have e0 : entry [asString l] 0 = asString l := rfl
 have hz : azero Try.prog 64 = some ip0.cells := z64
 have hb : abuild Try.prog 64 [] = some ip0.cells := b64
 have hst : ∀ h : IPh, astore Try.prog 64 ip0.cells 0 (.agg h.cells.toArray) = some h.cells := fun h => st64 _ _
 have hlen115 : ∀ (M : AMem) (a : Addr) (n e : Nat), alen Try.prog M 115 (.slice (some a) n e) = some (.int .i64 n) := fun M a n e => alen_slice Try.underlying115
 refine at_seq rfl ?_
 refine at_region hS rfl (by kernel_rfl) ?_
 refine s_op (a_alloc hz) rfl ?_
 refine s_op (a_as (by simp only [ev_const] <;> rfl)) rfl ?_
 refine s_op (a_as (by simp only [ev_const] <;> rfl)) rfl ?_
 refine s_end (fun s' hs' => ?_)
 replace e0 := kp 0 hs' e0
 have e2 := congrFun hs' 2
 simp only [Zu, Nat.reduceEqDiff, ↓reduceIte, newPtr, AMem.next_alloc] at e2
 clear hs'
 refine o_norm ?_
 refine q_mem (fun M1 hEM1 => ?_)
 have hnM1 := congrArg AMem.next hEM1; simp only [Zn, Nat.add_assoc, Nat.reduceAdd] at hnM1
 have hnxM1 : M.next ≤ M1.next := by have := (Nat.le_refl M.next); omega
 have holdM1 : ∀ j, j < M.next → M1.get j = M.get j := fun j hj => by have := (Nat.le_refl M.next); rw [hEM1]; simp (disch := first | (refine Zx ?_; simp only [Zn]; done) | ((try simp only [Zn]); omega)) only [Zg]; done
 have gM1_0 := congrArg (fun m => AMem.get m M.next) hEM1; try simp (disch := first | (refine Zx ?_; simp only [Zn]; done) | ((try simp only [Zn]); omega)) only [Zg, Nat.add_assoc, Nat.reduceAdd] at gM1_0
 clear hEM1
 refine t_norm ?_
 refine at_seq rfl ?_
 refine at_seq rfl ?_
 refine at_region hS rfl (by kernel_rfl) ?_
 refine s_call (by simp only [ev_func, hlen115, newPtr, AMem.next_alloc, gM1_0] <;> rfl) (by simp only [ev_func, Zm, hlen115, newPtr, AMem.next_alloc, gM1_0] <;> rfl) ?_
 rw [S57_71]; refine ⟨rfl, ?_⟩
 show EA _ _ _ _ _ _
 refine s_op (a_len (by simp (disch := omega) only [Zu, Nat.reduceEqDiff, ↓reduceIte, alen_str, hlen115, newPtr, AMem.next_alloc, gM1_0] <;> rfl)) rfl ?_
 refine s_op (a_mv (by simp only [ev_const] <;> rfl)) rfl ?_
 refine s_end (fun s' hs' => ?_)
 replace e0 := kp 0 hs' e0
 replace e2 := kp 2 hs' e2
 have e9 := congrFun hs' 9
 have e10 := congrFun hs' 10
 have e11 := congrFun hs' 11
 simp only [Zu, Nat.reduceEqDiff, ↓reduceIte, newPtr, AMem.next_alloc] at e9 e10 e11
 clear hs'
 refine o_norm ?_
 refine q_mem (fun M2 hEM2 => ?_)
 have hnM2 := congrArg AMem.next hEM2; simp only [Zn, Nat.add_assoc, Nat.reduceAdd] at hnM2
 have hnxM2 : M.next ≤ M2.next := by have := hnxM1; omega
 have holdM2 : ∀ j, j < M.next → M2.get j = M.get j := fun j hj => by have := hnxM1; rw [hEM2]; simp (disch := first | (refine Zx ?_; simp only [Zn]; done) | ((try simp only [Zn]); omega)) only [Zg]; exact holdM1 j hj
 have gM2_0 := congrArg (fun m => AMem.get m M.next) hEM2; try simp (disch := first | (refine Zx ?_; simp only [Zn]; done) | ((try simp only [Zn]); omega)) only [Zg, Nat.add_assoc, Nat.reduceAdd, gM1_0] at gM2_0
 have gM2_1 := congrArg (fun m => AMem.get m M1.next) hEM2; try simp (disch := first | (refine Zx ?_; simp only [Zn]; done) | ((try simp only [Zn]); omega)) only [Zg, Nat.add_assoc, Nat.reduceAdd, gM1_0] at gM2_1
 clear hEM2
 refine t_norm ?_
 refine at_block rfl ?_
 refine at_loop rfl (fun km s ML ds => ∃ (j : Nat), s 0 = asString l ∧ s 2 = .pointer (some ⟨M.next, 0, none⟩) ∧ s 9 = .slice (some ⟨M1.next, 0, none⟩) 8 2 ∧ s 10 = .int .i64 8 ∧ s 11 = .int .i64 j ∧ j ≤ 8 ∧ (∀ i, i < j → chk i l = false) ∧ ML.get M.next = .cells ip0.cells true ∧ ML.get M1.next = .cells chkCells true ∧ km = 8 - j ∧ M.next ≤ ML.next ∧ M2.next ≤ ML.next ∧ (∀ j, j < M.next → ML.get j = M.get j) ∧ ds = []) (8 - (0)) ⟨0, (by first | exact e0 | (rw [e0]; rfl) | (simpa using e0)), (by first | exact e2 | (rw [e2]; rfl) | (simpa using e2)), (by first | exact e9 | (rw [e9]; rfl) | (simpa using e9)), (by first | exact e10 | (rw [e10]; rfl) | (simpa using e10)), (by first | exact e11 | (rw [e11]; rfl) | (simpa using e11)), (by omega), (by intro i hi; omega), gM2_0, gM2_1, rfl, hnxM2, by omega, holdM2, rfl⟩ ?_
 clear e0 e2 e9 e10 e11
 rintro km s M3 ds ⟨j, e0, e2, e9, e10, e11, hj, hpre, g0, g1, hk, hnxM3, hngM3, holdM3, rfl⟩
 refine at_seq rfl ?_
 refine at_region hS rfl (by kernel_rfl) ?_
 refine s_op (a_bin (by simp (disch := omega) only [Zu, Nat.reduceEqDiff, ↓reduceIte, Zd, reduceCtorEq, abin_lss, ne_eq, not_false_eq_true, g0, g1, e10, e11] <;> rfl)) rfl ?_
 refine s_end (fun s' hs' => ?_)
 replace e0 := kp 0 hs' e0
 replace e2 := kp 2 hs' e2
 replace e9 := kp 9 hs' e9
 replace e10 := kp 10 hs' e10
 replace e11 := kp 11 hs' e11
 have e12 := congrFun hs' 12
 simp only [Zu, Nat.reduceEqDiff, ↓reduceIte, newPtr, AMem.next_alloc] at e12
 clear hs'
 refine o_norm ?_
 refine t_norm ?_
 refine at_seq rfl ?_
 refine at_cond rfl rfl e12 (fun h2 => ?_) (fun h2 => ?_)
 ·
  try simp only [Zh] at h2
  refine at_skip rfl ?_
  refine t_norm ?_
  refine at_seq rfl ?_
  refine at_block rfl ?_
  refine at_seq rfl ?_
  have hj8 : j < 8 := by omega
  have hld := chk_ld j hj8
  have hno : M1.next ≠ M.next := by omega
  refine at_region hS rfl (by kernel_rfl) ?_
  refine s_op (a_ia (by simp (disch := omega) only [Zu, Nat.reduceEqDiff, ↓reduceIte, aia_119, Int.toNat_natCast, Nat.zero_add, st119, newPtr, AMem.next_alloc, g0, g1, e9, e11] <;> rfl)) rfl ?_
  refine s_op (a_load (by simp only [Zu, Nat.reduceEqDiff, ↓reduceIte, aia_119, Nat.zero_add, hld, st119, newPtr, AMem.next_alloc, g0, g1] <;> rfl) (by simp (disch := first | (refine Zx ?_; simp only [Zn]; done) | ((try simp only [Zn]); omega)) only [Zg, aia_119, Nat.zero_add, hld, st119, newPtr, g0, g1] <;> rfl) (by simp only [aia_119, Nat.zero_add, hld, st119, newPtr, AMem.next_alloc, g0, g1] <;> rfl)) rfl ?_
  refine s_op (a_alloc z119) rfl ?_
  refine s_op (a_store (by simp only [Zu, Nat.reduceEqDiff, ↓reduceIte, aia_119, Nat.zero_add, st119, newPtr, AMem.next_alloc, g0, g1] <;> rfl) (by simp (disch := first | (refine Zx ?_; simp only [Zn]; done) | ((try simp only [Zn]); omega)) only [Zg, aia_119, Nat.zero_add, st119, newPtr, g0, g1] <;> rfl) (by simp only [Zu, Nat.reduceEqDiff, ↓reduceIte, aia_119, Nat.zero_add, st119, newPtr, AMem.next_alloc, g0, g1] <;> rfl) (by simp only [aia_119, Nat.zero_add, st119, newPtr, AMem.next_alloc, g0, g1] <;> rfl)) rfl ?_
  refine s_end (fun s' hs' => ?_)
  replace e0 := kp 0 hs' e0
  replace e2 := kp 2 hs' e2
  have e6 := congrFun hs' 6
  replace e9 := kp 9 hs' e9
  replace e10 := kp 10 hs' e10
  replace e11 := kp 11 hs' e11
  simp only [Zu, Nat.reduceEqDiff, ↓reduceIte, newPtr, AMem.next_alloc] at e6
  clear hs'
  refine o_norm ?_
  refine q_mem (fun M4 hEM4 => ?_)
  have hnM4 := congrArg AMem.next hEM4; simp only [Zn, Nat.add_assoc, Nat.reduceAdd] at hnM4
  have hnxM4 : M.next ≤ M4.next := by have := hnxM3; omega
  have holdM4 : ∀ j, j < M.next → M4.get j = M.get j := fun j hj => by have := hnxM3; rw [hEM4]; simp (disch := first | (refine Zx ?_; simp only [Zn]; done) | ((try simp only [Zn]); omega)) only [Zg]; exact holdM3 j hj
  have gM4_0 := congrArg (fun m => AMem.get m M.next) hEM4; try simp (disch := first | (refine Zx ?_; simp only [Zn]; done) | ((try simp only [Zn]); omega)) only [Zg, Nat.add_assoc, Nat.reduceAdd, g0, g1] at gM4_0
  have gM4_1 := congrArg (fun m => AMem.get m M1.next) hEM4; try simp (disch := first | (refine Zx ?_; simp only [Zn]; done) | ((try simp only [Zn]); omega)) only [Zg, Nat.add_assoc, Nat.reduceAdd, g0, g1] at gM4_1
  have gM4_2 := congrArg (fun m => AMem.get m M3.next) hEM4; try simp (disch := first | (refine Zx ?_; simp only [Zn]; done) | ((try simp only [Zn]); omega)) only [Zg, Nat.add_assoc, Nat.reduceAdd, g0, g1] at gM4_2
  clear hEM4
  refine t_norm ?_
  refine at_seq rfl ?_
  refine at_region hS rfl (by kernel_rfl) ?_
  refine s_op (a_fa (by simp only [Zu, Nat.reduceEqDiff, ↓reduceIte, fa119_0, Nat.zero_add, List.getElem?_cons_zero, newPtr, AMem.next_alloc, e6] <;> rfl)) rfl ?_
  refine s_op (a_load (by simp only [Zu, Nat.reduceEqDiff, ↓reduceIte, ld117, List.getElem?_cons_zero, newPtr, AMem.next_alloc, gM4_0, gM4_1, gM4_2] <;> rfl) (by simp (disch := first | (refine Zx ?_; simp only [Zn]; done) | ((try simp only [Zn]); omega)) only [Zg, ld117, List.getElem?_cons_zero, newPtr, gM4_0, gM4_1, gM4_2] <;> rfl) (by simp only [ld117, List.getElem?_cons_zero, newPtr, AMem.next_alloc, gM4_0, gM4_1, gM4_2] <;> rfl)) rfl ?_
  refine s_op (a_mv e0) rfl ?_
  refine s_call (by simp only [Zu, Nat.reduceEqDiff, ↓reduceIte, List.getElem?_cons_zero, newPtr, AMem.next_alloc, gM4_0, gM4_1, gM4_2] <;> rfl) (by simp only [Zu, Nat.reduceEqDiff, ↓reduceIte, Zm, List.getElem?_cons_zero, newPtr, AMem.next_alloc, gM4_0, gM4_1, gM4_2] <;> rfl) ?_
  rw [S57_c hj8]; refine ⟨l, rfl, hll, hpre, ?_⟩
  show EA _ _ _ _ _ _
  refine s_end (fun s' hs' => ?_)
  replace e0 := kp 0 hs' e0
  replace e2 := kp 2 hs' e2
  replace e6 := kp 6 hs' e6
  replace e9 := kp 9 hs' e9
  replace e10 := kp 10 hs' e10
  replace e11 := kp 11 hs' e11
  have e18 := congrFun hs' 18
  simp only [Zu, Nat.reduceEqDiff, ↓reduceIte, newPtr, AMem.next_alloc] at e18
  clear hs'
  refine o_norm ?_
  refine t_norm ?_
  refine at_cond rfl rfl e18 (fun h4 => ?_) (fun h4 => ?_)
  ·
   try simp only [Zh] at h4
   refine at_seq rfl ?_
   refine at_draw ⟨[[], [], [1], [0], [0, 3], [0, 1, 2, 3, 4]], [0, 1, 2], [(3, [4, 5])]⟩ hS rfl rfl (by kernel_rfl) (by kernel_rfl) ?_
   refine d_start ?_
   refine l_op rfl rfl (a_build (by simp only [Zm, Array.toList, hb, hst, newPtr, AMem.next_alloc] <;> rfl)) rfl ?_ rfl
   refine l_op rfl rfl (a_fa (by simp only [Zu, Nat.reduceEqDiff, ↓reduceIte, fa119_1, Nat.zero_add, hb, hst, newPtr, AMem.next_alloc, e6] <;> rfl)) rfl ?_ rfl
   refine l_op rfl rfl (a_load (by simp only [Zu, Nat.reduceEqDiff, ↓reduceIte, hb, ld29, hst, newPtr, AMem.next_alloc, gM4_0, gM4_1, gM4_2] <;> rfl) (by simp (disch := first | (refine Zx ?_; simp only [Zn]; done) | ((try simp only [Zn]); omega)) only [Zg, hb, ld29, hst, newPtr, gM4_0, gM4_1, gM4_2] <;> rfl) (by simp only [ld29, Zl, hb, hst, newPtr, AMem.next_alloc, gM4_0, gM4_1, gM4_2] <;> rfl)) rfl ?_ rfl
   refine l_nil ?_
   refine h_op ?_ rfl rfl rfl ?_
   · refine again_l rfl rfl (a_load (by simp only [Zu, Nat.reduceEqDiff, ↓reduceIte, hb, ld29, hst, newPtr, AMem.next_alloc, gM4_0, gM4_1, gM4_2] <;> rfl) (by simp (disch := first | (refine Zx ?_; simp only [Zn]; done) | ((try simp only [Zn]); omega)) only [Zg, hb, ld29, hst, newPtr, gM4_0, gM4_1, gM4_2] <;> rfl) (by simp only [ld29, Zl, hb, hst, newPtr, AMem.next_alloc, gM4_0, gM4_1, gM4_2] <;> rfl)) ?_
     refine again_r rfl ?_
     refine again_r rfl ?_
     exact again_nil
   refine s_op (a_store e2 (by simp (disch := first | (refine Zx ?_; simp only [Zn]; done) | ((try simp only [Zn]); omega)) only [Zg, hb, hst, newPtr, gM4_0, gM4_1, gM4_2, e2] <;> rfl) (by simp only [Zu, Nat.reduceEqDiff, ↓reduceIte, hb, hst, newPtr, AMem.next_alloc, gM4_0, gM4_1, gM4_2, e2] <;> rfl) (by simp only [hb, hst, newPtr, AMem.next_alloc, gM4_0, gM4_1, gM4_2, e2] <;> rfl)) rfl ?_
   refine s_end (fun s' hs' => ?_); subst hs'
   refine l_op rfl rfl (a_as (by simp only [ev_const] <;> rfl)) rfl ?_ rfl
   refine l_op rfl rfl (a_as (by simp only [Zu, Nat.reduceEqDiff, ↓reduceIte] <;> rfl)) rfl ?_ rfl
   refine l_nil ?_
   refine h_end ?_ (fun s' hs' => ?_)
   · refine again_r rfl ?_
     refine again_r rfl ?_
     refine again_l rfl rfl (a_load (by simp only [Zu, Nat.reduceEqDiff, ↓reduceIte, hb, ld29, hst, newPtr, AMem.next_alloc, gM4_0, gM4_1, gM4_2] <;> rfl) (by simp (disch := first | (refine Zx ?_; simp only [Zn]; done) | ((try simp only [Zn]); omega)) only [Zg, hb, ld29, hst, newPtr, gM4_0, gM4_1, gM4_2] <;> rfl) (by simp only [ld29, Zl, hb, hst, newPtr, AMem.next_alloc, gM4_0, gM4_1, gM4_2] <;> rfl)) ?_
     refine again_r rfl ?_
     exact again_nil
   replace e2 := kp 2 hs' e2
   have e3 := congrFun hs' 3
   have e4 := congrFun hs' 4
   simp only [Zu, Nat.reduceEqDiff, ↓reduceIte, newPtr, AMem.next_alloc] at e3 e4
   clear hs'
   try clear e6
   refine o_norm ?_
   refine q_mem (fun M5 hEM5 => ?_)
   have hnM5 := congrArg AMem.next hEM5; simp only [Zn, Nat.add_assoc, Nat.reduceAdd] at hnM5
   have hnxM5 : M.next ≤ M5.next := by have := hnxM4; omega
   have holdM5 : ∀ j, j < M.next → M5.get j = M.get j := fun j hj => by have := hnxM4; rw [hEM5]; simp (disch := first | (refine Zx ?_; simp only [Zn]; done) | ((try simp only [Zn]); omega)) only [Zg]; exact holdM4 j hj
   have gM5_0 := congrArg (fun m => AMem.get m M.next) hEM5; try simp (disch := first | (refine Zx ?_; simp only [Zn]; done) | ((try simp only [Zn]); omega)) only [Zg, Nat.add_assoc, Nat.reduceAdd, gM4_0, gM4_1, gM4_2] at gM5_0
   have gM5_1 := congrArg (fun m => AMem.get m M1.next) hEM5; try simp (disch := first | (refine Zx ?_; simp only [Zn]; done) | ((try simp only [Zn]); omega)) only [Zg, Nat.add_assoc, Nat.reduceAdd, gM4_0, gM4_1, gM4_2] at gM5_1
   have gM5_2 := congrArg (fun m => AMem.get m M3.next) hEM5; try simp (disch := first | (refine Zx ?_; simp only [Zn]; done) | ((try simp only [Zn]); omega)) only [Zg, Nat.add_assoc, Nat.reduceAdd, gM4_0, gM4_1, gM4_2] at gM5_2
   clear hEM5
   refine t_norm ?_
   refine at_ret rfl ?_
   refine b_ret ?_
   refine t_ret ?_
   refine t_ret ?_
   refine b_ret ?_
   refine t_ret ?_
   have hF := ipGetF_hit hj8 hpre h4
   rw [hF] at hK
   refine bq_ret rfl (ars_cons (ar_cell e2 gM5_0 (ld64 ip0)) (ars_cons (ar_tmp e3) (ars_cons (ar_tmp e4) ars_nil))) ?_
   exact ⟨_, _, hK, Canon.forget rfl holdM5⟩
  ·
   try simp only [Zh] at h4
   have hcj : chk j l = false := h4
   refine at_skip rfl ?_
   refine b_norm ?_
   refine t_norm ?_
   refine at_region hS rfl (by kernel_rfl) ?_
   refine s_op (a_bin (by simp (disch := ((try simp only [List.length_append, List.length_cons, List.length_nil]); omega)) only [Zu, Nat.reduceEqDiff, ↓reduceIte, Zd, reduceCtorEq, abin_add, abin_aadd, wrap_i64, wrap_u32, wrap_u8, wrap_u64, wrap_i32, wrap_u16, ne_eq, not_false_eq_true, e11] <;> rfl)) rfl ?_
   refine s_mv ?_
   refine s_end (fun s' hs' => ?_)
   replace e0 := kp 0 hs' e0
   replace e2 := kp 2 hs' e2
   replace e9 := kp 9 hs' e9
   replace e10 := kp 10 hs' e10
   replace e11 := congrFun hs' 11
   simp only [Zu, Nat.reduceEqDiff, ↓reduceIte, newPtr, AMem.next_alloc] at e11
   clear hs'
   refine o_norm ?_
   refine t_norm ?_
   exact ⟨8 - (j + 1), by omega, j + 1, (by first | exact e0 | (rw [e0]; rfl) | (rw [e0]; simp; done)), (by first | exact e2 | (rw [e2]; rfl) | (rw [e2]; simp; done)), (by first | exact e9 | (rw [e9]; rfl) | (rw [e9]; simp; done)), (by first | exact e10 | (rw [e10]; rfl) | (rw [e10]; simp; done)), (by first | exact e11 | (rw [e11]; rfl) | (rw [e11]; simp; done)), (by omega), (by intro i hi; rcases (by omega : i < j ∨ i = j) with h | h; exact hpre i h; subst h; exact hcj), gM4_0, gM4_1, rfl, hnxM4, by omega, holdM4, rfl⟩
 ·
  try simp only [Zh] at h2
  have hj8 : j = 8 := by omega
  subst hj8
  obtain ⟨⟨b0, b1, b2, b3, b4⟩, hF⟩ := ipGetF_all hpre
  rw [hF] at hK
  refine at_exit rfl ?_
  refine t_exit ?_
  refine t_exit ?_
  refine b_here ?_
  refine t_norm ?_
  refine at_seq rfl ?_
  refine at_region hS rfl (by kernel_rfl) ?_
  refine s_op (a_mv e0) rfl ?_
  refine s_op (a_slice (by simp (disch := omega) only [Zu, Nat.reduceEqDiff, ↓reduceIte, Zs, Int.reduceToNat, g0, g1] <;> rfl)) rfl ?_
  refine s_call (by simp only [Zu, Nat.reduceEqDiff, ↓reduceIte, Zs, Int.reduceToNat, newPtr, AMem.next_alloc, g0, g1] <;> rfl) (by simp only [Zu, Nat.reduceEqDiff, ↓reduceIte, Zm, Zs, Int.reduceToNat, newPtr, AMem.next_alloc, g0, g1] <;> rfl) ?_
  rw [S57_70]; refine ⟨_, rfl, by rw [part_length (by omega)]; omega, ?_⟩
  show EA _ _ _ _ _ _
  refine s_as ?_
  refine s_end (fun s' hs' => ?_)
  replace e0 := kp 0 hs' e0
  replace e2 := kp 2 hs' e2
  have e7 := congrFun hs' 7
  simp only [Zu, Nat.reduceEqDiff, ↓reduceIte, newPtr, AMem.next_alloc] at e7
  clear hs'
  refine o_norm ?_
  refine t_norm ?_
  refine at_seq rfl ?_
  obtain ⟨x0, x0'⟩ := byteAt_bound l 1
  obtain ⟨x1, x1'⟩ := byteAt_bound l 8
  obtain ⟨x2, x2'⟩ := byteAt_bound l 9
  obtain ⟨c0, c1⟩ := numF_bound (part l 6 8) (part_length (by omega))
  obtain ⟨m0, m1⟩ := numF_bound4 (part l 12 16) (part_length (by omega))
  obtain ⟨m2, m3⟩ := numF_bound4 (part l 16 20) (part_length (by omega))
  refine at_draw ⟨[[], [0], [0, 1], [], [3], [3, 4], [], [6], [6, 7], [], [9], [9, 10], [], [12], [12, 13], [], [15], [15, 16], [], [18], [18, 19], [], [21], [3, 4, 5, 21, 22], [3, 4, 5, 21, 22, 23], [], [25], [3, 4, 5, 21, 22, 23, 25, 26], [3, 4, 5, 21, 22, 23, 25, 26, 27], [], [], [3, 4, 5, 21, 22, 23, 25, 26, 27, 30], [3, 4, 5, 21, 22, 23, 25, 26, 27, 29, 30, 31], [0, 1, 2, 3, 4, 5, 6, 7, 8, 9, 10, 11, 12, 13, 14, 15, 16, 17, 18, 19, 20, 21, 22, 23, 24, 25, 26, 27, 28, 29, 30, 31, 32], [], [0, 1, 2, 3, 4, 5, 6, 7, 8, 9, 10, 11, 12, 13, 14, 15, 16, 17, 18, 19, 20, 21, 22, 23, 24, 25, 26, 27, 28, 29, 30, 31, 32, 33, 34]], [0, 1, 2, 3, 4, 6, 7, 8, 9, 10, 11, 12, 13, 14, 15, 16, 17, 18, 19, 20, 21, 22, 25, 26, 29, 30, 34], [(5, []), (23, [24]), (27, [28]), (31, [32, 33]), (35, [])]⟩ hS rfl rfl (by kernel_rfl) (by kernel_rfl) ?_
  refine d_start ?_
  refine l_op rfl rfl (a_mv e0) rfl ?_ rfl
  refine l_op rfl rfl (a_index (by simp (disch := omega) only [Zu, Nat.reduceEqDiff, ↓reduceIte, Zs, Int.reduceToNat, bd64v, hst, and_8191, g0, g1] <;> rfl)) rfl ?_ rfl
  refine l_op rfl rfl (a_convi (by simp only [Zu, Nat.reduceEqDiff, ↓reduceIte, Zs, Int.reduceToNat, bd64v, hst, and_8191, newPtr, AMem.next_alloc, g0, g1] <;> rfl) rfl rfl (by simp (disch := omega) only [wrap_i64]; try rfl)) rfl ?_ rfl
  refine l_op rfl rfl (a_mv e0) rfl ?_ rfl
  refine l_op rfl rfl (a_slice (by simp (disch := omega) only [Zu, Nat.reduceEqDiff, ↓reduceIte, Zs, Int.reduceToNat, bd64v, hst, and_8191, g0, g1] <;> rfl)) rfl ?_ rfl
  refine l_op rfl rfl (a_mv e7) rfl ?_ rfl
  refine l_op rfl rfl (a_bin (by simp (disch := omega) only [Zu, Nat.reduceEqDiff, ↓reduceIte, Zd, reduceCtorEq, abin_and, and_255, and_15, and_65535, and_8191, ne_eq, not_false_eq_true, Zs, Int.reduceToNat, bd64v, hst, g0, g1] <;> rfl)) rfl ?_ rfl
  refine l_op rfl rfl (a_bin (by simp (disch := omega) only [Zu, Nat.reduceEqDiff, ↓reduceIte, Zd, reduceCtorEq, abin_neq, abin_aneq, ne_eq, not_false_eq_true, Zs, Int.reduceToNat, bd64v, hst, and_8191, g0, g1] <;> rfl)) rfl ?_ rfl
  refine l_op rfl rfl (a_mv e7) rfl ?_ rfl
  refine l_op rfl rfl (a_bin (by simp (disch := omega) only [Zu, Nat.reduceEqDiff, ↓reduceIte, Zd, reduceCtorEq, abin_and, and_255, and_15, and_65535, and_8191, ne_eq, not_false_eq_true, Zs, Int.reduceToNat, bd64v, hst, g0, g1] <;> rfl)) rfl ?_ rfl
  refine l_op rfl rfl (a_bin (by simp (disch := omega) only [Zu, Nat.reduceEqDiff, ↓reduceIte, Zd, reduceCtorEq, abin_neq, abin_aneq, ne_eq, not_false_eq_true, Zs, Int.reduceToNat, bd64v, hst, and_8191, g0, g1] <;> rfl)) rfl ?_ rfl
  refine l_op rfl rfl (a_mv e7) rfl ?_ rfl
  refine l_op rfl rfl (a_bin (by simp (disch := omega) only [Zu, Nat.reduceEqDiff, ↓reduceIte, Zd, reduceCtorEq, abin_and, and_255, and_15, and_65535, and_8191, ne_eq, not_false_eq_true, Zs, Int.reduceToNat, bd64v, hst, g0, g1] <;> rfl)) rfl ?_ rfl
  refine l_op rfl rfl (a_bin (by simp (disch := omega) only [Zu, Nat.reduceEqDiff, ↓reduceIte, Zd, reduceCtorEq, abin_mul, wrap_i64, wrap_u32, wrap_u8, wrap_u64, wrap_i32, wrap_u16, ne_eq, not_false_eq_true, Zs, Int.reduceToNat, bd64v, hst, and_8191, g0, g1] <;> rfl)) rfl ?_ rfl
  refine l_op rfl rfl (a_mv e0) rfl ?_ rfl
  refine l_op rfl rfl (a_index (by simp (disch := omega) only [Zu, Nat.reduceEqDiff, ↓reduceIte, Zs, Int.reduceToNat, bd64v, hst, and_8191, g0, g1] <;> rfl)) rfl ?_ rfl
  refine l_op rfl rfl (a_convi (by simp only [Zu, Nat.reduceEqDiff, ↓reduceIte, Zs, Int.reduceToNat, bd64v, hst, and_8191, newPtr, AMem.next_alloc, g0, g1] <;> rfl) rfl rfl (by simp (disch := omega) only [wrap_i64]; try rfl)) rfl ?_ rfl
  refine l_op rfl rfl (a_mv e0) rfl ?_ rfl
  refine l_op rfl rfl (a_index (by simp (disch := omega) only [Zu, Nat.reduceEqDiff, ↓reduceIte, Zs, Int.reduceToNat, bd64v, hst, and_8191, g0, g1] <;> rfl)) rfl ?_ rfl
  refine l_op rfl rfl (a_convi (by simp only [Zu, Nat.reduceEqDiff, ↓reduceIte, Zs, Int.reduceToNat, bd64v, hst, and_8191, newPtr, AMem.next_alloc, g0, g1] <;> rfl) rfl rfl (by simp (disch := omega) only [wrap_i64]; try rfl)) rfl ?_ rfl
  refine l_op rfl rfl (a_mv e0) rfl ?_ rfl
  refine l_op rfl rfl (a_slice (by simp (disch := omega) only [Zu, Nat.reduceEqDiff, ↓reduceIte, Zs, Int.reduceToNat, bd64v, hst, and_8191, g0, g1] <;> rfl)) rfl ?_ rfl
  refine l_op rfl rfl (a_mv e0) rfl ?_ rfl
  refine l_op rfl rfl (a_slice (by simp (disch := omega) only [Zu, Nat.reduceEqDiff, ↓reduceIte, Zs, Int.reduceToNat, bd64v, hst, and_8191, g0, g1] <;> rfl)) rfl ?_ rfl
  refine l_op rfl rfl (a_mv e0) rfl ?_ rfl
  refine l_op rfl rfl (a_mv e0) rfl ?_ rfl
  refine l_new rfl rfl (a_alloc hz) rfl ?_ rfl
  refine l_nil ?_
  refine h_op ?_ rfl rfl rfl ?_
  · refine again_f rfl rfl rfl (a_alloc hz) (by simp (disch := first | (refine Zx ?_; simp only [Zn]; done) | ((try simp only [Zn]); omega)) only [Zg, bd64v, hst, and_8191, newPtr, g0, g1] <;> rfl) ?_
    refine again_r rfl ?_
    refine again_r rfl ?_
    refine again_l rfl rfl (a_slice (by simp (disch := omega) only [Zu, Nat.reduceEqDiff, ↓reduceIte, Zs, Int.reduceToNat, bd64v, hst, and_8191, g0, g1] <;> rfl)) ?_
    refine again_r rfl ?_
    refine again_l rfl rfl (a_slice (by simp (disch := omega) only [Zu, Nat.reduceEqDiff, ↓reduceIte, Zs, Int.reduceToNat, bd64v, hst, and_8191, g0, g1] <;> rfl)) ?_
    refine again_r rfl ?_
    refine again_l rfl rfl (a_convi (by simp only [Zu, Nat.reduceEqDiff, ↓reduceIte, Zs, Int.reduceToNat, bd64v, hst, and_8191, newPtr, AMem.next_alloc, g0, g1] <;> rfl) rfl rfl (by simp (disch := omega) only [wrap_i64]; try rfl)) ?_
    refine again_r rfl ?_
    refine again_r rfl ?_
    refine again_l rfl rfl (a_convi (by simp only [Zu, Nat.reduceEqDiff, ↓reduceIte, Zs, Int.reduceToNat, bd64v, hst, and_8191, newPtr, AMem.next_alloc, g0, g1] <;> rfl) rfl rfl (by simp (disch := omega) only [wrap_i64]; try rfl)) ?_
    refine again_r rfl ?_
    refine again_r rfl ?_
    refine again_r rfl ?_
    refine again_r rfl ?_
    refine again_r rfl ?_
    refine again_r rfl ?_
    refine again_r rfl ?_
    refine again_r rfl ?_
    refine again_r rfl ?_
    refine again_r rfl ?_
    refine again_r rfl ?_
    refine again_l rfl rfl (a_slice (by simp (disch := omega) only [Zu, Nat.reduceEqDiff, ↓reduceIte, Zs, Int.reduceToNat, bd64v, hst, and_8191, g0, g1] <;> rfl)) ?_
    refine again_r rfl ?_
    refine again_l rfl rfl (a_convi (by simp only [Zu, Nat.reduceEqDiff, ↓reduceIte, Zs, Int.reduceToNat, bd64v, hst, and_8191, newPtr, AMem.next_alloc, g0, g1] <;> rfl) rfl rfl (by simp (disch := omega) only [wrap_i64]; try rfl)) ?_
    refine again_r rfl ?_
    refine again_r rfl ?_
    exact again_nil
  refine s_call (by simp only [Zu, Nat.reduceEqDiff, ↓reduceIte, Zs, Int.reduceToNat, bd64v, hst, and_8191, newPtr, AMem.next_alloc, g0, g1] <;> rfl) (by simp only [Zu, Nat.reduceEqDiff, ↓reduceIte, Zm, Zs, Int.reduceToNat, bd64v, hst, and_8191, newPtr, AMem.next_alloc, g0, g1] <;> rfl) ?_
  rw [S57_70]; refine ⟨_, rfl, by rw [part_length (by omega)]; omega, ?_⟩
  show EA _ _ _ _ _ _
  refine s_end (fun s' hs' => ?_); subst hs'
  refine l_nil ?_
  refine h_op ?_ rfl rfl rfl ?_
  · refine again_f rfl rfl rfl (a_alloc hz) (by simp (disch := first | (refine Zx ?_; simp only [Zn]; done) | ((try simp only [Zn]); omega)) only [Zg, bd64v, hst, and_8191, newPtr, g0, g1] <;> rfl) ?_
    refine again_r rfl ?_
    refine again_r rfl ?_
    refine again_l rfl rfl (a_slice (by simp (disch := omega) only [Zu, Nat.reduceEqDiff, ↓reduceIte, Zs, Int.reduceToNat, bd64v, hst, and_8191, g0, g1] <;> rfl)) ?_
    refine again_r rfl ?_
    refine again_l rfl rfl (a_slice (by simp (disch := omega) only [Zu, Nat.reduceEqDiff, ↓reduceIte, Zs, Int.reduceToNat, bd64v, hst, and_8191, g0, g1] <;> rfl)) ?_
    refine again_r rfl ?_
    refine again_l rfl rfl (a_convi (by simp only [Zu, Nat.reduceEqDiff, ↓reduceIte, Zs, Int.reduceToNat, bd64v, hst, and_8191, newPtr, AMem.next_alloc, g0, g1] <;> rfl) rfl rfl (by simp (disch := omega) only [wrap_i64]; try rfl)) ?_
    refine again_r rfl ?_
    refine again_r rfl ?_
    refine again_l rfl rfl (a_convi (by simp only [Zu, Nat.reduceEqDiff, ↓reduceIte, Zs, Int.reduceToNat, bd64v, hst, and_8191, newPtr, AMem.next_alloc, g0, g1] <;> rfl) rfl rfl (by simp (disch := omega) only [wrap_i64]; try rfl)) ?_
    refine again_r rfl ?_
    refine again_r rfl ?_
    refine again_r rfl ?_
    refine again_r rfl ?_
    refine again_r rfl ?_
    refine again_r rfl ?_
    refine again_r rfl ?_
    refine again_r rfl ?_
    refine again_r rfl ?_
    refine again_r rfl ?_
    refine again_r rfl ?_
    refine again_l rfl rfl (a_convi (by simp only [Zu, Nat.reduceEqDiff, ↓reduceIte, Zs, Int.reduceToNat, bd64v, hst, and_8191, newPtr, AMem.next_alloc, g0, g1] <;> rfl) rfl rfl (by simp (disch := omega) only [wrap_i64]; try rfl)) ?_
    refine again_r rfl ?_
    refine again_r rfl ?_
    exact again_nil
  refine s_call (by simp only [Zu, Nat.reduceEqDiff, ↓reduceIte, Zs, Int.reduceToNat, bd64v, hst, and_8191, newPtr, AMem.next_alloc, g0, g1] <;> rfl) (by simp only [Zu, Nat.reduceEqDiff, ↓reduceIte, Zm, Zs, Int.reduceToNat, bd64v, hst, and_8191, newPtr, AMem.next_alloc, g0, g1] <;> rfl) ?_
  rw [S57_70]; refine ⟨_, rfl, by rw [part_length (by omega)]; omega, ?_⟩
  show EA _ _ _ _ _ _
  refine s_end (fun s' hs' => ?_); subst hs'
  refine l_op rfl rfl (a_convi (by simp only [Zu, Nat.reduceEqDiff, ↓reduceIte, Zs, Int.reduceToNat, bd64v, hst, and_8191, newPtr, AMem.next_alloc, g0, g1] <;> rfl) rfl rfl (by simp (disch := omega) only [wrapm_u32, Int.emod_eq_of_lt]; try rfl)) rfl ?_ rfl
  refine l_nil ?_
  refine h_op ?_ rfl rfl rfl ?_
  · refine again_l rfl rfl (a_convi (by simp only [Zu, Nat.reduceEqDiff, ↓reduceIte, Zs, Int.reduceToNat, bd64v, hst, and_8191, newPtr, AMem.next_alloc, g0, g1] <;> rfl) rfl rfl (by simp (disch := omega) only [wrapm_u32, Int.emod_eq_of_lt]; try rfl)) ?_
    refine again_f rfl rfl rfl (a_alloc hz) (by simp (disch := first | (refine Zx ?_; simp only [Zn]; done) | ((try simp only [Zn]); omega)) only [Zg, bd64v, hst, and_8191, newPtr, g0, g1] <;> rfl) ?_
    refine again_r rfl ?_
    refine again_r rfl ?_
    refine again_l rfl rfl (a_slice (by simp (disch := omega) only [Zu, Nat.reduceEqDiff, ↓reduceIte, Zs, Int.reduceToNat, bd64v, hst, and_8191, g0, g1] <;> rfl)) ?_
    refine again_r rfl ?_
    refine again_l rfl rfl (a_convi (by simp only [Zu, Nat.reduceEqDiff, ↓reduceIte, Zs, Int.reduceToNat, bd64v, hst, and_8191, newPtr, AMem.next_alloc, g0, g1] <;> rfl) rfl rfl (by simp (disch := omega) only [wrap_i64]; try rfl)) ?_
    refine again_r rfl ?_
    refine again_r rfl ?_
    refine again_l rfl rfl (a_convi (by simp only [Zu, Nat.reduceEqDiff, ↓reduceIte, Zs, Int.reduceToNat, bd64v, hst, and_8191, newPtr, AMem.next_alloc, g0, g1] <;> rfl) rfl rfl (by simp (disch := omega) only [wrap_i64]; try rfl)) ?_
    refine again_r rfl ?_
    refine again_r rfl ?_
    refine again_r rfl ?_
    refine again_r rfl ?_
    refine again_r rfl ?_
    refine again_r rfl ?_
    refine again_r rfl ?_
    refine again_r rfl ?_
    refine again_r rfl ?_
    refine again_r rfl ?_
    refine again_r rfl ?_
    refine again_l rfl rfl (a_convi (by simp only [Zu, Nat.reduceEqDiff, ↓reduceIte, Zs, Int.reduceToNat, bd64v, hst, and_8191, newPtr, AMem.next_alloc, g0, g1] <;> rfl) rfl rfl (by simp (disch := omega) only [wrap_i64]; try rfl)) ?_
    refine again_r rfl ?_
    refine again_r rfl ?_
    exact again_nil
  refine s_call (by simp only [Zu, Nat.reduceEqDiff, ↓reduceIte, Zs, Int.reduceToNat, bd64v, hst, and_8191, newPtr, AMem.next_alloc, g0, g1] <;> rfl) (by simp only [Zu, Nat.reduceEqDiff, ↓reduceIte, Zm, Zs, Int.reduceToNat, bd64v, hst, and_8191, newPtr, AMem.next_alloc, g0, g1] <;> rfl) ?_
  rw [S57_70]; refine ⟨_, rfl, by rw [part_length (by omega)]; omega, ?_⟩
  show EA _ _ _ _ _ _
  refine s_end (fun s' hs' => ?_); subst hs'
  refine l_op rfl rfl (a_convi (by simp only [Zu, Nat.reduceEqDiff, ↓reduceIte, Zs, Int.reduceToNat, bd64v, hst, and_8191, newPtr, AMem.next_alloc, g0, g1] <;> rfl) rfl rfl (by simp (disch := omega) only [wrapm_u32, Int.emod_eq_of_lt]; try rfl)) rfl ?_ rfl
  refine l_nil ?_
  refine h_op ?_ rfl rfl rfl ?_
  · refine again_l rfl rfl (a_convi (by simp only [Zu, Nat.reduceEqDiff, ↓reduceIte, Zs, Int.reduceToNat, bd64v, hst, and_8191, newPtr, AMem.next_alloc, g0, g1] <;> rfl) rfl rfl (by simp (disch := omega) only [wrapm_u32, Int.emod_eq_of_lt]; try rfl)) ?_
    refine again_l rfl rfl (a_convi (by simp only [Zu, Nat.reduceEqDiff, ↓reduceIte, Zs, Int.reduceToNat, bd64v, hst, and_8191, newPtr, AMem.next_alloc, g0, g1] <;> rfl) rfl rfl (by simp (disch := omega) only [wrapm_u32, Int.emod_eq_of_lt]; try rfl)) ?_
    refine again_f rfl rfl rfl (a_alloc hz) (by simp (disch := first | (refine Zx ?_; simp only [Zn]; done) | ((try simp only [Zn]); omega)) only [Zg, bd64v, hst, and_8191, newPtr, g0, g1] <;> rfl) ?_
    refine again_r rfl ?_
    refine again_r rfl ?_
    refine again_l rfl rfl (a_convi (by simp only [Zu, Nat.reduceEqDiff, ↓reduceIte, Zs, Int.reduceToNat, bd64v, hst, and_8191, newPtr, AMem.next_alloc, g0, g1] <;> rfl) rfl rfl (by simp (disch := omega) only [wrap_i64]; try rfl)) ?_
    refine again_r rfl ?_
    refine again_r rfl ?_
    refine again_l rfl rfl (a_convi (by simp only [Zu, Nat.reduceEqDiff, ↓reduceIte, Zs, Int.reduceToNat, bd64v, hst, and_8191, newPtr, AMem.next_alloc, g0, g1] <;> rfl) rfl rfl (by simp (disch := omega) only [wrap_i64]; try rfl)) ?_
    refine again_r rfl ?_
    refine again_r rfl ?_
    refine again_r rfl ?_
    refine again_r rfl ?_
    refine again_r rfl ?_
    refine again_r rfl ?_
    refine again_r rfl ?_
    refine again_r rfl ?_
    refine again_r rfl ?_
    refine again_r rfl ?_
    refine again_r rfl ?_
    refine again_l rfl rfl (a_convi (by simp only [Zu, Nat.reduceEqDiff, ↓reduceIte, Zs, Int.reduceToNat, bd64v, hst, and_8191, newPtr, AMem.next_alloc, g0, g1] <;> rfl) rfl rfl (by simp (disch := omega) only [wrap_i64]; try rfl)) ?_
    refine again_r rfl ?_
    refine again_r rfl ?_
    exact again_nil
  refine s_call (by simp only [Zu, Nat.reduceEqDiff, ↓reduceIte, Zs, Int.reduceToNat, bd64v, hst, and_8191, newPtr, AMem.next_alloc, g0, g1] <;> rfl) (by simp only [Zu, Nat.reduceEqDiff, ↓reduceIte, Zm, Zs, Int.reduceToNat, bd64v, hst, and_8191, newPtr, AMem.next_alloc, g0, g1] <;> rfl) ?_
  rw [S57_72]; refine ⟨_, rfl, by omega, by omega, ?_⟩
  show EA _ _ _ _ _ _
  refine s_end (fun s' hs' => ?_); subst hs'
  refine l_op rfl rfl (a_slice (by simp (disch := omega) only [Zu, Nat.reduceEqDiff, ↓reduceIte, Zs, Int.reduceToNat, bd64v, hst, and_8191, g0, g1] <;> rfl)) rfl ?_ rfl
  refine l_op rfl rfl (a_build (by simp only [Zu, Nat.reduceEqDiff, ↓reduceIte, Zm, Array.toList, Zs, Int.reduceToNat, bd64v, hst, and_8191, newPtr, AMem.next_alloc, g0, g1] <;> rfl)) rfl ?_ rfl
  refine l_nil ?_
  refine h_op ?_ rfl rfl rfl ?_
  · refine again_r rfl ?_
    refine again_l rfl rfl (a_slice (by simp (disch := omega) only [Zu, Nat.reduceEqDiff, ↓reduceIte, Zs, Int.reduceToNat, bd64v, hst, and_8191, g0, g1] <;> rfl)) ?_
    refine again_l rfl rfl (a_convi (by simp only [Zu, Nat.reduceEqDiff, ↓reduceIte, Zs, Int.reduceToNat, bd64v, hst, and_8191, newPtr, AMem.next_alloc, g0, g1] <;> rfl) rfl rfl (by simp (disch := omega) only [wrapm_u32, Int.emod_eq_of_lt]; try rfl)) ?_
    refine again_l rfl rfl (a_convi (by simp only [Zu, Nat.reduceEqDiff, ↓reduceIte, Zs, Int.reduceToNat, bd64v, hst, and_8191, newPtr, AMem.next_alloc, g0, g1] <;> rfl) rfl rfl (by simp (disch := omega) only [wrapm_u32, Int.emod_eq_of_lt]; try rfl)) ?_
    refine again_f rfl rfl rfl (a_alloc hz) (by simp (disch := first | (refine Zx ?_; simp only [Zn]; done) | ((try simp only [Zn]); omega)) only [Zg, bd64v, hst, and_8191, newPtr, g0, g1] <;> rfl) ?_
    refine again_r rfl ?_
    refine again_l rfl rfl (a_convi (by simp only [Zu, Nat.reduceEqDiff, ↓reduceIte, Zs, Int.reduceToNat, bd64v, hst, and_8191, newPtr, AMem.next_alloc, g0, g1] <;> rfl) rfl rfl (by simp (disch := omega) only [wrap_i64]; try rfl)) ?_
    refine again_r rfl ?_
    refine again_r rfl ?_
    refine again_l rfl rfl (a_convi (by simp only [Zu, Nat.reduceEqDiff, ↓reduceIte, Zs, Int.reduceToNat, bd64v, hst, and_8191, newPtr, AMem.next_alloc, g0, g1] <;> rfl) rfl rfl (by simp (disch := omega) only [wrap_i64]; try rfl)) ?_
    refine again_r rfl ?_
    refine again_r rfl ?_
    refine again_r rfl ?_
    refine again_r rfl ?_
    refine again_r rfl ?_
    refine again_r rfl ?_
    refine again_r rfl ?_
    refine again_r rfl ?_
    refine again_r rfl ?_
    refine again_r rfl ?_
    refine again_r rfl ?_
    refine again_l rfl rfl (a_convi (by simp only [Zu, Nat.reduceEqDiff, ↓reduceIte, Zs, Int.reduceToNat, bd64v, hst, and_8191, newPtr, AMem.next_alloc, g0, g1] <;> rfl) rfl rfl (by simp (disch := omega) only [wrap_i64]; try rfl)) ?_
    refine again_r rfl ?_
    refine again_r rfl ?_
    exact again_nil
  refine s_op (a_store (by simp only [Zu, Nat.reduceEqDiff, ↓reduceIte, bd64v, hst, and_8191, newPtr, AMem.next_alloc, g0, g1] <;> rfl) (by simp (disch := first | (refine Zx ?_; simp only [Zn]; done) | ((try simp only [Zn]); omega)) only [Zg, bd64v, hst, and_8191, newPtr, g0, g1] <;> rfl) (by simp only [Zu, Nat.reduceEqDiff, ↓reduceIte, bd64v, hst, and_8191, newPtr, AMem.next_alloc, g0, g1] <;> rfl) (by simp only [bd64v, hst, and_8191, newPtr, AMem.next_alloc, g0, g1] <;> rfl)) rfl ?_
  refine s_end (fun s' hs' => ?_); subst hs'
  refine l_nil ?_
  refine h_end ?_ (fun s' hs' => ?_)
  · exact again_nil
  replace e0 := kp 0 hs' e0
  replace e2 := kp 2 hs' e2
  have e8 := congrFun hs' 8
  simp only [Zu, Nat.reduceEqDiff, ↓reduceIte, newPtr, AMem.next_alloc] at e8
  clear hs'
  try clear e7
  refine o_norm ?_
  refine q_mem (fun M6 hEM6 => ?_)
  have hnM6 := congrArg AMem.next hEM6; simp only [Zn, Nat.add_assoc, Nat.reduceAdd] at hnM6
  have hnxM6 : M.next ≤ M6.next := by have := hnxM3; omega
  have holdM6 : ∀ j, j < M.next → M6.get j = M.get j := fun j hj => by have := hnxM3; rw [hEM6]; simp (disch := first | (refine Zx ?_; simp only [Zn]; done) | ((try simp only [Zn]); omega)) only [Zg]; exact holdM3 j hj
  have gM6_0 := congrArg (fun m => AMem.get m M.next) hEM6; try simp (disch := first | (refine Zx ?_; simp only [Zn]; done) | ((try simp only [Zn]); omega)) only [Zg, Nat.add_assoc, Nat.reduceAdd, g0, g1] at gM6_0
  have gM6_1 := congrArg (fun m => AMem.get m M1.next) hEM6; try simp (disch := first | (refine Zx ?_; simp only [Zn]; done) | ((try simp only [Zn]); omega)) only [Zg, Nat.add_assoc, Nat.reduceAdd, g0, g1] at gM6_1
  have gM6_2 := congrArg (fun m => AMem.get m M3.next) hEM6; try simp (disch := first | (refine Zx ?_; simp only [Zn]; done) | ((try simp only [Zn]); omega)) only [Zg, Nat.add_assoc, Nat.reduceAdd, g0, g1] at gM6_2
  clear hEM6
  refine t_norm ?_
  refine at_seq rfl ?_
  refine at_draw ⟨[[], [], [], [2], [], [2, 3, 4], [1, 2, 3, 4, 5], [0, 2, 3, 4, 5], [0, 1, 2, 3, 4, 5, 6, 7], [0, 1, 2, 3, 4, 5, 6, 7, 8]], [0, 1, 2, 4], [(3, []), (5, [6]), (7, [8, 9])]⟩ hS rfl rfl (by kernel_rfl) (by kernel_rfl) ?_
  refine d_start ?_
  refine l_op rfl rfl (a_load e8 (by simp (disch := first | (refine Zx ?_; simp only [Zn]; done) | ((try simp only [Zn]); omega)) only [Zg, ld64, hst, newPtr, gM6_0, gM6_1, gM6_2, e8] <;> rfl) (by simp only [ld64, hst, newPtr, AMem.next_alloc, gM6_0, gM6_1, gM6_2, e8] <;> rfl)) rfl ?_ rfl
  refine l_op rfl rfl (a_mv e0) rfl ?_ rfl
  refine l_op rfl rfl (a_mv e0) rfl ?_ rfl
  refine l_op rfl rfl (a_mv e0) rfl ?_ rfl
  refine l_nil ?_
  refine h_op ?_ rfl rfl rfl ?_
  · refine again_r rfl ?_
    refine again_r rfl ?_
    refine again_r rfl ?_
    refine again_l rfl rfl (a_load e8 (by simp (disch := first | (refine Zx ?_; simp only [Zn]; done) | ((try simp only [Zn]); omega)) only [Zg, ld64, hst, newPtr, gM6_0, gM6_1, gM6_2, e8] <;> rfl) (by simp only [ld64, hst, newPtr, AMem.next_alloc, gM6_0, gM6_1, gM6_2, e8] <;> rfl)) ?_
    exact again_nil
  refine s_call (by simp only [Zu, Nat.reduceEqDiff, ↓reduceIte, Zs, Int.reduceToNat, hst, newPtr, AMem.next_alloc, gM6_0, gM6_1, gM6_2] <;> rfl) (by simp only [Zu, Nat.reduceEqDiff, ↓reduceIte, Zm, Zs, Int.reduceToNat, hst, newPtr, AMem.next_alloc, gM6_0, gM6_1, gM6_2] <;> rfl) ?_
  rw [S57_72]; refine ⟨_, rfl, by omega, by omega, ?_⟩
  show EA _ _ _ _ _ _
  refine s_end (fun s' hs' => ?_); subst hs'
  refine l_nil ?_
  refine h_op ?_ rfl rfl rfl ?_
  · refine again_r rfl ?_
    refine again_r rfl ?_
    refine again_l rfl rfl (a_load e8 (by simp (disch := first | (refine Zx ?_; simp only [Zn]; done) | ((try simp only [Zn]); omega)) only [Zg, ld64, hst, newPtr, gM6_0, gM6_1, gM6_2, e8] <;> rfl) (by simp only [ld64, hst, newPtr, AMem.next_alloc, gM6_0, gM6_1, gM6_2, e8] <;> rfl)) ?_
    exact again_nil
  refine s_call (by simp only [Zu, Nat.reduceEqDiff, ↓reduceIte, Zs, Int.reduceToNat, hst, newPtr, AMem.next_alloc, gM6_0, gM6_1, gM6_2] <;> rfl) (by simp only [Zu, Nat.reduceEqDiff, ↓reduceIte, Zm, Zs, Int.reduceToNat, hst, newPtr, AMem.next_alloc, gM6_0, gM6_1, gM6_2] <;> rfl) ?_
  rw [S57_73]; refine ⟨_, rfl, by omega, by omega, ?_⟩
  show EA _ _ _ _ _ _
  refine s_end (fun s' hs' => ?_); subst hs'
  refine l_op rfl rfl (a_slice (by simp (disch := omega) only [Zu, Nat.reduceEqDiff, ↓reduceIte, Zs, Int.reduceToNat, hst, gM6_0, gM6_1, gM6_2] <;> rfl)) rfl ?_ rfl
  refine l_nil ?_
  refine h_op ?_ rfl rfl rfl ?_
  · refine again_l rfl rfl (a_slice (by simp (disch := omega) only [Zu, Nat.reduceEqDiff, ↓reduceIte, Zs, Int.reduceToNat, hst, gM6_0, gM6_1, gM6_2] <;> rfl)) ?_
    refine again_r rfl ?_
    refine again_l rfl rfl (a_load e8 (by simp (disch := first | (refine Zx ?_; simp only [Zn]; done) | ((try simp only [Zn]); omega)) only [Zg, ld64, hst, newPtr, gM6_0, gM6_1, gM6_2, e8] <;> rfl) (by simp only [ld64, hst, newPtr, AMem.next_alloc, gM6_0, gM6_1, gM6_2, e8] <;> rfl)) ?_
    exact again_nil
  refine s_op (a_store e2 (by simp (disch := first | (refine Zx ?_; simp only [Zn]; done) | ((try simp only [Zn]); omega)) only [Zg, hst, newPtr, gM6_0, gM6_1, gM6_2, e2] <;> rfl) (by simp only [Zu, Nat.reduceEqDiff, ↓reduceIte, hst, newPtr, AMem.next_alloc, gM6_0, gM6_1, gM6_2, e2] <;> rfl) (by simp only [hst, newPtr, AMem.next_alloc, gM6_0, gM6_1, gM6_2, e2] <;> rfl)) rfl ?_
  refine s_end (fun s' hs' => ?_); subst hs'
  refine l_op rfl rfl (a_as (by simp only [Zu, Nat.reduceEqDiff, ↓reduceIte] <;> rfl)) rfl ?_ rfl
  refine l_op rfl rfl (a_as (by simp only [ev_const] <;> rfl)) rfl ?_ rfl
  refine l_nil ?_
  refine h_end ?_ (fun s' hs' => ?_)
  · refine again_r rfl ?_
    refine again_r rfl ?_
    refine again_l rfl rfl (a_slice (by simp (disch := omega) only [Zu, Nat.reduceEqDiff, ↓reduceIte, Zs, Int.reduceToNat, hst, gM6_0, gM6_1, gM6_2] <;> rfl)) ?_
    refine again_r rfl ?_
    exact again_nil
  replace e2 := kp 2 hs' e2
  have e3 := congrFun hs' 3
  have e4 := congrFun hs' 4
  simp only [Zu, Nat.reduceEqDiff, ↓reduceIte, newPtr, AMem.next_alloc] at e3 e4
  clear hs'
  try clear e0 e8
  refine o_norm ?_
  refine q_mem (fun M7 hEM7 => ?_)
  have hnM7 := congrArg AMem.next hEM7; simp only [Zn, Nat.add_assoc, Nat.reduceAdd] at hnM7
  have hnxM7 : M.next ≤ M7.next := by have := hnxM6; omega
  have holdM7 : ∀ j, j < M.next → M7.get j = M.get j := fun j hj => by have := hnxM6; rw [hEM7]; simp (disch := first | (refine Zx ?_; simp only [Zn]; done) | ((try simp only [Zn]); omega)) only [Zg]; exact holdM6 j hj
  have gM7_0 := congrArg (fun m => AMem.get m M.next) hEM7; try simp (disch := first | (refine Zx ?_; simp only [Zn]; done) | ((try simp only [Zn]); omega)) only [Zg, Nat.add_assoc, Nat.reduceAdd, gM6_0, gM6_1, gM6_2] at gM7_0
  have gM7_1 := congrArg (fun m => AMem.get m M1.next) hEM7; try simp (disch := first | (refine Zx ?_; simp only [Zn]; done) | ((try simp only [Zn]); omega)) only [Zg, Nat.add_assoc, Nat.reduceAdd, gM6_0, gM6_1, gM6_2] at gM7_1
  have gM7_2 := congrArg (fun m => AMem.get m M3.next) hEM7; try simp (disch := first | (refine Zx ?_; simp only [Zn]; done) | ((try simp only [Zn]); omega)) only [Zg, Nat.add_assoc, Nat.reduceAdd, gM6_0, gM6_1, gM6_2] at gM7_2
  clear hEM7
  refine t_norm ?_
  refine at_ret rfl ?_
  refine bq_ret rfl (ars_cons (ar_cell e2 gM7_0 (ld64 (ipHead l))) (ars_cons (ar_tmp e3) (ars_cons (ar_tmp e4) ars_nil))) ?_
  exact ⟨_, _, hK, Canon.forget rfl holdM7⟩
end Go.Proofs.Ytdkdkpiemigfkaa
set_option linter.unusedVariables false
set_option linter.unusedSimpArgs false
set_option maxRecDepth 8000
namespace Go.Proofs.Ytdkdkpiemigfkaa
open Go Go.Proofs
def u32 (a : Int) : Prop := 0 ≤ a ∧ a ≤ 4294967295
def headCells (h : Segh) (src dst : Int) : List Value := h.cells ++ [.int .u32 src, .int .u32 dst]
theorem hcells_agg (cs : List Value) : (Value.agg cs.toArray).cells.toList = cs := rfl
theorem hc_len (h : Segh) (src dst : Int) : (headCells h src dst).length = 9 := rfl
theorem hc_7 (h : Segh) (src dst : Int) : (headCells h src dst)[7]? = some (.int .u32 src) := rfl
theorem hc_8 (h : Segh) (src dst : Int) : (headCells h src dst)[8]? = some (.int .u32 dst) := rfl
theorem ld121 (h : Segh) (src dst : Int) : aload Try.prog 121 (headCells h src dst) 0 = some (.agg (headCells h src dst).toArray) := aload_whole Try.underlying121 (i := _) (by rfl) rfl rfl
theorem ld57h (h : Segh) (src dst : Int) : aload Try.prog 57 (headCells h src dst) 0 = some (.agg h.cells.toArray) := aload_agg (n := 7) Try.underlying57 (i := _) (by rfl) rfl rfl (by rw [hc_len]; decide)
def seg0 : Segh := ⟨0, 0, 0, 0, 0, 0, []⟩
theorem z121 : azero Try.prog 121 = some (headCells seg0 0 0) := by kernel_rfl
theorem bd121 (a b : Int) : abuild Try.prog 121 [(1, .int .u32 a), (2, .int .u32 b)] = some (headCells seg0 a b) := by kernel_rfl
theorem st121 (h h' : Segh) (a b a' b' : Int) : astore Try.prog 121 (headCells h a b) 0 (.agg (headCells h' a' b').toArray) = some (headCells h' a' b') := astore_whole (i := _) (by rfl) rfl rfl rfl
def sp96 : ASpec := fun args M K => ∃ (h : Segh) (src dst : Int) (n : Int), args = [.agg (headCells h src dst).toArray, .int .i64 n] ∧ (u32 src ∧ u32 dst ∧ 0 ≤ n ∧ n ≤ 100000000) ∧ K (.ret (asString (pseudoF src dst 6 n.toNat))) M
noncomputable def S96 : FuncId → ASpec := tab [(104, sp104)]
theorem S96_104 : S96 104 = sp104 := rfl
theorem S96_ok : ∀ f, Sound Try.prog f (S96 f) := tab_sound _ (by simp [f104_ok])
theorem str0 : Value.string ⟨#[0]⟩ = asString [0] := rfl
theorem f96_ok : Sound Try.prog 96 sp96 := by
 refine Sound.of_awp (c := bodyOf Try.f96) Try.func96 rfl rfl rfl ?_
 rintro args M K ⟨h, src, dst, n, rfl, ⟨⟨s0, s1⟩, ⟨d0, d1⟩, n0, n1⟩, hK⟩
 refine ⟨Nat.le_of_ble_eq_true rfl, ?_⟩
 have hS := S96_ok
 have e0 : entry [.agg (headCells h src dst).toArray, .int .i64 n] 0 = .agg (headCells h src dst).toArray := rfl
 have e1 : entry [.agg (headCells h src dst).toArray, .int .i64 n] 1 = .int .i64 n := rfl
 refine at_seq rfl ?_
 refine at_region hS rfl (by kernel_rfl) ?_
 refine s_op (a_box (by simp only [Zu, Nat.reduceEqDiff, ↓reduceIte, hcells_agg, newPtr, AMem.next_alloc, e0] <;> rfl)) rfl ?_
 refine s_op (a_as (by simp only [ev_const] <;> rfl)) rfl ?_
 refine s_end (fun s' hs' => ?_)
 replace e1 := kp 1 hs' e1
 have e2 := congrFun hs' 2
 simp only [Zu, Nat.reduceEqDiff, ↓reduceIte, newPtr, AMem.next_alloc] at e2
 clear hs'
 try clear e0
 refine o_norm ?_
 refine q_mem (fun M1 hEM1 => ?_)
 have hnM1 := congrArg AMem.next hEM1; simp only [Zn, Nat.add_assoc, Nat.reduceAdd] at hnM1
 have hnxM1 : M.next ≤ M1.next := by have := (Nat.le_refl M.next); omega
 have holdM1 : ∀ j, j < M.next → M1.get j = M.get j := fun j hj => by have := (Nat.le_refl M.next); rw [hEM1]; simp (disch := first | (refine Zx ?_; simp only [Zn]; done) | ((try simp only [Zn]); omega)) only [Zg]; done
 have gM1_0 := congrArg (fun m => AMem.get m M.next) hEM1; try simp (disch := first | (refine Zx ?_; simp only [Zn]; done) | ((try simp only [Zn]); omega)) only [Zg, Nat.add_assoc, Nat.reduceAdd] at gM1_0
 clear hEM1
 refine t_norm ?_
 refine at_seq rfl ?_
 have l1 := bigF_length src 4
 have l2 := bigF_length dst 4
 have l3 := bigF_length 6 1
 have l4 := bigF_length n 2
 refine at_draw ⟨[[], [0], [0, 1], [0, 1, 2], [], [4], [4, 5], [0, 1, 2, 3, 4, 5, 6], [0, 1, 2, 3, 4, 5, 6, 7], [0, 1, 2, 3, 4, 5, 6, 7, 8], [0, 1, 2, 3, 4, 5, 6, 7], [0, 1, 2, 3, 4, 5, 6, 7, 8, 9, 10], [], [0, 1, 2, 3, 4, 5, 6, 7, 10, 12], [0, 1, 2, 3, 4, 5, 6, 7, 8, 9, 10, 11, 12, 13], [0, 1, 2, 3, 4, 5, 6, 7, 8, 9, 10, 11, 12, 13, 14]], [0, 1, 2, 4, 5, 6, 12], [(3, []), (7, [8, 9]), (10, [11]), (13, [14, 15])]⟩ hS rfl rfl (by kernel_rfl) (by kernel_rfl) ?_
 refine d_start ?_
 refine l_op rfl rfl (a_fa (by simp only [Zu, Nat.reduceEqDiff, ↓reduceIte, fa121_1, Nat.zero_add, fa121_2, Nat.reduceAdd, hc_7, hc_8, str0, two_nat, four_nat, one_nat, newPtr, AMem.next_alloc, e2] <;> rfl)) rfl ?_ rfl
 refine l_op rfl rfl (a_load (by simp only [Zu, Nat.reduceEqDiff, ↓reduceIte, Nat.zero_add, Nat.reduceAdd, hc_7, hc_8, ld23, str0, two_nat, four_nat, one_nat, newPtr, AMem.next_alloc, gM1_0] <;> rfl) (by simp (disch := first | (refine Zx ?_; simp only [Zn]; done) | ((try simp only [Zn]); omega)) only [Zg, Nat.zero_add, Nat.reduceAdd, hc_7, hc_8, ld23, str0, two_nat, four_nat, one_nat, newPtr, gM1_0] <;> rfl) (by simp only [ld23, Zl, Nat.zero_add, Nat.reduceAdd, hc_7, hc_8, str0, two_nat, four_nat, one_nat, newPtr, AMem.next_alloc, gM1_0] <;> rfl)) rfl ?_ rfl
 refine l_op rfl rfl (a_convi (by simp only [Zu, Nat.reduceEqDiff, ↓reduceIte, Nat.zero_add, Nat.reduceAdd, hc_7, hc_8, str0, two_nat, four_nat, one_nat, newPtr, AMem.next_alloc, gM1_0] <;> rfl) rfl rfl (by simp (disch := omega) only [wrap_i64]; try rfl)) rfl ?_ rfl
 refine l_op rfl rfl (a_fa (by simp only [Zu, Nat.reduceEqDiff, ↓reduceIte, fa121_2, Nat.zero_add, fa121_1, Nat.reduceAdd, hc_7, hc_8, str0, two_nat, four_nat, one_nat, newPtr, AMem.next_alloc, e2] <;> rfl)) rfl ?_ rfl
 refine l_op rfl rfl (a_load (by simp only [Zu, Nat.reduceEqDiff, ↓reduceIte, Nat.zero_add, Nat.reduceAdd, hc_7, hc_8, ld23, str0, two_nat, four_nat, one_nat, newPtr, AMem.next_alloc, gM1_0] <;> rfl) (by simp (disch := first | (refine Zx ?_; simp only [Zn]; done) | ((try simp only [Zn]); omega)) only [Zg, Nat.zero_add, Nat.reduceAdd, hc_7, hc_8, ld23, str0, two_nat, four_nat, one_nat, newPtr, gM1_0] <;> rfl) (by simp only [ld23, Zl, Nat.zero_add, Nat.reduceAdd, hc_7, hc_8, str0, two_nat, four_nat, one_nat, newPtr, AMem.next_alloc, gM1_0] <;> rfl)) rfl ?_ rfl
 refine l_op rfl rfl (a_convi (by simp only [Zu, Nat.reduceEqDiff, ↓reduceIte, Nat.zero_add, Nat.reduceAdd, hc_7, hc_8, str0, two_nat, four_nat, one_nat, newPtr, AMem.next_alloc, gM1_0] <;> rfl) rfl rfl (by simp (disch := omega) only [wrap_i64]; try rfl)) rfl ?_ rfl
 refine l_op rfl rfl (a_mv e1) rfl ?_ rfl
 refine l_nil ?_
 refine h_op ?_ rfl rfl rfl ?_
 · refine again_r rfl ?_
   refine again_l rfl rfl (a_convi (by simp only [Zu, Nat.reduceEqDiff, ↓reduceIte, Nat.zero_add, Nat.reduceAdd, hc_7, hc_8, str0, two_nat, four_nat, one_nat, newPtr, AMem.next_alloc, gM1_0] <;> rfl) rfl rfl (by simp (disch := omega) only [wrap_i64]; try rfl)) ?_
   refine again_l rfl rfl (a_load (by simp only [Zu, Nat.reduceEqDiff, ↓reduceIte, Nat.zero_add, Nat.reduceAdd, hc_7, hc_8, ld23, str0, two_nat, four_nat, one_nat, newPtr, AMem.next_alloc, gM1_0] <;> rfl) (by simp (disch := first | (refine Zx ?_; simp only [Zn]; done) | ((try simp only [Zn]); omega)) only [Zg, Nat.zero_add, Nat.reduceAdd, hc_7, hc_8, ld23, str0, two_nat, four_nat, one_nat, newPtr, gM1_0] <;> rfl) (by simp only [ld23, Zl, Nat.zero_add, Nat.reduceAdd, hc_7, hc_8, str0, two_nat, four_nat, one_nat, newPtr, AMem.next_alloc, gM1_0] <;> rfl)) ?_
   refine again_r rfl ?_
   refine again_l rfl rfl (a_convi (by simp only [Zu, Nat.reduceEqDiff, ↓reduceIte, Nat.zero_add, Nat.reduceAdd, hc_7, hc_8, str0, two_nat, four_nat, one_nat, newPtr, AMem.next_alloc, gM1_0] <;> rfl) rfl rfl (by simp (disch := omega) only [wrap_i64]; try rfl)) ?_
   refine again_l rfl rfl (a_load (by simp only [Zu, Nat.reduceEqDiff, ↓reduceIte, Nat.zero_add, Nat.reduceAdd, hc_7, hc_8, ld23, str0, two_nat, four_nat, one_nat, newPtr, AMem.next_alloc, gM1_0] <;> rfl) (by simp (disch := first | (refine Zx ?_; simp only [Zn]; done) | ((try simp only [Zn]); omega)) only [Zg, Nat.zero_add, Nat.reduceAdd, hc_7, hc_8, ld23, str0, two_nat, four_nat, one_nat, newPtr, gM1_0] <;> rfl) (by simp only [ld23, Zl, Nat.zero_add, Nat.reduceAdd, hc_7, hc_8, str0, two_nat, four_nat, one_nat, newPtr, AMem.next_alloc, gM1_0] <;> rfl)) ?_
   refine again_r rfl ?_
   exact again_nil
 refine s_call (by simp only [Zu, Nat.reduceEqDiff, ↓reduceIte, Nat.zero_add, Nat.reduceAdd, hc_7, hc_8, str0, two_nat, four_nat, one_nat, newPtr, AMem.next_alloc, gM1_0] <;> rfl) (by simp only [Zu, Nat.reduceEqDiff, ↓reduceIte, Zm, Nat.zero_add, Nat.reduceAdd, hc_7, hc_8, str0, two_nat, four_nat, one_nat, newPtr, AMem.next_alloc, gM1_0] <;> rfl) ?_
 rw [S96_104]; refine ⟨_, _, rfl, ⟨⟨by omega, by omega⟩, by omega, by omega⟩, ?_⟩
 show EA _ _ _ _ _ _
 refine s_end (fun s' hs' => ?_); subst hs'
 refine l_nil ?_
 refine h_op ?_ rfl rfl rfl ?_
 · refine again_r rfl ?_
   refine again_l rfl rfl (a_convi (by simp only [Zu, Nat.reduceEqDiff, ↓reduceIte, Nat.zero_add, Nat.reduceAdd, hc_7, hc_8, str0, two_nat, four_nat, one_nat, newPtr, AMem.next_alloc, gM1_0] <;> rfl) rfl rfl (by simp (disch := omega) only [wrap_i64]; try rfl)) ?_
   refine again_l rfl rfl (a_load (by simp only [Zu, Nat.reduceEqDiff, ↓reduceIte, Nat.zero_add, Nat.reduceAdd, hc_7, hc_8, ld23, str0, two_nat, four_nat, one_nat, newPtr, AMem.next_alloc, gM1_0] <;> rfl) (by simp (disch := first | (refine Zx ?_; simp only [Zn]; done) | ((try simp only [Zn]); omega)) only [Zg, Nat.zero_add, Nat.reduceAdd, hc_7, hc_8, ld23, str0, two_nat, four_nat, one_nat, newPtr, gM1_0] <;> rfl) (by simp only [ld23, Zl, Nat.zero_add, Nat.reduceAdd, hc_7, hc_8, str0, two_nat, four_nat, one_nat, newPtr, AMem.next_alloc, gM1_0] <;> rfl)) ?_
   refine again_r rfl ?_
   exact again_nil
 refine s_call (by simp only [Zu, Nat.reduceEqDiff, ↓reduceIte, Nat.zero_add, Nat.reduceAdd, hc_7, hc_8, str0, two_nat, four_nat, one_nat, newPtr, AMem.next_alloc, gM1_0] <;> rfl) (by simp only [Zu, Nat.reduceEqDiff, ↓reduceIte, Zm, Nat.zero_add, Nat.reduceAdd, hc_7, hc_8, str0, two_nat, four_nat, one_nat, newPtr, AMem.next_alloc, gM1_0] <;> rfl) ?_
 rw [S96_104]; refine ⟨_, _, rfl, ⟨⟨by omega, by omega⟩, by omega, by omega⟩, ?_⟩
 show EA _ _ _ _ _ _
 refine s_end (fun s' hs' => ?_); subst hs'
 refine l_op rfl rfl (a_bin (by simp (disch := ((try simp only [List.length_append, List.length_cons, List.length_nil]); omega)) only [Zu, Nat.reduceEqDiff, ↓reduceIte, Zd, reduceCtorEq, abin_add, abin_aadd, wrap_i64, wrap_u32, wrap_u8, wrap_u64, wrap_i32, wrap_u16, ne_eq, not_false_eq_true, Nat.zero_add, Nat.reduceAdd, hc_7, hc_8, str0, two_nat, four_nat, one_nat] <;> rfl)) rfl ?_ rfl
 refine l_op rfl rfl (a_bin (by simp (disch := ((try simp only [List.length_append, List.length_cons, List.length_nil]); omega)) only [Zu, Nat.reduceEqDiff, ↓reduceIte, Zd, reduceCtorEq, abin_add, abin_aadd, wrap_i64, wrap_u32, wrap_u8, wrap_u64, wrap_i32, wrap_u16, ne_eq, not_false_eq_true, Nat.zero_add, Nat.reduceAdd, hc_7, hc_8, str0, two_nat, four_nat, one_nat] <;> rfl)) rfl ?_ rfl
 refine l_nil ?_
 refine h_op ?_ rfl rfl rfl ?_
 · refine again_r rfl ?_
   refine again_r rfl ?_
   refine again_r rfl ?_
   exact again_nil
 refine s_call (by simp only [Zu, Nat.zero_add, Nat.reduceAdd, hc_7, hc_8, str0, two_nat, four_nat, one_nat, newPtr, AMem.next_alloc, gM1_0] <;> rfl) (by simp only [Zu, Zm, Nat.zero_add, Nat.reduceAdd, hc_7, hc_8, str0, two_nat, four_nat, one_nat, newPtr, AMem.next_alloc, gM1_0] <;> rfl) ?_
 rw [S96_104]; refine ⟨_, _, rfl, ⟨⟨by omega, by omega⟩, by omega, by omega⟩, ?_⟩
 show EA _ _ _ _ _ _
 refine s_end (fun s' hs' => ?_); subst hs'
 refine l_op rfl rfl (a_bin (by simp (disch := ((try simp only [List.length_append, List.length_cons, List.length_nil]); omega)) only [Zu, Nat.reduceEqDiff, ↓reduceIte, Zd, reduceCtorEq, abin_add, abin_aadd, wrap_i64, wrap_u32, wrap_u8, wrap_u64, wrap_i32, wrap_u16, ne_eq, not_false_eq_true, Nat.zero_add, Nat.reduceAdd, hc_7, hc_8, str0, two_nat, four_nat, one_nat] <;> rfl)) rfl ?_ rfl
 refine l_nil ?_
 refine h_op ?_ rfl rfl rfl ?_
 · refine again_r rfl ?_
   refine again_r rfl ?_
   refine again_r rfl ?_
   refine again_r rfl ?_
   exact again_nil
 refine s_call (by simp only [Zu, Nat.reduceEqDiff, ↓reduceIte, Nat.zero_add, Nat.reduceAdd, hc_7, hc_8, str0, two_nat, four_nat, one_nat, newPtr, AMem.next_alloc, gM1_0] <;> rfl) (by simp only [Zu, Nat.reduceEqDiff, ↓reduceIte, Zm, Nat.zero_add, Nat.reduceAdd, hc_7, hc_8, str0, two_nat, four_nat, one_nat, newPtr, AMem.next_alloc, gM1_0] <;> rfl) ?_
 rw [S96_104]; refine ⟨_, _, rfl, ⟨⟨by omega, by omega⟩, by omega, by omega⟩, ?_⟩
 show EA _ _ _ _ _ _
 refine s_end (fun s' hs' => ?_); subst hs'
 refine l_op rfl rfl (a_bin (by simp (disch := ((try simp only [List.length_append, List.length_cons, List.length_nil]); omega)) only [Zu, Nat.reduceEqDiff, ↓reduceIte, Zd, reduceCtorEq, abin_add, abin_aadd, wrap_i64, wrap_u32, wrap_u8, wrap_u64, wrap_i32, wrap_u16, ne_eq, not_false_eq_true, Nat.zero_add, Nat.reduceAdd, hc_7, hc_8, str0, two_nat, four_nat, one_nat] <;> rfl)) rfl ?_ rfl
 refine l_op rfl rfl (a_as (by simp only [Zu, Nat.reduceEqDiff, ↓reduceIte] <;> rfl)) rfl ?_ rfl
 refine l_nil ?_
 refine h_end ?_ (fun s' hs' => ?_)
 · refine again_r rfl ?_
   refine again_r rfl ?_
   refine again_r rfl ?_
   refine again_r rfl ?_
   refine again_r rfl ?_
   exact again_nil
 have e4 := congrFun hs' 4
 simp only [Zu, Nat.reduceEqDiff, ↓reduceIte, newPtr, AMem.next_alloc] at e4
 clear hs'
 try clear e1 e2
 refine o_norm ?_
 refine t_norm ?_
 refine at_ret rfl ?_
 have hp : bigF src 4 ++ bigF dst 4 ++ [0] ++ bigF 6 1 ++ bigF n 2 = pseudoF src dst 6 n.toNat := by
   unfold pseudoF
   rw [show ((n.toNat : Nat) : Int) = n from by omega, show bigF 6 2 = [0] ++ bigF 6 1 from rfl]
   simp only [List.append_assoc]
 rw [hp] at e4
 refine bq_ret rfl (ars_cons (ar_tmp e4) ars_nil) ?_
 exact ⟨_, _, hK, Canon.forget rfl holdM1⟩
def tcpE (src dst : Int) (l : List UInt8) : Int :=
  if l.length < 20 then 2 else
  if byteAt l 12 / 16 * 4 < 20 then 3 else
  if (l.length : Int) < byteAt l 12 / 16 * 4 then 2 else
  if byteAt l 12 % 16 ≠ 0 ∨ 63 < byteAt l 13 then 3 else
  if 2000 < l.length then 5 else
  if ocF (pseudoF src dst 6 l.length ++ l) ≠ 0 then 4 else 0
def tcpHead (l : List UInt8) : Segh :=
  ⟨numF (part l 0 2), numF (part l 2 4), numF (part l 4 8), numF (part l 8 12), byteAt l 13, numF (part l 14 16), part l 20 (byteAt l 12 / 16 * 4).toNat⟩
def tcpGetF (src dst : Int) (l : List UInt8) : Segh × List UInt8 × Int :=
  if tcpE src dst l = 0 then (tcpHead l, part l (byteAt l 12 / 16 * 4).toNat l.length, 0) else (seg0, [], tcpE src dst l)
def retSeg (r : Segh × List UInt8 × Int) : Value := .tuple #[.agg r.1.cells.toArray, asString r.2.1, .int .i64 r.2.2]
def sp74 : ASpec := fun args M K => ∃ (h : Segh) (src dst : Int) (l : List UInt8), args = [.agg (headCells h src dst).toArray, asString l] ∧ (u32 src ∧ u32 dst ∧ l.length ≤ 100000000) ∧ K (.ret (.int .i64 (tcpE src dst l))) M
noncomputable def S74 : FuncId → ASpec := tab [(96, sp96), (95, sp95)]
theorem S74_96 : S74 96 = sp96 := rfl
theorem S74_95 : S74 95 = sp95 := rfl
theorem S74_ok : ∀ f, Sound Try.prog f (S74 f) := tab_sound _ (by simp [f96_ok, f95_ok])
theorem and8_15' {k : Int} (h0 : 0 ≤ k) (h1 : k ≤ 255) : abits .and .u8 k 15 = k % 16 := and8_15 h0 h1
theorem row_two {M : AMem} {id : Nat} {own : Bool} {a b : List UInt8} (hid : id < M.next) (hg : M.get id = .cells [asString a, asString b] own) : Row M 1 (.slice (some ⟨id, 0, none⟩) 2 1) [a, b].length ([a, b].map asString) :=
  ⟨rfl, .inr ⟨id, 0, _, _, rfl, hid, hg, Nat.le_refl _, rfl⟩⟩
theorem f74_ok : Sound Try.prog 74 sp74 := by
 refine Sound.of_awp (c := bodyOf Try.f74) Try.func74 rfl rfl rfl ?_
 rintro args M K ⟨h, src, dst, l, rfl, ⟨hs, hd, hll⟩, hK⟩
 refine ⟨Nat.le_of_ble_eq_true rfl, ?_⟩
 have hS := S74_ok
 have e0 : entry [.agg (headCells h src dst).toArray, asString l] 0 = .agg (headCells h src dst).toArray := rfl
 have e1 : entry [.agg (headCells h src dst).toArray, asString l] 1 = asString l := rfl
 obtain ⟨z0, z1⟩ := byteAt_bound l 12
 obtain ⟨z2, z3⟩ := byteAt_bound l 13
 refine at_seq rfl ?_
 refine at_region hS rfl (by kernel_rfl) ?_
 refine s_op (a_box (by simp only [Zu, Nat.reduceEqDiff, ↓reduceIte, hcells_agg, newPtr, AMem.next_alloc, e0] <;> rfl)) rfl ?_
 refine s_op (a_as (by simp only [ev_const] <;> rfl)) rfl ?_
 refine s_end (fun s' hs' => ?_)
 replace e1 := kp 1 hs' e1
 have e2 := congrFun hs' 2
 simp only [Zu, Nat.reduceEqDiff, ↓reduceIte, newPtr, AMem.next_alloc] at e2
 clear hs'
 try clear e0
 refine o_norm ?_
 refine q_mem (fun M1 hEM1 => ?_)
 have hnM1 := congrArg AMem.next hEM1; simp only [Zn, Nat.add_assoc, Nat.reduceAdd] at hnM1
 have hnxM1 : M.next ≤ M1.next := by have := (Nat.le_refl M.next); omega
 have holdM1 : ∀ j, j < M.next → M1.get j = M.get j := fun j hj => by have := (Nat.le_refl M.next); rw [hEM1]; simp (disch := first | (refine Zx ?_; simp only [Zn]; done) | ((try simp only [Zn]); omega)) only [Zg]; done
 have gM1_0 := congrArg (fun m => AMem.get m M.next) hEM1; try simp (disch := first | (refine Zx ?_; simp only [Zn]; done) | ((try simp only [Zn]); omega)) only [Zg, Nat.add_assoc, Nat.reduceAdd] at gM1_0
 clear hEM1
 refine t_norm ?_
 refine at_seq rfl ?_
 refine at_seq rfl ?_
 refine at_region hS rfl (by kernel_rfl) ?_
 refine s_op (a_mv e1) rfl ?_
 refine s_op (a_len (by simp (disch := omega) only [Zu, Nat.reduceEqDiff, ↓reduceIte, alen_str, hlenS, Zs, Int.reduceToNat, hcells_agg, newPtr, AMem.next_alloc, gM1_0] <;> rfl)) rfl ?_
 refine s_op (a_bin (by simp (disch := omega) only [Zu, Nat.reduceEqDiff, ↓reduceIte, Zd, reduceCtorEq, abin_lss, ne_eq, not_false_eq_true, Zs, Int.reduceToNat, hcells_agg] <;> rfl)) rfl ?_
 refine s_end (fun s' hs' => ?_)
 replace e1 := kp 1 hs' e1
 replace e2 := kp 2 hs' e2
 have e8 := congrFun hs' 8
 simp only [Zu, Nat.reduceEqDiff, ↓reduceIte, newPtr, AMem.next_alloc] at e8
 clear hs'
 refine o_norm ?_
 refine t_norm ?_
 refine at_cond rfl rfl e8 (fun h1 => ?_) (fun h1 => ?_)
 ·
  try simp only [Zh] at h1
  refine at_seq rfl ?_
  refine at_region hS rfl (by kernel_rfl) ?_
  refine s_op (a_as (by simp only [ev_const] <;> rfl)) rfl ?_
  refine s_end (fun s' hs' => ?_)
  have e4 := congrFun hs' 4
  simp only [Zu, Nat.reduceEqDiff, ↓reduceIte, newPtr, AMem.next_alloc] at e4
  clear hs'
  refine o_norm ?_
  refine t_norm ?_
  refine at_ret rfl ?_
  refine t_ret ?_
  rw [show tcpE src dst l = 2 from by unfold tcpE; rw [if_pos (by omega)]] at hK
  refine bq_ret rfl (ars_cons (ar_tmp e4) ars_nil) ?_
  exact ⟨_, _, hK, Canon.forget rfl holdM1⟩
 ·
  try simp only [Zh] at h1
  refine at_skip rfl ?_
  refine t_norm ?_
  refine at_seq rfl ?_
  refine at_region hS rfl (by kernel_rfl) ?_
  refine s_op (a_mv e1) rfl ?_
  refine s_op (a_index (by simp (disch := omega) only [Zu, Nat.reduceEqDiff, ↓reduceIte, Zs, Int.reduceToNat, hcells_agg] <;> rfl)) rfl ?_
  refine s_op (a_convi (by simp only [Zu, Nat.reduceEqDiff, ↓reduceIte, Zs, Int.reduceToNat, hcells_agg, newPtr, AMem.next_alloc, gM1_0] <;> rfl) rfl rfl (by simp (disch := omega) only [wrap_i64]; try rfl)) rfl ?_
  refine s_op (a_bin (by simp (disch := omega) only [Zu, Nat.reduceEqDiff, ↓reduceIte, Zd, reduceCtorEq, shr_8, shr_16, shr_4, shr8_4, shr8_7, ne_eq, not_false_eq_true, Zs, Int.reduceToNat, hcells_agg] <;> rfl)) rfl ?_
  refine s_as ?_
  refine s_end (fun s' hs' => ?_)
  replace e1 := kp 1 hs' e1
  replace e2 := kp 2 hs' e2
  have e5 := congrFun hs' 5
  simp only [Zu, Nat.reduceEqDiff, ↓reduceIte, newPtr, AMem.next_alloc] at e5
  clear hs'
  refine o_norm ?_
  refine t_norm ?_
  refine at_seq rfl ?_
  refine at_block rfl ?_
  refine at_seq rfl ?_
  refine at_region hS rfl (by kernel_rfl) ?_
  refine s_op (a_mv e5) rfl ?_
  refine s_op (a_bin (by simp (disch := omega) only [Zu, Nat.reduceEqDiff, ↓reduceIte, Zd, reduceCtorEq, abin_lss, ne_eq, not_false_eq_true, Zs, Int.reduceToNat, hcells_agg] <;> rfl)) rfl ?_
  refine s_as ?_
  refine s_end (fun s' hs' => ?_)
  replace e1 := kp 1 hs' e1
  replace e2 := kp 2 hs' e2
  replace e5 := kp 5 hs' e5
  have e13 := congrFun hs' 13
  simp only [Zu, Nat.reduceEqDiff, ↓reduceIte, newPtr, AMem.next_alloc] at e13
  clear hs'
  refine o_norm ?_
  refine t_norm ?_
  refine at_cond rfl rfl e13 (fun h4 => ?_) (fun h4 => ?_)
  ·
   try simp only [Zh] at h4
   refine at_seq rfl ?_
   refine at_region hS rfl (by kernel_rfl) ?_
   refine s_op (a_as (by simp only [ev_const] <;> rfl)) rfl ?_
   refine s_end (fun s' hs' => ?_)
   have e4 := congrFun hs' 4
   simp only [Zu, Nat.reduceEqDiff, ↓reduceIte, newPtr, AMem.next_alloc] at e4
   clear hs'
   refine o_norm ?_
   refine t_norm ?_
   refine at_ret rfl ?_
   refine b_ret ?_
   refine t_ret ?_
   rw [show tcpE src dst l = 3 from by unfold tcpE; rw [if_neg (by omega), if_pos (by omega)]] at hK
   refine bq_ret rfl (ars_cons (ar_tmp e4) ars_nil) ?_
   exact ⟨_, _, hK, Canon.forget rfl holdM1⟩
  ·
   try simp only [Zh] at h4
   refine at_seq rfl ?_
   refine at_region hS rfl (by kernel_rfl) ?_
   refine s_op (a_mv e1) rfl ?_
   refine s_op (a_len (by simp (disch := omega) only [Zu, Nat.reduceEqDiff, ↓reduceIte, alen_str, hlenS, Zs, Int.reduceToNat, hcells_agg, newPtr, AMem.next_alloc, gM1_0] <;> rfl)) rfl ?_
   refine s_op (a_mv e5) rfl ?_
   refine s_op (a_bin (by simp (disch := omega) only [Zu, Nat.reduceEqDiff, ↓reduceIte, Zd, reduceCtorEq, abin_mul, wrap_i64, wrap_u32, wrap_u8, wrap_u64, wrap_i32, wrap_u16, ne_eq, not_false_eq_true, Zs, Int.reduceToNat, hcells_agg] <;> rfl)) rfl ?_
   refine s_op (a_bin (by simp (disch := omega) only [Zu, Nat.reduceEqDiff, ↓reduceIte, Zd, reduceCtorEq, abin_lss, ne_eq, not_false_eq_true, Zs, Int.reduceToNat, hcells_agg] <;> rfl)) rfl ?_
   refine s_as ?_
   refine s_end (fun s' hs' => ?_)
   replace e1 := kp 1 hs' e1
   replace e2 := kp 2 hs' e2
   have e16 := congrFun hs' 16
   simp only [Zu, Nat.reduceEqDiff, ↓reduceIte, newPtr, AMem.next_alloc] at e16
   clear hs'
   try clear e5
   refine o_norm ?_
   refine t_norm ?_
   refine at_cond rfl rfl e16 (fun h6 => ?_) (fun h6 => ?_)
   ·
    try simp only [Zh] at h6
    refine at_seq rfl ?_
    refine at_region hS rfl (by kernel_rfl) ?_
    refine s_op (a_as (by simp only [ev_const] <;> rfl)) rfl ?_
    refine s_end (fun s' hs' => ?_)
    have e4 := congrFun hs' 4
    simp only [Zu, Nat.reduceEqDiff, ↓reduceIte, newPtr, AMem.next_alloc] at e4
    clear hs'
    refine o_norm ?_
    refine t_norm ?_
    refine at_ret rfl ?_
    refine b_ret ?_
    refine t_ret ?_
    rw [show tcpE src dst l = 2 from by unfold tcpE; rw [if_neg (by omega), if_neg (by omega), if_pos (by omega)]] at hK
    refine bq_ret rfl (ars_cons (ar_tmp e4) ars_nil) ?_
    exact ⟨_, _, hK, Canon.forget rfl holdM1⟩
   ·
    try simp only [Zh] at h6
    refine at_seq rfl ?_
    by_cases hv : byteAt l 12 % 16 = 0
    ·
     refine at_region hS rfl (by kernel_rfl) ?_
     refine s_op (a_mv e1) rfl ?_
     refine s_op (a_index (by simp (disch := omega) only [Zu, Nat.reduceEqDiff, ↓reduceIte, Zs, Int.reduceToNat, hcells_agg, and8_15', hv] <;> rfl)) rfl ?_
     refine s_op (a_bin (by simp (disch := omega) only [Zu, Nat.reduceEqDiff, ↓reduceIte, Zd, reduceCtorEq, abin_and, and_255, and_15, and_65535, and_8191, ne_eq, not_false_eq_true, Zs, Int.reduceToNat, hcells_agg, and8_15', hv] <;> rfl)) rfl ?_
     refine s_op (a_bin (by simp (disch := omega) only [Zu, Nat.reduceEqDiff, ↓reduceIte, Zd, reduceCtorEq, abin_neq, abin_aneq, ne_eq, not_false_eq_true, Zs, Int.reduceToNat, hcells_agg, and8_15', hv] <;> rfl)) rfl ?_
     refine s_mv ?_
     refine s_tk ?_
     refine s_op (a_mv e1) rfl ?_
     refine s_tk ?_
     refine s_op (a_index (by simp (disch := omega) only [Zu, Nat.reduceEqDiff, ↓reduceIte, Zs, Int.reduceToNat, hcells_agg, and8_15', hv] <;> rfl)) rfl ?_
     refine s_tk ?_
     refine s_op (a_bin (by simp (disch := omega) only [Zu, Nat.reduceEqDiff, ↓reduceIte, Zd, reduceCtorEq, abin_gtr, ne_eq, not_false_eq_true, Zs, Int.reduceToNat, hcells_agg, and8_15', hv] <;> rfl)) rfl ?_
     refine s_op (a_pick (by simp only [Zu, Nat.reduceEqDiff, ↓reduceIte, Zd, reduceCtorEq, hcells_agg, and8_15', hv] <;> rfl) (by simp only [Zu, Nat.reduceEqDiff, ↓reduceIte, Zd, reduceCtorEq, hcells_agg, and8_15', hv] <;> rfl)) rfl ?_
     refine s_as ?_
     refine s_end (fun s' hs' => ?_)
     replace e1 := kp 1 hs' e1
     replace e2 := kp 2 hs' e2
     have e22 := congrFun hs' 22
     simp only [Zu, Nat.reduceEqDiff, ↓reduceIte, newPtr, AMem.next_alloc] at e22
     clear hs'
     refine o_norm ?_
     refine t_norm ?_
     refine at_cond rfl rfl e22 (fun h8 => ?_) (fun h8 => ?_)
     ·
      try simp only [Zh] at h8
      refine at_seq rfl ?_
      refine at_region hS rfl (by kernel_rfl) ?_
      refine s_op (a_as (by simp only [ev_const] <;> rfl)) rfl ?_
      refine s_end (fun s' hs' => ?_)
      have e4 := congrFun hs' 4
      simp only [Zu, Nat.reduceEqDiff, ↓reduceIte, newPtr, AMem.next_alloc] at e4
      clear hs'
      refine o_norm ?_
      refine t_norm ?_
      refine at_ret rfl ?_
      refine b_ret ?_
      refine t_ret ?_
      rw [show tcpE src dst l = 3 from by unfold tcpE; rw [if_neg (by omega), if_neg (by omega), if_neg (by omega), if_pos (by omega)]] at hK
      refine bq_ret rfl (ars_cons (ar_tmp e4) ars_nil) ?_
      exact ⟨_, _, hK, Canon.forget rfl holdM1⟩
     ·
      try simp only [Zh] at h8
      refine at_seq rfl ?_
      refine at_region hS rfl (by kernel_rfl) ?_
      refine s_op (a_mv e1) rfl ?_
      refine s_op (a_len (by simp (disch := omega) only [Zu, Nat.reduceEqDiff, ↓reduceIte, alen_str, hlenS, Zs, Int.reduceToNat, hcells_agg, newPtr, AMem.next_alloc, gM1_0] <;> rfl)) rfl ?_
      refine s_op (a_bin (by simp (disch := omega) only [Zu, Nat.reduceEqDiff, ↓reduceIte, Zd, reduceCtorEq, abin_gtr, ne_eq, not_false_eq_true, Zs, Int.reduceToNat, hcells_agg] <;> rfl)) rfl ?_
      refine s_as ?_
      refine s_end (fun s' hs' => ?_)
      replace e1 := kp 1 hs' e1
      replace e2 := kp 2 hs' e2
      have e32 := congrFun hs' 32
      simp only [Zu, Nat.reduceEqDiff, ↓reduceIte, newPtr, AMem.next_alloc] at e32
      clear hs'
      refine o_norm ?_
      refine t_norm ?_
      refine at_cond rfl rfl e32 (fun h10 => ?_) (fun h10 => ?_)
      ·
       try simp only [Zh] at h10
       refine at_seq rfl ?_
       refine at_region hS rfl (by kernel_rfl) ?_
       refine s_op (a_as (by simp only [ev_const] <;> rfl)) rfl ?_
       refine s_end (fun s' hs' => ?_)
       have e4 := congrFun hs' 4
       simp only [Zu, Nat.reduceEqDiff, ↓reduceIte, newPtr, AMem.next_alloc] at e4
       clear hs'
       refine o_norm ?_
       refine t_norm ?_
       refine at_ret rfl ?_
       refine b_ret ?_
       refine t_ret ?_
       rw [show tcpE src dst l = 5 from by unfold tcpE; rw [if_neg (by omega), if_neg (by omega), if_neg (by omega), if_neg (by omega), if_pos (by omega)]] at hK
       refine bq_ret rfl (ars_cons (ar_tmp e4) ars_nil) ?_
       exact ⟨_, _, hK, Canon.forget rfl holdM1⟩
      ·
       try simp only [Zh] at h10
       refine at_seq rfl ?_
       have hpl : (pseudoF src dst 6 l.length).length = 12 := by unfold pseudoF; simp [bigF_length]
       refine at_region hS rfl (by kernel_rfl) ?_
       refine s_op (a_load e2 (by simp (disch := first | (refine Zx ?_; simp only [Zn]; done) | ((try simp only [Zn]); omega)) only [Zg, hcells_agg, ld121, newPtr, gM1_0, e2] <;> rfl) (by simp only [hcells_agg, ld121, newPtr, AMem.next_alloc, gM1_0, e2] <;> rfl)) rfl ?_
       refine s_op (a_mv e1) rfl ?_
       refine s_op (a_len (by simp (disch := omega) only [Zu, Nat.reduceEqDiff, ↓reduceIte, alen_str, hlenS, Zs, Int.reduceToNat, hcells_agg, newPtr, AMem.next_alloc, gM1_0] <;> rfl)) rfl ?_
       refine s_call (by simp only [Zu, Nat.reduceEqDiff, ↓reduceIte, hlenS, Zs, Int.reduceToNat, hcells_agg, newPtr, AMem.next_alloc, gM1_0] <;> rfl) (by simp only [Zu, Nat.reduceEqDiff, ↓reduceIte, Zm, hlenS, Zs, Int.reduceToNat, hcells_agg, newPtr, AMem.next_alloc, gM1_0] <;> rfl) ?_
       rw [S74_96]; refine ⟨h, src, dst, _, rfl, ⟨hs, hd, by omega, by omega⟩, ?_⟩
       show EA _ _ _ _ _ _
       rw [Int.toNat_natCast]
       refine s_op (a_mv e1) rfl ?_
       refine s_op (a_bslice (by simp only [Zu, Nat.reduceEqDiff, ↓reduceIte, Zm, Array.toList, Zs, Int.reduceToNat, hcells_agg, newPtr, AMem.next_alloc, gM1_0]; exact abuildSlice_all [_, _] rfl rfl rfl rfl rfl (by decide) (by decide) rfl (by simp only [List.mem_cons, List.not_mem_nil, or_false, forall_eq_or_imp, forall_eq]; repeat' (first | rfl | apply And.intro)))) rfl ?_
       refine s_call (by simp only [Zu, Nat.reduceEqDiff, ↓reduceIte, hlenS, Zs, Int.reduceToNat, hcells_agg, newPtr, AMem.next_alloc, gM1_0] <;> rfl) (by simp only [Zu, Nat.reduceEqDiff, ↓reduceIte, Zm, hlenS, Zs, Int.reduceToNat, hcells_agg, newPtr, AMem.next_alloc, gM1_0] <;> rfl) ?_
       rw [S74_95]; refine ⟨_, [_, l], rfl, row_two (by simp) get_new, ⟨by simp; omega, by simp⟩, ?_⟩
       show EA _ _ _ _ _ _
       rw [show [pseudoF src dst 6 l.length, l].flatten = pseudoF src dst 6 l.length ++ l from by simp]
       refine s_op (a_bin (by simp (disch := omega) only [Zu, Nat.reduceEqDiff, ↓reduceIte, Zd, reduceCtorEq, abin_neq, abin_aneq, ne_eq, not_false_eq_true, Zs, Int.reduceToNat, hcells_agg] <;> rfl)) rfl ?_
       refine s_as ?_
       refine s_end (fun s' hs' => ?_)
       have e36 := congrFun hs' 36
       simp only [Zu, Nat.reduceEqDiff, ↓reduceIte, newPtr, AMem.next_alloc] at e36
       clear hs'
       try clear e1 e2
       refine o_norm ?_
       refine q_mem (fun M2 hEM2 => ?_)
       have hnM2 := congrArg AMem.next hEM2; simp only [Zn, Nat.add_assoc, Nat.reduceAdd] at hnM2
       have hnxM2 : M.next ≤ M2.next := by have := hnxM1; omega
       have holdM2 : ∀ j, j < M.next → M2.get j = M.get j := fun j hj => by have := hnxM1; rw [hEM2]; simp (disch := first | (refine Zx ?_; simp only [Zn]; done) | ((try simp only [Zn]); omega)) only [Zg]; exact holdM1 j hj
       have gM2_0 := congrArg (fun m => AMem.get m M.next) hEM2; try simp (disch := first | (refine Zx ?_; simp only [Zn]; done) | ((try simp only [Zn]); omega)) only [Zg, Nat.add_assoc, Nat.reduceAdd, gM1_0] at gM2_0
       have gM2_1 := congrArg (fun m => AMem.get m M1.next) hEM2; try simp (disch := first | (refine Zx ?_; simp only [Zn]; done) | ((try simp only [Zn]); omega)) only [Zg, Nat.add_assoc, Nat.reduceAdd, gM1_0] at gM2_1
       clear hEM2
       refine t_norm ?_
       refine at_cond rfl rfl e36 (fun h12 => ?_) (fun h12 => ?_)
       ·
        try simp only [Zh] at h12
        refine at_seq rfl ?_
        refine at_region hS rfl (by kernel_rfl) ?_
        refine s_op (a_as (by simp only [ev_const] <;> rfl)) rfl ?_
        refine s_end (fun s' hs' => ?_)
        have e4 := congrFun hs' 4
        simp only [Zu, Nat.reduceEqDiff, ↓reduceIte, newPtr, AMem.next_alloc] at e4
        clear hs'
        refine o_norm ?_
        refine t_norm ?_
        refine at_ret rfl ?_
        refine b_ret ?_
        refine t_ret ?_
        rw [show tcpE src dst l = 4 from by unfold tcpE; rw [if_neg (by omega), if_neg (by omega), if_neg (by omega), if_neg (by omega), if_neg (by omega), if_pos h12]] at hK
        refine bq_ret rfl (ars_cons (ar_tmp e4) ars_nil) ?_
        exact ⟨_, _, hK, Canon.forget rfl holdM2⟩
       ·
        try simp only [Zh] at h12
        refine at_skip rfl ?_
        refine b_norm ?_
        refine t_norm ?_
        refine at_seq rfl ?_
        refine at_region hS rfl (by kernel_rfl) ?_
        refine s_op (a_as (by simp only [ev_const] <;> rfl)) rfl ?_
        refine s_end (fun s' hs' => ?_)
        have e4 := congrFun hs' 4
        simp only [Zu, Nat.reduceEqDiff, ↓reduceIte, newPtr, AMem.next_alloc] at e4
        clear hs'
        refine o_norm ?_
        refine t_norm ?_
        refine at_ret rfl ?_
        rw [show tcpE src dst l = 0 from by unfold tcpE; rw [if_neg (by omega), if_neg (by omega), if_neg (by omega), if_neg (by omega), if_neg (by omega), if_neg (by simpa using h12)]] at hK
        refine bq_ret rfl (ars_cons (ar_tmp e4) ars_nil) ?_
        exact ⟨_, _, hK, Canon.forget rfl holdM2⟩
    ·
     refine at_region hS rfl (by kernel_rfl) ?_
     refine s_op (a_mv e1) rfl ?_
     refine s_op (a_index (by simp (disch := omega) only [Zu, Nat.reduceEqDiff, ↓reduceIte, Zs, Int.reduceToNat, hcells_agg, and8_15', hv] <;> rfl)) rfl ?_
     refine s_op (a_bin (by simp (disch := omega) only [Zu, Nat.reduceEqDiff, ↓reduceIte, Zd, reduceCtorEq, abin_and, and_255, and_15, and_65535, and_8191, ne_eq, not_false_eq_true, Zs, Int.reduceToNat, hcells_agg, and8_15', hv] <;> rfl)) rfl ?_
     refine s_op (a_bin (by simp (disch := omega) only [Zu, Nat.reduceEqDiff, ↓reduceIte, Zd, reduceCtorEq, abin_neq, abin_aneq, ne_eq, not_false_eq_true, Zs, Int.reduceToNat, hcells_agg, and8_15', hv] <;> rfl)) rfl ?_
     refine s_mv ?_
     refine s_lv ?_
     refine s_lv ?_
     refine s_lv ?_
     refine s_op (a_pick (by simp only [Zu, Nat.reduceEqDiff, ↓reduceIte, Zd, reduceCtorEq, hcells_agg, and8_15', hv] <;> rfl) (by simp only [Zu, Nat.reduceEqDiff, ↓reduceIte, Zd, reduceCtorEq, hcells_agg, and8_15', hv] <;> rfl)) rfl ?_
     refine s_as ?_
     refine s_end (fun s' hs' => ?_)
     replace e1 := kp 1 hs' e1
     replace e2 := kp 2 hs' e2
     have e22 := congrFun hs' 22
     simp only [Zu, Nat.reduceEqDiff, ↓reduceIte, newPtr, AMem.next_alloc] at e22
     clear hs'
     refine o_norm ?_
     refine t_norm ?_
     refine at_cond rfl rfl e22 (fun h8 => ?_) (fun hc => by cases hc)
     try simp only [Zh] at h8
     refine at_seq rfl ?_
     refine at_region hS rfl (by kernel_rfl) ?_
     refine s_op (a_as (by simp only [ev_const] <;> rfl)) rfl ?_
     refine s_end (fun s' hs' => ?_)
     have e4 := congrFun hs' 4
     simp only [Zu, Nat.reduceEqDiff, ↓reduceIte, newPtr, AMem.next_alloc] at e4
     clear hs'
     refine o_norm ?_
     refine t_norm ?_
     refine at_ret rfl ?_
     refine b_ret ?_
     refine t_ret ?_
     rw [show tcpE src dst l = 3 from by unfold tcpE; rw [if_neg (by omega), if_neg (by omega), if_neg (by omega), if_pos (by omega)]] at hK
     refine bq_ret rfl (ars_cons (ar_tmp e4) ars_nil) ?_
     exact ⟨_, _, hK, Canon.forget rfl holdM1⟩
end Go.Proofs.Ytdkdkpiemigfkaa
set_option linter.unusedVariables false
set_option linter.unusedSimpArgs false
set_option maxRecDepth 8000
namespace Go.Proofs.Ytdkdkpiemigfkaa
open Go Go.Proofs
section
variable (h : Segh) (a b x : Int)
theorem sth_0 : astore Try.prog 3 (headCells h a b) 0 (.int .i64 x) = some (headCells ⟨x, h.dst, h.seq, h.ack, h.flags, h.win, h.opts⟩ a b) := st3 (by rw [hc_len]; decide)
theorem sth_1 : astore Try.prog 3 (headCells h a b) 1 (.int .i64 x) = some (headCells ⟨h.src, x, h.seq, h.ack, h.flags, h.win, h.opts⟩ a b) := st3 (by rw [hc_len]; decide)
theorem sth_2 : astore Try.prog 23 (headCells h a b) 2 (.int .u32 x) = some (headCells ⟨h.src, h.dst, x, h.ack, h.flags, h.win, h.opts⟩ a b) := st23 (by rw [hc_len]; decide)
theorem sth_3 : astore Try.prog 23 (headCells h a b) 3 (.int .u32 x) = some (headCells ⟨h.src, h.dst, h.seq, x, h.flags, h.win, h.opts⟩ a b) := st23 (by rw [hc_len]; decide)
theorem sth_4 : astore Try.prog 3 (headCells h a b) 4 (.int .i64 x) = some (headCells ⟨h.src, h.dst, h.seq, h.ack, x, h.win, h.opts⟩ a b) := st3 (by rw [hc_len]; decide)
theorem sth_5 : astore Try.prog 3 (headCells h a b) 5 (.int .i64 x) = some (headCells ⟨h.src, h.dst, h.seq, h.ack, h.flags, x, h.opts⟩ a b) := st3 (by rw [hc_len]; decide)
theorem sth_6 (o : List UInt8) : astore Try.prog 9 (headCells h a b) 6 (asString o) = some (headCells ⟨h.src, h.dst, h.seq, h.ack, h.flags, h.win, o⟩ a b) := st9 (by rw [hc_len]; decide)
end
theorem tcpE_0 {src dst : Int} {l : List UInt8} (h : tcpE src dst l = 0) : 20 ≤ l.length ∧ 20 ≤ byteAt l 12 / 16 * 4 ∧ byteAt l 12 / 16 * 4 ≤ l.length ∧ l.length ≤ 2000 := by
  unfold tcpE at h
  repeat' split at h
  all_goals first | omega | skip
def sp58 : ASpec := fun args M K => ∃ (src dst : Int) (l : List UInt8), args = [.int .u32 src, .int .u32 dst, asString l] ∧ (u32 src ∧ u32 dst ∧ l.length ≤ 100000000) ∧ K (.ret (retSeg (tcpGetF src dst l))) M
noncomputable def S58 : FuncId → ASpec := tab [(74, sp74), (70, sp70)]
theorem S58_74 : S58 74 = sp74 := rfl
theorem S58_70 : S58 70 = sp70 := rfl
theorem S58_ok : ∀ f, Sound Try.prog f (S58 f) := tab_sound _ (by simp [f74_ok, f70_ok])
set_option maxHeartbeats 1000000 in
theorem f58_ok : Sound Try.prog 58 sp58 := by
 refine Sound.of_awp (c := bodyOf Try.f58) Try.func58 rfl rfl rfl ?_
 rintro args M K ⟨src, dst, l, rfl, ⟨hs, hd, hll⟩, hK⟩
 refine ⟨Nat.le_of_ble_eq_true rfl, ?_⟩
 have hS := S58_ok
 have e0 : entry [.int .u32 src, .int .u32 dst, asString l] 0 = .int .u32 src := rfl
 have e1 : entry [.int .u32 src, .int .u32 dst, asString l] 1 = .int .u32 dst := rfl
 have e2 : entry [.int .u32 src, .int .u32 dst, asString l] 2 = asString l := rfl
 have hz : azero Try.prog 57 = some seg0.cells := z57
 have hb : abuild Try.prog 57 [] = some seg0.cells := b57
 have hst : ∀ h : Segh, astore Try.prog 57 seg0.cells 0 (.agg h.cells.toArray) = some h.cells := fun h => st57 _ _
 obtain ⟨z0, z1⟩ := byteAt_bound l 12
 obtain ⟨z2, z3⟩ := byteAt_bound l 13
 refine at_seq rfl ?_
 refine at_region hS rfl (by kernel_rfl) ?_
 refine s_op (a_alloc hz) rfl ?_
 refine s_op (a_as (by simp only [ev_const] <;> rfl)) rfl ?_
 refine s_op (a_as (by simp only [ev_const] <;> rfl)) rfl ?_
 refine s_end (fun s' hs' => ?_)
 replace e0 := kp 0 hs' e0
 replace e1 := kp 1 hs' e1
 replace e2 := kp 2 hs' e2
 have e6 := congrFun hs' 6
 simp only [Zu, Nat.reduceEqDiff, ↓reduceIte, newPtr, AMem.next_alloc] at e6
 clear hs'
 refine o_norm ?_
 refine q_mem (fun M1 hEM1 => ?_)
 have hnM1 := congrArg AMem.next hEM1; simp only [Zn, Nat.add_assoc, Nat.reduceAdd] at hnM1
 have hnxM1 : M.next ≤ M1.next := by have := (Nat.le_refl M.next); omega
 have holdM1 : ∀ j, j < M.next → M1.get j = M.get j := fun j hj => by have := (Nat.le_refl M.next); rw [hEM1]; simp (disch := first | (refine Zx ?_; simp only [Zn]; done) | ((try simp only [Zn]); omega)) only [Zg]; done
 have gM1_0 := congrArg (fun m => AMem.get m M.next) hEM1; try simp (disch := first | (refine Zx ?_; simp only [Zn]; done) | ((try simp only [Zn]); omega)) only [Zg, Nat.add_assoc, Nat.reduceAdd] at gM1_0
 clear hEM1
 refine t_norm ?_
 refine at_seq rfl ?_
 refine at_region hS rfl (by kernel_rfl) ?_
 refine s_op (a_mv e0) rfl ?_
 refine s_op (a_mv e1) rfl ?_
 refine s_op (a_build (by simp only [Zu, Nat.reduceEqDiff, ↓reduceIte, Zm, Array.toList, Zs, Int.reduceToNat, bd121, st121, newPtr, AMem.next_alloc] <;> rfl)) rfl ?_
 refine s_op (a_alloc z121) rfl ?_
 refine s_op (a_store (by simp only [Zu, Nat.reduceEqDiff, ↓reduceIte, bd121, st121, newPtr, AMem.next_alloc, gM1_0] <;> rfl) (by simp (disch := first | (refine Zx ?_; simp only [Zn]; done) | ((try simp only [Zn]); omega)) only [Zg, bd121, st121, newPtr, gM1_0] <;> rfl) (by simp only [Zu, Nat.reduceEqDiff, ↓reduceIte, bd121, st121, newPtr, AMem.next_alloc, gM1_0] <;> rfl) (by simp only [bd121, st121, newPtr, AMem.next_alloc, gM1_0] <;> rfl)) rfl ?_
 refine s_end (fun s' hs' => ?_)
 replace e2 := kp 2 hs' e2
 replace e6 := kp 6 hs' e6
 have e9 := congrFun hs' 9
 simp only [Zu, Nat.reduceEqDiff, ↓reduceIte, newPtr, AMem.next_alloc] at e9
 clear hs'
 try clear e0 e1
 refine o_norm ?_
 refine q_mem (fun M2 hEM2 => ?_)
 have hnM2 := congrArg AMem.next hEM2; simp only [Zn, Nat.add_assoc, Nat.reduceAdd] at hnM2
 have hnxM2 : M.next ≤ M2.next := by have := hnxM1; omega
 have holdM2 : ∀ j, j < M.next → M2.get j = M.get j := fun j hj => by have := hnxM1; rw [hEM2]; simp (disch := first | (refine Zx ?_; simp only [Zn]; done) | ((try simp only [Zn]); omega)) only [Zg]; exact holdM1 j hj
 have gM2_0 := congrArg (fun m => AMem.get m M.next) hEM2; try simp (disch := first | (refine Zx ?_; simp only [Zn]; done) | ((try simp only [Zn]); omega)) only [Zg, Nat.add_assoc, Nat.reduceAdd, gM1_0] at gM2_0
 have gM2_1 := congrArg (fun m => AMem.get m M1.next) hEM2; try simp (disch := first | (refine Zx ?_; simp only [Zn]; done) | ((try simp only [Zn]); omega)) only [Zg, Nat.add_assoc, Nat.reduceAdd, gM1_0] at gM2_1
 clear hEM2
 refine t_norm ?_
 refine at_seq rfl ?_
 refine at_seq rfl ?_
 refine at_region hS rfl (by kernel_rfl) ?_
 refine s_op (a_load e9 (by simp (disch := first | (refine Zx ?_; simp only [Zn]; done) | ((try simp only [Zn]); omega)) only [Zg, ld121, newPtr, gM2_0, gM2_1, e9] <;> rfl) (by simp only [ld121, newPtr, AMem.next_alloc, gM2_0, gM2_1, e9] <;> rfl)) rfl ?_
 refine s_op (a_mv e2) rfl ?_
 refine s_call (by simp only [Zu, Nat.reduceEqDiff, ↓reduceIte, Zs, Int.reduceToNat, newPtr, AMem.next_alloc, gM2_0, gM2_1] <;> rfl) (by simp only [Zu, Nat.reduceEqDiff, ↓reduceIte, Zm, Zs, Int.reduceToNat, newPtr, AMem.next_alloc, gM2_0, gM2_1] <;> rfl) ?_
 rw [S58_74]; refine ⟨seg0, src, dst, l, rfl, ⟨hs, hd, hll⟩, ?_⟩
 show EA _ _ _ _ _ _
 refine s_as ?_
 refine s_end (fun s' hs' => ?_)
 replace e2 := kp 2 hs' e2
 replace e6 := kp 6 hs' e6
 replace e9 := kp 9 hs' e9
 have e10 := congrFun hs' 10
 simp only [Zu, Nat.reduceEqDiff, ↓reduceIte, newPtr, AMem.next_alloc] at e10
 clear hs'
 refine o_norm ?_
 refine t_norm ?_
 refine at_seq rfl ?_
 refine at_region hS rfl (by kernel_rfl) ?_
 refine s_op (a_mv e10) rfl ?_
 refine s_op (a_bin (by simp (disch := omega) only [Zu, Nat.reduceEqDiff, ↓reduceIte, Zd, reduceCtorEq, abin_neq, abin_aneq, ne_eq, not_false_eq_true, Zs, Int.reduceToNat] <;> rfl)) rfl ?_
 refine s_end (fun s' hs' => ?_)
 replace e2 := kp 2 hs' e2
 replace e6 := kp 6 hs' e6
 replace e9 := kp 9 hs' e9
 replace e10 := kp 10 hs' e10
 have e19 := congrFun hs' 19
 simp only [Zu, Nat.reduceEqDiff, ↓reduceIte, newPtr, AMem.next_alloc] at e19
 clear hs'
 refine o_norm ?_
 refine t_norm ?_
 refine at_cond rfl rfl e19 (fun h3 => ?_) (fun h3 => ?_)
 ·
  try simp only [Zh] at h3
  refine at_seq rfl ?_
  refine at_region hS rfl (by kernel_rfl) ?_
  refine s_op (a_build (by simp only [Zm, Array.toList, Zs, Int.reduceToNat, hb, hst, newPtr, AMem.next_alloc] <;> rfl)) rfl ?_
  refine s_op (a_mv e10) rfl ?_
  refine s_op (a_store e6 (by simp (disch := first | (refine Zx ?_; simp only [Zn]; done) | ((try simp only [Zn]); omega)) only [Zg, hb, hst, newPtr, gM2_0, gM2_1, e6] <;> rfl) (by simp only [Zu, Nat.reduceEqDiff, ↓reduceIte, hb, hst, newPtr, AMem.next_alloc, gM2_0, gM2_1, e6] <;> rfl) (by simp only [hb, hst, newPtr, AMem.next_alloc, gM2_0, gM2_1, e6] <;> rfl)) rfl ?_
  refine s_op (a_as (by simp only [ev_const] <;> rfl)) rfl ?_
  refine s_as ?_
  refine s_end (fun s' hs' => ?_)
  replace e6 := kp 6 hs' e6
  have e7 := congrFun hs' 7
  have e8 := congrFun hs' 8
  simp only [Zu, Nat.reduceEqDiff, ↓reduceIte, newPtr, AMem.next_alloc] at e7 e8
  clear hs'
  try clear e10
  refine o_norm ?_
  refine q_mem (fun M3 hEM3 => ?_)
  have hnM3 := congrArg AMem.next hEM3; simp only [Zn, Nat.add_assoc, Nat.reduceAdd] at hnM3
  have hnxM3 : M.next ≤ M3.next := by have := hnxM2; omega
  have holdM3 : ∀ j, j < M.next → M3.get j = M.get j := fun j hj => by have := hnxM2; rw [hEM3]; simp (disch := first | (refine Zx ?_; simp only [Zn]; done) | ((try simp only [Zn]); omega)) only [Zg]; exact holdM2 j hj
  have gM3_0 := congrArg (fun m => AMem.get m M.next) hEM3; try simp (disch := first | (refine Zx ?_; simp only [Zn]; done) | ((try simp only [Zn]); omega)) only [Zg, Nat.add_assoc, Nat.reduceAdd, gM2_0, gM2_1] at gM3_0
  have gM3_1 := congrArg (fun m => AMem.get m M1.next) hEM3; try simp (disch := first | (refine Zx ?_; simp only [Zn]; done) | ((try simp only [Zn]); omega)) only [Zg, Nat.add_assoc, Nat.reduceAdd, gM2_0, gM2_1] at gM3_1
  clear hEM3
  refine t_norm ?_
  refine at_ret rfl ?_
  refine t_ret ?_
  rw [show tcpGetF src dst l = (seg0, [], tcpE src dst l) from by unfold tcpGetF; rw [if_neg (by simpa using h3)]] at hK
  refine bq_ret rfl (ars_cons (ar_cell e6 gM3_0 (ld57 seg0)) (ars_cons (ar_tmp e7) (ars_cons (ar_tmp e8) ars_nil))) ?_
  exact ⟨_, _, hK, Canon.forget rfl holdM3⟩
 ·
  try simp only [Zh] at h3
  have h30 : tcpE src dst l = 0 := by simpa using h3
  obtain ⟨b0, b1, b2, b3⟩ := tcpE_0 h30
  refine at_skip rfl ?_
  refine t_norm ?_
  refine at_seq rfl ?_
  refine at_region hS rfl (by kernel_rfl) ?_
  refine s_op (a_mv e2) rfl ?_
  refine s_op (a_index (by simp (disch := omega) only [Zu, Nat.reduceEqDiff, ↓reduceIte, Zs, Int.reduceToNat] <;> rfl)) rfl ?_
  refine s_op (a_convi (by simp only [Zu, Nat.reduceEqDiff, ↓reduceIte, Zs, Int.reduceToNat, newPtr, AMem.next_alloc, gM2_0, gM2_1] <;> rfl) rfl rfl (by simp (disch := omega) only [wrap_i64]; try rfl)) rfl ?_
  refine s_op (a_bin (by simp (disch := omega) only [Zu, Nat.reduceEqDiff, ↓reduceIte, Zd, reduceCtorEq, shr_8, shr_16, shr_4, shr8_4, shr8_7, ne_eq, not_false_eq_true, Zs, Int.reduceToNat] <;> rfl)) rfl ?_
  refine s_op (a_bin (by simp (disch := omega) only [Zu, Nat.reduceEqDiff, ↓reduceIte, Zd, reduceCtorEq, abin_mul, wrap_i64, wrap_u32, wrap_u8, wrap_u64, wrap_i32, wrap_u16, ne_eq, not_false_eq_true, Zs, Int.reduceToNat] <;> rfl)) rfl ?_
  refine s_as ?_
  refine s_end (fun s' hs' => ?_)
  replace e2 := kp 2 hs' e2
  replace e6 := kp 6 hs' e6
  replace e9 := kp 9 hs' e9
  have e11 := congrFun hs' 11
  simp only [Zu, Nat.reduceEqDiff, ↓reduceIte, newPtr, AMem.next_alloc] at e11
  clear hs'
  refine o_norm ?_
  refine t_norm ?_
  refine at_seq rfl ?_
  refine at_draw ⟨[[], [0], [0, 1], [], [3], [0, 1, 2, 3, 4], [0, 1, 2], [0, 1, 2, 6], [0, 1, 2, 3, 4, 5, 6, 7], [0, 1, 2, 3, 4, 5, 6, 7, 8], [0, 1, 2, 3, 4, 5, 6, 7, 8, 9], [0, 1, 2, 3, 4, 5, 6, 7, 8, 9, 10]], [0, 1, 3, 4], [(2, [6, 7]), (5, []), (8, [9, 10]), (11, [])]⟩ hS rfl rfl (by kernel_rfl) (by kernel_rfl) ?_
  refine d_start ?_
  refine l_op rfl rfl (a_mv e2) rfl ?_ rfl
  refine l_op rfl rfl (a_slice (by simp (disch := omega) only [Zu, Nat.reduceEqDiff, ↓reduceIte, Zs, Int.reduceToNat, Nat.zero_add, sth_0, sth_1, gM2_0, gM2_1] <;> rfl)) rfl ?_ rfl
  refine l_op rfl rfl (a_mv e2) rfl ?_ rfl
  refine l_op rfl rfl (a_slice (by simp (disch := omega) only [Zu, Nat.reduceEqDiff, ↓reduceIte, Zs, Int.reduceToNat, Nat.zero_add, sth_0, sth_1, gM2_0, gM2_1] <;> rfl)) rfl ?_ rfl
  refine l_nil ?_
  refine h_op ?_ rfl rfl rfl ?_
  · refine again_l rfl rfl (a_slice (by simp (disch := omega) only [Zu, Nat.reduceEqDiff, ↓reduceIte, Zs, Int.reduceToNat, Nat.zero_add, sth_0, sth_1, gM2_0, gM2_1] <;> rfl)) ?_
    refine again_r rfl ?_
    refine again_l rfl rfl (a_slice (by simp (disch := omega) only [Zu, Nat.reduceEqDiff, ↓reduceIte, Zs, Int.reduceToNat, Nat.zero_add, sth_0, sth_1, gM2_0, gM2_1] <;> rfl)) ?_
    refine again_r rfl ?_
    exact again_nil
  refine s_call (by simp only [Zu, Nat.reduceEqDiff, ↓reduceIte, Zs, Int.reduceToNat, Nat.zero_add, sth_0, sth_1, newPtr, AMem.next_alloc, gM2_0, gM2_1] <;> rfl) (by simp only [Zu, Nat.reduceEqDiff, ↓reduceIte, Zm, Zs, Int.reduceToNat, Nat.zero_add, sth_0, sth_1, newPtr, AMem.next_alloc, gM2_0, gM2_1] <;> rfl) ?_
  rw [S58_70]; refine ⟨_, rfl, by rw [part_length (by omega)]; omega, ?_⟩
  show EA _ _ _ _ _ _
  refine s_end (fun s' hs' => ?_); subst hs'
  refine l_op rfl rfl (a_fa (by simp only [Zu, Nat.reduceEqDiff, ↓reduceIte, fa121_0, Nat.zero_add, fa57_0, fa57_1, sth_0, sth_1, newPtr, AMem.next_alloc, e9] <;> rfl)) rfl ?_ rfl
  refine l_op rfl rfl (a_fa (by simp only [Zu, Nat.reduceEqDiff, ↓reduceIte, fa57_0, Nat.zero_add, fa121_0, fa57_1, sth_0, sth_1, newPtr, AMem.next_alloc] <;> rfl)) rfl ?_ rfl
  refine l_nil ?_
  refine h_op ?_ rfl rfl rfl ?_
  · refine again_r rfl ?_
    refine again_r rfl ?_
    refine again_l rfl rfl (a_slice (by simp (disch := omega) only [Zu, Nat.reduceEqDiff, ↓reduceIte, Zs, Int.reduceToNat, Nat.zero_add, sth_0, sth_1, gM2_0, gM2_1] <;> rfl)) ?_
    refine again_r rfl ?_
    exact again_nil
  refine s_call (by simp only [Zu, Nat.reduceEqDiff, ↓reduceIte, Zs, Int.reduceToNat, Nat.zero_add, sth_0, sth_1, newPtr, AMem.next_alloc, gM2_0, gM2_1] <;> rfl) (by simp only [Zu, Nat.reduceEqDiff, ↓reduceIte, Zm, Zs, Int.reduceToNat, Nat.zero_add, sth_0, sth_1, newPtr, AMem.next_alloc, gM2_0, gM2_1] <;> rfl) ?_
  rw [S58_70]; refine ⟨_, rfl, by rw [part_length (by omega)]; omega, ?_⟩
  show EA _ _ _ _ _ _
  refine s_end (fun s' hs' => ?_); subst hs'
  refine l_nil ?_
  refine h_op ?_ rfl rfl rfl ?_
  · refine again_r rfl ?_
    refine again_r rfl ?_
    exact again_nil
  refine s_op (a_store (by simp only [Zu, Nat.reduceEqDiff, ↓reduceIte, Nat.zero_add, sth_0, sth_1, newPtr, AMem.next_alloc, gM2_0, gM2_1] <;> rfl) (by simp (disch := first | (refine Zx ?_; simp only [Zn]; done) | ((try simp only [Zn]); omega)) only [Zg, Nat.zero_add, sth_0, sth_1, newPtr, gM2_0, gM2_1] <;> rfl) (by simp only [Zu, Nat.reduceEqDiff, ↓reduceIte, Nat.zero_add, sth_0, sth_1, newPtr, AMem.next_alloc, gM2_0, gM2_1] <;> rfl) (by simp (disch := (first | omega | (simp only [List.length_cons, List.length_nil]; omega))) only [st3, List.set_cons_succ, List.set_cons_zero, Nat.zero_add, sth_0, sth_1, newPtr, AMem.next_alloc, gM2_0, gM2_1] <;> rfl)) rfl ?_
  refine s_end (fun s' hs' => ?_); subst hs'
  refine l_op rfl rfl (a_fa (by simp only [Zu, Nat.reduceEqDiff, ↓reduceIte, fa121_0, Nat.zero_add, fa57_0, fa57_1, sth_0, sth_1, newPtr, AMem.next_alloc, e9] <;> rfl)) rfl ?_ rfl
  refine l_op rfl rfl (a_fa (by simp only [Zu, Nat.reduceEqDiff, ↓reduceIte, fa57_1, Nat.zero_add, fa121_0, fa57_0, sth_0, sth_1, newPtr, AMem.next_alloc] <;> rfl)) rfl ?_ rfl
  refine l_nil ?_
  refine h_op ?_ rfl rfl rfl ?_
  · refine again_r rfl ?_
    refine again_r rfl ?_
    exact again_nil
  refine s_op (a_store (by simp only [Zu, Nat.reduceEqDiff, ↓reduceIte, Nat.zero_add, sth_0, sth_1, newPtr, AMem.next_alloc, gM2_0, gM2_1] <;> rfl) (by simp (disch := first | (refine Zx ?_; simp only [Zn]; done) | ((try simp only [Zn]); omega)) only [Zg, Nat.zero_add, sth_0, sth_1, newPtr, gM2_0, gM2_1] <;> rfl) (by simp only [Zu, Nat.reduceEqDiff, ↓reduceIte, Nat.zero_add, sth_0, sth_1, newPtr, AMem.next_alloc, gM2_0, gM2_1] <;> rfl) (by simp (disch := (first | omega | (simp only [List.length_cons, List.length_nil]; omega))) only [st3, List.set_cons_succ, List.set_cons_zero, Nat.zero_add, sth_0, sth_1, newPtr, AMem.next_alloc, gM2_0, gM2_1] <;> rfl)) rfl ?_
  refine s_end (fun s' hs' => ?_); subst hs'
  refine l_nil ?_
  refine h_end ?_ (fun s' hs' => ?_)
  · exact again_nil
  replace e2 := kp 2 hs' e2
  replace e6 := kp 6 hs' e6
  replace e9 := kp 9 hs' e9
  replace e11 := kp 11 hs' e11
  clear hs'
  refine o_norm ?_
  refine q_mem (fun M4 hEM4 => ?_)
  have hnM4 := congrArg AMem.next hEM4; simp only [Zn, Nat.add_assoc, Nat.reduceAdd] at hnM4
  have hnxM4 : M.next ≤ M4.next := by have := hnxM2; omega
  have holdM4 : ∀ j, j < M.next → M4.get j = M.get j := fun j hj => by have := hnxM2; rw [hEM4]; simp (disch := first | (refine Zx ?_; simp only [Zn]; done) | ((try simp only [Zn]); omega)) only [Zg]; exact holdM2 j hj
  have gM4_0 := congrArg (fun m => AMem.get m M.next) hEM4; try simp (disch := first | (refine Zx ?_; simp only [Zn]; done) | ((try simp only [Zn]); omega)) only [Zg, Nat.add_assoc, Nat.reduceAdd, gM2_0, gM2_1] at gM4_0
  have gM4_1 := congrArg (fun m => AMem.get m M1.next) hEM4; try simp (disch := first | (refine Zx ?_; simp only [Zn]; done) | ((try simp only [Zn]); omega)) only [Zg, Nat.add_assoc, Nat.reduceAdd, gM2_0, gM2_1] at gM4_1
  clear hEM4
  refine t_norm ?_
  refine at_seq rfl ?_
  obtain ⟨m0, m1⟩ := numF_bound4 (part l 4 8) (part_length (by omega))
  obtain ⟨m2, m3⟩ := numF_bound4 (part l 8 12) (part_length (by omega))
  refine at_draw ⟨[[], [0], [0, 1], [0, 1, 2], [], [4], [0, 1, 2, 4, 5], [0, 1, 2, 4, 5, 6], [0, 1, 2, 3], [0, 1, 2, 3, 8], [0, 1, 2, 3, 4, 5, 6, 8, 9], [0, 1, 2, 3, 4, 5, 6, 7, 8, 9, 10], [0, 1, 2, 3, 4, 5, 6, 7, 8, 9, 10, 11], [0, 1, 2, 3, 4, 5, 6, 7, 8, 9, 10, 11, 12]], [0, 1, 4, 5], [(2, [3, 8, 9]), (6, [7]), (10, [11, 12]), (13, [])]⟩ hS rfl rfl (by kernel_rfl) (by kernel_rfl) ?_
  refine d_start ?_
  refine l_op rfl rfl (a_mv e2) rfl ?_ rfl
  refine l_op rfl rfl (a_slice (by simp (disch := omega) only [Zu, Nat.reduceEqDiff, ↓reduceIte, Zs, Int.reduceToNat, Nat.zero_add, sth_2, sth_3, gM4_0, gM4_1] <;> rfl)) rfl ?_ rfl
  refine l_op rfl rfl (a_mv e2) rfl ?_ rfl
  refine l_op rfl rfl (a_slice (by simp (disch := omega) only [Zu, Nat.reduceEqDiff, ↓reduceIte, Zs, Int.reduceToNat, Nat.zero_add, sth_2, sth_3, gM4_0, gM4_1] <;> rfl)) rfl ?_ rfl
  refine l_nil ?_
  refine h_op ?_ rfl rfl rfl ?_
  · refine again_l rfl rfl (a_slice (by simp (disch := omega) only [Zu, Nat.reduceEqDiff, ↓reduceIte, Zs, Int.reduceToNat, Nat.zero_add, sth_2, sth_3, gM4_0, gM4_1] <;> rfl)) ?_
    refine again_r rfl ?_
    refine again_l rfl rfl (a_slice (by simp (disch := omega) only [Zu, Nat.reduceEqDiff, ↓reduceIte, Zs, Int.reduceToNat, Nat.zero_add, sth_2, sth_3, gM4_0, gM4_1] <;> rfl)) ?_
    refine again_r rfl ?_
    exact again_nil
  refine s_call (by simp only [Zu, Nat.reduceEqDiff, ↓reduceIte, Zs, Int.reduceToNat, Nat.zero_add, sth_2, sth_3, newPtr, AMem.next_alloc, gM4_0, gM4_1] <;> rfl) (by simp only [Zu, Nat.reduceEqDiff, ↓reduceIte, Zm, Zs, Int.reduceToNat, Nat.zero_add, sth_2, sth_3, newPtr, AMem.next_alloc, gM4_0, gM4_1] <;> rfl) ?_
  rw [S58_70]; refine ⟨_, rfl, by rw [part_length (by omega)]; omega, ?_⟩
  show EA _ _ _ _ _ _
  refine s_end (fun s' hs' => ?_); subst hs'
  refine l_op rfl rfl (a_convi (by simp only [Zu, Nat.reduceEqDiff, ↓reduceIte, Zs, Int.reduceToNat, Nat.zero_add, sth_2, sth_3, newPtr, AMem.next_alloc, gM4_0, gM4_1] <;> rfl) rfl rfl (by simp (disch := omega) only [wrapm_u32, Int.emod_eq_of_lt]; try rfl)) rfl ?_ rfl
  refine l_op rfl rfl (a_fa (by simp only [Zu, Nat.reduceEqDiff, ↓reduceIte, fa121_0, Nat.zero_add, fa57_2, fa57_3, sth_2, sth_3, newPtr, AMem.next_alloc, e9] <;> rfl)) rfl ?_ rfl
  refine l_op rfl rfl (a_fa (by simp only [Zu, Nat.reduceEqDiff, ↓reduceIte, fa57_2, Nat.zero_add, fa121_0, fa57_3, sth_2, sth_3, newPtr, AMem.next_alloc] <;> rfl)) rfl ?_ rfl
  refine l_nil ?_
  refine h_op ?_ rfl rfl rfl ?_
  · refine again_r rfl ?_
    refine again_r rfl ?_
    refine again_l rfl rfl (a_convi (by simp only [Zu, Nat.reduceEqDiff, ↓reduceIte, Zs, Int.reduceToNat, Nat.zero_add, sth_2, sth_3, newPtr, AMem.next_alloc, gM4_0, gM4_1] <;> rfl) rfl rfl (by simp (disch := omega) only [wrapm_u32, Int.emod_eq_of_lt]; try rfl)) ?_
    refine again_l rfl rfl (a_slice (by simp (disch := omega) only [Zu, Nat.reduceEqDiff, ↓reduceIte, Zs, Int.reduceToNat, Nat.zero_add, sth_2, sth_3, gM4_0, gM4_1] <;> rfl)) ?_
    refine again_r rfl ?_
    exact again_nil
  refine s_call (by simp only [Zu, Nat.reduceEqDiff, ↓reduceIte, Zs, Int.reduceToNat, Nat.zero_add, sth_2, sth_3, newPtr, AMem.next_alloc, gM4_0, gM4_1] <;> rfl) (by simp only [Zu, Nat.reduceEqDiff, ↓reduceIte, Zm, Zs, Int.reduceToNat, Nat.zero_add, sth_2, sth_3, newPtr, AMem.next_alloc, gM4_0, gM4_1] <;> rfl) ?_
  rw [S58_70]; refine ⟨_, rfl, by rw [part_length (by omega)]; omega, ?_⟩
  show EA _ _ _ _ _ _
  refine s_end (fun s' hs' => ?_); subst hs'
  refine l_op rfl rfl (a_convi (by simp only [Zu, Nat.reduceEqDiff, ↓reduceIte, Zs, Int.reduceToNat, Nat.zero_add, sth_2, sth_3, newPtr, AMem.next_alloc, gM4_0, gM4_1] <;> rfl) rfl rfl (by simp (disch := omega) only [wrapm_u32, Int.emod_eq_of_lt]; try rfl)) rfl ?_ rfl
  refine l_nil ?_
  refine h_op ?_ rfl rfl rfl ?_
  · refine again_l rfl rfl (a_convi (by simp only [Zu, Nat.reduceEqDiff, ↓reduceIte, Zs, Int.reduceToNat, Nat.zero_add, sth_2, sth_3, newPtr, AMem.next_alloc, gM4_0, gM4_1] <;> rfl) rfl rfl (by simp (disch := omega) only [wrapm_u32, Int.emod_eq_of_lt]; try rfl)) ?_
    refine again_r rfl ?_
    refine again_r rfl ?_
    refine again_l rfl rfl (a_convi (by simp only [Zu, Nat.reduceEqDiff, ↓reduceIte, Zs, Int.reduceToNat, Nat.zero_add, sth_2, sth_3, newPtr, AMem.next_alloc, gM4_0, gM4_1] <;> rfl) rfl rfl (by simp (disch := omega) only [wrapm_u32, Int.emod_eq_of_lt]; try rfl)) ?_
    exact again_nil
  refine s_op (a_store (by simp only [Zu, Nat.reduceEqDiff, ↓reduceIte, Nat.zero_add, sth_2, sth_3, newPtr, AMem.next_alloc, gM4_0, gM4_1] <;> rfl) (by simp (disch := first | (refine Zx ?_; simp only [Zn]; done) | ((try simp only [Zn]); omega)) only [Zg, Nat.zero_add, sth_2, sth_3, newPtr, gM4_0, gM4_1] <;> rfl) (by simp only [Zu, Nat.reduceEqDiff, ↓reduceIte, Nat.zero_add, sth_2, sth_3, newPtr, AMem.next_alloc, gM4_0, gM4_1] <;> rfl) (by simp (disch := (first | omega | (simp only [List.length_cons, List.length_nil]; omega))) only [st23, List.set_cons_succ, List.set_cons_zero, Nat.zero_add, sth_2, sth_3, newPtr, AMem.next_alloc, gM4_0, gM4_1] <;> rfl)) rfl ?_
  refine s_end (fun s' hs' => ?_); subst hs'
  refine l_op rfl rfl (a_fa (by simp only [Zu, Nat.reduceEqDiff, ↓reduceIte, fa121_0, Nat.zero_add, fa57_2, fa57_3, sth_2, sth_3, newPtr, AMem.next_alloc, e9] <;> rfl)) rfl ?_ rfl
  refine l_op rfl rfl (a_fa (by simp only [Zu, Nat.reduceEqDiff, ↓reduceIte, fa57_3, Nat.zero_add, fa121_0, fa57_2, sth_2, sth_3, newPtr, AMem.next_alloc] <;> rfl)) rfl ?_ rfl
  refine l_nil ?_
  refine h_op ?_ rfl rfl rfl ?_
  · refine again_r rfl ?_
    refine again_r rfl ?_
    refine again_l rfl rfl (a_convi (by simp only [Zu, Nat.reduceEqDiff, ↓reduceIte, Zs, Int.reduceToNat, Nat.zero_add, sth_2, sth_3, newPtr, AMem.next_alloc, gM4_0, gM4_1] <;> rfl) rfl rfl (by simp (disch := omega) only [wrapm_u32, Int.emod_eq_of_lt]; try rfl)) ?_
    exact again_nil
  refine s_op (a_store (by simp only [Zu, Nat.reduceEqDiff, ↓reduceIte, Nat.zero_add, sth_2, sth_3, newPtr, AMem.next_alloc, gM4_0, gM4_1] <;> rfl) (by simp (disch := first | (refine Zx ?_; simp only [Zn]; done) | ((try simp only [Zn]); omega)) only [Zg, Nat.zero_add, sth_2, sth_3, newPtr, gM4_0, gM4_1] <;> rfl) (by simp only [Zu, Nat.reduceEqDiff, ↓reduceIte, Nat.zero_add, sth_2, sth_3, newPtr, AMem.next_alloc, gM4_0, gM4_1] <;> rfl) (by simp (disch := (first | omega | (simp only [List.length_cons, List.length_nil]; omega))) only [st23, List.set_cons_succ, List.set_cons_zero, Nat.zero_add, sth_2, sth_3, newPtr, AMem.next_alloc, gM4_0, gM4_1] <;> rfl)) rfl ?_
  refine s_end (fun s' hs' => ?_); subst hs'
  refine l_nil ?_
  refine h_end ?_ (fun s' hs' => ?_)
  · exact again_nil
  replace e2 := kp 2 hs' e2
  replace e6 := kp 6 hs' e6
  replace e9 := kp 9 hs' e9
  replace e11 := kp 11 hs' e11
  clear hs'
  refine o_norm ?_
  refine q_mem (fun M5 hEM5 => ?_)
  have hnM5 := congrArg AMem.next hEM5; simp only [Zn, Nat.add_assoc, Nat.reduceAdd] at hnM5
  have hnxM5 : M.next ≤ M5.next := by have := hnxM4; omega
  have holdM5 : ∀ j, j < M.next → M5.get j = M.get j := fun j hj => by have := hnxM4; rw [hEM5]; simp (disch := first | (refine Zx ?_; simp only [Zn]; done) | ((try simp only [Zn]); omega)) only [Zg]; exact holdM4 j hj
  have gM5_0 := congrArg (fun m => AMem.get m M.next) hEM5; try simp (disch := first | (refine Zx ?_; simp only [Zn]; done) | ((try simp only [Zn]); omega)) only [Zg, Nat.add_assoc, Nat.reduceAdd, gM4_0, gM4_1] at gM5_0
  have gM5_1 := congrArg (fun m => AMem.get m M1.next) hEM5; try simp (disch := first | (refine Zx ?_; simp only [Zn]; done) | ((try simp only [Zn]); omega)) only [Zg, Nat.add_assoc, Nat.reduceAdd, gM4_0, gM4_1] at gM5_1
  clear hEM5
  refine t_norm ?_
  refine at_seq rfl ?_
  refine at_draw ⟨[[], [0], [0, 1], [], [3], [3, 4], [], [], [6, 7], [0, 1, 2], [0, 1, 2, 9], [0, 1, 2, 3, 4, 5, 9, 10], [0, 1, 2, 3, 4, 5, 9, 10, 11], [0, 1, 2, 3, 4, 5, 9, 10, 11, 12], [0, 1, 2, 3, 4, 5, 9, 10, 11, 12, 13], [0, 1, 2, 3, 4, 5, 6, 7, 8, 9, 10, 11, 12, 13, 14], [0, 1, 2, 3, 4, 5, 6, 7, 8, 9, 10, 11, 12, 13, 14, 15], [0, 1, 2, 3, 4, 5, 6, 7, 8, 9, 10, 11, 12, 13, 14, 15, 16]], [0, 1, 2, 3, 4, 6, 7, 8, 9, 10], [(5, []), (11, [12, 13]), (14, [15, 16]), (17, [])]⟩ hS rfl rfl (by kernel_rfl) (by kernel_rfl) ?_
  refine d_start ?_
  refine l_op rfl rfl (a_mv e2) rfl ?_ rfl
  refine l_op rfl rfl (a_index (by simp (disch := omega) only [Zu, Nat.reduceEqDiff, ↓reduceIte, Zs, Int.reduceToNat, Nat.zero_add, sth_4, sth_5, sth_6] <;> rfl)) rfl ?_ rfl
  refine l_op rfl rfl (a_convi (by simp only [Zu, Nat.reduceEqDiff, ↓reduceIte, Zs, Int.reduceToNat, Nat.zero_add, sth_4, sth_5, sth_6, newPtr, AMem.next_alloc, gM5_0, gM5_1] <;> rfl) rfl rfl (by simp (disch := omega) only [wrap_i64]; try rfl)) rfl ?_ rfl
  refine l_op rfl rfl (a_mv e2) rfl ?_ rfl
  refine l_op rfl rfl (a_slice (by simp (disch := omega) only [Zu, Nat.reduceEqDiff, ↓reduceIte, Zs, Int.reduceToNat, Nat.zero_add, sth_4, sth_5, sth_6, gM5_0, gM5_1] <;> rfl)) rfl ?_ rfl
  refine l_op rfl rfl (a_mv e2) rfl ?_ rfl
  refine l_op rfl rfl (a_mv e11) rfl ?_ rfl
  refine l_op rfl rfl (a_slice (by simp (disch := omega) only [Zu, Nat.reduceEqDiff, ↓reduceIte, Zs, Int.reduceToNat, Nat.zero_add, sth_4, sth_5, sth_6, gM5_0, gM5_1] <;> rfl)) rfl ?_ rfl
  refine l_op rfl rfl (a_fa (by simp only [Zu, Nat.reduceEqDiff, ↓reduceIte, fa121_0, Nat.zero_add, fa57_4, fa57_5, fa57_6, sth_4, sth_5, sth_6, newPtr, AMem.next_alloc, e9] <;> rfl)) rfl ?_ rfl
  refine l_op rfl rfl (a_fa (by simp only [Zu, Nat.reduceEqDiff, ↓reduceIte, fa57_4, Nat.zero_add, fa121_0, fa57_5, fa57_6, sth_4, sth_5, sth_6, newPtr, AMem.next_alloc] <;> rfl)) rfl ?_ rfl
  refine l_nil ?_
  refine h_op ?_ rfl rfl rfl ?_
  · refine again_r rfl ?_
    refine again_r rfl ?_
    refine again_l rfl rfl (a_slice (by simp (disch := omega) only [Zu, Nat.reduceEqDiff, ↓reduceIte, Zs, Int.reduceToNat, Nat.zero_add, sth_4, sth_5, sth_6, gM5_0, gM5_1] <;> rfl)) ?_
    refine again_r rfl ?_
    refine again_r rfl ?_
    refine again_l rfl rfl (a_slice (by simp (disch := omega) only [Zu, Nat.reduceEqDiff, ↓reduceIte, Zs, Int.reduceToNat, Nat.zero_add, sth_4, sth_5, sth_6, gM5_0, gM5_1] <;> rfl)) ?_
    refine again_r rfl ?_
    refine again_l rfl rfl (a_convi (by simp only [Zu, Nat.reduceEqDiff, ↓reduceIte, Zs, Int.reduceToNat, Nat.zero_add, sth_4, sth_5, sth_6, newPtr, AMem.next_alloc, gM5_0, gM5_1] <;> rfl) rfl rfl (by simp (disch := omega) only [wrap_i64]; try rfl)) ?_
    refine again_r rfl ?_
    refine again_r rfl ?_
    exact again_nil
  refine s_call (by simp only [Zu, Nat.reduceEqDiff, ↓reduceIte, Zs, Int.reduceToNat, Nat.zero_add, sth_4, sth_5, sth_6, newPtr, AMem.next_alloc, gM5_0, gM5_1] <;> rfl) (by simp only [Zu, Nat.reduceEqDiff, ↓reduceIte, Zm, Zs, Int.reduceToNat, Nat.zero_add, sth_4, sth_5, sth_6, newPtr, AMem.next_alloc, gM5_0, gM5_1] <;> rfl) ?_
  rw [S58_70]; refine ⟨_, rfl, by rw [part_length (by omega)]; omega, ?_⟩
  show EA _ _ _ _ _ _
  refine s_end (fun s' hs' => ?_); subst hs'
  refine l_nil ?_
  refine h_op ?_ rfl rfl rfl ?_
  · refine again_r rfl ?_
    refine again_r rfl ?_
    refine again_l rfl rfl (a_slice (by simp (disch := omega) only [Zu, Nat.reduceEqDiff, ↓reduceIte, Zs, Int.reduceToNat, Nat.zero_add, sth_4, sth_5, sth_6, gM5_0, gM5_1] <;> rfl)) ?_
    refine again_r rfl ?_
    refine again_r rfl ?_
    refine again_l rfl rfl (a_convi (by simp only [Zu, Nat.reduceEqDiff, ↓reduceIte, Zs, Int.reduceToNat, Nat.zero_add, sth_4, sth_5, sth_6, newPtr, AMem.next_alloc, gM5_0, gM5_1] <;> rfl) rfl rfl (by simp (disch := omega) only [wrap_i64]; try rfl)) ?_
    refine again_r rfl ?_
    refine again_r rfl ?_
    exact again_nil
  refine s_op (a_store (by simp only [Zu, Nat.reduceEqDiff, ↓reduceIte, Nat.zero_add, sth_4, sth_5, sth_6, newPtr, AMem.next_alloc, gM5_0, gM5_1] <;> rfl) (by simp (disch := first | (refine Zx ?_; simp only [Zn]; done) | ((try simp only [Zn]); omega)) only [Zg, Nat.zero_add, sth_4, sth_5, sth_6, newPtr, gM5_0, gM5_1] <;> rfl) (by simp only [Zu, Nat.reduceEqDiff, ↓reduceIte, Nat.zero_add, sth_4, sth_5, sth_6, newPtr, AMem.next_alloc, gM5_0, gM5_1] <;> rfl) (by simp (disch := (first | omega | (simp only [List.length_cons, List.length_nil]; omega))) only [st3, List.set_cons_succ, List.set_cons_zero, Nat.zero_add, sth_4, sth_5, sth_6, newPtr, AMem.next_alloc, gM5_0, gM5_1] <;> rfl)) rfl ?_
  refine s_end (fun s' hs' => ?_); subst hs'
  refine l_op rfl rfl (a_fa (by simp only [Zu, Nat.reduceEqDiff, ↓reduceIte, fa121_0, Nat.zero_add, fa57_4, fa57_5, fa57_6, sth_4, sth_5, sth_6, newPtr, AMem.next_alloc, e9] <;> rfl)) rfl ?_ rfl
  refine l_op rfl rfl (a_fa (by simp only [Zu, Nat.reduceEqDiff, ↓reduceIte, fa57_5, Nat.zero_add, fa121_0, fa57_4, fa57_6, sth_4, sth_5, sth_6, newPtr, AMem.next_alloc] <;> rfl)) rfl ?_ rfl
  refine l_nil ?_
  refine h_op ?_ rfl rfl rfl ?_
  · refine again_r rfl ?_
    refine again_r rfl ?_
    refine again_l rfl rfl (a_slice (by simp (disch := omega) only [Zu, Nat.reduceEqDiff, ↓reduceIte, Zs, Int.reduceToNat, Nat.zero_add, sth_4, sth_5, sth_6, gM5_0, gM5_1] <;> rfl)) ?_
    refine again_r rfl ?_
    refine again_r rfl ?_
    exact again_nil
  refine s_op (a_store (by simp only [Zu, Nat.reduceEqDiff, ↓reduceIte, Nat.zero_add, sth_4, sth_5, sth_6, newPtr, AMem.next_alloc, gM5_0, gM5_1] <;> rfl) (by simp (disch := first | (refine Zx ?_; simp only [Zn]; done) | ((try simp only [Zn]); omega)) only [Zg, Nat.zero_add, sth_4, sth_5, sth_6, newPtr, gM5_0, gM5_1] <;> rfl) (by simp only [Zu, Nat.reduceEqDiff, ↓reduceIte, Nat.zero_add, sth_4, sth_5, sth_6, newPtr, AMem.next_alloc, gM5_0, gM5_1] <;> rfl) (by simp (disch := (first | omega | (simp only [List.length_cons, List.length_nil]; omega))) only [st3, List.set_cons_succ, List.set_cons_zero, Nat.zero_add, sth_4, sth_5, sth_6, newPtr, AMem.next_alloc, gM5_0, gM5_1] <;> rfl)) rfl ?_
  refine s_end (fun s' hs' => ?_); subst hs'
  refine l_op rfl rfl (a_fa (by simp only [Zu, Nat.reduceEqDiff, ↓reduceIte, fa121_0, Nat.zero_add, fa57_4, fa57_5, fa57_6, sth_4, sth_5, sth_6, newPtr, AMem.next_alloc, e9] <;> rfl)) rfl ?_ rfl
  refine l_op rfl rfl (a_fa (by simp only [Zu, Nat.reduceEqDiff, ↓reduceIte, fa57_6, Nat.zero_add, fa121_0, fa57_4, fa57_5, sth_4, sth_5, sth_6, newPtr, AMem.next_alloc] <;> rfl)) rfl ?_ rfl
  refine l_nil ?_
  refine h_op ?_ rfl rfl rfl ?_
  · refine again_r rfl ?_
    refine again_r rfl ?_
    refine again_l rfl rfl (a_slice (by simp (disch := omega) only [Zu, Nat.reduceEqDiff, ↓reduceIte, Zs, Int.reduceToNat, Nat.zero_add, sth_4, sth_5, sth_6, gM5_0, gM5_1] <;> rfl)) ?_
    refine again_r rfl ?_
    refine again_r rfl ?_
    exact again_nil
  refine s_op (a_store (by simp only [Zu, Nat.reduceEqDiff, ↓reduceIte, Nat.zero_add, sth_4, sth_5, sth_6, newPtr, AMem.next_alloc, gM5_0, gM5_1] <;> rfl) (by simp (disch := first | (refine Zx ?_; simp only [Zn]; done) | ((try simp only [Zn]); omega)) only [Zg, Nat.zero_add, sth_4, sth_5, sth_6, newPtr, gM5_0, gM5_1] <;> rfl) (by simp only [Zu, Nat.reduceEqDiff, ↓reduceIte, Nat.zero_add, sth_4, sth_5, sth_6, newPtr, AMem.next_alloc, gM5_0, gM5_1] <;> rfl) (by simp (disch := (first | omega | (simp only [List.length_cons, List.length_nil]; omega))) only [st9, List.set_cons_succ, List.set_cons_zero, Nat.zero_add, sth_4, sth_5, sth_6, newPtr, AMem.next_alloc, gM5_0, gM5_1] <;> rfl)) rfl ?_
  refine s_end (fun s' hs' => ?_); subst hs'
  refine l_nil ?_
  refine h_end ?_ (fun s' hs' => ?_)
  · exact again_nil
  replace e2 := kp 2 hs' e2
  replace e6 := kp 6 hs' e6
  replace e9 := kp 9 hs' e9
  replace e11 := kp 11 hs' e11
  clear hs'
  refine o_norm ?_
  refine q_mem (fun M6 hEM6 => ?_)
  have hnM6 := congrArg AMem.next hEM6; simp only [Zn, Nat.add_assoc, Nat.reduceAdd] at hnM6
  have hnxM6 : M.next ≤ M6.next := by have := hnxM5; omega
  have holdM6 : ∀ j, j < M.next → M6.get j = M.get j := fun j hj => by have := hnxM5; rw [hEM6]; simp (disch := first | (refine Zx ?_; simp only [Zn]; done) | ((try simp only [Zn]); omega)) only [Zg]; exact holdM5 j hj
  have gM6_0 := congrArg (fun m => AMem.get m M.next) hEM6; try simp (disch := first | (refine Zx ?_; simp only [Zn]; done) | ((try simp only [Zn]); omega)) only [Zg, Nat.add_assoc, Nat.reduceAdd, gM5_0, gM5_1] at gM6_0
  have gM6_1 := congrArg (fun m => AMem.get m M1.next) hEM6; try simp (disch := first | (refine Zx ?_; simp only [Zn]; done) | ((try simp only [Zn]); omega)) only [Zg, Nat.add_assoc, Nat.reduceAdd, gM5_0, gM5_1] at gM6_1
  clear hEM6
  refine t_norm ?_
  refine at_seq rfl ?_
  refine at_draw ⟨[[], [0], [], [], [2, 3], [0, 1], [0, 1, 2, 3, 4, 5], [0, 1, 2, 3, 4, 5, 6]], [0, 1, 2, 3, 4], [(5, [6, 7])]⟩ hS rfl rfl (by kernel_rfl) (by kernel_rfl) ?_
  refine d_start ?_
  refine l_op rfl rfl (a_fa (by simp only [Zu, Nat.reduceEqDiff, ↓reduceIte, fa121_0, Nat.zero_add, ld57h, hst, newPtr, AMem.next_alloc, e9] <;> rfl)) rfl ?_ rfl
  refine l_op rfl rfl (a_load (by simp only [Zu, Nat.reduceEqDiff, ↓reduceIte, ld57h, hst, Nat.zero_add, newPtr, AMem.next_alloc, gM6_0, gM6_1] <;> rfl) (by simp (disch := first | (refine Zx ?_; simp only [Zn]; done) | ((try simp only [Zn]); omega)) only [Zg, ld57h, hst, Nat.zero_add, newPtr, gM6_0, gM6_1] <;> rfl) (by simp only [ld57h, hst, Nat.zero_add, newPtr, AMem.next_alloc, gM6_0, gM6_1] <;> rfl)) rfl ?_ rfl
  refine l_op rfl rfl (a_mv e2) rfl ?_ rfl
  refine l_op rfl rfl (a_mv e11) rfl ?_ rfl
  refine l_op rfl rfl (a_slice (by simp (disch := omega) only [Zu, Nat.reduceEqDiff, ↓reduceIte, Zs, Int.reduceToNat, ld57h, hst, Nat.zero_add, gM6_0, gM6_1] <;> rfl)) rfl ?_ rfl
  refine l_nil ?_
  refine h_op ?_ rfl rfl rfl ?_
  · refine again_l rfl rfl (a_slice (by simp (disch := omega) only [Zu, Nat.reduceEqDiff, ↓reduceIte, Zs, Int.reduceToNat, ld57h, hst, Nat.zero_add, gM6_0, gM6_1] <;> rfl)) ?_
    refine again_r rfl ?_
    refine again_r rfl ?_
    refine again_l rfl rfl (a_load (by simp only [Zu, Nat.reduceEqDiff, ↓reduceIte, ld57h, hst, Nat.zero_add, newPtr, AMem.next_alloc, gM6_0, gM6_1] <;> rfl) (by simp (disch := first | (refine Zx ?_; simp only [Zn]; done) | ((try simp only [Zn]); omega)) only [Zg, ld57h, hst, Nat.zero_add, newPtr, gM6_0, gM6_1] <;> rfl) (by simp only [ld57h, hst, Nat.zero_add, newPtr, AMem.next_alloc, gM6_0, gM6_1] <;> rfl)) ?_
    refine again_r rfl ?_
    exact again_nil
  refine s_op (a_store e6 (by simp (disch := first | (refine Zx ?_; simp only [Zn]; done) | ((try simp only [Zn]); omega)) only [Zg, ld57h, hst, Nat.zero_add, newPtr, gM6_0, gM6_1, e6] <;> rfl) (by simp only [Zu, Nat.reduceEqDiff, ↓reduceIte, ld57h, hst, Nat.zero_add, newPtr, AMem.next_alloc, gM6_0, gM6_1, e6] <;> rfl) (by simp only [ld57h, hst, Nat.zero_add, newPtr, AMem.next_alloc, gM6_0, gM6_1, e6] <;> rfl)) rfl ?_
  refine s_end (fun s' hs' => ?_); subst hs'
  refine l_op rfl rfl (a_as (by simp only [Zu, Nat.reduceEqDiff, ↓reduceIte] <;> rfl)) rfl ?_ rfl
  refine l_op rfl rfl (a_as (by simp only [ev_const] <;> rfl)) rfl ?_ rfl
  refine l_nil ?_
  refine h_end ?_ (fun s' hs' => ?_)
  · refine again_r rfl ?_
    refine again_r rfl ?_
    refine again_l rfl rfl (a_slice (by simp (disch := omega) only [Zu, Nat.reduceEqDiff, ↓reduceIte, Zs, Int.reduceToNat, ld57h, hst, Nat.zero_add, gM6_0, gM6_1] <;> rfl)) ?_
    refine again_r rfl ?_
    refine again_r rfl ?_
    exact again_nil
  replace e6 := kp 6 hs' e6
  have e7 := congrFun hs' 7
  have e8 := congrFun hs' 8
  simp only [Zu, Nat.reduceEqDiff, ↓reduceIte, newPtr, AMem.next_alloc] at e7 e8
  clear hs'
  try clear e2 e9 e11
  refine o_norm ?_
  refine q_mem (fun M7 hEM7 => ?_)
  have hnM7 := congrArg AMem.next hEM7; simp only [Zn, Nat.add_assoc, Nat.reduceAdd] at hnM7
  have hnxM7 : M.next ≤ M7.next := by have := hnxM6; omega
  have holdM7 : ∀ j, j < M.next → M7.get j = M.get j := fun j hj => by have := hnxM6; rw [hEM7]; simp (disch := first | (refine Zx ?_; simp only [Zn]; done) | ((try simp only [Zn]); omega)) only [Zg]; exact holdM6 j hj
  have gM7_0 := congrArg (fun m => AMem.get m M.next) hEM7; try simp (disch := first | (refine Zx ?_; simp only [Zn]; done) | ((try simp only [Zn]); omega)) only [Zg, Nat.add_assoc, Nat.reduceAdd, gM6_0, gM6_1] at gM7_0
  have gM7_1 := congrArg (fun m => AMem.get m M1.next) hEM7; try simp (disch := first | (refine Zx ?_; simp only [Zn]; done) | ((try simp only [Zn]); omega)) only [Zg, Nat.add_assoc, Nat.reduceAdd, gM6_0, gM6_1] at gM7_1
  clear hEM7
  refine t_norm ?_
  refine at_ret rfl ?_
  rw [show tcpGetF src dst l = (tcpHead l, part l (byteAt l 12 / 16 * 4).toNat l.length, 0) from by unfold tcpGetF; rw [if_pos h30]] at hK
  refine bq_ret rfl (ars_cons (ar_cell e6 gM7_0 (ld57 (tcpHead l))) (ars_cons (ar_tmp e7) (ars_cons (ar_tmp e8) ars_nil))) ?_
  exact ⟨_, _, hK, Canon.forget rfl holdM7⟩
def s32 (a : Int) : Int := if a < 2147483648 then a else a - 4294967296
theorem wrap_s32 {a : Int} (h0 : 0 ≤ a) (h1 : a ≤ 4294967295) : IntKind.i32.wrap a = s32 a := by
  simp only [IntKind.wrap, IntKind.bits, IntKind.signed, s32]
  simp
  split <;> omega
theorem s32_bound {a : Int} (h0 : 0 ≤ a) (h1 : a ≤ 4294967295) : -2147483648 ≤ s32 a ∧ s32 a ≤ 2147483647 := by unfold s32; split <;> omega
def diffF (a b : Int) : Int := s32 ((a - b) % 4294967296)
def plusF (a n : Int) : Int := (a + n) % 4294967296
def placeF (start seq near : Int) : Int := max 0 (min near 1099511627776) + diffF seq (plusF start (max 0 (min near 1099511627776)))
def sp59 : ASpec := fun args M K => ∃ a : Int, args = [.int .i32 a] ∧ (-2147483648 ≤ a ∧ a ≤ 2147483647) ∧ K (.ret (.int .i64 a)) M
def sp60 : ASpec := fun args M K => ∃ a : Int, args = [.int .u32 a] ∧ u32 a ∧ K (.ret (.int .i32 (s32 a))) M
def sp61 : ASpec := fun args M K => ∃ a : Int, args = [.int .i64 a] ∧ K (.ret (.int .u32 (a % 4294967296))) M
theorem f59_ok : Sound Try.prog 59 sp59 := by
 refine Sound.of_awp (c := bodyOf Try.f59) Try.func59 rfl rfl rfl ?_
 rintro args M K ⟨a, rfl, ⟨a0, a1⟩, hK⟩
 refine ⟨Nat.le_of_ble_eq_true rfl, ?_⟩
 have hS := noS_ok Try.prog
 have e0 : entry [.int .i32 a] 0 = .int .i32 a := rfl
 refine at_seq rfl ?_
 refine at_region hS rfl (by kernel_rfl) ?_
 refine s_op (a_as (by simp only [ev_const] <;> rfl)) rfl ?_
 refine s_end (fun s' hs' => ?_)
 replace e0 := kp 0 hs' e0
 clear hs'
 refine o_norm ?_
 refine t_norm ?_
 refine at_seq rfl ?_
 refine at_region hS rfl (by kernel_rfl) ?_
 refine s_op (a_mv e0) rfl ?_
 refine s_op (a_convi (by simp only [Zu, Nat.reduceEqDiff, ↓reduceIte, newPtr, AMem.next_alloc] <;> rfl) rfl rfl (by simp (disch := omega) only [wrap_i64]; try rfl)) rfl ?_
 refine s_as ?_
 refine s_end (fun s' hs' => ?_)
 have e2 := congrFun hs' 2
 simp only [Zu, Nat.reduceEqDiff, ↓reduceIte, newPtr, AMem.next_alloc] at e2
 clear hs'
 try clear e0
 refine o_norm ?_
 refine t_norm ?_
 refine at_ret rfl ?_
 refine bq_ret rfl (ars_cons (ar_tmp e2) ars_nil) ?_
 exact ⟨_, _, hK, Canon.forget rfl (fun _ _ => rfl)⟩
theorem f60_ok : Sound Try.prog 60 sp60 := by
 refine Sound.of_awp (c := bodyOf Try.f60) Try.func60 rfl rfl rfl ?_
 rintro args M K ⟨a, rfl, ⟨a0, a1⟩, hK⟩
 refine ⟨Nat.le_of_ble_eq_true rfl, ?_⟩
 have hS := noS_ok Try.prog
 have e0 : entry [.int .u32 a] 0 = .int .u32 a := rfl
 refine at_seq rfl ?_
 refine at_region hS rfl (by kernel_rfl) ?_
 refine s_op (a_as (by simp only [ev_const] <;> rfl)) rfl ?_
 refine s_end (fun s' hs' => ?_)
 replace e0 := kp 0 hs' e0
 clear hs'
 refine o_norm ?_
 refine t_norm ?_
 refine at_seq rfl ?_
 refine at_region hS rfl (by kernel_rfl) ?_
 refine s_op (a_mv e0) rfl ?_
 refine s_op (a_convi (by simp only [Zu, Nat.reduceEqDiff, ↓reduceIte, e0] <;> rfl) rfl rfl (wrap_s32 a0 a1)) rfl ?_
 refine s_as ?_
 refine s_end (fun s' hs' => ?_)
 have e2 := congrFun hs' 2
 simp only [Zu, Nat.reduceEqDiff, ↓reduceIte, newPtr, AMem.next_alloc] at e2
 clear hs'
 try clear e0
 refine o_norm ?_
 refine t_norm ?_
 refine at_ret rfl ?_
 refine bq_ret rfl (ars_cons (ar_tmp e2) ars_nil) ?_
 exact ⟨_, _, hK, Canon.forget rfl (fun _ _ => rfl)⟩
theorem f61_ok : Sound Try.prog 61 sp61 := by
 refine Sound.of_awp (c := bodyOf Try.f61) Try.func61 rfl rfl rfl ?_
 rintro args M K ⟨a, rfl, hK⟩
 refine ⟨Nat.le_of_ble_eq_true rfl, ?_⟩
 have hS := noS_ok Try.prog
 have e0 : entry [.int .i64 a] 0 = .int .i64 a := rfl
 refine at_seq rfl ?_
 refine at_region hS rfl (by kernel_rfl) ?_
 refine s_op (a_as (by simp only [ev_const] <;> rfl)) rfl ?_
 refine s_end (fun s' hs' => ?_)
 replace e0 := kp 0 hs' e0
 clear hs'
 refine o_norm ?_
 refine t_norm ?_
 refine at_seq rfl ?_
 refine at_region hS rfl (by kernel_rfl) ?_
 refine s_op (a_mv e0) rfl ?_
 refine s_op (a_convi (by simp only [Zu, Nat.reduceEqDiff, ↓reduceIte, e0] <;> rfl) rfl rfl (wrapm_u32 a)) rfl ?_
 refine s_as ?_
 refine s_end (fun s' hs' => ?_)
 have e2 := congrFun hs' 2
 simp only [Zu, Nat.reduceEqDiff, ↓reduceIte, newPtr, AMem.next_alloc] at e2
 clear hs'
 try clear e0
 refine o_norm ?_
 refine t_norm ?_
 refine at_ret rfl ?_
 refine bq_ret rfl (ars_cons (ar_tmp e2) ars_nil) ?_
 exact ⟨_, _, hK, Canon.forget rfl (fun _ _ => rfl)⟩
def sp41 : ASpec := fun args M K => ∃ a b : Int, args = [.int .u32 a, .int .u32 b] ∧ (u32 a ∧ u32 b) ∧ K (.ret (.int .i64 (diffF a b))) M
def sp42 : ASpec := fun args M K => ∃ a n : Int, args = [.int .u32 a, .int .i64 n] ∧ u32 a ∧ K (.ret (.int .u32 (plusF a n))) M
noncomputable def S41 : FuncId → ASpec := tab [(59, sp59), (60, sp60), (61, sp61)]
theorem S41_59 : S41 59 = sp59 := rfl
theorem S41_60 : S41 60 = sp60 := rfl
theorem S41_61 : S41 61 = sp61 := rfl
theorem S41_ok : ∀ f, Sound Try.prog f (S41 f) := tab_sound _ (by simp [f59_ok, f60_ok, f61_ok])
theorem f41_ok : Sound Try.prog 41 sp41 := by
 refine Sound.of_awp (c := bodyOf Try.f41) Try.func41 rfl rfl rfl ?_
 rintro args M K ⟨a, b, rfl, ⟨⟨a0, a1⟩, b0, b1⟩, hK⟩
 refine ⟨Nat.le_of_ble_eq_true rfl, ?_⟩
 have hS := S41_ok
 have e0 : entry [.int .u32 a, .int .u32 b] 0 = .int .u32 a := rfl
 have e1 : entry [.int .u32 a, .int .u32 b] 1 = .int .u32 b := rfl
 refine at_seq rfl ?_
 refine at_region hS rfl (by kernel_rfl) ?_
 refine s_op (a_as (by simp only [ev_const] <;> rfl)) rfl ?_
 refine s_end (fun s' hs' => ?_)
 replace e0 := kp 0 hs' e0
 replace e1 := kp 1 hs' e1
 clear hs'
 refine o_norm ?_
 refine t_norm ?_
 refine at_seq rfl ?_
 refine at_region hS rfl (by kernel_rfl) ?_
 refine s_op (a_mv e0) rfl ?_
 refine s_op (a_mv e1) rfl ?_
 refine s_op (a_bin (by simp only [Zu, Nat.reduceEqDiff, ↓reduceIte, abin_sub, wrapm_u32, e0, e1] <;> rfl)) rfl ?_
 refine s_call (by simp only [Zu, Nat.reduceEqDiff, ↓reduceIte, newPtr, AMem.next_alloc] <;> rfl) (by simp only [Zu, Nat.reduceEqDiff, ↓reduceIte, Zm, newPtr, AMem.next_alloc] <;> rfl) ?_
 rw [S41_60]; refine ⟨_, rfl, ⟨by omega, by omega⟩, ?_⟩
 show EA _ _ _ _ _ _
 refine s_call (by simp only [Zu, Nat.reduceEqDiff, ↓reduceIte, newPtr, AMem.next_alloc] <;> rfl) (by simp only [Zu, Nat.reduceEqDiff, ↓reduceIte, Zm, newPtr, AMem.next_alloc] <;> rfl) ?_
 rw [S41_59]; refine ⟨_, rfl, s32_bound (by omega) (by omega), ?_⟩
 show EA _ _ _ _ _ _
 refine s_as ?_
 refine s_end (fun s' hs' => ?_)
 have e4 := congrFun hs' 4
 simp only [Zu, Nat.reduceEqDiff, ↓reduceIte, newPtr, AMem.next_alloc] at e4
 clear hs'
 try clear e0 e1
 refine o_norm ?_
 refine t_norm ?_
 refine at_ret rfl ?_
 refine bq_ret rfl (ars_cons (ar_tmp e4) ars_nil) ?_
 exact ⟨_, _, hK, Canon.forget rfl (fun _ _ => rfl)⟩
theorem f42_ok : Sound Try.prog 42 sp42 := by
 refine Sound.of_awp (c := bodyOf Try.f42) Try.func42 rfl rfl rfl ?_
 rintro args M K ⟨a, n, rfl, ⟨a0, a1⟩, hK⟩
 refine ⟨Nat.le_of_ble_eq_true rfl, ?_⟩
 have hS := S41_ok
 have e0 : entry [.int .u32 a, .int .i64 n] 0 = .int .u32 a := rfl
 have e1 : entry [.int .u32 a, .int .i64 n] 1 = .int .i64 n := rfl
 refine at_seq rfl ?_
 refine at_region hS rfl (by kernel_rfl) ?_
 refine s_op (a_as (by simp only [ev_const] <;> rfl)) rfl ?_
 refine s_end (fun s' hs' => ?_)
 replace e0 := kp 0 hs' e0
 replace e1 := kp 1 hs' e1
 clear hs'
 refine o_norm ?_
 refine t_norm ?_
 refine at_seq rfl ?_
 refine at_region hS rfl (by kernel_rfl) ?_
 refine s_op (a_mv e0) rfl ?_
 refine s_op (a_mv e1) rfl ?_
 refine s_call (by simp only [Zu, Nat.reduceEqDiff, ↓reduceIte, newPtr, AMem.next_alloc] <;> rfl) (by simp only [Zu, Nat.reduceEqDiff, ↓reduceIte, Zm, newPtr, AMem.next_alloc] <;> rfl) ?_
 rw [S41_61]; refine ⟨_, rfl, ?_⟩
 show EA _ _ _ _ _ _
 refine s_op (a_bin (by simp only [Zu, Nat.reduceEqDiff, ↓reduceIte, abin_add, wrapm_u32, e0, e1] <;> rfl)) rfl ?_
 refine s_as ?_
 refine s_end (fun s' hs' => ?_)
 have e4 := congrFun hs' 4
 simp only [Zu, Nat.reduceEqDiff, ↓reduceIte, newPtr, AMem.next_alloc] at e4
 clear hs'
 try clear e0 e1
 refine o_norm ?_
 refine t_norm ?_
 refine at_ret rfl ?_
 rw [show (a + n % 4294967296) % 4294967296 = plusF a n from by unfold plusF; omega] at e4
 refine bq_ret rfl (ars_cons (ar_tmp e4) ars_nil) ?_
 exact ⟨_, _, hK, Canon.forget rfl (fun _ _ => rfl)⟩
theorem plusF_bound (a n : Int) : u32 (plusF a n) := by unfold plusF u32; omega
theorem diffF_bound (a b : Int) : -2147483648 ≤ diffF a b ∧ diffF a b ≤ 2147483647 := s32_bound (by omega) (by omega)
def sp30 : ASpec := fun args M K => ∃ st sq n : Int, args = [.int .u32 st, .int .u32 sq, .int .i64 n] ∧ (u32 st ∧ u32 sq) ∧ K (.ret (.int .i64 (placeF st sq n))) M
noncomputable def S30 : FuncId → ASpec := tab [(41, sp41), (42, sp42)]
theorem S30_41 : S30 41 = sp41 := rfl
theorem S30_42 : S30 42 = sp42 := rfl
theorem S30_ok : ∀ f, Sound Try.prog f (S30 f) := tab_sound _ (by simp [f41_ok, f42_ok])
theorem f30_ok : Sound Try.prog 30 sp30 := by
 refine Sound.of_awp (c := bodyOf Try.f30) Try.func30 rfl rfl rfl ?_
 rintro args M K ⟨st, sq, n, rfl, ⟨hst, hsq⟩, hK⟩
 refine ⟨Nat.le_of_ble_eq_true rfl, ?_⟩
 have hS := S30_ok
 have e0 : entry [.int .u32 st, .int .u32 sq, .int .i64 n] 0 = .int .u32 st := rfl
 have e1 : entry [.int .u32 st, .int .u32 sq, .int .i64 n] 1 = .int .u32 sq := rfl
 have e2 : entry [.int .u32 st, .int .u32 sq, .int .i64 n] 2 = .int .i64 n := rfl
 refine at_seq rfl ?_
 refine at_region hS rfl (by kernel_rfl) ?_
 refine s_op (a_as (by simp only [ev_const] <;> rfl)) rfl ?_
 refine s_end (fun s' hs' => ?_)
 replace e0 := kp 0 hs' e0
 replace e1 := kp 1 hs' e1
 replace e2 := kp 2 hs' e2
 clear hs'
 refine o_norm ?_
 refine t_norm ?_
 refine at_seq rfl ?_
 refine at_region hS rfl (by kernel_rfl) ?_
 refine s_op (a_mv e2) rfl ?_
 refine s_op (a_min (by simp only [Zu, Nat.reduceEqDiff, ↓reduceIte, newPtr, AMem.next_alloc] <;> rfl) (by simp only [Zu, Nat.reduceEqDiff, ↓reduceIte, newPtr, AMem.next_alloc] <;> rfl) rfl) rfl ?_
 refine s_op (a_max (by simp only [Zu, Nat.reduceEqDiff, ↓reduceIte, newPtr, AMem.next_alloc] <;> rfl) (by simp only [Zu, Nat.reduceEqDiff, ↓reduceIte, newPtr, AMem.next_alloc] <;> rfl) rfl) rfl ?_
 refine s_as ?_
 refine s_end (fun s' hs' => ?_)
 replace e0 := kp 0 hs' e0
 replace e1 := kp 1 hs' e1
 replace e2 := congrFun hs' 2
 simp only [Zu, Nat.reduceEqDiff, ↓reduceIte, newPtr, AMem.next_alloc] at e2
 clear hs'
 refine o_norm ?_
 refine t_norm ?_
 refine at_seq rfl ?_
 unfold placeF at hK
 have hb := diffF_bound sq (plusF st (max 0 (min n 1099511627776)))
 refine at_region hS rfl (by kernel_rfl) ?_
 refine s_op (a_mv e2) rfl ?_
 refine s_op (a_mv e1) rfl ?_
 refine s_op (a_mv e0) rfl ?_
 refine s_op (a_mv e2) rfl ?_
 refine s_call (by simp only [Zu, Nat.reduceEqDiff, ↓reduceIte, newPtr, AMem.next_alloc] <;> rfl) (by simp only [Zu, Nat.reduceEqDiff, ↓reduceIte, Zm, newPtr, AMem.next_alloc] <;> rfl) ?_
 rw [S30_42]; refine ⟨_, _, rfl, hst, ?_⟩
 show EA _ _ _ _ _ _
 refine s_call (by simp only [Zu, Nat.reduceEqDiff, ↓reduceIte, newPtr, AMem.next_alloc] <;> rfl) (by simp only [Zu, Nat.reduceEqDiff, ↓reduceIte, Zm, newPtr, AMem.next_alloc] <;> rfl) ?_
 rw [S30_41]; refine ⟨_, _, rfl, ⟨hsq, plusF_bound _ _⟩, ?_⟩
 show EA _ _ _ _ _ _
 refine s_op (a_bin (by simp (disch := ((try simp only [List.length_append, List.length_cons, List.length_nil]); omega)) only [Zu, Nat.reduceEqDiff, ↓reduceIte, Zd, reduceCtorEq, abin_add, abin_aadd, wrap_i64, wrap_u32, wrap_u8, wrap_u64, wrap_i32, wrap_u16, ne_eq, not_false_eq_true] <;> rfl)) rfl ?_
 refine s_as ?_
 refine s_end (fun s' hs' => ?_)
 have e6 := congrFun hs' 6
 simp only [Zu, Nat.reduceEqDiff, ↓reduceIte, newPtr, AMem.next_alloc] at e6
 clear hs'
 try clear e0 e1 e2
 refine o_norm ?_
 refine t_norm ?_
 refine at_ret rfl ?_
 refine bq_ret rfl (ars_cons (ar_tmp e6) ars_nil) ?_
 exact ⟨_, _, hK, Canon.forget rfl (fun _ _ => rfl)⟩
end Go.Proofs.Ytdkdkpiemigfkaa
set_option linter.unusedVariables false
set_option linter.unusedSimpArgs false
set_option maxRecDepth 8000
namespace Go.Proofs.Ytdkdkpiemigfkaa
open Go Go.Proofs
end Go.Proofs.Ytdkdkpiemigfkaa
set_option linter.unusedVariables false
set_option linter.unusedSimpArgs false
set_option maxRecDepth 8000
namespace Go.Proofs.Ytdkdkpiemigfkaa
open Go Go.Proofs
theorem flatten_drop {α : Type} {e : Nat} : ∀ (css : List (List α)) (j : Nat), (∀ c ∈ css, c.length = e) → css.flatten.drop (j * e) = (css.drop j).flatten := by
  intro css
  induction css with
  | nil => intro j _; simp
  | cons c css ih =>
    intro j h
    cases j with
    | zero => simp
    | succ j =>
      have hc : c.length = e := h c (by simp)
      rw [List.flatten_cons, Nat.succ_mul, List.drop_append, List.drop_eq_nil_of_le (by rw [hc]; omega), List.nil_append, hc, Nat.add_sub_cancel]
      exact ih j (fun d hd => h d (by simp [hd]))
theorem flatten_len {α : Type} {e : Nat} : ∀ (css : List (List α)), (∀ c ∈ css, c.length = e) → css.flatten.length = css.length * e := by
  intro css
  induction css with
  | nil => intro _; simp
  | cons c css ih =>
    intro h
    rw [List.flatten_cons, List.length_append, h c (by simp), ih (fun d hd => h d (by simp [hd])), List.length_cons, Nat.succ_mul]; omega
theorem flatten_part {α : Type} {e : Nat} {css : List (List α)} {j : Nat} (h : ∀ c ∈ css, c.length = e) {c : List α} (hj : css[j]? = some c) : ∃ rest, css.flatten.drop (j * e) = c ++ rest := by
  rw [flatten_drop css j h]
  have hlt : j < css.length := (List.getElem?_eq_some_iff.1 hj).1
  have he : css[j] = c := (List.getElem?_eq_some_iff.1 hj).2
  rw [List.drop_eq_getElem_cons hlt, List.flatten_cons, he]
  exact ⟨_, rfl⟩
theorem aload_part {P : Program} {t : TypeId} {it : TypeInfo} (hit : P.info? t = some it) {e q j : Nat} {css : List (List Value)} (h : ∀ c ∈ css, c.length = e) {c : List Value} (hj : css[j]? = some c) (hq : q + it.size ≤ e) (hpos : 0 < it.size) : aload P t css.flatten (j * e + q) = aload P t c q := by
  obtain ⟨rest, hr⟩ := flatten_part h hj
  have hc : c.length = e := h c (List.mem_of_getElem? hj)
  have hlt : j < css.length := (List.getElem?_eq_some_iff.1 hj).1
  have hfl := flatten_len css h
  have hm : (j + 1) * e ≤ css.length * e := Nat.mul_le_mul_right _ hlt
  rw [Nat.succ_mul] at hm
  have hd : css.flatten.drop (j * e + q) = (c.drop q) ++ rest := by
    rw [← List.drop_drop, hr, List.drop_append, Nat.sub_eq_zero_of_le (by omega), List.drop_zero]
  simp only [aload, hit]
  cases P.underlying t with
  | none => rfl
  | some d =>
    simp only
    split
    · rw [hd, List.take_append, Nat.sub_eq_zero_of_le (by rw [List.length_drop]; omega), List.take_zero, List.append_nil, if_pos (by omega), if_pos (by omega)]
    · have e1 : css.flatten[j * e + q]? = (css.flatten.drop (j * e + q))[0]? := by rw [List.getElem?_drop]; rfl
      rw [e1, hd, List.getElem?_append_left (by rw [List.length_drop]; omega), List.getElem?_drop]; rfl
theorem Row.elem {P : Program} {M : AMem} {t el : TypeId} {e : Nat} {v : Value} {css : List (List Value)} {i : TypeInfo} (h : Row M e v css.length css.flatten) (hl : ∀ c ∈ css, c.length = e) (ht : P.underlying t = some (.slice el)) (hi : P.info? el = some i) (he : i.size = e) {j : Nat} {c : List Value} (hj : css[j]? = some c) (k : IntKind) :
    ∃ id off all own, aindexAddr P t v (.int k (j : Nat)) = some (.pointer (some ⟨id, off, none⟩)) ∧ id < M.next ∧ M.get id = .cells all own ∧ ∀ t' it q, P.info? t' = some it → q + it.size ≤ e → 0 < it.size → aload P t' all (off + q) = aload P t' c q := by
  have hlt : j < css.length := (List.getElem?_eq_some_iff.1 hj).1
  obtain ⟨id, off, all, own, h1, h2, h3, h4⟩ := h.at ht hi he (j := (j : Int)) (by omega) (by omega) k
  refine ⟨id, off, all, own, h1, h2, h3, fun t' it q hit hq hpos => ?_⟩
  rw [h4 t' it q hit hq hpos, Int.toNat_natCast]
  exact aload_part hit hl hj hq hpos
def SlT (t : TypeId) (e : Nat) : Prop := ∃ el i z d, Try.prog.underlying t = some (.slice el) ∧ Try.prog.info? el = some i ∧ i.size = e ∧ i.zero = some z ∧ z.cells.size = i.size ∧ i.bytes ≠ 0 ∧ i.bytes ≤ 1000 ∧ d = 0
theorem sl28 : SlT 28 4 := ⟨_, _, _, 0, Try.underlying28, rfl, rfl, rfl, rfl, by decide, by decide, rfl⟩
theorem sl36 : SlT 36 4 := ⟨_, _, _, 0, Try.underlying36, rfl, rfl, rfl, rfl, by decide, by decide, rfl⟩
theorem sl45 : SlT 45 1 := ⟨_, _, _, 0, Try.underlying45, rfl, rfl, rfl, rfl, by decide, by decide, rfl⟩
theorem sl55 : SlT 55 1 := ⟨_, _, _, 0, Try.underlying55, rfl, rfl, rfl, rfl, by decide, by decide, rfl⟩
theorem app_many {t : TypeId} {M : AMem} {lo e len m : Nat} {v y : Value} {cs cs2 : List Value} (hs : SlT t e) (h : Own M lo e v len cs) (hlo : lo ≤ M.next) (hsrc : asrc M e y = some (m, cs2)) (hle : len + m ≤ 100000000000) (hone : cs2.all (·.oneCell') = true) (hl2 : cs2.length = m * e) :
    ∃ v' M', aappendOp Try.prog M t t v y = some (v', M') ∧ Own M' lo e v' (len + m) (cs ++ cs2) ∧ M.next ≤ M'.next ∧ (∀ k, k < lo → M'.get k = M.get k) ∧ (∀ k, k < M.next → (∀ o n q, v ≠ .slice (some ⟨k, o, none⟩) n q) → M'.get k = M.get k) := by
  obtain ⟨el, i, z, d, h1, h2, h3, h4, h5, h6, h7, _⟩ := hs
  have hb : (len + m) * i.bytes ≤ 100000000000 * 1000 := Nat.mul_le_mul hle h7
  exact aappend_ok (dx := .slice el) h hlo h1 h1 rfl h2 h3 h4 h5 hsrc h6 (by omega) hone hl2
theorem app_one {t : TypeId} {M : AMem} {lo e len : Nat} {v : Value} {cs c : List Value} (hs : SlT t e) (h : Own M lo e v len cs) (hlo : lo ≤ M.next) (hle : len ≤ 10000000000) (hone : c.all (·.oneCell') = true) (hl2 : c.length = e) (he : 0 < e) :
    ∃ v' M', aappendOp Try.prog (M.alloc (.cells c true)) t t v (.slice (some ⟨M.next, 0, none⟩) 1 e) = some (v', M') ∧ Own M' lo e v' (len + 1) (cs ++ c) ∧ M.next ≤ M'.next ∧ (∀ k, k < lo → M'.get k = M.get k) ∧ (∀ k, k < M.next → (∀ o n q, v ≠ .slice (some ⟨k, o, none⟩) n q) → M'.get k = M.get k) := by
  have hk : Own (M.alloc (.cells c true)) lo e v len cs := h.keep (by simp) (fun j h1 h2 => get_old (by omega))
  have hsrc : asrc (M.alloc (.cells c true)) e (.slice (some ⟨M.next, 0, none⟩) 1 e) = some (1, c) := by
    have hr : Row (M.alloc (.cells c true)) e (.slice (some ⟨M.next, 0, none⟩) 1 e) 1 c := ⟨by omega, .inr ⟨M.next, 0, c, true, rfl, by simp, get_new, by omega, by rw [List.drop_zero, List.take_of_length_le (by omega)]⟩⟩
    exact hr.src
  obtain ⟨v', M', h1, h2, h3, h4, h5⟩ := app_many hs hk (by simp; omega) hsrc (by omega) hone (by omega)
  refine ⟨v', M', h1, h2, by simp at h3; omega, fun k hk => ?_, fun k hk hne => ?_⟩
  · rw [h4 k hk, get_old (by omega)]
  · rw [h5 k (by simp; omega) hne, get_old (by omega)]
structure Fr where
  side : Int
  data : List UInt8
def Fr.cells (f : Fr) : List Value := [.int .i64 f.side, asString f.data]
structure Nt where
  sid : Int
  dir : Int
  at_ : Int
  action : Int
def Nt.cells (n : Nt) : List Value := [.int .i64 n.sid, .int .i64 n.dir, .int .i64 n.at_, .int .i64 n.action]
structure Ou where
  frames : List Fr
  notes : List Nt
  err : Int
  line : Int
def frsC (fs : List Fr) : List (List Value) := fs.map Fr.cells
def ntsC (ns : List Nt) : List (List Value) := ns.map Nt.cells
def FrsR (M : AMem) (v : Value) (fs : List Fr) : Prop := Row M 2 v fs.length (frsC fs).flatten
def NtsR (M : AMem) (v : Value) (ns : List Nt) : Prop := Row M 4 v ns.length (ntsC ns).flatten
def OuR (M : AMem) (c : List Value) (o : Ou) : Prop := ∃ fv nv, c = [fv, nv, .int .i64 o.err, .int .i64 o.line] ∧ FrsR M fv o.frames ∧ NtsR M nv o.notes
def OusR (M : AMem) (v : Value) (os : List Ou) : Prop := ∃ css : List (List Value), css.length = os.length ∧ Row M 4 v os.length css.flatten ∧ ∀ (i : Nat) (c : List Value) (o : Ou), css[i]? = some c → os[i]? = some o → OuR M c o
theorem FrsR.keep {M M' : AMem} {v : Value} {fs : List Fr} (h : FrsR M v fs) (hn : M.next ≤ M'.next) (hg : ∀ i, i < M.next → M'.get i = M.get i) : FrsR M' v fs := Row.keep h hn hg
theorem NtsR.keep {M M' : AMem} {v : Value} {fs : List Nt} (h : NtsR M v fs) (hn : M.next ≤ M'.next) (hg : ∀ i, i < M.next → M'.get i = M.get i) : NtsR M' v fs := Row.keep h hn hg
theorem OuR.keep {M M' : AMem} {c : List Value} {o : Ou} (h : OuR M c o) (hn : M.next ≤ M'.next) (hg : ∀ i, i < M.next → M'.get i = M.get i) : OuR M' c o := by
  obtain ⟨fv, nv, h1, h2, h3⟩ := h
  exact ⟨fv, nv, h1, h2.keep hn hg, h3.keep hn hg⟩
theorem OusR.keep {M M' : AMem} {v : Value} {os : List Ou} (h : OusR M v os) (hn : M.next ≤ M'.next) (hg : ∀ i, i < M.next → M'.get i = M.get i) : OusR M' v os := by
  obtain ⟨css, h1, h2, h3⟩ := h
  exact ⟨css, h1, h2.keep hn hg, fun i c o hc ho => (h3 i c o hc ho).keep hn hg⟩
theorem frsC_len (fs : List Fr) : ∀ c ∈ frsC fs, c.length = 2 := by intro c hc; simp only [frsC, List.mem_map] at hc; obtain ⟨f, _, rfl⟩ := hc; rfl
theorem ntsC_len (fs : List Nt) : ∀ c ∈ ntsC fs, c.length = 4 := by intro c hc; simp only [ntsC, List.mem_map] at hc; obtain ⟨f, _, rfl⟩ := hc; rfl
theorem frsC_length (fs : List Fr) : (frsC fs).length = fs.length := by simp [frsC]
theorem ntsC_length (fs : List Nt) : (ntsC fs).length = fs.length := by simp [ntsC]
theorem frsC_flat (fs : List Fr) : (frsC fs).flatten.length = fs.length * 2 := by rw [flatten_len _ (frsC_len fs), frsC_length]
theorem ntsC_flat (fs : List Nt) : (ntsC fs).flatten.length = fs.length * 4 := by rw [flatten_len _ (ntsC_len fs), ntsC_length]
theorem ntsC_app (a b : List Nt) : (ntsC (a ++ b)).flatten = (ntsC a).flatten ++ (ntsC b).flatten := by simp [ntsC]
theorem ntsC_one (fs : List Nt) : (ntsC fs).flatten.all (·.oneCell') = true := by
  rw [List.all_eq_true]; intro x hx
  simp only [ntsC, List.mem_flatten, List.mem_map] at hx
  obtain ⟨l, ⟨f, _, rfl⟩, hx⟩ := hx
  simp only [Nt.cells, List.mem_cons, List.not_mem_nil, or_false] at hx
  rcases hx with rfl | rfl | rfl | rfl <;> rfl
theorem ld27 (cs : List Value) (off : Nat) : aload Try.prog 27 cs off = cs[off]? := aload_one Try.underlying27 rfl rfl cs off
theorem ld28 (cs : List Value) (off : Nat) : aload Try.prog 28 cs off = cs[off]? := aload_one Try.underlying28 rfl rfl cs off
theorem ld34 (f : Fr) : aload Try.prog 34 f.cells 0 = some (.agg f.cells.toArray) := aload_whole Try.underlying34 (i := _) (by rfl) rfl rfl
theorem ld53 (f : Nt) : aload Try.prog 53 f.cells 0 = some (.agg f.cells.toArray) := aload_whole Try.underlying53 (i := _) (by rfl) rfl rfl
theorem ld31 (fv nv : Value) (a b : Int) : aload Try.prog 31 [fv, nv, .int .i64 a, .int .i64 b] 0 = some (.agg #[fv, nv, .int .i64 a, .int .i64 b]) := aload_whole Try.underlying31 (i := _) (by rfl) rfl rfl
theorem FrsR.at {M : AMem} {v : Value} {fs : List Fr} (h : FrsR M v fs) {j : Nat} {f : Fr} (hj : fs[j]? = some f) (k : IntKind) :
    ∃ id off all own, aindexAddr Try.prog 27 v (.int k (j : Nat)) = some (.pointer (some ⟨id, off, none⟩)) ∧ id < M.next ∧ M.get id = .cells all own ∧ aload Try.prog 3 all off = some (.int .i64 f.side) ∧ aload Try.prog 9 all (off + 1) = some (asString f.data) ∧ aload Try.prog 34 all off = some (.agg f.cells.toArray) := by
  have h' : Row M 2 v (frsC fs).length (frsC fs).flatten := by rw [frsC_length]; exact h
  obtain ⟨id, off, all, own, h1, h2, h3, h4⟩ := h'.elem (P := Try.prog) (frsC_len fs) Try.underlying27 (i := _) (by rfl) rfl (j := j) (c := f.cells) (by simp [frsC, hj]) k
  refine ⟨id, off, all, own, h1, h2, h3, ?_, ?_, ?_⟩
  · have := h4 3 _ 0 rfl (by decide) (by decide)
    rw [Nat.add_zero] at this; rw [this]; exact ld3 _ _
  · have := h4 9 _ 1 rfl (by decide) (by decide)
    rw [this]; exact ld9 _ _
  · have := h4 34 _ 0 rfl (by decide) (by decide)
    rw [Nat.add_zero] at this; rw [this]; exact ld34 f
theorem NtsR.at {M : AMem} {v : Value} {fs : List Nt} (h : NtsR M v fs) {j : Nat} {f : Nt} (hj : fs[j]? = some f) (k : IntKind) :
    ∃ id off all own, aindexAddr Try.prog 28 v (.int k (j : Nat)) = some (.pointer (some ⟨id, off, none⟩)) ∧ id < M.next ∧ M.get id = .cells all own ∧ aload Try.prog 3 all off = some (.int .i64 f.sid) ∧ aload Try.prog 3 all (off + 1) = some (.int .i64 f.dir) ∧ aload Try.prog 3 all (off + 2) = some (.int .i64 f.at_) ∧ aload Try.prog 3 all (off + 3) = some (.int .i64 f.action) ∧ aload Try.prog 53 all off = some (.agg f.cells.toArray) := by
  have h' : Row M 4 v (ntsC fs).length (ntsC fs).flatten := by rw [ntsC_length]; exact h
  obtain ⟨id, off, all, own, h1, h2, h3, h4⟩ := h'.elem (P := Try.prog) (ntsC_len fs) Try.underlying28 (i := _) (by rfl) rfl (j := j) (c := f.cells) (by simp [ntsC, hj]) k
  refine ⟨id, off, all, own, h1, h2, h3, ?_, ?_, ?_, ?_, ?_⟩
  · have := h4 3 _ 0 rfl (by decide) (by decide)
    rw [Nat.add_zero] at this; rw [this]; exact ld3 _ _
  · have := h4 3 _ 1 rfl (by decide) (by decide)
    rw [this]; exact ld3 _ _
  · have := h4 3 _ 2 rfl (by decide) (by decide)
    rw [this]; exact ld3 _ _
  · have := h4 3 _ 3 rfl (by decide) (by decide)
    rw [this]; exact ld3 _ _
  · have := h4 53 _ 0 rfl (by decide) (by decide)
    rw [Nat.add_zero] at this; rw [this]; exact ld53 f
theorem OusR.at {M : AMem} {v : Value} {os : List Ou} (h : OusR M v os) {j : Nat} {o : Ou} (hj : os[j]? = some o) (k : IntKind) :
    ∃ id off all own fv nv, aindexAddr Try.prog 36 v (.int k (j : Nat)) = some (.pointer (some ⟨id, off, none⟩)) ∧ id < M.next ∧ M.get id = .cells all own ∧ aload Try.prog 27 all off = some fv ∧ aload Try.prog 28 all (off + 1) = some nv ∧ aload Try.prog 31 all off = some (.agg #[fv, nv, .int .i64 o.err, .int .i64 o.line]) ∧ FrsR M fv o.frames ∧ NtsR M nv o.notes := by
  obtain ⟨css, h1, h2, h3⟩ := h
  have hlt : j < os.length := (List.getElem?_eq_some_iff.1 hj).1
  have hlen : ∀ c ∈ css, c.length = 4 := by
    intro c hc
    obtain ⟨i, hi, he⟩ := List.mem_iff_getElem.1 hc
    obtain ⟨fv, nv, h, _⟩ := h3 i c os[i] (by rw [← he]; exact List.getElem?_eq_getElem hi) (List.getElem?_eq_getElem (by omega))
    rw [h]; rfl
  have hc : css[j]? = some css[j] := List.getElem?_eq_getElem (by omega)
  obtain ⟨fv, nv, hcells, hf, hn⟩ := h3 j _ o hc hj
  rw [hcells] at hc
  have h2' : Row M 4 v css.length css.flatten := by rw [h1]; exact h2
  obtain ⟨id, off, all, own, g1, g2, g3, g4⟩ := h2'.elem (P := Try.prog) hlen Try.underlying36 (i := _) (by rfl) rfl hc k
  refine ⟨id, off, all, own, fv, nv, g1, g2, g3, ?_, ?_, ?_, hf, hn⟩
  · have := g4 27 _ 0 rfl (by decide) (by decide)
    rw [Nat.add_zero] at this; rw [this]; exact ld27 _ _
  · have := g4 28 _ 1 rfl (by decide) (by decide)
    rw [this]; exact ld28 _ _
  · have := g4 31 _ 0 rfl (by decide) (by decide)
    rw [Nat.add_zero] at this; rw [this]; exact ld31 _ _ _ _
theorem OusR.len {M : AMem} {v : Value} {os : List Ou} (h : OusR M v os) (M' : AMem) : alen Try.prog M' 36 v = some (.int .i64 os.length) := by
  obtain ⟨css, h1, h2, h3⟩ := h
  exact Row.len h2 (P := Try.prog) Try.underlying36 M'
theorem FrsR.len {M : AMem} {v : Value} {os : List Fr} (h : FrsR M v os) (M' : AMem) : alen Try.prog M' 27 v = some (.int .i64 os.length) := Row.len h (P := Try.prog) Try.underlying27 M'
theorem NtsR.len {M : AMem} {v : Value} {os : List Nt} (h : NtsR M v os) (M' : AMem) : alen Try.prog M' 28 v = some (.int .i64 os.length) := Row.len h (P := Try.prog) Try.underlying28 M'
end Go.Proofs.Ytdkdkpiemigfkaa
set_option linter.unusedVariables false
set_option linter.unusedSimpArgs false
set_option maxRecDepth 8000
namespace Go.Proofs.Ytdkdkpiemigfkaa
open Go Go.Proofs
theorem flatMap_snoc {α β : Type} {os : List α} {i : Nat} {o : α} (h : os[i]? = some o) (f : α → List β) : (os.take (i + 1)).flatMap f = (os.take i).flatMap f ++ f o := by
  have hlt : i < os.length := (List.getElem?_eq_some_iff.1 h).1
  have he : os[i] = o := (List.getElem?_eq_some_iff.1 h).2
  rw [take_snoc os i hlt, List.flatMap_append, he]; simp
theorem flatMap_le {α β : Type} {os : List α} {i : Nat} {o : α} (h : os[i]? = some o) (f : α → List β) : ((os.take i).flatMap f).length + (f o).length ≤ (os.flatMap f).length := by
  have hlt : i < os.length := (List.getElem?_eq_some_iff.1 h).1
  have e : os.flatMap f = (os.take (i + 1)).flatMap f ++ (os.drop (i + 1)).flatMap f := by rw [← List.flatMap_append, List.take_append_drop]
  rw [e, flatMap_snoc h, List.length_append, List.length_append]; omega
def fewO (os : List Ou) : Prop := os.length ≤ 100000 ∧ (os.flatMap Ou.frames).length ≤ 1000000 ∧ (os.flatMap Ou.notes).length ≤ 1000000
def retOwn (M : AMem) (e len : Nat) (cs : List Value) (K : Res → AMem → Prop) : Prop := ∀ v M', M.next ≤ M'.next → (∀ j, j < M.next → M'.get j = M.get j) → Own M' M.next e v len cs → K (.ret v) M'
theorem Own.lower {M : AMem} {lo lo' e len : Nat} {v : Value} {cs : List Value} (h : Own M lo e v len cs) (hl : lo' ≤ lo) : Own M lo' e v len cs := by
  refine ⟨h.1, ?_⟩
  rcases h.2 with h1 | ⟨id, h1, h2, h3, h4⟩
  · exact .inl h1
  · exact .inr ⟨id, h1, by omega, h3, h4⟩
end Go.Proofs.Ytdkdkpiemigfkaa
set_option linter.unusedVariables false
set_option linter.unusedSimpArgs false
set_option maxRecDepth 8000
namespace Go.Proofs.Ytdkdkpiemigfkaa
open Go Go.Proofs
def selF (side : Int) (fs : List Fr) : List (List UInt8) := (fs.filter fun f => decide (f.side = side)).map Fr.data
theorem selF_le (side : Int) (fs : List Fr) : (selF side fs).length ≤ fs.length := by unfold selF; rw [List.length_map]; exact List.length_filter_le _ _
theorem selF_app (side : Int) (a b : List Fr) : selF side (a ++ b) = selF side a ++ selF side b := by unfold selF; rw [List.filter_append, List.map_append]
theorem strs_one (l : List (List UInt8)) : (l.map asString).all (·.oneCell') = true := by
  rw [List.all_eq_true]; intro x hx; simp only [List.mem_map] at hx; obtain ⟨y, _, rfl⟩ := hx; rfl
end Go.Proofs.Ytdkdkpiemigfkaa
set_option linter.unusedVariables false
set_option linter.unusedSimpArgs false
set_option maxRecDepth 8000
namespace Go.Proofs.Ytdkdkpiemigfkaa
open Go Go.Proofs
theorem z31 : azero Try.prog 31 = some [.slice none 0 0, .slice none 0 0, .int .i64 0, .int .i64 0] := by kernel_rfl
theorem z34 : azero Try.prog 34 = some (Fr.cells ⟨0, []⟩) := by kernel_rfl
theorem st31 {fv nv : Value} (h1 : fv.oneCell' = true) (h2 : nv.oneCell' = true) (a b : Int) : astore Try.prog 31 [.slice none 0 0, .slice none 0 0, .int .i64 0, .int .i64 0] 0 (.agg #[fv, nv, .int .i64 a, .int .i64 b]) = some [fv, nv, .int .i64 a, .int .i64 b] :=
  astore_whole (i := _) (vs := [fv, nv, .int .i64 a, .int .i64 b]) (by rfl) rfl rfl (by simp only [List.all_cons, h1, h2]; rfl)
theorem st34 (f g : Fr) : astore Try.prog 34 f.cells 0 (.agg g.cells.toArray) = some g.cells := astore_whole (i := _) (by rfl) rfl rfl rfl
theorem Row.oneCell {M : AMem} {e len : Nat} {v : Value} {cs : List Value} (h : Row M e v len cs) : v.oneCell' = true := by
  rcases h.2 with ⟨rfl, _⟩ | ⟨_, _, _, _, rfl, _⟩ <;> rfl
theorem fcells0 (f : Fr) : f.cells[0]? = some (.int .i64 f.side) := rfl
theorem fcells1 (f : Fr) : f.cells[1]? = some (asString f.data) := rfl
def sp14 : ASpec := fun args M K => ∃ (lv : Value) (os : List Ou), args = [lv] ∧ OusR M lv os ∧ fewO os ∧ retOwn M 4 (os.flatMap Ou.notes).length (ntsC (os.flatMap Ou.notes)).flatten K
theorem f14_ok : Sound Try.prog 14 sp14 := by
 refine Sound.of_awp (c := bodyOf Try.f14) Try.func14 rfl rfl rfl ?_
 rintro args M K ⟨lv, os, rfl, hos, ⟨hb1, hb2, hb3⟩, hK⟩
 refine ⟨Nat.le_of_ble_eq_true rfl, ?_⟩
 have hS := noS_ok Try.prog
 have e0 : entry [lv] 0 = lv := rfl
 refine at_seq rfl ?_
 refine at_region hS rfl (by kernel_rfl) ?_
 refine s_op (a_as (by simp only [ev_const] <;> rfl)) rfl ?_
 refine s_end (fun s' hs' => ?_)
 replace e0 := kp 0 hs' e0
 clear hs'
 refine o_norm ?_
 refine t_norm ?_
 refine at_seq rfl ?_
 refine at_region hS rfl (by kernel_rfl) ?_
 refine s_op (a_as (by simp only [ev_const] <;> rfl)) rfl ?_
 refine s_end (fun s' hs' => ?_)
 replace e0 := kp 0 hs' e0
 have e3 := congrFun hs' 3
 simp only [Zu, Nat.reduceEqDiff, ↓reduceIte, newPtr, AMem.next_alloc] at e3
 clear hs'
 refine o_norm ?_
 refine t_norm ?_
 refine at_seq rfl ?_
 refine at_seq rfl ?_
 refine at_region hS rfl (by kernel_rfl) ?_
 refine s_op (a_mv e0) rfl ?_
 refine s_op (a_len (by simp (disch := omega) only [Zu, Nat.reduceEqDiff, ↓reduceIte, alen_str, OusR.len hos, newPtr, AMem.next_alloc] <;> rfl)) rfl ?_
 refine s_op (a_mv (by simp only [ev_const] <;> rfl)) rfl ?_
 refine s_end (fun s' hs' => ?_)
 replace e3 := kp 3 hs' e3
 have e6 := congrFun hs' 6
 have e7 := congrFun hs' 7
 have e8 := congrFun hs' 8
 simp only [Zu, Nat.reduceEqDiff, ↓reduceIte, newPtr, AMem.next_alloc] at e6 e7 e8
 clear hs'
 try clear e0
 refine o_norm ?_
 refine t_norm ?_
 refine at_block rfl ?_
 refine at_loop rfl (fun km s ML ds => ∃ (i : Nat), ∃ (mv : Value), s 3 = mv ∧ s 6 = lv ∧ s 7 = .int .i64 os.length ∧ s 8 = .int .i64 i ∧ i ≤ os.length ∧ Own ML M.next 4 mv ((os.take i).flatMap Ou.notes).length (ntsC ((os.take i).flatMap Ou.notes)).flatten ∧ km = os.length - i ∧ M.next ≤ ML.next ∧ M.next ≤ ML.next ∧ (∀ j, j < M.next → ML.get j = M.get j) ∧ ds = []) (os.length - (0)) ⟨0, .slice none 0 0, (by first | exact e3 | (rw [e3]; rfl) | (simpa using e3)), (by first | exact e6 | (rw [e6]; rfl) | (simpa using e6)), (by first | exact e7 | (rw [e7]; rfl) | (simpa using e7)), (by first | exact e8 | (rw [e8]; rfl) | (simpa using e8)), (by omega), (by simpa [ntsC] using Own.nil _ _ _), rfl, (Nat.le_refl M.next), by omega, (fun _ _ => rfl), rfl⟩ ?_
 clear e3 e6 e7 e8
 rintro km s M1 ds ⟨i, mv, e3, e6, e7, e8, hi, hown, hk, hnxM1, hngM1, holdM1, rfl⟩
 refine at_seq rfl ?_
 refine at_region hS rfl (by kernel_rfl) ?_
 refine s_op (a_bin (by simp (disch := omega) only [Zu, Nat.reduceEqDiff, ↓reduceIte, Zd, reduceCtorEq, abin_lss, ne_eq, not_false_eq_true, e7, e8] <;> rfl)) rfl ?_
 refine s_end (fun s' hs' => ?_)
 replace e3 := kp 3 hs' e3
 replace e6 := kp 6 hs' e6
 replace e7 := kp 7 hs' e7
 replace e8 := kp 8 hs' e8
 have e9 := congrFun hs' 9
 simp only [Zu, Nat.reduceEqDiff, ↓reduceIte, newPtr, AMem.next_alloc] at e9
 clear hs'
 refine o_norm ?_
 refine t_norm ?_
 refine at_seq rfl ?_
 refine at_cond rfl rfl e9 (fun h3 => ?_) (fun h3 => ?_)
 ·
  try simp only [Zh] at h3
  refine at_skip rfl ?_
  refine t_norm ?_
  refine at_seq rfl ?_
  refine at_block rfl ?_
  refine at_seq rfl ?_
  have hos' := hos.keep (M' := M1) hnxM1 holdM1
  have hil : i < os.length := by omega
  obtain ⟨o, hoi⟩ : ∃ o, os[i]? = some o := ⟨_, List.getElem?_eq_getElem hil⟩
  obtain ⟨id, off, all, own, fv, nv, hia, hid, hget, hl1, hl2, hl3, hfr, hnr⟩ := hos'.at hoi .i64
  have hst := st31 (Row.oneCell hfr) (Row.oneCell hnr)
  have hfl := flatMap_le hoi Ou.notes
  refine at_region hS rfl (by kernel_rfl) ?_
  refine s_op (a_ia (by simp (disch := omega) only [Zu, Nat.reduceEqDiff, ↓reduceIte, hia, hst, newPtr, AMem.next_alloc, e6, e8] <;> rfl)) rfl ?_
  refine s_op (a_load (by simp only [Zu, Nat.reduceEqDiff, ↓reduceIte, hget, hl3, hst, newPtr, AMem.next_alloc] <;> rfl) (by simp (disch := first | (refine Zx ?_; simp only [Zn]; done) | ((try simp only [Zn]); omega)) only [Zg, hget, hl3, hst, newPtr] <;> rfl) (by simp only [hget, hl3, hst, newPtr, AMem.next_alloc] <;> rfl)) rfl ?_
  refine s_op (a_alloc z31) rfl ?_
  refine s_op (a_store (by simp only [Zu, Nat.reduceEqDiff, ↓reduceIte, hget, hst, newPtr, AMem.next_alloc] <;> rfl) (by simp (disch := first | (refine Zx ?_; simp only [Zn]; done) | ((try simp only [Zn]); omega)) only [Zg, hget, hst, newPtr] <;> rfl) (by simp only [Zu, Nat.reduceEqDiff, ↓reduceIte, hget, hst, newPtr, AMem.next_alloc] <;> rfl) (by simp only [hget, hst, newPtr, AMem.next_alloc] <;> rfl)) rfl ?_
  refine s_end (fun s' hs' => ?_)
  replace e3 := kp 3 hs' e3
  have e5 := congrFun hs' 5
  replace e6 := kp 6 hs' e6
  replace e7 := kp 7 hs' e7
  replace e8 := kp 8 hs' e8
  simp only [Zu, Nat.reduceEqDiff, ↓reduceIte, newPtr, AMem.next_alloc] at e5
  clear hs'
  refine o_norm ?_
  refine q_mem (fun M2 hEM2 => ?_)
  have hnM2 := congrArg AMem.next hEM2; simp only [Zn, Nat.add_assoc, Nat.reduceAdd] at hnM2
  have hnxM2 : M.next ≤ M2.next := by have := hnxM1; omega
  have holdM2 : ∀ j, j < M.next → M2.get j = M.get j := fun j hj => by have := hnxM1; rw [hEM2]; simp (disch := first | (refine Zx ?_; simp only [Zn]; done) | ((try simp only [Zn]); omega)) only [Zg]; exact holdM1 j hj
  have hcM2 : ∀ j, j < M1.next → M2.get j = M1.get j := fun j hj => by rw [hEM2]; simp (disch := first | (refine Zx ?_; simp only [Zn]; done) | ((try simp only [Zn]); omega)) only [Zg]
  have gM2_0 := congrArg (fun m => AMem.get m M1.next) hEM2; try simp (disch := first | (refine Zx ?_; simp only [Zn]; done) | ((try simp only [Zn]); omega)) only [Zg, Nat.add_assoc, Nat.reduceAdd] at gM2_0
  clear hEM2
  have hkA : ∀ j, j < M1.next → M2.get j = M1.get j := hcM2
  have hkM2 : ∀ j, M.next ≤ j → j < M1.next → M2.get j = M1.get j := fun j _ hj => hkA j hj
  refine t_norm ?_
  have hfz : ∀ j, M.next ≤ j → j < M1.next → M2.get j = M1.get j := hkM2
  obtain ⟨mv', M5, hap, hown2, hn2, hf2, hf3⟩ := app_many sl28 (hown.keep (M' := M2) (by omega) hfz) hnxM2 (Row.src (hnr.keep (M' := M2) (by omega) hkA)) (by omega) (ntsC_one _) (ntsC_flat _)
  refine at_region hS rfl (by kernel_rfl) ?_
  refine s_op (a_mv e3) rfl ?_
  refine s_op (a_fa (by simp only [Zu, Nat.reduceEqDiff, ↓reduceIte, fa31_1, Nat.zero_add, hap, Zl, newPtr, AMem.next_alloc, e5] <;> rfl)) rfl ?_
  refine s_op (a_load (by simp only [Zu, Nat.reduceEqDiff, ↓reduceIte, ld28, hap, Zl, newPtr, AMem.next_alloc, gM2_0] <;> rfl) (by simp (disch := first | (refine Zx ?_; simp only [Zn]; done) | ((try simp only [Zn]); omega)) only [Zg, ld28, hap, Zl, newPtr, gM2_0] <;> rfl) (by simp only [ld28, hap, Zl, newPtr, AMem.next_alloc, gM2_0] <;> rfl)) rfl ?_
  refine s_op (a_append (by simp (disch := omega) only [Zu, Nat.reduceEqDiff, ↓reduceIte, alen_str, hap, Zl, newPtr, AMem.next_alloc, gM2_0] <;> rfl)) rfl ?_
  refine s_as ?_
  refine s_end (fun s' hs' => ?_)
  replace e3 := congrFun hs' 3
  replace e6 := kp 6 hs' e6
  replace e7 := kp 7 hs' e7
  replace e8 := kp 8 hs' e8
  simp only [Zu, Nat.reduceEqDiff, ↓reduceIte, newPtr, AMem.next_alloc] at e3
  clear hs'
  try clear e5
  refine o_norm ?_
  have hnx5 : M.next ≤ M5.next := by omega
  have hold5 : ∀ j, j < M.next → M5.get j = M.get j := fun j hj => by rw [hf2 j hj]; exact holdM2 j hj
  refine b_norm ?_
  refine t_norm ?_
  refine at_region hS rfl (by kernel_rfl) ?_
  refine s_op (a_bin (by simp (disch := ((try simp only [List.length_append, List.length_cons, List.length_nil]); omega)) only [Zu, Nat.reduceEqDiff, ↓reduceIte, Zd, reduceCtorEq, abin_add, abin_aadd, wrap_i64, wrap_u32, wrap_u8, wrap_u64, wrap_i32, wrap_u16, ne_eq, not_false_eq_true, e8] <;> rfl)) rfl ?_
  refine s_mv ?_
  refine s_end (fun s' hs' => ?_)
  replace e3 := kp 3 hs' e3
  replace e6 := kp 6 hs' e6
  replace e7 := kp 7 hs' e7
  replace e8 := congrFun hs' 8
  simp only [Zu, Nat.reduceEqDiff, ↓reduceIte, newPtr, AMem.next_alloc] at e8
  clear hs'
  refine o_norm ?_
  refine t_norm ?_
  exact ⟨os.length - (i + 1), by omega, i + 1, mv', (by first | exact e3 | (rw [e3]; rfl) | (rw [e3]; simp; done)), (by first | exact e6 | (rw [e6]; rfl) | (rw [e6]; simp; done)), (by first | exact e7 | (rw [e7]; rfl) | (rw [e7]; simp; done)), (by first | exact e8 | (rw [e8]; rfl) | (rw [e8]; simp; done)), (by omega), (by rw [flatMap_snoc hoi, List.length_append, ntsC_app]; exact hown2), rfl, hnx5, by omega, hold5, rfl⟩
 ·
  try simp only [Zh] at h3
  have hie : i = os.length := by omega
  rw [hie, List.take_length] at hown
  refine at_exit rfl ?_
  refine t_exit ?_
  refine t_exit ?_
  refine b_here ?_
  refine t_norm ?_
  refine at_seq rfl ?_
  refine at_region hS rfl (by kernel_rfl) ?_
  refine s_op (a_mv e3) rfl ?_
  refine s_as ?_
  refine s_end (fun s' hs' => ?_)
  have e2 := congrFun hs' 2
  simp only [Zu, Nat.reduceEqDiff, ↓reduceIte, newPtr, AMem.next_alloc] at e2
  clear hs'
  try clear e3
  refine o_norm ?_
  refine t_norm ?_
  refine at_ret rfl ?_
  refine bq_ret rfl (ars_cons (ar_tmp e2) ars_nil) ?_
  exact ⟨_, _, hK _ _ hnxM1 holdM1 hown, Canon.refl hnxM1⟩
theorem take_snocO {α : Type} {l : List α} {i : Nat} {a : α} (h : l[i]? = some a) : l.take (i + 1) = l.take i ++ [a] := by
  have hlt : i < l.length := (List.getElem?_eq_some_iff.1 h).1
  rw [take_snoc l i hlt, (List.getElem?_eq_some_iff.1 h).2]
theorem selF_one (side : Int) (f : Fr) : selF side [f] = if f.side = side then [f.data] else [] := by
  unfold selF; by_cases hs : f.side = side <;> simp [List.filter_cons, hs]
def sp16 : ASpec := fun args M K => ∃ (lv : Value) (side : Int) (os : List Ou), args = [lv, .int .i64 side] ∧ OusR M lv os ∧ fewO os ∧ retOwn M 1 (selF side (os.flatMap Ou.frames)).length ((selF side (os.flatMap Ou.frames)).map asString) K
theorem f16_ok : Sound Try.prog 16 sp16 := by
 refine Sound.of_awp (c := bodyOf Try.f16) Try.func16 rfl rfl rfl ?_
 rintro args M K ⟨lv, side, os, rfl, hos, ⟨hb1, hb2, hb3⟩, hK⟩
 refine ⟨Nat.le_of_ble_eq_true rfl, ?_⟩
 have hS := noS_ok Try.prog
 have e0 : entry [lv, .int .i64 side] 0 = lv := rfl
 have e1 : entry [lv, .int .i64 side] 1 = .int .i64 side := rfl
 refine at_seq rfl ?_
 refine at_region hS rfl (by kernel_rfl) ?_
 refine s_op (a_as (by simp only [ev_const] <;> rfl)) rfl ?_
 refine s_end (fun s' hs' => ?_)
 replace e0 := kp 0 hs' e0
 replace e1 := kp 1 hs' e1
 clear hs'
 refine o_norm ?_
 refine t_norm ?_
 refine at_seq rfl ?_
 refine at_region hS rfl (by kernel_rfl) ?_
 refine s_op (a_as (by simp only [ev_const] <;> rfl)) rfl ?_
 refine s_end (fun s' hs' => ?_)
 replace e0 := kp 0 hs' e0
 replace e1 := kp 1 hs' e1
 have e5 := congrFun hs' 5
 simp only [Zu, Nat.reduceEqDiff, ↓reduceIte, newPtr, AMem.next_alloc] at e5
 clear hs'
 refine o_norm ?_
 refine t_norm ?_
 refine at_seq rfl ?_
 refine at_seq rfl ?_
 refine at_region hS rfl (by kernel_rfl) ?_
 refine s_op (a_mv e0) rfl ?_
 refine s_op (a_len (by simp (disch := omega) only [Zu, Nat.reduceEqDiff, ↓reduceIte, alen_str, OusR.len hos, newPtr, AMem.next_alloc] <;> rfl)) rfl ?_
 refine s_op (a_mv (by simp only [ev_const] <;> rfl)) rfl ?_
 refine s_end (fun s' hs' => ?_)
 replace e1 := kp 1 hs' e1
 replace e5 := kp 5 hs' e5
 have e10 := congrFun hs' 10
 have e11 := congrFun hs' 11
 have e12 := congrFun hs' 12
 simp only [Zu, Nat.reduceEqDiff, ↓reduceIte, newPtr, AMem.next_alloc] at e10 e11 e12
 clear hs'
 try clear e0
 refine o_norm ?_
 refine t_norm ?_
 refine at_block rfl ?_
 refine at_loop rfl (fun km s ML ds => ∃ (i : Nat), ∃ (mv : Value), s 1 = .int .i64 side ∧ s 5 = mv ∧ s 10 = lv ∧ s 11 = .int .i64 os.length ∧ s 12 = .int .i64 i ∧ i ≤ os.length ∧ Own ML M.next 1 mv (selF side ((os.take i).flatMap Ou.frames)).length ((selF side ((os.take i).flatMap Ou.frames)).map asString) ∧ km = os.length - i ∧ M.next ≤ ML.next ∧ M.next ≤ ML.next ∧ (∀ j, j < M.next → ML.get j = M.get j) ∧ ds = []) (os.length - (0)) ⟨0, .slice none 0 0, (by first | exact e1 | (rw [e1]; rfl) | (simpa using e1)), (by first | exact e5 | (rw [e5]; rfl) | (simpa using e5)), (by first | exact e10 | (rw [e10]; rfl) | (simpa using e10)), (by first | exact e11 | (rw [e11]; rfl) | (simpa using e11)), (by first | exact e12 | (rw [e12]; rfl) | (simpa using e12)), (by omega), (by simpa [selF] using Own.nil _ _ _), rfl, (Nat.le_refl M.next), by omega, (fun _ _ => rfl), rfl⟩ ?_
 clear e1 e5 e10 e11 e12
 rintro km s M1 ds ⟨i, mv, e1, e5, e10, e11, e12, hi, hown, hk, hnxM1, hngM1, holdM1, rfl⟩
 refine at_seq rfl ?_
 refine at_region hS rfl (by kernel_rfl) ?_
 refine s_op (a_bin (by simp (disch := omega) only [Zu, Nat.reduceEqDiff, ↓reduceIte, Zd, reduceCtorEq, abin_lss, ne_eq, not_false_eq_true, e11, e12] <;> rfl)) rfl ?_
 refine s_end (fun s' hs' => ?_)
 replace e1 := kp 1 hs' e1
 replace e5 := kp 5 hs' e5
 replace e10 := kp 10 hs' e10
 replace e11 := kp 11 hs' e11
 replace e12 := kp 12 hs' e12
 have e13 := congrFun hs' 13
 simp only [Zu, Nat.reduceEqDiff, ↓reduceIte, newPtr, AMem.next_alloc] at e13
 clear hs'
 refine o_norm ?_
 refine t_norm ?_
 refine at_seq rfl ?_
 refine at_cond rfl rfl e13 (fun h3 => ?_) (fun h3 => ?_)
 ·
  try simp only [Zh] at h3
  refine at_skip rfl ?_
  refine t_norm ?_
  refine at_seq rfl ?_
  refine at_block rfl ?_
  refine at_seq rfl ?_
  have hil : i < os.length := by omega
  obtain ⟨o, hoi⟩ : ∃ o, os[i]? = some o := ⟨_, List.getElem?_eq_getElem hil⟩
  obtain ⟨id, off, all, own, fv, nv, hia, hid, hget, hl1, hl2, hl3, hfr, hnr⟩ := hos.at hoi .i64
  have hst := st31 (Row.oneCell hfr) (Row.oneCell hnr)
  have hfl := flatMap_le hoi Ou.frames
  have hgetM := (holdM1 id hid).trans hget
  refine at_region hS rfl (by kernel_rfl) ?_
  refine s_op (a_ia (by simp (disch := omega) only [Zu, Nat.reduceEqDiff, ↓reduceIte, hia, hst, newPtr, AMem.next_alloc, e10, e12] <;> rfl)) rfl ?_
  refine s_op (a_load (by simp only [Zu, Nat.reduceEqDiff, ↓reduceIte, hgetM, hl3, hst, newPtr, AMem.next_alloc] <;> rfl) (by simp (disch := first | (refine Zx ?_; simp only [Zn]; done) | ((try simp only [Zn]); omega)) only [Zg, hgetM, hl3, hst, newPtr] <;> rfl) (by simp only [hgetM, hl3, hst, newPtr, AMem.next_alloc] <;> rfl)) rfl ?_
  refine s_op (a_alloc z31) rfl ?_
  refine s_op (a_store (by simp only [Zu, Nat.reduceEqDiff, ↓reduceIte, hgetM, hst, newPtr, AMem.next_alloc] <;> rfl) (by simp (disch := first | (refine Zx ?_; simp only [Zn]; done) | ((try simp only [Zn]); omega)) only [Zg, hgetM, hst, newPtr] <;> rfl) (by simp only [Zu, Nat.reduceEqDiff, ↓reduceIte, hgetM, hst, newPtr, AMem.next_alloc] <;> rfl) (by simp only [hgetM, hst, newPtr, AMem.next_alloc] <;> rfl)) rfl ?_
  refine s_end (fun s' hs' => ?_)
  replace e1 := kp 1 hs' e1
  replace e5 := kp 5 hs' e5
  have e7 := congrFun hs' 7
  replace e10 := kp 10 hs' e10
  replace e11 := kp 11 hs' e11
  replace e12 := kp 12 hs' e12
  simp only [Zu, Nat.reduceEqDiff, ↓reduceIte, newPtr, AMem.next_alloc] at e7
  clear hs'
  refine o_norm ?_
  refine q_mem (fun M2 hEM2 => ?_)
  have hnM2 := congrArg AMem.next hEM2; simp only [Zn, Nat.add_assoc, Nat.reduceAdd] at hnM2
  have hnxM2 : M.next ≤ M2.next := by have := hnxM1; omega
  have holdM2 : ∀ j, j < M.next → M2.get j = M.get j := fun j hj => by have := hnxM1; rw [hEM2]; simp (disch := first | (refine Zx ?_; simp only [Zn]; done) | ((try simp only [Zn]); omega)) only [Zg]; exact holdM1 j hj
  have hcM2 : ∀ j, j < M1.next → M2.get j = M1.get j := fun j hj => by rw [hEM2]; simp (disch := first | (refine Zx ?_; simp only [Zn]; done) | ((try simp only [Zn]); omega)) only [Zg]
  have gM2_0 := congrArg (fun m => AMem.get m M1.next) hEM2; try simp (disch := first | (refine Zx ?_; simp only [Zn]; done) | ((try simp only [Zn]); omega)) only [Zg, Nat.add_assoc, Nat.reduceAdd] at gM2_0
  clear hEM2
  have hown2 := hown.keep (M' := M2) (by omega) (fun j _ hj => hcM2 j hj)
  clear hown hget hia hgetM
  generalize hA : (os.take i).flatMap Ou.frames = A at *
  refine t_norm ?_
  refine at_seq rfl ?_
  refine at_region hS rfl (by kernel_rfl) ?_
  refine s_op (a_fa (by simp only [Zu, Nat.reduceEqDiff, ↓reduceIte, fa31_0, Nat.zero_add, List.getElem?_cons_zero, newPtr, AMem.next_alloc, e7] <;> rfl)) rfl ?_
  refine s_op (a_load (by simp only [Zu, Nat.reduceEqDiff, ↓reduceIte, ld27, List.getElem?_cons_zero, newPtr, AMem.next_alloc, gM2_0] <;> rfl) (by simp (disch := first | (refine Zx ?_; simp only [Zn]; done) | ((try simp only [Zn]); omega)) only [Zg, ld27, List.getElem?_cons_zero, newPtr, gM2_0] <;> rfl) (by simp only [ld27, List.getElem?_cons_zero, newPtr, AMem.next_alloc, gM2_0] <;> rfl)) rfl ?_
  refine s_op (a_len (by simp (disch := omega) only [Zu, Nat.reduceEqDiff, ↓reduceIte, alen_str, List.getElem?_cons_zero, FrsR.len hfr, newPtr, AMem.next_alloc, gM2_0] <;> rfl)) rfl ?_
  refine s_op (a_mv (by simp only [ev_const] <;> rfl)) rfl ?_
  refine s_end (fun s' hs' => ?_)
  replace e1 := kp 1 hs' e1
  replace e5 := kp 5 hs' e5
  replace e10 := kp 10 hs' e10
  replace e11 := kp 11 hs' e11
  replace e12 := kp 12 hs' e12
  have e17 := congrFun hs' 17
  have e18 := congrFun hs' 18
  have e19 := congrFun hs' 19
  simp only [Zu, Nat.reduceEqDiff, ↓reduceIte, newPtr, AMem.next_alloc] at e17 e18 e19
  clear hs'
  try clear e7
  refine o_norm ?_
  refine t_norm ?_
  refine at_block rfl ?_
  refine at_loop rfl (fun km s ML ds => ∃ (q : Nat), ∃ (mq : Value), s 1 = .int .i64 side ∧ s 5 = mq ∧ s 10 = lv ∧ s 11 = .int .i64 os.length ∧ s 12 = .int .i64 i ∧ s 17 = fv ∧ s 18 = .int .i64 o.frames.length ∧ s 19 = .int .i64 q ∧ q ≤ o.frames.length ∧ Own ML M.next 1 mq (selF side (A ++ o.frames.take q)).length ((selF side (A ++ o.frames.take q)).map asString) ∧ km = o.frames.length - q ∧ M.next ≤ ML.next ∧ M2.next ≤ ML.next ∧ (∀ j, j < M.next → ML.get j = M.get j) ∧ ds = []) (o.frames.length - (0)) ⟨0, mv, (by first | exact e1 | (rw [e1]; rfl) | (simpa using e1)), (by first | exact e5 | (rw [e5]; rfl) | (simpa using e5)), (by first | exact e10 | (rw [e10]; rfl) | (simpa using e10)), (by first | exact e11 | (rw [e11]; rfl) | (simpa using e11)), (by first | exact e12 | (rw [e12]; rfl) | (simpa using e12)), (by first | exact e17 | (rw [e17]; rfl) | (simpa using e17)), (by first | exact e18 | (rw [e18]; rfl) | (simpa using e18)), (by first | exact e19 | (rw [e19]; rfl) | (simpa using e19)), (by omega), (by simpa using hown2), rfl, hnxM2, by omega, holdM2, rfl⟩ ?_
  clear e1 e5 e10 e11 e12 e17 e18 e19
  rintro km s M3 ds ⟨q, mq, e1, e5, e10, e11, e12, e17, e18, e19, hq, hown, hk, hnxM3, hngM3, holdM3, rfl⟩
  refine at_seq rfl ?_
  refine at_region hS rfl (by kernel_rfl) ?_
  refine s_op (a_bin (by simp (disch := omega) only [Zu, Nat.reduceEqDiff, ↓reduceIte, Zd, reduceCtorEq, abin_lss, ne_eq, not_false_eq_true, e18, e19] <;> rfl)) rfl ?_
  refine s_end (fun s' hs' => ?_)
  replace e1 := kp 1 hs' e1
  replace e5 := kp 5 hs' e5
  replace e10 := kp 10 hs' e10
  replace e11 := kp 11 hs' e11
  replace e12 := kp 12 hs' e12
  replace e17 := kp 17 hs' e17
  replace e18 := kp 18 hs' e18
  replace e19 := kp 19 hs' e19
  have e20 := congrFun hs' 20
  simp only [Zu, Nat.reduceEqDiff, ↓reduceIte, newPtr, AMem.next_alloc] at e20
  clear hs'
  refine o_norm ?_
  refine t_norm ?_
  refine at_seq rfl ?_
  refine at_cond rfl rfl e20 (fun h6 => ?_) (fun h6 => ?_)
  ·
   try simp only [Zh] at h6
   refine at_skip rfl ?_
   refine t_norm ?_
   refine at_seq rfl ?_
   refine t_join (I := fun s MJ ds => ∃ (mv2 : Value), s 1 = .int .i64 side ∧ s 5 = mv2 ∧ s 10 = lv ∧ s 11 = .int .i64 os.length ∧ s 12 = .int .i64 i ∧ s 17 = fv ∧ s 18 = .int .i64 o.frames.length ∧ s 19 = .int .i64 q ∧ Own MJ M.next 1 mv2 (selF side (A ++ o.frames.take (q + 1))).length ((selF side (A ++ o.frames.take (q + 1))).map asString) ∧ M.next ≤ MJ.next ∧ M3.next ≤ MJ.next ∧ (∀ j, j < M.next → MJ.get j = M.get j) ∧ ds = []) ?_ ?_
   ·
    refine at_block rfl ?_
    refine at_seq rfl ?_
    have hql : q < o.frames.length := by omega
    obtain ⟨f, hfq⟩ : ∃ f, o.frames[q]? = some f := ⟨_, List.getElem?_eq_getElem hql⟩
    obtain ⟨id, off, all, own, hia, hid, hget, hl1, hl2, hl3⟩ := hfr.at hfq .i64
    have hgetM := (holdM3 id hid).trans hget
    have hst2 := st34 ⟨0, []⟩ f
    have hsl := selF_le side (A ++ o.frames.take q)
    have htl : (A ++ o.frames.take q).length ≤ A.length + q := by rw [List.length_append]; have := List.length_take_le q o.frames; omega
    refine at_region hS rfl (by kernel_rfl) ?_
    refine s_op (a_ia (by simp (disch := omega) only [Zu, Nat.reduceEqDiff, ↓reduceIte, hia, hst2, newPtr, AMem.next_alloc, e17, e19] <;> rfl)) rfl ?_
    refine s_op (a_load (by simp only [Zu, Nat.reduceEqDiff, ↓reduceIte, hgetM, hl3, hst2, newPtr, AMem.next_alloc] <;> rfl) (by simp (disch := first | (refine Zx ?_; simp only [Zn]; done) | ((try simp only [Zn]); omega)) only [Zg, hgetM, hl3, hst2, newPtr] <;> rfl) (by simp only [hgetM, hl3, hst2, newPtr, AMem.next_alloc] <;> rfl)) rfl ?_
    refine s_op (a_alloc z34) rfl ?_
    refine s_op (a_store (by simp only [Zu, Nat.reduceEqDiff, ↓reduceIte, hgetM, hst2, newPtr, AMem.next_alloc] <;> rfl) (by simp (disch := first | (refine Zx ?_; simp only [Zn]; done) | ((try simp only [Zn]); omega)) only [Zg, hgetM, hst2, newPtr] <;> rfl) (by simp only [Zu, Nat.reduceEqDiff, ↓reduceIte, hgetM, hst2, newPtr, AMem.next_alloc] <;> rfl) (by simp only [hgetM, hst2, newPtr, AMem.next_alloc] <;> rfl)) rfl ?_
    refine s_end (fun s' hs' => ?_)
    replace e1 := kp 1 hs' e1
    replace e5 := kp 5 hs' e5
    have e9 := congrFun hs' 9
    replace e10 := kp 10 hs' e10
    replace e11 := kp 11 hs' e11
    replace e12 := kp 12 hs' e12
    replace e17 := kp 17 hs' e17
    replace e18 := kp 18 hs' e18
    replace e19 := kp 19 hs' e19
    simp only [Zu, Nat.reduceEqDiff, ↓reduceIte, newPtr, AMem.next_alloc] at e9
    clear hs'
    refine o_norm ?_
    refine q_mem (fun M4 hEM4 => ?_)
    have hnM4 := congrArg AMem.next hEM4; simp only [Zn, Nat.add_assoc, Nat.reduceAdd] at hnM4
    have hnxM4 : M.next ≤ M4.next := by have := hnxM3; omega
    have holdM4 : ∀ j, j < M.next → M4.get j = M.get j := fun j hj => by have := hnxM3; rw [hEM4]; simp (disch := first | (refine Zx ?_; simp only [Zn]; done) | ((try simp only [Zn]); omega)) only [Zg]; exact holdM3 j hj
    have hcM4 : ∀ j, j < M3.next → M4.get j = M3.get j := fun j hj => by rw [hEM4]; simp (disch := first | (refine Zx ?_; simp only [Zn]; done) | ((try simp only [Zn]); omega)) only [Zg]
    have gM4_0 := congrArg (fun m => AMem.get m M3.next) hEM4; try simp (disch := first | (refine Zx ?_; simp only [Zn]; done) | ((try simp only [Zn]); omega)) only [Zg, Nat.add_assoc, Nat.reduceAdd] at gM4_0
    clear hEM4
    have hown7 := hown.keep (M' := M4) (by omega) (fun j _ hj => hcM4 j hj)
    clear hown hget hgetM hia
    refine t_norm ?_
    refine at_seq rfl ?_
    refine at_region hS rfl (by kernel_rfl) ?_
    refine s_op (a_fa (by simp only [Zu, Nat.reduceEqDiff, ↓reduceIte, fa34_0, Nat.zero_add, fcells0, newPtr, AMem.next_alloc, e9] <;> rfl)) rfl ?_
    refine s_op (a_load (by simp only [Zu, Nat.reduceEqDiff, ↓reduceIte, ld3, fcells0, newPtr, AMem.next_alloc, gM4_0] <;> rfl) (by simp (disch := first | (refine Zx ?_; simp only [Zn]; done) | ((try simp only [Zn]); omega)) only [Zg, ld3, fcells0, newPtr, gM4_0] <;> rfl) (by simp only [ld3, Zl, fcells0, newPtr, AMem.next_alloc, gM4_0] <;> rfl)) rfl ?_
    refine s_op (a_mv e1) rfl ?_
    refine s_op (a_bin (by simp (disch := omega) only [Zu, Nat.reduceEqDiff, ↓reduceIte, Zd, reduceCtorEq, abin_eql, abin_aeql, ne_eq, not_false_eq_true, fcells0] <;> rfl)) rfl ?_
    refine s_end (fun s' hs' => ?_)
    replace e1 := kp 1 hs' e1
    replace e5 := kp 5 hs' e5
    replace e9 := kp 9 hs' e9
    replace e10 := kp 10 hs' e10
    replace e11 := kp 11 hs' e11
    replace e12 := kp 12 hs' e12
    replace e17 := kp 17 hs' e17
    replace e18 := kp 18 hs' e18
    replace e19 := kp 19 hs' e19
    have e26 := congrFun hs' 26
    simp only [Zu, Nat.reduceEqDiff, ↓reduceIte, newPtr, AMem.next_alloc] at e26
    clear hs'
    refine o_norm ?_
    refine t_norm ?_
    refine at_cond rfl rfl e26 (fun h8 => ?_) (fun h8 => ?_)
    ·
     try simp only [Zh] at h8
     obtain ⟨mv', M5, hap, hown9, hn5, hf5, hf6⟩ := app_one (c := [asString f.data]) sl45 hown7 hnxM4 (by omega) rfl rfl (by decide)
     refine at_region hS rfl (by kernel_rfl) ?_
     refine s_op (a_mv e5) rfl ?_
     refine s_op (a_fa (by simp only [Zu, Nat.reduceEqDiff, ↓reduceIte, fa34_1, Nat.zero_add, fcells1, newPtr, AMem.next_alloc, e9] <;> rfl)) rfl ?_
     refine s_op (a_load (by simp only [Zu, Nat.reduceEqDiff, ↓reduceIte, ld9, fcells1, Nat.zero_add, newPtr, AMem.next_alloc, gM4_0] <;> rfl) (by simp (disch := first | (refine Zx ?_; simp only [Zn]; done) | ((try simp only [Zn]); omega)) only [Zg, ld9, fcells1, Nat.zero_add, newPtr, gM4_0] <;> rfl) (by simp only [ld9, Zl, fcells1, Nat.zero_add, newPtr, AMem.next_alloc, gM4_0] <;> rfl)) rfl ?_
     refine s_op (a_bslice (by simp only [Zu, Nat.reduceEqDiff, ↓reduceIte, Zm, Array.toList, fcells1, Nat.zero_add, newPtr, AMem.next_alloc, gM4_0]; exact abuildSlice_all [_] rfl rfl rfl rfl rfl (by decide) (by decide) rfl (by simp only [List.mem_cons, List.not_mem_nil, or_false, forall_eq_or_imp, forall_eq]; repeat' (first | rfl | apply And.intro)))) rfl ?_
     refine s_op (a_append (by simp only [Zu, Nat.reduceEqDiff, ↓reduceIte, e5]; exact hap)) rfl ?_
     refine s_as ?_
     refine s_end (fun s' hs' => ?_)
     replace e1 := kp 1 hs' e1
     replace e5 := congrFun hs' 5
     replace e10 := kp 10 hs' e10
     replace e11 := kp 11 hs' e11
     replace e12 := kp 12 hs' e12
     replace e17 := kp 17 hs' e17
     replace e18 := kp 18 hs' e18
     replace e19 := kp 19 hs' e19
     simp only [Zu, Nat.reduceEqDiff, ↓reduceIte, newPtr, AMem.next_alloc] at e5
     clear hs'
     try clear e9
     refine o_norm ?_
     have hnx5 : M.next ≤ M5.next := by omega
     have hold5 : ∀ j, j < M.next → M5.get j = M.get j := fun j hj => by rw [hf5 j hj]; exact holdM4 j hj
     refine b_norm ?_
     refine t_norm ?_
     exact ⟨mv', (by first | exact e1 | (rw [e1]; rfl) | (rw [e1]; simp; done)), (by first | exact e5 | (rw [e5]; rfl) | (rw [e5]; simp; done)), (by first | exact e10 | (rw [e10]; rfl) | (rw [e10]; simp; done)), (by first | exact e11 | (rw [e11]; rfl) | (rw [e11]; simp; done)), (by first | exact e12 | (rw [e12]; rfl) | (rw [e12]; simp; done)), (by first | exact e17 | (rw [e17]; rfl) | (rw [e17]; simp; done)), (by first | exact e18 | (rw [e18]; rfl) | (rw [e18]; simp; done)), (by first | exact e19 | (rw [e19]; rfl) | (rw [e19]; simp; done)), (by rw [take_snocO hfq, ← List.append_assoc]; first | (rw [selF_app, selF_one, if_pos h8, List.length_append, List.map_append]; exact hown9) | (rw [selF_app, selF_one, if_neg h8, List.append_nil]; exact hown7)), hnx5, by omega, hold5, rfl⟩
    ·
     try simp only [Zh] at h8
     refine at_skip rfl ?_
     refine b_norm ?_
     refine t_norm ?_
     exact ⟨mq, (by first | exact e1 | (rw [e1]; rfl) | (rw [e1]; simp; done)), (by first | exact e5 | (rw [e5]; rfl) | (rw [e5]; simp; done)), (by first | exact e10 | (rw [e10]; rfl) | (rw [e10]; simp; done)), (by first | exact e11 | (rw [e11]; rfl) | (rw [e11]; simp; done)), (by first | exact e12 | (rw [e12]; rfl) | (rw [e12]; simp; done)), (by first | exact e17 | (rw [e17]; rfl) | (rw [e17]; simp; done)), (by first | exact e18 | (rw [e18]; rfl) | (rw [e18]; simp; done)), (by first | exact e19 | (rw [e19]; rfl) | (rw [e19]; simp; done)), (by rw [take_snocO hfq, ← List.append_assoc]; first | (rw [selF_app, selF_one, if_pos h8, List.length_append, List.map_append]; exact hown9) | (rw [selF_app, selF_one, if_neg h8, List.append_nil]; exact hown7)), hnxM4, by omega, holdM4, rfl⟩
   ·
    rintro s M5 ds ⟨mv2, e1, e5, e10, e11, e12, e17, e18, e19, hown5, hnxM5, hngM5, holdM5, rfl⟩
    refine at_region hS rfl (by kernel_rfl) ?_
    refine s_op (a_bin (by simp (disch := ((try simp only [List.length_append, List.length_cons, List.length_nil]); omega)) only [Zu, Nat.reduceEqDiff, ↓reduceIte, Zd, reduceCtorEq, abin_add, abin_aadd, wrap_i64, wrap_u32, wrap_u8, wrap_u64, wrap_i32, wrap_u16, ne_eq, not_false_eq_true, e19] <;> rfl)) rfl ?_
    refine s_mv ?_
    refine s_end (fun s' hs' => ?_)
    replace e1 := kp 1 hs' e1
    replace e5 := kp 5 hs' e5
    replace e10 := kp 10 hs' e10
    replace e11 := kp 11 hs' e11
    replace e12 := kp 12 hs' e12
    replace e17 := kp 17 hs' e17
    replace e18 := kp 18 hs' e18
    replace e19 := congrFun hs' 19
    simp only [Zu, Nat.reduceEqDiff, ↓reduceIte, newPtr, AMem.next_alloc] at e19
    clear hs'
    refine o_norm ?_
    refine t_norm ?_
    exact ⟨o.frames.length - (q + 1), by omega, q + 1, mv2, (by first | exact e1 | (rw [e1]; rfl) | (rw [e1]; simp; done)), (by first | exact e5 | (rw [e5]; rfl) | (rw [e5]; simp; done)), (by first | exact e10 | (rw [e10]; rfl) | (rw [e10]; simp; done)), (by first | exact e11 | (rw [e11]; rfl) | (rw [e11]; simp; done)), (by first | exact e12 | (rw [e12]; rfl) | (rw [e12]; simp; done)), (by first | exact e17 | (rw [e17]; rfl) | (rw [e17]; simp; done)), (by first | exact e18 | (rw [e18]; rfl) | (rw [e18]; simp; done)), (by first | exact e19 | (rw [e19]; rfl) | (rw [e19]; simp; done)), (by omega), hown5, rfl, hnxM5, by omega, holdM5, rfl⟩
  ·
   try simp only [Zh] at h6
   have hqe : q = o.frames.length := by omega
   refine at_exit rfl ?_
   refine t_exit ?_
   refine t_exit ?_
   refine b_here ?_
   refine b_norm ?_
   refine t_norm ?_
   refine at_region hS rfl (by kernel_rfl) ?_
   refine s_op (a_bin (by simp (disch := ((try simp only [List.length_append, List.length_cons, List.length_nil]); omega)) only [Zu, Nat.reduceEqDiff, ↓reduceIte, Zd, reduceCtorEq, abin_add, abin_aadd, wrap_i64, wrap_u32, wrap_u8, wrap_u64, wrap_i32, wrap_u16, ne_eq, not_false_eq_true, e12] <;> rfl)) rfl ?_
   refine s_mv ?_
   refine s_end (fun s' hs' => ?_)
   replace e1 := kp 1 hs' e1
   replace e5 := kp 5 hs' e5
   replace e10 := kp 10 hs' e10
   replace e11 := kp 11 hs' e11
   replace e12 := congrFun hs' 12
   simp only [Zu, Nat.reduceEqDiff, ↓reduceIte, newPtr, AMem.next_alloc] at e12
   clear hs'
   refine o_norm ?_
   refine t_norm ?_
   exact ⟨os.length - (i + 1), by omega, i + 1, mq, (by first | exact e1 | (rw [e1]; rfl) | (rw [e1]; simp; done)), (by first | exact e5 | (rw [e5]; rfl) | (rw [e5]; simp; done)), (by first | exact e10 | (rw [e10]; rfl) | (rw [e10]; simp; done)), (by first | exact e11 | (rw [e11]; rfl) | (rw [e11]; simp; done)), (by first | exact e12 | (rw [e12]; rfl) | (rw [e12]; simp; done)), (by omega), (by rw [flatMap_snoc hoi, hA]; rw [hqe, List.take_length] at hown; exact hown), rfl, hnxM3, by omega, holdM3, rfl⟩
 ·
  try simp only [Zh] at h3
  have hie : i = os.length := by omega
  rw [hie, List.take_length] at hown
  refine at_exit rfl ?_
  refine t_exit ?_
  refine t_exit ?_
  refine b_here ?_
  refine t_norm ?_
  refine at_seq rfl ?_
  refine at_region hS rfl (by kernel_rfl) ?_
  refine s_op (a_mv e5) rfl ?_
  refine s_as ?_
  refine s_end (fun s' hs' => ?_)
  have e4 := congrFun hs' 4
  simp only [Zu, Nat.reduceEqDiff, ↓reduceIte, newPtr, AMem.next_alloc] at e4
  clear hs'
  try clear e5
  refine o_norm ?_
  refine t_norm ?_
  refine at_ret rfl ?_
  refine bq_ret rfl (ars_cons (ar_tmp e4) ars_nil) ?_
  exact ⟨_, _, hK _ _ hnxM1 holdM1 hown, Canon.refl hnxM1⟩
end Go.Proofs.Ytdkdkpiemigfkaa
