/- Part 3 of the proof of the given statement (theorem tallyAll_holds, in the last part): for every input the law returns true, and each argument reads behind the call as it read before. No condition beyond the statement's own. -/
import Derived.Test.YtdkdkpiemigfkaaC3P2
set_option linter.unusedVariables false
set_option linter.unusedSimpArgs false
set_option maxRecDepth 8000
namespace Go.Proofs.Ytdkdkpiemigfkaa
open Go Go.Proofs
theorem and8_bv {a b : Int} (ha : 0 ≤ a) (ha' : a ≤ 255) (hb : 0 ≤ b) (hb' : b ≤ 255) : abits .and .u8 a b = ((a.toNat &&& b.toNat : Nat) : Int) := by
  show IntKind.u8.wrap (((BitVec.ofInt 8 a &&& BitVec.ofInt 8 b).toNat : Nat) : Int) = _
  rw [and_bv ha (by omega) hb (by omega)]
  have := Nat.and_le_left (n := a.toNat) (m := b.toNat)
  exact wrap_u8 (by omega) (by omega)
theorem and8_15 {a : Int} (ha : 0 ≤ a) (ha' : a ≤ 255) : abits .and .u8 a 15 = a % 16 := by
  rw [and8_bv ha ha' (by omega) (by omega)]
  have : a.toNat &&& (2 ^ 4 - 1) = a.toNat % 2 ^ 4 := Nat.and_two_pow_sub_one_eq_mod _ _
  have e : ((15 : Int).toNat) = 2 ^ 4 - 1 := rfl
  rw [e, this]; omega
theorem numF_bound (l : List UInt8) (h : l.length = 2) : 0 ≤ numF l ∧ numF l ≤ 65535 := by
  unfold numF
  have := numGo_bound (l.drop (l.length - 7)) 0 (by decide)
  rw [show l.length - 7 = 0 from by omega, List.drop_zero] at this ⊢
  rw [h] at this
  exact ⟨this.1, by have := this.2; omega⟩
theorem numF_bound4 (l : List UInt8) (h : l.length = 4) : 0 ≤ numF l ∧ numF l ≤ 4294967295 := by
  unfold numF
  have := numGo_bound (l.drop (l.length - 7)) 0 (by decide)
  rw [show l.length - 7 = 0 from by omega, List.drop_zero] at this ⊢
  rw [h] at this
  exact ⟨this.1, by have := this.2; omega⟩
def part (l : List UInt8) (a b : Nat) : List UInt8 := (l.drop a).take (b - a)
theorem part_length {l : List UInt8} {a b : Nat} (h : b ≤ l.length) : (part l a b).length = b - a := by unfold part; rw [List.length_take, List.length_drop]; omega
def ip0 : IPh := ⟨0, 0, false, false, 0, 0, 0, 0, 0, []⟩
def byteAt (l : List UInt8) (i : Nat) : Int := (l.getD i 0).toNat
theorem byteAt_bound (l : List UInt8) (i : Nat) : 0 ≤ byteAt l i ∧ byteAt l i ≤ 255 := by
  unfold byteAt; have := (l.getD i 0).toNat_lt; omega
theorem byteAt_index {l : List UInt8} {i : Nat} (h : i < l.length) (k : IntKind) : aindex Try.prog 9 (asString l) (.int k (i : Nat)) = some (.int .u8 (byteAt l i)) := by
  rw [aindex_as Try.underlying9 (c := l.getD i 0) (by omega) (by rw [Int.toNat_natCast]; simp [h])]; rfl
def ipHead (l : List UInt8) : IPh :=
  ⟨byteAt l 1, numF (part l 4 6), !decide (abits .and .i64 (numF (part l 6 8)) 8192 = 0), !decide (abits .and .i64 (numF (part l 6 8)) 16384 = 0), numF (part l 6 8) % 8192 * 8, byteAt l 8, byteAt l 9, numF (part l 12 16), numF (part l 16 20), part l 20 (4 * (byteAt l 0 % 16)).toNat⟩
def ipGetF (l : List UInt8) : IPh × List UInt8 × Int :=
  if l.length < 20 then (ip0, [], 2) else
  if byteAt l 0 / 16 ≠ 4 ∨ 4 * (byteAt l 0 % 16) < 20 then (ip0, [], 3) else
  if (l.length : Int) < 4 * (byteAt l 0 % 16) then (ip0, [], 2) else
  if numF (part l 2 4) < 4 * (byteAt l 0 % 16) then (ip0, [], 3) else
  if (l.length : Int) < numF (part l 2 4) then (ip0, [], 2) else
  if 32768 ≤ numF (part l 6 8) then (ip0, [], 3) else
  if 2000 < numF (part l 2 4) - 4 * (byteAt l 0 % 16) then (ip0, [], 5) else
  if ocF (l.take (4 * (byteAt l 0 % 16)).toNat) ≠ 0 then (ip0, [], 4) else
  (ipHead l, part l (4 * (byteAt l 0 % 16)).toNat (numF (part l 2 4)).toNat, 0)
def retIP (r : IPh × List UInt8 × Int) : Value := .tuple #[.agg r.1.cells.toArray, asString r.2.1, .int .i64 r.2.2]
theorem bd64v (a b : Int) (c d : Bool) (e f g h i : Int) (o : List UInt8) : abuild Try.prog 64 [(0, .int .i64 a), (1, .int .i64 b), (2, .bool c), (3, .bool d), (4, .int .i64 e), (5, .int .i64 f), (6, .int .i64 g), (7, .int .u32 h), (8, .int .u32 i), (9, asString o)] = some (IPh.cells ⟨a, b, c, d, e, f, g, h, i, o⟩) :=
  abuild_all (i := _) (z := _) [1, 1, 1, 1, 1, 1, 1, 1, 1, 1] [.int .i64 a, .int .i64 b, .bool c, .bool d, .int .i64 e, .int .i64 f, .int .i64 g, .int .u32 h, .int .u32 i, asString o] Try.underlying64 (by rfl) rfl (by kernel_rfl) (by kernel_rfl) (by kernel_rfl) rfl
theorem aslice_part {l : List UInt8} {s : Slots} {M : AMem} {lo hi : Option Operand} {a b : Int} (hl : abound s 0 lo = some a) (hr : abound s (l.length : Nat) hi = some b) (h0 : 0 ≤ a) (h1 : a ≤ b) (h2 : b ≤ l.length) : aslice Try.prog s M 9 (asString l) lo hi = some (asString (part l a.toNat b.toNat)) := by
  rw [aslice_as Try.underlying9 hl hr h0 h1 h2]
  unfold part
  rw [show (b - a).toNat = b.toNat - a.toNat from by omega]
def sp47 : ASpec := fun args M K => ∃ l : List UInt8, args = [asString l] ∧ l.length ≤ 1000000000 ∧ K (.ret (retIP (ipGetF l))) M
noncomputable def S47 : FuncId → ASpec := tab [(66, sp66), (67, sp67)]
theorem S47_66 : S47 66 = sp66 := rfl
theorem S47_67 : S47 67 = sp67 := rfl
theorem S47_ok : ∀ f, Sound Try.prog f (S47 f) := tab_sound _ (by simp [f66_ok, f67_ok])
set_option maxHeartbeats 2000000 in
theorem f47_ok : Sound Try.prog 47 sp47 := by
  refine Sound.of_awp (c := bodyOf Try.f47) Try.func47 rfl rfl rfl ?_
  rintro args M K ⟨l, rfl, hll, hK⟩
  refine ⟨Nat.le_of_ble_eq_true rfl, ?_⟩
  have hS := S47_ok
  have e0 : entry [asString l] 0 = asString l := rfl
  have hz : azero Try.prog 64 = some ip0.cells := z64
  have hb : abuild Try.prog 64 [] = some ip0.cells := b64
  have hst : ∀ h : IPh, astore Try.prog 64 ip0.cells 0 (.agg h.cells.toArray) = some h.cells := fun h => st64 _ _
  have hx : ∀ (i : Nat) (k : IntKind), i < l.length → aindex Try.prog 9 (asString l) (.int k (i : Nat)) = some (.int .u8 (byteAt l i)) := fun i k h => byteAt_index h k
  obtain ⟨z0, z1⟩ := byteAt_bound l 0
  repeat refine at_seq rfl ?_
  refine at_region hS rfl (by kernel_rfl) ?_
  refine s_op (a_alloc hz) rfl ?_
  refine s_op (a_as (by simp only [ev_const] <;> rfl)) rfl ?_
  refine s_op (a_as (by simp only [ev_const] <;> rfl)) rfl ?_
  refine s_end (fun s' hs' => ?_)
  replace e0 := kp 0 hs' e0
  have e2 := congrFun hs' 2
  simp only [Zu, Nat.reduceEqDiff, ↓reduceIte, newPtr, AMem.next_alloc] at e2
  clear hs'
  refine o_norm ?_
  refine t_norm ?_
  repeat refine at_seq rfl ?_
  refine at_region hS rfl (by kernel_rfl) ?_
  refine s_op (a_mv e0) rfl ?_
  refine s_op (a_len (by simp (disch := omega) only [Zu, Nat.reduceEqDiff, ↓reduceIte, alen_str, hlenS] <;> rfl)) rfl ?_
  refine s_op (a_bin (by simp (disch := omega) only [Zu, Nat.reduceEqDiff, ↓reduceIte, Zd, reduceCtorEq, abin_lss, ne_eq, not_false_eq_true] <;> rfl)) rfl ?_
  refine s_end (fun s' hs' => ?_)
  replace e0 := kp 0 hs' e0
  replace e2 := kp 2 hs' e2
  have e11 := congrFun hs' 11
  simp only [Zu, Nat.reduceEqDiff, ↓reduceIte] at e11
  clear hs'
  refine o_norm ?_
  refine t_norm ?_
  refine at_cond rfl rfl e11 (fun hc => ?_) (fun hc => ?_)
  · have hc := of_decide_eq_true hc
    have hF : ipGetF l = (ip0, [], 2) := by unfold ipGetF; rw [if_pos (by omega)]
    rw [hF] at hK
    repeat refine at_seq rfl ?_
    refine at_region hS rfl (by kernel_rfl) ?_
    refine s_op (a_build (by simp only [Zm, Array.toList, hb, newPtr, hst] <;> rfl)) rfl ?_
    refine s_op (a_store e2 (by simp (disch := first | (refine Zx ?_; simp only [Zn]; done) | ((try simp only [Zn]); omega)) only [Zg, hb, newPtr, hst, e2] <;> rfl) (by simp only [Zu, Nat.reduceEqDiff, ↓reduceIte, hb, newPtr, hst, e2] <;> rfl) (by simp only [hb, newPtr, hst, e2] <;> rfl)) rfl ?_
    refine s_op (a_as (by simp only [ev_const] <;> rfl)) rfl ?_
    refine s_op (a_as (by simp only [ev_const] <;> rfl)) rfl ?_
    refine s_end (fun s' hs' => ?_)
    replace e2 := kp 2 hs' e2
    have e3 := congrFun hs' 3
    have e4 := congrFun hs' 4
    simp only [Zu, Nat.reduceEqDiff, ↓reduceIte, newPtr, AMem.next_alloc] at e3 e4
    clear hs'
    refine o_norm ?_
    refine t_norm ?_
    refine at_ret rfl ?_
    repeat (first | refine t_ret ?_ | refine b_ret ?_)
    refine bq_ret rfl (ars_cons (ar_cell e2 get_put (ld64 ip0)) (ars_cons (ar_tmp e3) (ars_cons (ar_tmp e4) ars_nil))) ?_
    exact ⟨_, _, hK, Canon.forget rfl (fun j hj => by rw [get_else (by omega), get_old (by omega)])⟩
  have hc := of_decide_eq_false hc
  have h20 : 20 ≤ l.length := by omega
  have hx0 := hx 0 .i64 (by omega)
  rw [show ((0 : Nat) : Int) = 0 from rfl] at hx0
  have k24 : ∀ (s : Slots) (M : AMem), aslice Try.prog s M 9 (asString l) (some (.const (.int .i64 2))) (some (.const (.int .i64 4))) = some (asString (part l 2 4)) := fun s M => aslice_part (a := 2) (b := 4) rfl rfl (by omega) (by omega) (by omega)
  have k68 : ∀ (s : Slots) (M : AMem), aslice Try.prog s M 9 (asString l) (some (.const (.int .i64 6))) (some (.const (.int .i64 8))) = some (asString (part l 6 8)) := fun s M => aslice_part (a := 6) (b := 8) rfl rfl (by omega) (by omega) (by omega)
  have l24 := part_length (l := l) (a := 2) (b := 4) (by omega)
  have l68 := part_length (l := l) (a := 6) (b := 8) (by omega)
  obtain ⟨a0, a1⟩ := numF_bound _ l24
  obtain ⟨c0, c1⟩ := numF_bound _ l68
  refine at_skip rfl ?_
  refine t_norm ?_
  repeat refine at_seq rfl ?_
  refine at_region hS rfl (by kernel_rfl) ?_
  refine s_op (a_mv e0) rfl ?_
  refine s_op (a_index (by simp (disch := omega) only [Zu, Nat.reduceEqDiff, ↓reduceIte, hx0, and8_15] <;> rfl)) rfl ?_
  refine s_op (a_bin (by simp (disch := omega) only [Zu, Nat.reduceEqDiff, ↓reduceIte, Zd, reduceCtorEq, abin_and, and_255, and_15, and_65535, and_8191, ne_eq, not_false_eq_true, hx0, and8_15] <;> rfl)) rfl ?_
  refine s_op (a_convi (by simp only [Zu, Nat.reduceEqDiff, ↓reduceIte, hx0, and8_15] <;> rfl) rfl rfl (by simp (disch := omega) only [wrap_i64]; try rfl)) rfl ?_
  refine s_op (a_bin (by simp (disch := omega) only [Zu, Nat.reduceEqDiff, ↓reduceIte, Zd, reduceCtorEq, abin_mul, wrap_i64, wrap_u32, wrap_u8, wrap_u64, wrap_i32, wrap_u16, ne_eq, not_false_eq_true, hx0, and8_15] <;> rfl)) rfl ?_
  refine s_as ?_
  refine s_end (fun s' hs' => ?_)
  replace e0 := kp 0 hs' e0
  replace e2 := kp 2 hs' e2
  have e5 := congrFun hs' 5
  simp only [Zu, Nat.reduceEqDiff, ↓reduceIte] at e5
  clear hs'
  refine o_norm ?_
  refine t_norm ?_
  repeat refine at_seq rfl ?_
  refine at_region hS rfl (by kernel_rfl) ?_
  refine s_op (a_mv e0) rfl ?_
  refine s_op (a_slice (by simp (disch := omega) only [Zu, Nat.reduceEqDiff, ↓reduceIte, k24] <;> rfl)) rfl ?_
  refine s_call (by simp only [Zu, Nat.reduceEqDiff, ↓reduceIte, k24] <;> rfl) (by simp only [Zu, Nat.reduceEqDiff, ↓reduceIte, Zm, k24] <;> rfl) ?_
  rw [S47_66]; refine ⟨_, rfl, by omega, ?_⟩
  show EA _ _ _ _ _ _
  refine s_as ?_
  refine s_end (fun s' hs' => ?_)
  replace e0 := kp 0 hs' e0
  replace e2 := kp 2 hs' e2
  replace e5 := kp 5 hs' e5
  have e6 := congrFun hs' 6
  simp only [Zu, Nat.reduceEqDiff, ↓reduceIte] at e6
  clear hs'
  refine o_norm ?_
  refine t_norm ?_
  repeat refine at_seq rfl ?_
  refine at_region hS rfl (by kernel_rfl) ?_
  refine s_op (a_mv e0) rfl ?_
  refine s_op (a_slice (by simp (disch := omega) only [Zu, Nat.reduceEqDiff, ↓reduceIte, k68] <;> rfl)) rfl ?_
  refine s_call (by simp only [Zu, Nat.reduceEqDiff, ↓reduceIte, k68] <;> rfl) (by simp only [Zu, Nat.reduceEqDiff, ↓reduceIte, Zm, k68] <;> rfl) ?_
  rw [S47_66]; refine ⟨_, rfl, by omega, ?_⟩
  show EA _ _ _ _ _ _
  refine s_as ?_
  refine s_end (fun s' hs' => ?_)
  replace e0 := kp 0 hs' e0
  replace e2 := kp 2 hs' e2
  replace e5 := kp 5 hs' e5
  replace e6 := kp 6 hs' e6
  have e7 := congrFun hs' 7
  simp only [Zu, Nat.reduceEqDiff, ↓reduceIte] at e7
  clear hs'
  refine o_norm ?_
  refine t_norm ?_
  repeat refine at_seq rfl ?_
  refine at_block rfl ?_
  repeat refine at_seq rfl ?_
  by_cases hv : byteAt l 0 / 16 = 4
  rotate_left 1
  · skip
    refine at_region hS rfl (by kernel_rfl) ?_
    refine s_op (a_mv e0) rfl ?_
    refine s_op (a_index (by simp (disch := omega) only [Zu, Nat.reduceEqDiff, ↓reduceIte, hx0, shr8_4, hv] <;> rfl)) rfl ?_
    refine s_op (a_bin (by simp (disch := omega) only [Zu, Nat.reduceEqDiff, ↓reduceIte, Zd, reduceCtorEq, shr_8, shr_16, shr_4, shr8_4, shr8_7, ne_eq, not_false_eq_true, hx0, hv] <;> rfl)) rfl ?_
    refine s_op (a_bin (by simp (disch := omega) only [Zu, Nat.reduceEqDiff, ↓reduceIte, Zd, reduceCtorEq, abin_neq, abin_aneq, ne_eq, not_false_eq_true, hx0, shr8_4, hv] <;> rfl)) rfl ?_
    refine s_mv ?_
    refine s_lv ?_
    refine s_lv ?_
    refine s_op (a_pick (by simp only [Zu, Nat.reduceEqDiff, ↓reduceIte, Zd, reduceCtorEq, hx0, shr8_4, hv] <;> rfl) (by simp only [Zu, Nat.reduceEqDiff, ↓reduceIte, Zd, reduceCtorEq, hx0, shr8_4, hv] <;> rfl)) rfl ?_
    refine s_as ?_
    refine s_end (fun s' hs' => ?_)
    replace e0 := kp 0 hs' e0
    replace e2 := kp 2 hs' e2
    replace e5 := kp 5 hs' e5
    replace e6 := kp 6 hs' e6
    replace e7 := kp 7 hs' e7
    have e24 := congrFun hs' 24
    simp only [Zu, Nat.reduceEqDiff, ↓reduceIte] at e24
    clear hs'
    refine o_norm ?_
    refine t_norm ?_
    refine at_cond rfl rfl e24 (fun _ => ?_) (fun hc => by cases hc)
    have hF : ipGetF l = (ip0, [], 3) := by unfold ipGetF; rw [if_neg (by omega), if_pos (by omega)]
    rw [hF] at hK
    repeat refine at_seq rfl ?_
    refine at_region hS rfl (by kernel_rfl) ?_
    refine s_op (a_build (by simp only [Zm, Array.toList, hb, newPtr, hst] <;> rfl)) rfl ?_
    refine s_op (a_store e2 (by simp (disch := first | (refine Zx ?_; simp only [Zn]; done) | ((try simp only [Zn]); omega)) only [Zg, hb, newPtr, hst, e2] <;> rfl) (by simp only [Zu, Nat.reduceEqDiff, ↓reduceIte, hb, newPtr, hst, e2] <;> rfl) (by simp only [hb, newPtr, hst, e2] <;> rfl)) rfl ?_
    refine s_op (a_as (by simp only [ev_const] <;> rfl)) rfl ?_
    refine s_op (a_as (by simp only [ev_const] <;> rfl)) rfl ?_
    refine s_end (fun s' hs' => ?_)
    replace e2 := kp 2 hs' e2
    have e3 := congrFun hs' 3
    have e4 := congrFun hs' 4
    simp only [Zu, Nat.reduceEqDiff, ↓reduceIte, newPtr, AMem.next_alloc] at e3 e4
    clear hs'
    refine o_norm ?_
    refine t_norm ?_
    refine at_ret rfl ?_
    repeat (first | refine t_ret ?_ | refine b_ret ?_)
    refine bq_ret rfl (ars_cons (ar_cell e2 get_put (ld64 ip0)) (ars_cons (ar_tmp e3) (ars_cons (ar_tmp e4) ars_nil))) ?_
    exact ⟨_, _, hK, Canon.forget rfl (fun j hj => by rw [get_else (by omega), get_old (by omega)])⟩
  · skip
    refine at_region hS rfl (by kernel_rfl) ?_
    refine s_op (a_mv e0) rfl ?_
    refine s_op (a_index (by simp (disch := omega) only [Zu, Nat.reduceEqDiff, ↓reduceIte, hx0, shr8_4, hv] <;> rfl)) rfl ?_
    refine s_op (a_bin (by simp (disch := omega) only [Zu, Nat.reduceEqDiff, ↓reduceIte, Zd, reduceCtorEq, shr_8, shr_16, shr_4, shr8_4, shr8_7, ne_eq, not_false_eq_true, hx0, hv] <;> rfl)) rfl ?_
    refine s_op (a_bin (by simp (disch := omega) only [Zu, Nat.reduceEqDiff, ↓reduceIte, Zd, reduceCtorEq, abin_neq, abin_aneq, ne_eq, not_false_eq_true, hx0, shr8_4, hv] <;> rfl)) rfl ?_
    refine s_mv ?_
    refine s_tk ?_
    refine s_op (a_mv e5) rfl ?_
    refine s_tk ?_
    refine s_op (a_bin (by simp (disch := omega) only [Zu, Nat.reduceEqDiff, ↓reduceIte, Zd, reduceCtorEq, abin_lss, ne_eq, not_false_eq_true, hx0, shr8_4, hv] <;> rfl)) rfl ?_
    refine s_op (a_pick (by simp only [Zu, Nat.reduceEqDiff, ↓reduceIte, Zd, reduceCtorEq, hx0, shr8_4, hv] <;> rfl) (by simp only [Zu, Nat.reduceEqDiff, ↓reduceIte, Zd, reduceCtorEq, hx0, shr8_4, hv] <;> rfl)) rfl ?_
    refine s_as ?_
    refine s_end (fun s' hs' => ?_)
    replace e0 := kp 0 hs' e0
    replace e2 := kp 2 hs' e2
    replace e5 := kp 5 hs' e5
    replace e6 := kp 6 hs' e6
    replace e7 := kp 7 hs' e7
    have e24 := congrFun hs' 24
    simp only [Zu, Nat.reduceEqDiff, ↓reduceIte] at e24
    clear hs'
    refine o_norm ?_
    refine t_norm ?_
    refine at_cond rfl rfl e24 (fun hc1 => ?_) (fun hc1 => ?_)
    · have hc1 := of_decide_eq_true hc1
      have hF : ipGetF l = (ip0, [], 3) := by unfold ipGetF; rw [if_neg (by omega), if_pos (by omega)]
      rw [hF] at hK
      repeat refine at_seq rfl ?_
      refine at_region hS rfl (by kernel_rfl) ?_
      refine s_op (a_build (by simp only [Zm, Array.toList, hb, newPtr, hst] <;> rfl)) rfl ?_
      refine s_op (a_store e2 (by simp (disch := first | (refine Zx ?_; simp only [Zn]; done) | ((try simp only [Zn]); omega)) only [Zg, hb, newPtr, hst, e2] <;> rfl) (by simp only [Zu, Nat.reduceEqDiff, ↓reduceIte, hb, newPtr, hst, e2] <;> rfl) (by simp only [hb, newPtr, hst, e2] <;> rfl)) rfl ?_
      refine s_op (a_as (by simp only [ev_const] <;> rfl)) rfl ?_
      refine s_op (a_as (by simp only [ev_const] <;> rfl)) rfl ?_
      refine s_end (fun s' hs' => ?_)
      replace e2 := kp 2 hs' e2
      have e3 := congrFun hs' 3
      have e4 := congrFun hs' 4
      simp only [Zu, Nat.reduceEqDiff, ↓reduceIte, newPtr, AMem.next_alloc] at e3 e4
      clear hs'
      refine o_norm ?_
      refine t_norm ?_
      refine at_ret rfl ?_
      repeat (first | refine t_ret ?_ | refine b_ret ?_)
      refine bq_ret rfl (ars_cons (ar_cell e2 get_put (ld64 ip0)) (ars_cons (ar_tmp e3) (ars_cons (ar_tmp e4) ars_nil))) ?_
      exact ⟨_, _, hK, Canon.forget rfl (fun j hj => by rw [get_else (by omega), get_old (by omega)])⟩
    have hc1 := of_decide_eq_false hc1
    repeat refine at_seq rfl ?_
    refine at_region hS rfl (by kernel_rfl) ?_
    refine s_op (a_mv e0) rfl ?_
    refine s_op (a_len (by simp (disch := omega) only [Zu, Nat.reduceEqDiff, ↓reduceIte, alen_str, hlenS] <;> rfl)) rfl ?_
    refine s_op (a_mv e5) rfl ?_
    refine s_op (a_bin (by simp (disch := omega) only [Zu, Nat.reduceEqDiff, ↓reduceIte, Zd, reduceCtorEq, abin_lss, ne_eq, not_false_eq_true] <;> rfl)) rfl ?_
    refine s_as ?_
    refine s_end (fun s' hs' => ?_)
    replace e0 := kp 0 hs' e0
    replace e2 := kp 2 hs' e2
    replace e5 := kp 5 hs' e5
    replace e6 := kp 6 hs' e6
    replace e7 := kp 7 hs' e7
    have e34 := congrFun hs' 34
    simp only [Zu, Nat.reduceEqDiff, ↓reduceIte] at e34
    clear hs'
    refine o_norm ?_
    refine t_norm ?_
    refine at_cond rfl rfl e34 (fun hd0 => ?_) (fun hd0 => ?_)
    · have hd0 := of_decide_eq_true hd0
      have hF : ipGetF l = (ip0, [], 2) := by unfold ipGetF; rw [if_neg (by omega), if_neg (by omega), if_pos (by omega)]
      rw [hF] at hK
      repeat refine at_seq rfl ?_
      refine at_region hS rfl (by kernel_rfl) ?_
      refine s_op (a_build (by simp only [Zm, Array.toList, hb, newPtr, hst] <;> rfl)) rfl ?_
      refine s_op (a_store e2 (by simp (disch := first | (refine Zx ?_; simp only [Zn]; done) | ((try simp only [Zn]); omega)) only [Zg, hb, newPtr, hst, e2] <;> rfl) (by simp only [Zu, Nat.reduceEqDiff, ↓reduceIte, hb, newPtr, hst, e2] <;> rfl) (by simp only [hb, newPtr, hst, e2] <;> rfl)) rfl ?_
      refine s_op (a_as (by simp only [ev_const] <;> rfl)) rfl ?_
      refine s_op (a_as (by simp only [ev_const] <;> rfl)) rfl ?_
      refine s_end (fun s' hs' => ?_)
      replace e2 := kp 2 hs' e2
      have e3 := congrFun hs' 3
      have e4 := congrFun hs' 4
      simp only [Zu, Nat.reduceEqDiff, ↓reduceIte, newPtr, AMem.next_alloc] at e3 e4
      clear hs'
      refine o_norm ?_
      refine t_norm ?_
      refine at_ret rfl ?_
      repeat (first | refine t_ret ?_ | refine b_ret ?_)
      refine bq_ret rfl (ars_cons (ar_cell e2 get_put (ld64 ip0)) (ars_cons (ar_tmp e3) (ars_cons (ar_tmp e4) ars_nil))) ?_
      exact ⟨_, _, hK, Canon.forget rfl (fun j hj => by rw [get_else (by omega), get_old (by omega)])⟩
    have hd0 := of_decide_eq_false hd0
    repeat refine at_seq rfl ?_
    refine at_region hS rfl (by kernel_rfl) ?_
    refine s_op (a_mv e6) rfl ?_
    refine s_op (a_mv e5) rfl ?_
    refine s_op (a_bin (by simp (disch := omega) only [Zu, Nat.reduceEqDiff, ↓reduceIte, Zd, reduceCtorEq, abin_lss, ne_eq, not_false_eq_true] <;> rfl)) rfl ?_
    refine s_as ?_
    refine s_end (fun s' hs' => ?_)
    replace e0 := kp 0 hs' e0
    replace e2 := kp 2 hs' e2
    replace e5 := kp 5 hs' e5
    replace e6 := kp 6 hs' e6
    replace e7 := kp 7 hs' e7
    have e40 := congrFun hs' 40
    simp only [Zu, Nat.reduceEqDiff, ↓reduceIte] at e40
    clear hs'
    refine o_norm ?_
    refine t_norm ?_
    refine at_cond rfl rfl e40 (fun hd1 => ?_) (fun hd1 => ?_)
    · have hd1 := of_decide_eq_true hd1
      have hF : ipGetF l = (ip0, [], 3) := by unfold ipGetF; rw [if_neg (by omega), if_neg (by omega), if_neg (by omega), if_pos (by omega)]
      rw [hF] at hK
      repeat refine at_seq rfl ?_
      refine at_region hS rfl (by kernel_rfl) ?_
      refine s_op (a_build (by simp only [Zm, Array.toList, hb, newPtr, hst] <;> rfl)) rfl ?_
      refine s_op (a_store e2 (by simp (disch := first | (refine Zx ?_; simp only [Zn]; done) | ((try simp only [Zn]); omega)) only [Zg, hb, newPtr, hst, e2] <;> rfl) (by simp only [Zu, Nat.reduceEqDiff, ↓reduceIte, hb, newPtr, hst, e2] <;> rfl) (by simp only [hb, newPtr, hst, e2] <;> rfl)) rfl ?_
      refine s_op (a_as (by simp only [ev_const] <;> rfl)) rfl ?_
      refine s_op (a_as (by simp only [ev_const] <;> rfl)) rfl ?_
      refine s_end (fun s' hs' => ?_)
      replace e2 := kp 2 hs' e2
      have e3 := congrFun hs' 3
      have e4 := congrFun hs' 4
      simp only [Zu, Nat.reduceEqDiff, ↓reduceIte, newPtr, AMem.next_alloc] at e3 e4
      clear hs'
      refine o_norm ?_
      refine t_norm ?_
      refine at_ret rfl ?_
      repeat (first | refine t_ret ?_ | refine b_ret ?_)
      refine bq_ret rfl (ars_cons (ar_cell e2 get_put (ld64 ip0)) (ars_cons (ar_tmp e3) (ars_cons (ar_tmp e4) ars_nil))) ?_
      exact ⟨_, _, hK, Canon.forget rfl (fun j hj => by rw [get_else (by omega), get_old (by omega)])⟩
    have hd1 := of_decide_eq_false hd1
    repeat refine at_seq rfl ?_
    refine at_region hS rfl (by kernel_rfl) ?_
    refine s_op (a_mv e0) rfl ?_
    refine s_op (a_len (by simp (disch := omega) only [Zu, Nat.reduceEqDiff, ↓reduceIte, alen_str, hlenS] <;> rfl)) rfl ?_
    refine s_op (a_mv e6) rfl ?_
    refine s_op (a_bin (by simp (disch := omega) only [Zu, Nat.reduceEqDiff, ↓reduceIte, Zd, reduceCtorEq, abin_lss, ne_eq, not_false_eq_true] <;> rfl)) rfl ?_
    refine s_as ?_
    refine s_end (fun s' hs' => ?_)
    replace e0 := kp 0 hs' e0
    replace e2 := kp 2 hs' e2
    replace e5 := kp 5 hs' e5
    replace e6 := kp 6 hs' e6
    replace e7 := kp 7 hs' e7
    have e45 := congrFun hs' 45
    simp only [Zu, Nat.reduceEqDiff, ↓reduceIte] at e45
    clear hs'
    refine o_norm ?_
    refine t_norm ?_
    refine at_cond rfl rfl e45 (fun hd2 => ?_) (fun hd2 => ?_)
    · have hd2 := of_decide_eq_true hd2
      have hF : ipGetF l = (ip0, [], 2) := by unfold ipGetF; rw [if_neg (by omega), if_neg (by omega), if_neg (by omega), if_neg (by omega), if_pos (by omega)]
      rw [hF] at hK
      repeat refine at_seq rfl ?_
      refine at_region hS rfl (by kernel_rfl) ?_
      refine s_op (a_build (by simp only [Zm, Array.toList, hb, newPtr, hst] <;> rfl)) rfl ?_
      refine s_op (a_store e2 (by simp (disch := first | (refine Zx ?_; simp only [Zn]; done) | ((try simp only [Zn]); omega)) only [Zg, hb, newPtr, hst, e2] <;> rfl) (by simp only [Zu, Nat.reduceEqDiff, ↓reduceIte, hb, newPtr, hst, e2] <;> rfl) (by simp only [hb, newPtr, hst, e2] <;> rfl)) rfl ?_
      refine s_op (a_as (by simp only [ev_const] <;> rfl)) rfl ?_
      refine s_op (a_as (by simp only [ev_const] <;> rfl)) rfl ?_
      refine s_end (fun s' hs' => ?_)
      replace e2 := kp 2 hs' e2
      have e3 := congrFun hs' 3
      have e4 := congrFun hs' 4
      simp only [Zu, Nat.reduceEqDiff, ↓reduceIte, newPtr, AMem.next_alloc] at e3 e4
      clear hs'
      refine o_norm ?_
      refine t_norm ?_
      refine at_ret rfl ?_
      repeat (first | refine t_ret ?_ | refine b_ret ?_)
      refine bq_ret rfl (ars_cons (ar_cell e2 get_put (ld64 ip0)) (ars_cons (ar_tmp e3) (ars_cons (ar_tmp e4) ars_nil))) ?_
      exact ⟨_, _, hK, Canon.forget rfl (fun j hj => by rw [get_else (by omega), get_old (by omega)])⟩
    have hd2 := of_decide_eq_false hd2
    repeat refine at_seq rfl ?_
    refine at_region hS rfl (by kernel_rfl) ?_
    refine s_op (a_mv e7) rfl ?_
    refine s_op (a_bin (by simp (disch := omega) only [Zu, Nat.reduceEqDiff, ↓reduceIte, Zd, reduceCtorEq, abin_geq, ne_eq, not_false_eq_true] <;> rfl)) rfl ?_
    refine s_as ?_
    refine s_end (fun s' hs' => ?_)
    replace e0 := kp 0 hs' e0
    replace e2 := kp 2 hs' e2
    replace e5 := kp 5 hs' e5
    replace e6 := kp 6 hs' e6
    replace e7 := kp 7 hs' e7
    have e51 := congrFun hs' 51
    simp only [Zu, Nat.reduceEqDiff, ↓reduceIte] at e51
    clear hs'
    refine o_norm ?_
    refine t_norm ?_
    refine at_cond rfl rfl e51 (fun hd3 => ?_) (fun hd3 => ?_)
    · have hd3 := of_decide_eq_true hd3
      have hF : ipGetF l = (ip0, [], 3) := by unfold ipGetF; rw [if_neg (by omega), if_neg (by omega), if_neg (by omega), if_neg (by omega), if_neg (by omega), if_pos (by omega)]
      rw [hF] at hK
      repeat refine at_seq rfl ?_
      refine at_region hS rfl (by kernel_rfl) ?_
      refine s_op (a_build (by simp only [Zm, Array.toList, hb, newPtr, hst] <;> rfl)) rfl ?_
      refine s_op (a_store e2 (by simp (disch := first | (refine Zx ?_; simp only [Zn]; done) | ((try simp only [Zn]); omega)) only [Zg, hb, newPtr, hst, e2] <;> rfl) (by simp only [Zu, Nat.reduceEqDiff, ↓reduceIte, hb, newPtr, hst, e2] <;> rfl) (by simp only [hb, newPtr, hst, e2] <;> rfl)) rfl ?_
      refine s_op (a_as (by simp only [ev_const] <;> rfl)) rfl ?_
      refine s_op (a_as (by simp only [ev_const] <;> rfl)) rfl ?_
      refine s_end (fun s' hs' => ?_)
      replace e2 := kp 2 hs' e2
      have e3 := congrFun hs' 3
      have e4 := congrFun hs' 4
      simp only [Zu, Nat.reduceEqDiff, ↓reduceIte, newPtr, AMem.next_alloc] at e3 e4
      clear hs'
      refine o_norm ?_
      refine t_norm ?_
      refine at_ret rfl ?_
      repeat (first | refine t_ret ?_ | refine b_ret ?_)
      refine bq_ret rfl (ars_cons (ar_cell e2 get_put (ld64 ip0)) (ars_cons (ar_tmp e3) (ars_cons (ar_tmp e4) ars_nil))) ?_
      exact ⟨_, _, hK, Canon.forget rfl (fun j hj => by rw [get_else (by omega), get_old (by omega)])⟩
    have hd3 := of_decide_eq_false hd3
    repeat refine at_seq rfl ?_
    refine at_region hS rfl (by kernel_rfl) ?_
    refine s_op (a_mv e6) rfl ?_
    refine s_op (a_mv e5) rfl ?_
    refine s_op (a_bin (by simp (disch := omega) only [Zu, Nat.reduceEqDiff, ↓reduceIte, Zd, reduceCtorEq, abin_sub, wrap_i64, wrap_u32, wrap_u8, wrap_u64, wrap_i32, wrap_u16, ne_eq, not_false_eq_true] <;> rfl)) rfl ?_
    refine s_op (a_bin (by simp (disch := omega) only [Zu, Nat.reduceEqDiff, ↓reduceIte, Zd, reduceCtorEq, abin_gtr, ne_eq, not_false_eq_true] <;> rfl)) rfl ?_
    refine s_as ?_
    refine s_end (fun s' hs' => ?_)
    replace e0 := kp 0 hs' e0
    replace e2 := kp 2 hs' e2
    replace e5 := kp 5 hs' e5
    replace e6 := kp 6 hs' e6
    replace e7 := kp 7 hs' e7
    have e55 := congrFun hs' 55
    simp only [Zu, Nat.reduceEqDiff, ↓reduceIte] at e55
    clear hs'
    refine o_norm ?_
    refine t_norm ?_
    refine at_cond rfl rfl e55 (fun hd4 => ?_) (fun hd4 => ?_)
    · have hd4 := of_decide_eq_true hd4
      have hF : ipGetF l = (ip0, [], 5) := by unfold ipGetF; rw [if_neg (by omega), if_neg (by omega), if_neg (by omega), if_neg (by omega), if_neg (by omega), if_neg (by omega), if_pos (by omega)]
      rw [hF] at hK
      repeat refine at_seq rfl ?_
      refine at_region hS rfl (by kernel_rfl) ?_
      refine s_op (a_build (by simp only [Zm, Array.toList, hb, newPtr, hst] <;> rfl)) rfl ?_
      refine s_op (a_store e2 (by simp (disch := first | (refine Zx ?_; simp only [Zn]; done) | ((try simp only [Zn]); omega)) only [Zg, hb, newPtr, hst, e2] <;> rfl) (by simp only [Zu, Nat.reduceEqDiff, ↓reduceIte, hb, newPtr, hst, e2] <;> rfl) (by simp only [hb, newPtr, hst, e2] <;> rfl)) rfl ?_
      refine s_op (a_as (by simp only [ev_const] <;> rfl)) rfl ?_
      refine s_op (a_as (by simp only [ev_const] <;> rfl)) rfl ?_
      refine s_end (fun s' hs' => ?_)
      replace e2 := kp 2 hs' e2
      have e3 := congrFun hs' 3
      have e4 := congrFun hs' 4
      simp only [Zu, Nat.reduceEqDiff, ↓reduceIte, newPtr, AMem.next_alloc] at e3 e4
      clear hs'
      refine o_norm ?_
      refine t_norm ?_
      refine at_ret rfl ?_
      repeat (first | refine t_ret ?_ | refine b_ret ?_)
      refine bq_ret rfl (ars_cons (ar_cell e2 get_put (ld64 ip0)) (ars_cons (ar_tmp e3) (ars_cons (ar_tmp e4) ars_nil))) ?_
      exact ⟨_, _, hK, Canon.forget rfl (fun j hj => by rw [get_else (by omega), get_old (by omega)])⟩
    have hd4 := of_decide_eq_false hd4
    have k0n : ∀ (s : Slots) (M : AMem), s 63 = .int .i64 (4 * (byteAt l 0 % 16)) → aslice Try.prog s M 9 (asString l) none (some (.tmp 63)) = some (asString (part l 0 (4 * (byteAt l 0 % 16)).toNat)) := fun s M h => aslice_part (a := 0) (b := 4 * (byteAt l 0 % 16)) rfl (by simp only [abound, ev_tmp, h]) (by omega) (by omega) (by omega)
    have hp0 : part l 0 (4 * (byteAt l 0 % 16)).toNat = l.take (4 * (byteAt l 0 % 16)).toNat := by simp [part]
    rw [hp0] at k0n
    repeat refine at_seq rfl ?_
    refine at_region hS rfl (by kernel_rfl) ?_
    refine s_op (a_mv e0) rfl ?_
    refine s_op (a_mv e5) rfl ?_
    refine s_op (a_slice (by simp only [Zu, Nat.reduceEqDiff, ↓reduceIte]; exact k0n _ _ (by simp only [Zu, Nat.reduceEqDiff, ↓reduceIte, e5]))) rfl ?_
    refine s_call (by simp only [Zu, Nat.reduceEqDiff, ↓reduceIte] <;> rfl) (by simp only [Zu, Nat.reduceEqDiff, ↓reduceIte, Zm] <;> rfl) ?_
    rw [S47_67]; refine ⟨_, rfl, by rw [List.length_take]; omega, ?_⟩
    show EA _ _ _ _ _ _
    refine s_op (a_bin (by simp (disch := omega) only [Zu, Nat.reduceEqDiff, ↓reduceIte, Zd, reduceCtorEq, abin_neq, abin_aneq, ne_eq, not_false_eq_true] <;> rfl)) rfl ?_
    refine s_as ?_
    refine s_end (fun s' hs' => ?_)
    replace e0 := kp 0 hs' e0
    replace e2 := kp 2 hs' e2
    replace e5 := kp 5 hs' e5
    replace e6 := kp 6 hs' e6
    replace e7 := kp 7 hs' e7
    have e61 := congrFun hs' 61
    simp only [Zu, Nat.reduceEqDiff, ↓reduceIte] at e61
    clear hs'
    refine o_norm ?_
    refine t_norm ?_
    refine at_cond rfl rfl e61 (fun hd6 => ?_) (fun hd6 => ?_)
    · have hd6 : ¬ (ocF (l.take (4 * (byteAt l 0 % 16)).toNat) = 0) := by simpa using hd6
      have hF : ipGetF l = (ip0, [], 4) := by unfold ipGetF; rw [if_neg (by omega), if_neg (by omega), if_neg (by omega), if_neg (by omega), if_neg (by omega), if_neg (by omega), if_neg (by omega), if_pos hd6]
      rw [hF] at hK
      repeat refine at_seq rfl ?_
      refine at_region hS rfl (by kernel_rfl) ?_
      refine s_op (a_build (by simp only [Zm, Array.toList, hb, newPtr, hst] <;> rfl)) rfl ?_
      refine s_op (a_store e2 (by simp (disch := first | (refine Zx ?_; simp only [Zn]; done) | ((try simp only [Zn]); omega)) only [Zg, hb, newPtr, hst, e2] <;> rfl) (by simp only [Zu, Nat.reduceEqDiff, ↓reduceIte, hb, newPtr, hst, e2] <;> rfl) (by simp only [hb, newPtr, hst, e2] <;> rfl)) rfl ?_
      refine s_op (a_as (by simp only [ev_const] <;> rfl)) rfl ?_
      refine s_op (a_as (by simp only [ev_const] <;> rfl)) rfl ?_
      refine s_end (fun s' hs' => ?_)
      replace e2 := kp 2 hs' e2
      have e3 := congrFun hs' 3
      have e4 := congrFun hs' 4
      simp only [Zu, Nat.reduceEqDiff, ↓reduceIte, newPtr, AMem.next_alloc] at e3 e4
      clear hs'
      refine o_norm ?_
      refine t_norm ?_
      refine at_ret rfl ?_
      repeat (first | refine t_ret ?_ | refine b_ret ?_)
      refine bq_ret rfl (ars_cons (ar_cell e2 get_put (ld64 ip0)) (ars_cons (ar_tmp e3) (ars_cons (ar_tmp e4) ars_nil))) ?_
      exact ⟨_, _, hK, Canon.forget rfl (fun j hj => by rw [get_else (by omega), get_old (by omega)])⟩
    have hd6 : ocF (l.take (4 * (byteAt l 0 % 16)).toNat) = 0 := by simpa using hd6
    have hF : ipGetF l = (ipHead l, part l (4 * (byteAt l 0 % 16)).toNat (numF (part l 2 4)).toNat, 0) := by unfold ipGetF; rw [if_neg (by omega), if_neg (by omega), if_neg (by omega), if_neg (by omega), if_neg (by omega), if_neg (by omega), if_neg (by omega), if_neg (by simp [hd6])]
    rw [hF] at hK
    refine at_skip rfl ?_
    repeat (first | refine t_norm ?_ | refine b_norm ?_)
    repeat refine at_seq rfl ?_
    have hx1 := hx 1 .i64 (by omega)
    have hx8 := hx 8 .i64 (by omega)
    have hx9 := hx 9 .i64 (by omega)
    rw [show ((1 : Nat) : Int) = 1 from rfl] at hx1
    rw [show ((8 : Nat) : Int) = 8 from rfl] at hx8
    rw [show ((9 : Nat) : Int) = 9 from rfl] at hx9
    have y1 := byteAt_bound l 1
    have y8 := byteAt_bound l 8
    have y9 := byteAt_bound l 9
    have k46 : ∀ (s : Slots) (M : AMem), aslice Try.prog s M 9 (asString l) (some (.const (.int .i64 4))) (some (.const (.int .i64 6))) = some (asString (part l 4 6)) := fun s M => aslice_part (a := 4) (b := 6) rfl rfl (by omega) (by omega) (by omega)
    have k12 : ∀ (s : Slots) (M : AMem), aslice Try.prog s M 9 (asString l) (some (.const (.int .i64 12))) (some (.const (.int .i64 16))) = some (asString (part l 12 16)) := fun s M => aslice_part (a := 12) (b := 16) rfl rfl (by omega) (by omega) (by omega)
    have k16 : ∀ (s : Slots) (M : AMem), aslice Try.prog s M 9 (asString l) (some (.const (.int .i64 16))) (some (.const (.int .i64 20))) = some (asString (part l 16 20)) := fun s M => aslice_part (a := 16) (b := 20) rfl rfl (by omega) (by omega) (by omega)
    have l46 := part_length (l := l) (a := 4) (b := 6) (by omega)
    have l12 := part_length (l := l) (a := 12) (b := 16) (by omega)
    have l16 := part_length (l := l) (a := 16) (b := 20) (by omega)
    have m12 := numF_bound4 _ l12
    have m16 := numF_bound4 _ l16
    have k20 : ∀ (s : Slots) (M : AMem), s 98 = .int .i64 (4 * (byteAt l 0 % 16)) → aslice Try.prog s M 9 (asString l) (some (.const (.int .i64 20))) (some (.tmp 98)) = some (asString (part l 20 (4 * (byteAt l 0 % 16)).toNat)) := fun s M h => aslice_part (a := 20) (b := 4 * (byteAt l 0 % 16)) rfl (by simp only [abound, ev_tmp, h]) (by omega) (by omega) (by omega)
    refine at_draw ⟨[[], [0], [0, 1], [], [3], [3, 4], [], [6], [6, 7], [], [9], [9, 10], [], [12], [12, 13], [], [15], [15, 16], [], [18], [18, 19], [], [21], [3, 4, 5, 21, 22], [3, 4, 5, 21, 22, 23], [], [25], [3, 4, 5, 21, 22, 23, 25, 26], [3, 4, 5, 21, 22, 23, 25, 26, 27], [], [], [29, 30], [0, 1, 2, 3, 4, 5, 6, 7, 8, 9, 10, 11, 12, 13, 14, 15, 16, 17, 18, 19, 20, 21, 22, 23, 24, 25, 26, 27, 28, 29, 30, 31], [], [0, 1, 2, 3, 4, 5, 6, 7, 8, 9, 10, 11, 12, 13, 14, 15, 16, 17, 18, 19, 20, 21, 22, 23, 24, 25, 26, 27, 28, 29, 30, 31, 32, 33]], [0, 1, 2, 3, 4, 6, 7, 8, 9, 10, 11, 12, 13, 14, 15, 16, 17, 18, 19, 20, 21, 22, 25, 26, 29, 30, 31, 33], [(5, []), (23, [24]), (27, [28, 32]), (34, [])]⟩ hS rfl rfl (by kernel_rfl) (by kernel_rfl) ?_
    refine d_start ?_
    refine l_op rfl rfl (a_mv e0) rfl ?_ rfl
    refine l_op rfl rfl (a_index (by simp (disch := omega) only [Zu, Nat.reduceEqDiff, ↓reduceIte, hx1, hx8, hx9, k46, k12, k16, bd64v, st64, and_8191] <;> rfl)) rfl ?_ rfl
    refine l_op rfl rfl (a_convi (by simp only [Zu, Nat.reduceEqDiff, ↓reduceIte, hx1, hx8, hx9, k46, k12, k16, bd64v, st64, newPtr, and_8191] <;> rfl) rfl rfl (by simp (disch := omega) only [wrap_i64]; try rfl)) rfl ?_ rfl
    refine l_op rfl rfl (a_mv e0) rfl ?_ rfl
    refine l_op rfl rfl (a_slice (by simp (disch := omega) only [Zu, Nat.reduceEqDiff, ↓reduceIte, hx1, hx8, hx9, k46, k12, k16, bd64v, st64, and_8191] <;> rfl)) rfl ?_ rfl
    refine l_op rfl rfl (a_mv e7) rfl ?_ rfl
    refine l_op rfl rfl (a_bin (by simp (disch := omega) only [Zu, Nat.reduceEqDiff, ↓reduceIte, Zd, reduceCtorEq, abin_and, and_255, and_15, and_65535, and_8191, ne_eq, not_false_eq_true, hx1, hx8, hx9, k46, k12, k16, bd64v, st64] <;> rfl)) rfl ?_ rfl
    refine l_op rfl rfl (a_bin (by simp (disch := omega) only [Zu, Nat.reduceEqDiff, ↓reduceIte, Zd, reduceCtorEq, abin_neq, abin_aneq, ne_eq, not_false_eq_true, hx1, hx8, hx9, k46, k12, k16, bd64v, st64, and_8191] <;> rfl)) rfl ?_ rfl
    refine l_op rfl rfl (a_mv e7) rfl ?_ rfl
    refine l_op rfl rfl (a_bin (by simp (disch := omega) only [Zu, Nat.reduceEqDiff, ↓reduceIte, Zd, reduceCtorEq, abin_and, and_255, and_15, and_65535, and_8191, ne_eq, not_false_eq_true, hx1, hx8, hx9, k46, k12, k16, bd64v, st64] <;> rfl)) rfl ?_ rfl
    refine l_op rfl rfl (a_bin (by simp (disch := omega) only [Zu, Nat.reduceEqDiff, ↓reduceIte, Zd, reduceCtorEq, abin_neq, abin_aneq, ne_eq, not_false_eq_true, hx1, hx8, hx9, k46, k12, k16, bd64v, st64, and_8191] <;> rfl)) rfl ?_ rfl
    refine l_op rfl rfl (a_mv e7) rfl ?_ rfl
    refine l_op rfl rfl (a_bin (by simp (disch := omega) only [Zu, Nat.reduceEqDiff, ↓reduceIte, Zd, reduceCtorEq, abin_and, and_255, and_15, and_65535, and_8191, ne_eq, not_false_eq_true, hx1, hx8, hx9, k46, k12, k16, bd64v, st64] <;> rfl)) rfl ?_ rfl
    refine l_op rfl rfl (a_bin (by simp (disch := omega) only [Zu, Nat.reduceEqDiff, ↓reduceIte, Zd, reduceCtorEq, abin_mul, wrap_i64, wrap_u32, wrap_u8, wrap_u64, wrap_i32, wrap_u16, ne_eq, not_false_eq_true, hx1, hx8, hx9, k46, k12, k16, bd64v, st64, and_8191] <;> rfl)) rfl ?_ rfl
    refine l_op rfl rfl (a_mv e0) rfl ?_ rfl
    refine l_op rfl rfl (a_index (by simp (disch := omega) only [Zu, Nat.reduceEqDiff, ↓reduceIte, hx1, hx8, hx9, k46, k12, k16, bd64v, st64, and_8191] <;> rfl)) rfl ?_ rfl
    refine l_op rfl rfl (a_convi (by simp only [Zu, Nat.reduceEqDiff, ↓reduceIte, hx1, hx8, hx9, k46, k12, k16, bd64v, st64, newPtr, and_8191] <;> rfl) rfl rfl (by simp (disch := omega) only [wrap_i64]; try rfl)) rfl ?_ rfl
    refine l_op rfl rfl (a_mv e0) rfl ?_ rfl
    refine l_op rfl rfl (a_index (by simp (disch := omega) only [Zu, Nat.reduceEqDiff, ↓reduceIte, hx1, hx8, hx9, k46, k12, k16, bd64v, st64, and_8191] <;> rfl)) rfl ?_ rfl
    refine l_op rfl rfl (a_convi (by simp only [Zu, Nat.reduceEqDiff, ↓reduceIte, hx1, hx8, hx9, k46, k12, k16, bd64v, st64, newPtr, and_8191] <;> rfl) rfl rfl (by simp (disch := omega) only [wrap_i64]; try rfl)) rfl ?_ rfl
    refine l_op rfl rfl (a_mv e0) rfl ?_ rfl
    refine l_op rfl rfl (a_slice (by simp (disch := omega) only [Zu, Nat.reduceEqDiff, ↓reduceIte, hx1, hx8, hx9, k46, k12, k16, bd64v, st64, and_8191] <;> rfl)) rfl ?_ rfl
    refine l_op rfl rfl (a_mv e0) rfl ?_ rfl
    refine l_op rfl rfl (a_slice (by simp (disch := omega) only [Zu, Nat.reduceEqDiff, ↓reduceIte, hx1, hx8, hx9, k46, k12, k16, bd64v, st64, and_8191] <;> rfl)) rfl ?_ rfl
    refine l_op rfl rfl (a_mv e0) rfl ?_ rfl
    refine l_op rfl rfl (a_mv e5) rfl ?_ rfl
    refine l_op rfl rfl (a_slice (by simp only [Zu, Nat.reduceEqDiff, ↓reduceIte, e0]; exact k20 _ _ (by simp only [Zu, Nat.reduceEqDiff, ↓reduceIte, e5]))) rfl ?_ rfl
    refine l_new rfl rfl (a_alloc z64) rfl ?_ rfl
    refine l_nil ?_
    refine h_op ?_ rfl rfl rfl ?_
    · refine again_f rfl rfl rfl (a_alloc z64) (by simp (disch := first | (refine Zx ?_; simp only [Zn]; done) | ((try simp only [Zn]); omega)) only [Zg, hx1, hx8, hx9, k46, k12, k16, bd64v, st64, newPtr, and_8191] <;> rfl) ?_
      refine again_l rfl rfl (a_slice (by simp only [Zu, Nat.reduceEqDiff, ↓reduceIte, e0]; exact k20 _ _ (by simp only [Zu, Nat.reduceEqDiff, ↓reduceIte, e5]))) ?_
      refine again_r rfl ?_
      refine again_r rfl ?_
      refine again_l rfl rfl (a_slice (by simp (disch := omega) only [Zu, Nat.reduceEqDiff, ↓reduceIte, hx1, hx8, hx9, k46, k12, k16, bd64v, st64, and_8191] <;> rfl)) ?_
      refine again_r rfl ?_
      refine again_l rfl rfl (a_slice (by simp (disch := omega) only [Zu, Nat.reduceEqDiff, ↓reduceIte, hx1, hx8, hx9, k46, k12, k16, bd64v, st64, and_8191] <;> rfl)) ?_
      refine again_r rfl ?_
      refine again_l rfl rfl (a_convi (by simp only [Zu, Nat.reduceEqDiff, ↓reduceIte, hx1, hx8, hx9, k46, k12, k16, bd64v, st64, newPtr, and_8191] <;> rfl) rfl rfl (by simp (disch := omega) only [wrap_i64]; try rfl)) ?_
      refine again_r rfl ?_
      refine again_r rfl ?_
      refine again_l rfl rfl (a_convi (by simp only [Zu, Nat.reduceEqDiff, ↓reduceIte, hx1, hx8, hx9, k46, k12, k16, bd64v, st64, newPtr, and_8191] <;> rfl) rfl rfl (by simp (disch := omega) only [wrap_i64]; try rfl)) ?_
      refine again_r rfl ?_
      refine again_r rfl ?_
      refine again_r rfl ?_
      refine again_r rfl ?_
      refine again_r rfl ?_
      refine again_r rfl ?_
      refine again_r rfl ?_
      refine again_r rfl ?_
      refine again_r rfl ?_
      refine again_r rfl ?_
      refine again_r rfl ?_
      refine again_l rfl rfl (a_slice (by simp (disch := omega) only [Zu, Nat.reduceEqDiff, ↓reduceIte, hx1, hx8, hx9, k46, k12, k16, bd64v, st64, and_8191] <;> rfl)) ?_
      refine again_r rfl ?_
      refine again_l rfl rfl (a_convi (by simp only [Zu, Nat.reduceEqDiff, ↓reduceIte, hx1, hx8, hx9, k46, k12, k16, bd64v, st64, newPtr, and_8191] <;> rfl) rfl rfl (by simp (disch := omega) only [wrap_i64]; try rfl)) ?_
      refine again_r rfl ?_
      refine again_r rfl ?_
      exact again_nil
    refine s_call (by simp only [Zu, Nat.reduceEqDiff, ↓reduceIte, hx1, hx8, hx9, k46, k12, k16, bd64v, st64, newPtr, and_8191] <;> rfl) (by simp only [Zu, Nat.reduceEqDiff, ↓reduceIte, Zm, hx1, hx8, hx9, k46, k12, k16, bd64v, st64, newPtr, and_8191] <;> rfl) ?_
    rw [S47_66]; refine ⟨_, rfl, by omega, ?_⟩
    show EA _ _ _ _ _ _
    refine s_end (fun s' hs' => ?_); subst hs'
    refine l_nil ?_
    refine h_op ?_ rfl rfl rfl ?_
    · refine again_f rfl rfl rfl (a_alloc z64) (by simp (disch := first | (refine Zx ?_; simp only [Zn]; done) | ((try simp only [Zn]); omega)) only [Zg, hx1, hx8, hx9, k46, k12, k16, bd64v, st64, newPtr, and_8191] <;> rfl) ?_
      refine again_l rfl rfl (a_slice (by simp only [Zu, Nat.reduceEqDiff, ↓reduceIte, e0]; exact k20 _ _ (by simp only [Zu, Nat.reduceEqDiff, ↓reduceIte, e5]))) ?_
      refine again_r rfl ?_
      refine again_r rfl ?_
      refine again_l rfl rfl (a_slice (by simp (disch := omega) only [Zu, Nat.reduceEqDiff, ↓reduceIte, hx1, hx8, hx9, k46, k12, k16, bd64v, st64, and_8191] <;> rfl)) ?_
      refine again_r rfl ?_
      refine again_l rfl rfl (a_slice (by simp (disch := omega) only [Zu, Nat.reduceEqDiff, ↓reduceIte, hx1, hx8, hx9, k46, k12, k16, bd64v, st64, and_8191] <;> rfl)) ?_
      refine again_r rfl ?_
      refine again_l rfl rfl (a_convi (by simp only [Zu, Nat.reduceEqDiff, ↓reduceIte, hx1, hx8, hx9, k46, k12, k16, bd64v, st64, newPtr, and_8191] <;> rfl) rfl rfl (by simp (disch := omega) only [wrap_i64]; try rfl)) ?_
      refine again_r rfl ?_
      refine again_r rfl ?_
      refine again_l rfl rfl (a_convi (by simp only [Zu, Nat.reduceEqDiff, ↓reduceIte, hx1, hx8, hx9, k46, k12, k16, bd64v, st64, newPtr, and_8191] <;> rfl) rfl rfl (by simp (disch := omega) only [wrap_i64]; try rfl)) ?_
      refine again_r rfl ?_
      refine again_r rfl ?_
      refine again_r rfl ?_
      refine again_r rfl ?_
      refine again_r rfl ?_
      refine again_r rfl ?_
      refine again_r rfl ?_
      refine again_r rfl ?_
      refine again_r rfl ?_
      refine again_r rfl ?_
      refine again_r rfl ?_
      refine again_l rfl rfl (a_convi (by simp only [Zu, Nat.reduceEqDiff, ↓reduceIte, hx1, hx8, hx9, k46, k12, k16, bd64v, st64, newPtr, and_8191] <;> rfl) rfl rfl (by simp (disch := omega) only [wrap_i64]; try rfl)) ?_
      refine again_r rfl ?_
      refine again_r rfl ?_
      exact again_nil
    refine s_call (by simp only [Zu, Nat.reduceEqDiff, ↓reduceIte, hx1, hx8, hx9, k46, k12, k16, bd64v, st64, newPtr, and_8191] <;> rfl) (by simp only [Zu, Nat.reduceEqDiff, ↓reduceIte, Zm, hx1, hx8, hx9, k46, k12, k16, bd64v, st64, newPtr, and_8191] <;> rfl) ?_
    rw [S47_66]; refine ⟨_, rfl, by omega, ?_⟩
    show EA _ _ _ _ _ _
    refine s_end (fun s' hs' => ?_); subst hs'
    refine l_op rfl rfl (a_convi (by simp only [Zu, Nat.reduceEqDiff, ↓reduceIte, hx1, hx8, hx9, k46, k12, k16, bd64v, st64, newPtr, and_8191] <;> rfl) rfl rfl (by simp (disch := omega) only [wrapm_u32, Int.emod_eq_of_lt]; try rfl)) rfl ?_ rfl
    refine l_nil ?_
    refine h_op ?_ rfl rfl rfl ?_
    · refine again_l rfl rfl (a_convi (by simp only [Zu, Nat.reduceEqDiff, ↓reduceIte, hx1, hx8, hx9, k46, k12, k16, bd64v, st64, newPtr, and_8191] <;> rfl) rfl rfl (by simp (disch := omega) only [wrapm_u32, Int.emod_eq_of_lt]; try rfl)) ?_
      refine again_f rfl rfl rfl (a_alloc z64) (by simp (disch := first | (refine Zx ?_; simp only [Zn]; done) | ((try simp only [Zn]); omega)) only [Zg, hx1, hx8, hx9, k46, k12, k16, bd64v, st64, newPtr, and_8191] <;> rfl) ?_
      refine again_l rfl rfl (a_slice (by simp only [Zu, Nat.reduceEqDiff, ↓reduceIte, e0]; exact k20 _ _ (by simp only [Zu, Nat.reduceEqDiff, ↓reduceIte, e5]))) ?_
      refine again_r rfl ?_
      refine again_r rfl ?_
      refine again_l rfl rfl (a_slice (by simp (disch := omega) only [Zu, Nat.reduceEqDiff, ↓reduceIte, hx1, hx8, hx9, k46, k12, k16, bd64v, st64, and_8191] <;> rfl)) ?_
      refine again_r rfl ?_
      refine again_l rfl rfl (a_convi (by simp only [Zu, Nat.reduceEqDiff, ↓reduceIte, hx1, hx8, hx9, k46, k12, k16, bd64v, st64, newPtr, and_8191] <;> rfl) rfl rfl (by simp (disch := omega) only [wrap_i64]; try rfl)) ?_
      refine again_r rfl ?_
      refine again_r rfl ?_
      refine again_l rfl rfl (a_convi (by simp only [Zu, Nat.reduceEqDiff, ↓reduceIte, hx1, hx8, hx9, k46, k12, k16, bd64v, st64, newPtr, and_8191] <;> rfl) rfl rfl (by simp (disch := omega) only [wrap_i64]; try rfl)) ?_
      refine again_r rfl ?_
      refine again_r rfl ?_
      refine again_r rfl ?_
      refine again_r rfl ?_
      refine again_r rfl ?_
      refine again_r rfl ?_
      refine again_r rfl ?_
      refine again_r rfl ?_
      refine again_r rfl ?_
      refine again_r rfl ?_
      refine again_r rfl ?_
      refine again_l rfl rfl (a_convi (by simp only [Zu, Nat.reduceEqDiff, ↓reduceIte, hx1, hx8, hx9, k46, k12, k16, bd64v, st64, newPtr, and_8191] <;> rfl) rfl rfl (by simp (disch := omega) only [wrap_i64]; try rfl)) ?_
      refine again_r rfl ?_
      refine again_r rfl ?_
      exact again_nil
    refine s_call (by simp only [Zu, Nat.reduceEqDiff, ↓reduceIte, hx1, hx8, hx9, k46, k12, k16, bd64v, st64, newPtr, and_8191] <;> rfl) (by simp only [Zu, Nat.reduceEqDiff, ↓reduceIte, Zm, hx1, hx8, hx9, k46, k12, k16, bd64v, st64, newPtr, and_8191] <;> rfl) ?_
    rw [S47_66]; refine ⟨_, rfl, by omega, ?_⟩
    show EA _ _ _ _ _ _
    refine s_end (fun s' hs' => ?_); subst hs'
    refine l_op rfl rfl (a_convi (by simp only [Zu, Nat.reduceEqDiff, ↓reduceIte, hx1, hx8, hx9, k46, k12, k16, bd64v, st64, newPtr, and_8191] <;> rfl) rfl rfl (by simp (disch := omega) only [wrapm_u32, Int.emod_eq_of_lt]; try rfl)) rfl ?_ rfl
    refine l_op rfl rfl (a_build (by simp only [Zu, Nat.reduceEqDiff, ↓reduceIte, Zm, Array.toList, hx1, hx8, hx9, k46, k12, k16, bd64v, st64, newPtr, and_8191] <;> rfl)) rfl ?_ rfl
    refine l_nil ?_
    refine h_op ?_ rfl rfl rfl ?_
    · refine again_r rfl ?_
      refine again_l rfl rfl (a_convi (by simp only [Zu, Nat.reduceEqDiff, ↓reduceIte, hx1, hx8, hx9, k46, k12, k16, bd64v, st64, newPtr, and_8191] <;> rfl) rfl rfl (by simp (disch := omega) only [wrapm_u32, Int.emod_eq_of_lt]; try rfl)) ?_
      refine again_l rfl rfl (a_convi (by simp only [Zu, Nat.reduceEqDiff, ↓reduceIte, hx1, hx8, hx9, k46, k12, k16, bd64v, st64, newPtr, and_8191] <;> rfl) rfl rfl (by simp (disch := omega) only [wrapm_u32, Int.emod_eq_of_lt]; try rfl)) ?_
      refine again_f rfl rfl rfl (a_alloc z64) (by simp (disch := first | (refine Zx ?_; simp only [Zn]; done) | ((try simp only [Zn]); omega)) only [Zg, hx1, hx8, hx9, k46, k12, k16, bd64v, st64, newPtr, and_8191] <;> rfl) ?_
      refine again_l rfl rfl (a_slice (by simp only [Zu, Nat.reduceEqDiff, ↓reduceIte, e0]; exact k20 _ _ (by simp only [Zu, Nat.reduceEqDiff, ↓reduceIte, e5]))) ?_
      refine again_r rfl ?_
      refine again_r rfl ?_
      refine again_l rfl rfl (a_convi (by simp only [Zu, Nat.reduceEqDiff, ↓reduceIte, hx1, hx8, hx9, k46, k12, k16, bd64v, st64, newPtr, and_8191] <;> rfl) rfl rfl (by simp (disch := omega) only [wrap_i64]; try rfl)) ?_
      refine again_r rfl ?_
      refine again_r rfl ?_
      refine again_l rfl rfl (a_convi (by simp only [Zu, Nat.reduceEqDiff, ↓reduceIte, hx1, hx8, hx9, k46, k12, k16, bd64v, st64, newPtr, and_8191] <;> rfl) rfl rfl (by simp (disch := omega) only [wrap_i64]; try rfl)) ?_
      refine again_r rfl ?_
      refine again_r rfl ?_
      refine again_r rfl ?_
      refine again_r rfl ?_
      refine again_r rfl ?_
      refine again_r rfl ?_
      refine again_r rfl ?_
      refine again_r rfl ?_
      refine again_r rfl ?_
      refine again_r rfl ?_
      refine again_r rfl ?_
      refine again_l rfl rfl (a_convi (by simp only [Zu, Nat.reduceEqDiff, ↓reduceIte, hx1, hx8, hx9, k46, k12, k16, bd64v, st64, newPtr, and_8191] <;> rfl) rfl rfl (by simp (disch := omega) only [wrap_i64]; try rfl)) ?_
      refine again_r rfl ?_
      refine again_r rfl ?_
      exact again_nil
    refine s_op (a_store (by simp only [Zu, Nat.reduceEqDiff, ↓reduceIte, hx1, hx8, hx9, k46, k12, k16, bd64v, st64, newPtr, and_8191] <;> rfl) (by simp (disch := first | (refine Zx ?_; simp only [Zn]; done) | ((try simp only [Zn]); omega)) only [Zg, hx1, hx8, hx9, k46, k12, k16, bd64v, st64, newPtr, and_8191] <;> rfl) (by simp only [Zu, Nat.reduceEqDiff, ↓reduceIte, hx1, hx8, hx9, k46, k12, k16, bd64v, st64, newPtr, and_8191] <;> rfl) (by simp only [hx1, hx8, hx9, k46, k12, k16, bd64v, st64, newPtr, and_8191] <;> rfl)) rfl ?_
    refine s_end (fun s' hs' => ?_); subst hs'
    refine l_nil ?_
    refine h_end ?_ (fun s' hs' => ?_)
    · exact again_nil
    replace e0 := kp 0 hs' e0
    replace e2 := kp 2 hs' e2
    replace e5 := kp 5 hs' e5
    replace e6 := kp 6 hs' e6
    have e8 := congrFun hs' 8
    simp only [Zu, Nat.reduceEqDiff, ↓reduceIte, newPtr, AMem.next_alloc] at e8
    clear hs'
    try clear e7
    refine o_norm ?_
    refine t_norm ?_
    refine at_mem (fun M1 hM1 => ?_)
    have hg1 : M1.get (M.next + 1) = .cells (ipHead l).cells true := by rw [hM1]; exact get_put
    have hg0 : M1.get M.next = .cells ip0.cells true := by rw [hM1, get_else (by simp), get_old (by simp), get_new]
    have hold : ∀ j, j < M.next → M1.get j = M.get j := fun j hj => by rw [hM1, get_else (by simp; omega), get_old (by simp; omega), get_old (by omega)]
    clear hM1
    have kna : ∀ (s : Slots) (M : AMem), s 103 = .int .i64 (4 * (byteAt l 0 % 16)) → s 104 = .int .i64 (numF (part l 2 4)) → aslice Try.prog s M 9 (asString l) (some (.tmp 103)) (some (.tmp 104)) = some (asString (part l (4 * (byteAt l 0 % 16)).toNat (numF (part l 2 4)).toNat)) := fun s M h h' => aslice_part (a := 4 * (byteAt l 0 % 16)) (b := numF (part l 2 4)) (by simp only [abound, ev_tmp, h]) (by simp only [abound, ev_tmp, h']) (by omega) (by omega) (by omega)
    repeat refine at_seq rfl ?_
    refine at_draw ⟨[[], [], [], [], [1, 2, 3], [0], [0, 1, 2, 3, 4, 5], [0, 1, 2, 3, 4, 5, 6]], [0, 1, 2, 3, 4], [(5, [6, 7])]⟩ hS rfl rfl (by kernel_rfl) (by kernel_rfl) ?_
    refine d_start ?_
    refine l_op rfl rfl (a_load e8 (by simp (disch := first | (refine Zx ?_; simp only [Zn]; done) | ((try simp only [Zn]); omega)) only [Zg, newPtr, hg1, hg0, ld64, hst, e8] <;> rfl) (by simp only [newPtr, AMem.next_alloc, hg1, hg0, ld64, hst, e8] <;> rfl)) rfl ?_ rfl
    refine l_op rfl rfl (a_mv e0) rfl ?_ rfl
    refine l_op rfl rfl (a_mv e5) rfl ?_ rfl
    refine l_op rfl rfl (a_mv e6) rfl ?_ rfl
    refine l_op rfl rfl (a_slice (by simp only [Zu, Nat.reduceEqDiff, ↓reduceIte, e0]; exact kna _ _ (by simp only [Zu, Nat.reduceEqDiff, ↓reduceIte, e5]) (by simp only [Zu, Nat.reduceEqDiff, ↓reduceIte, e6]))) rfl ?_ rfl
    refine l_nil ?_
    refine h_op ?_ rfl rfl rfl ?_
    · refine again_l rfl rfl (a_slice (by simp only [Zu, Nat.reduceEqDiff, ↓reduceIte, e0]; exact kna _ _ (by simp only [Zu, Nat.reduceEqDiff, ↓reduceIte, e5]) (by simp only [Zu, Nat.reduceEqDiff, ↓reduceIte, e6]))) ?_
      refine again_r rfl ?_
      refine again_r rfl ?_
      refine again_r rfl ?_
      refine again_l rfl rfl (a_load e8 (by simp (disch := first | (refine Zx ?_; simp only [Zn]; done) | ((try simp only [Zn]); omega)) only [Zg, newPtr, hg1, hg0, ld64, hst, e8] <;> rfl) (by simp only [newPtr, AMem.next_alloc, hg1, hg0, ld64, hst, e8] <;> rfl)) ?_
      exact again_nil
    refine s_op (a_store e2 (by simp (disch := first | (refine Zx ?_; simp only [Zn]; done) | ((try simp only [Zn]); omega)) only [Zg, newPtr, hg1, hg0, hst, e2] <;> rfl) (by simp only [Zu, Nat.reduceEqDiff, ↓reduceIte, newPtr, AMem.next_alloc, hg1, hg0, hst, e2] <;> rfl) (by simp only [newPtr, AMem.next_alloc, hg1, hg0, hst, e2] <;> rfl)) rfl ?_
    refine s_end (fun s' hs' => ?_); subst hs'
    refine l_op rfl rfl (a_as (by simp only [Zu, Nat.reduceEqDiff, ↓reduceIte] <;> rfl)) rfl ?_ rfl
    refine l_op rfl rfl (a_as (by simp only [ev_const] <;> rfl)) rfl ?_ rfl
    refine l_nil ?_
    refine h_end ?_ (fun s' hs' => ?_)
    · refine again_r rfl ?_
      refine again_r rfl ?_
      refine again_l rfl rfl (a_slice (by simp only [Zu, Nat.reduceEqDiff, ↓reduceIte, e0]; exact kna _ _ (by simp only [Zu, Nat.reduceEqDiff, ↓reduceIte, e5]) (by simp only [Zu, Nat.reduceEqDiff, ↓reduceIte, e6]))) ?_
      refine again_r rfl ?_
      refine again_r rfl ?_
      refine again_r rfl ?_
      exact again_nil
    replace e2 := kp 2 hs' e2
    have e3 := congrFun hs' 3
    have e4 := congrFun hs' 4
    simp only [Zu, Nat.reduceEqDiff, ↓reduceIte, newPtr, AMem.next_alloc] at e3 e4
    clear hs'
    try clear e0 e5 e6 e8
    refine o_norm ?_
    refine t_norm ?_
    refine at_ret rfl ?_
    refine bq_ret rfl (ars_cons (ar_cell e2 get_put (ld64 (ipHead l))) (ars_cons (ar_tmp e3) (ars_cons (ar_tmp e4) ars_nil))) ?_
    exact ⟨_, _, hK, Canon.forget rfl (fun j hj => by rw [get_else (by omega)]; exact hold j hj)⟩
end Go.Proofs.Ytdkdkpiemigfkaa
set_option linter.unusedVariables false
set_option linter.unusedSimpArgs false
set_option maxRecDepth 8000
namespace Go.Proofs.Ytdkdkpiemigfkaa
open Go Go.Proofs
theorem zeroRow_u8 (n : Nat) : zeroRow (.int .u8 0) n = byteCells (List.replicate n 0) := by
  unfold zeroRow byteCells
  simp only [Array.toList_map, Array.toList_range, List.map_replicate]
  apply List.ext_getElem
  · simp
  · intro i h1 h2
    simp at h1
    simp only [List.getElem_map, List.getElem_range, List.getElem_replicate]
    show (#[Value.int .u8 0])[i % 1]! = _
    rw [Nat.mod_one]; rfl
theorem amks_bytes {n : Int} (h0 : 0 ≤ n) (h1 : n ≤ 1000000) (M : AMem) : amakeSlice Try.prog M 55 (.int .i64 n) (.int .i64 n) = some (.slice (some ⟨M.next, 0, none⟩) n.toNat 1, M.alloc (.cells (byteCells (List.replicate n.toNat 0)) true)) := by
  have hz : zeroRow (.int .u8 0) (n.toNat * 1) = byteCells (List.replicate n.toNat 0) := by rw [Nat.mul_one, zeroRow_u8]
  have hi : ∃ i, Try.prog.info? 5 = some i ∧ i.size = 1 ∧ i.bytes = 1 ∧ i.zero = some (.int .u8 0) := ⟨_, rfl, rfl, rfl, rfl⟩
  obtain ⟨i, hi1, hi2, hi3, hi4⟩ := hi
  unfold amakeSlice
  rw [Try.underlying55]
  simp only [hi1, hi2, hi3, hi4, hz]
  rw [if_pos ⟨trivial, rfl, byteCells_flat _ _, h0, by omega, by rw [show (2:Int)^48 = 281474976710656 from by decide]; omega⟩]
theorem aconv_bytes {l : List UInt8} (M : AMem) : aconv Try.prog M 9 55 (asString l) = some (.slice (some ⟨M.next, 0, none⟩) l.length 1, M.alloc (.cells (byteCells l) true)) := by
  have e : (⟨l.toArray⟩ : ByteArray).size = l.length := by simp [ByteArray.size]
  simp only [aconv, Try.underlying9, Try.underlying55, Try.underlying5, asString, e]
  rfl
theorem aia_u8 {id off len : Nat} {j : Int} {k : IntKind} (h0 : 0 ≤ j) (h1 : j < len) : aindexAddr Try.prog 55 (.slice (some ⟨id, off, none⟩) len 1) (.int k j) = some (.pointer (some ⟨id, off + j.toNat, none⟩)) := by
  have hi : ∃ i, Try.prog.info? 5 = some i ∧ i.size = 1 := ⟨_, rfl, rfl⟩
  obtain ⟨i, hi1, hi2⟩ := hi
  simp only [aindexAddr, Try.underlying55, hi1, hi2, h0, h1, and_self, if_true, Nat.mul_one]
theorem astr_slice {M : AMem} {id n : Nat} {l : List UInt8} {own : Bool} (hg : M.get id = .cells (byteCells l) own) (hl : l.length = n) : aconv Try.prog M 55 9 (.slice (some ⟨id, 0, none⟩) n 1) = some (asString l, M) := by
  subst hl
  have h1 : 0 + l.length ≤ (byteCells l).length := by rw [byteCells_length]; omega
  have h2 : ((byteCells l).drop 0).take l.length = byteCells l := by rw [List.drop_zero, List.take_of_length_le (by rw [byteCells_length]; omega)]
  simp only [aconv, Try.underlying55, Try.underlying9, Try.underlying5, hg, h1, if_true, h2, cellBytes_byteCells]
  rfl
def sp103 : ASpec := fun args M K => ∃ v : Int, args = [.int .i64 v] ∧ (0 ≤ v ∧ v ≤ 4611686018427387904) ∧ K (.ret (.int .i64 (foldF v))) M
theorem f103_ok : Sound Try.prog 103 sp103 := by
 refine Sound.of_awp (c := bodyOf Try.f103) Try.func103 rfl rfl rfl ?_
 rintro args M K ⟨v, rfl, ⟨h0, h1⟩, hK⟩
 refine ⟨Nat.le_of_ble_eq_true rfl, ?_⟩
 have hS := noS_ok Try.prog
 have e0 : entry [.int .i64 v] 0 = .int .i64 v := rfl
 refine at_seq rfl ?_
 refine at_region hS rfl (by kernel_rfl) ?_
 refine s_op (a_as (by simp only [ev_const] <;> rfl)) rfl ?_
 refine s_end (fun s' hs' => ?_)
 replace e0 := kp 0 hs' e0
 clear hs'
 refine o_norm ?_
 refine t_norm ?_
 refine at_seq rfl ?_
 refine at_block rfl ?_
 refine at_loop rfl (fun km s ML ds => ∃ (x : Int), s 0 = .int .i64 x ∧ 0 ≤ x ∧ x ≤ 4611686018427387904 ∧ foldF x = foldF v ∧ km = x.toNat ∧ M.next ≤ ML.next ∧ M.next ≤ ML.next ∧ (∀ j, j < M.next → ML.get j = M.get j) ∧ ds = []) ((v).toNat) ⟨v, (by first | exact e0 | (rw [e0]; rfl) | (simpa using e0)), (by omega), (by omega), rfl, rfl, (Nat.le_refl M.next), by omega, (fun _ _ => rfl), rfl⟩ ?_
 clear e0
 rintro km s M1 ds ⟨x, e0, hx0, hx1, hf, hk, hnxM1, hngM1, holdM1, rfl⟩
 refine at_seq rfl ?_
 refine at_seq rfl ?_
 refine at_region hS rfl (by kernel_rfl) ?_
 refine s_op (a_mv e0) rfl ?_
 refine s_op (a_bin (by simp (disch := omega) only [Zu, Nat.reduceEqDiff, ↓reduceIte, Zd, reduceCtorEq, abin_gtr, ne_eq, not_false_eq_true] <;> rfl)) rfl ?_
 refine s_end (fun s' hs' => ?_)
 replace e0 := kp 0 hs' e0
 have e4 := congrFun hs' 4
 simp only [Zu, Nat.reduceEqDiff, ↓reduceIte, newPtr, AMem.next_alloc] at e4
 clear hs'
 refine o_norm ?_
 refine t_norm ?_
 refine at_cond rfl rfl e4 (fun h1 => ?_) (fun h1 => ?_)
 ·
  try simp only [Zh] at h1
  refine at_skip rfl ?_
  refine t_norm ?_
  refine at_block rfl ?_
  refine at_region hS rfl (by kernel_rfl) ?_
  refine s_op (a_mv e0) rfl ?_
  refine s_op (a_bin (by simp (disch := omega) only [Zu, Nat.reduceEqDiff, ↓reduceIte, Zd, reduceCtorEq, abin_and, and_255, and_15, and_65535, and_8191, ne_eq, not_false_eq_true, shr_16] <;> rfl)) rfl ?_
  refine s_op (a_mv e0) rfl ?_
  refine s_op (a_bin (by simp (disch := omega) only [Zu, Nat.reduceEqDiff, ↓reduceIte, Zd, reduceCtorEq, shr_8, shr_16, shr_4, shr8_4, shr8_7, ne_eq, not_false_eq_true, and_65535] <;> rfl)) rfl ?_
  refine s_op (a_bin (by simp (disch := ((try simp only [List.length_append, List.length_cons, List.length_nil]); omega)) only [Zu, Nat.reduceEqDiff, ↓reduceIte, Zd, reduceCtorEq, abin_add, abin_aadd, wrap_i64, wrap_u32, wrap_u8, wrap_u64, wrap_i32, wrap_u16, ne_eq, not_false_eq_true, and_65535, shr_16] <;> rfl)) rfl ?_
  refine s_as ?_
  refine s_end (fun s' hs' => ?_)
  replace e0 := congrFun hs' 0
  simp only [Zu, Nat.reduceEqDiff, ↓reduceIte, newPtr, AMem.next_alloc] at e0
  clear hs'
  refine o_norm ?_
  refine b_norm ?_
  refine t_norm ?_
  exact ⟨(x % 65536 + x / 65536).toNat, by omega, x % 65536 + x / 65536, (by first | exact e0 | (rw [e0]; rfl) | (rw [e0]; simp; done)), (by omega), (by omega), (by rw [foldF_step (by omega)]; exact hf), rfl, hnxM1, by omega, holdM1, rfl⟩
 ·
  try simp only [Zh] at h1
  have hx : foldF v = x := by rw [← hf]; exact foldF_small hx0 (by omega)
  rw [hx] at hK
  refine at_exit rfl ?_
  refine t_exit ?_
  refine t_exit ?_
  refine b_here ?_
  refine t_norm ?_
  refine at_seq rfl ?_
  refine at_region hS rfl (by kernel_rfl) ?_
  refine s_op (a_mv e0) rfl ?_
  refine s_as ?_
  refine s_end (fun s' hs' => ?_)
  have e2 := congrFun hs' 2
  simp only [Zu, Nat.reduceEqDiff, ↓reduceIte, newPtr, AMem.next_alloc] at e2
  clear hs'
  try clear e0
  refine o_norm ?_
  refine t_norm ?_
  refine at_ret rfl ?_
  refine bq_ret rfl (ars_cons (ar_tmp e2) ars_nil) ?_
  exact ⟨_, _, hK, Canon.forget rfl holdM1⟩
def sp104 : ASpec := fun args M K => ∃ v n : Int, args = [.int .i64 v, .int .i64 n] ∧ (inI64 v ∧ 0 ≤ n ∧ n ≤ 8) ∧ K (.ret (asString (bigF v n.toNat))) M
theorem set_big {v : Int} {n i : Nat} (h : i < n) (x : Value) (hx : x = .int .u8 (UInt8.ofNat ((v / 256 ^ i) % 256).toNat).toNat) : (byteCells (List.replicate (n - i) 0 ++ bigTail v i)).set (n - 1 - i) x = byteCells (List.replicate (n - (i + 1)) 0 ++ bigTail v (i + 1)) := by
  subst hx
  have e : n - i = (n - (i + 1)) + 1 := by omega
  rw [e, List.replicate_succ', byteCells_append, byteCells_append, byteCells_append]
  have hl : (byteCells (List.replicate (n - (i + 1)) 0)).length = n - 1 - i := by rw [byteCells_length, List.length_replicate]; omega
  rw [List.append_assoc, ← hl, List.set_append_right _ _ (Nat.le_refl _), Nat.sub_self]
  simp [byteCells, bigTail]
theorem bigTail_length (v : Int) : ∀ n, (bigTail v n).length = n := by intro n; induction n with | zero => rfl | succ n ih => simp [bigTail, ih]
theorem shr_mul8 {v : Int} {i : Nat} (hi : i < 8) {k' : IntKind} : abin .shr (.int .i64 v) (.int k' (8 * (i : Int))) = some (.int .i64 (v / 256 ^ i)) := by
  have h0 : ¬ (8 * (i : Int) < 0) := by omega
  have hm : min (8 * (i : Int)).toNat IntKind.i64.bits = 8 * i := by show min _ 64 = _; omega
  have hp : (2 : Int) ^ (8 * i) = 256 ^ i := by rw [Int.pow_mul]; rfl
  simp only [abin, h0, if_false, hm, hp]
  rw [Int.fdiv_eq_ediv_of_nonneg]
  have : (0:Int) < 256 ^ i := Int.pow_pos (by decide)
  omega
theorem f104_ok : Sound Try.prog 104 sp104 := by
 refine Sound.of_awp (c := bodyOf Try.f104) Try.func104 rfl rfl rfl ?_
 rintro args M K ⟨v, n, rfl, ⟨⟨hv1, hv2⟩, hn0, hn1⟩, hK⟩
 refine ⟨Nat.le_of_ble_eq_true rfl, ?_⟩
 have hS := noS_ok Try.prog
 have e0 : entry [.int .i64 v, .int .i64 n] 0 = .int .i64 v := rfl
 have e1 : entry [.int .i64 v, .int .i64 n] 1 = .int .i64 n := rfl
 have hmk := amks_bytes hn0 (by omega)
 have hmn : max 0 (min n 8) = n := by omega
 have hnn : n.toNat ≤ 8 := by omega
 refine at_seq rfl ?_
 refine at_region hS rfl (by kernel_rfl) ?_
 refine s_op (a_as (by simp only [ev_const] <;> rfl)) rfl ?_
 refine s_end (fun s' hs' => ?_)
 replace e0 := kp 0 hs' e0
 replace e1 := kp 1 hs' e1
 clear hs'
 refine o_norm ?_
 refine t_norm ?_
 refine at_seq rfl ?_
 refine at_region hS rfl (by kernel_rfl) ?_
 refine s_op (a_mv e1) rfl ?_
 refine s_op (a_min (by simp only [Zu, Nat.reduceEqDiff, ↓reduceIte, newPtr, AMem.next_alloc] <;> rfl) (by simp only [Zu, Nat.reduceEqDiff, ↓reduceIte, newPtr, AMem.next_alloc] <;> rfl) rfl) rfl ?_
 refine s_op (a_max (by simp only [Zu, Nat.reduceEqDiff, ↓reduceIte, newPtr, AMem.next_alloc] <;> rfl) (by simp only [Zu, Nat.reduceEqDiff, ↓reduceIte, newPtr, AMem.next_alloc] <;> rfl) rfl) rfl ?_
 refine s_as ?_
 refine s_end (fun s' hs' => ?_)
 replace e0 := kp 0 hs' e0
 replace e1 := congrFun hs' 1
 simp only [Zu, Nat.reduceEqDiff, ↓reduceIte, newPtr, AMem.next_alloc] at e1
 clear hs'
 refine o_norm ?_
 rw [hmn] at e1
 refine t_norm ?_
 refine at_seq rfl ?_
 refine at_region hS rfl (by kernel_rfl) ?_
 refine s_op (a_mv e1) rfl ?_
 refine s_op (a_mks (by simp (disch := omega) only [Zu, Nat.reduceEqDiff, ↓reduceIte, hmk, newPtr, AMem.next_alloc] <;> rfl)) rfl ?_
 refine s_as ?_
 refine s_end (fun s' hs' => ?_)
 replace e0 := kp 0 hs' e0
 replace e1 := kp 1 hs' e1
 have e5 := congrFun hs' 5
 simp only [Zu, Nat.reduceEqDiff, ↓reduceIte, newPtr, AMem.next_alloc] at e5
 clear hs'
 refine o_norm ?_
 refine q_mem (fun M1 hEM1 => ?_)
 have hnM1 := congrArg AMem.next hEM1; simp only [Zn, Nat.add_assoc, Nat.reduceAdd] at hnM1
 have hnxM1 : M.next ≤ M1.next := by have := (Nat.le_refl M.next); omega
 have holdM1 : ∀ j, j < M.next → M1.get j = M.get j := fun j hj => by have := (Nat.le_refl M.next); rw [hEM1]; simp (disch := first | (refine Zx ?_; simp only [Zn]; done) | ((try simp only [Zn]); omega)) only [Zg]; done
 have gM1_0 := congrArg (fun m => AMem.get m M.next) hEM1; try simp (disch := first | (refine Zx ?_; simp only [Zn]; done) | ((try simp only [Zn]); omega)) only [Zg, Nat.add_assoc, Nat.reduceAdd] at gM1_0
 clear hEM1
 obtain ⟨bv, hbv⟩ : ∃ bv, bv = M.next := ⟨_, rfl⟩
 refine t_norm ?_
 refine at_seq rfl ?_
 refine at_seq rfl ?_
 refine at_region hS rfl (by kernel_rfl) ?_
 refine s_op (a_mv e5) rfl ?_
 refine s_op (a_len (by simp (disch := omega) only [Zu, Nat.reduceEqDiff, ↓reduceIte, alen_str, alen_slice Try.underlying55, newPtr, AMem.next_alloc, gM1_0] <;> rfl)) rfl ?_
 refine s_op (a_mv (by simp only [ev_const] <;> rfl)) rfl ?_
 refine s_end (fun s' hs' => ?_)
 replace e0 := kp 0 hs' e0
 replace e1 := kp 1 hs' e1
 replace e5 := kp 5 hs' e5
 have e13 := congrFun hs' 13
 have e14 := congrFun hs' 14
 simp only [Zu, Nat.reduceEqDiff, ↓reduceIte, newPtr, AMem.next_alloc] at e13 e14
 clear hs'
 refine o_norm ?_
 refine t_norm ?_
 refine at_block rfl ?_
 refine at_loop rfl (fun km s ML ds => ∃ (i : Nat), s 0 = .int .i64 v ∧ s 1 = .int .i64 n ∧ s 5 = .slice (some ⟨M.next, 0, none⟩) n.toNat 1 ∧ s 13 = .int .i64 n.toNat ∧ s 14 = .int .i64 i ∧ i ≤ n.toNat ∧ ML.get M.next = .cells (byteCells (List.replicate (n.toNat - i) 0 ++ bigTail v i)) true ∧ km = n.toNat - i ∧ M.next ≤ ML.next ∧ M1.next ≤ ML.next ∧ (∀ j, j < M.next → ML.get j = M.get j) ∧ ds = []) (n.toNat - (0)) ⟨0, (by first | exact e0 | (rw [e0]; rfl) | (simpa using e0)), (by first | exact e1 | (rw [e1]; rfl) | (simpa using e1)), (by first | exact e5 | (rw [e5]; rfl) | (simpa using e5)), (by first | exact e13 | (rw [e13]; rfl) | (simpa using e13)), (by first | exact e14 | (rw [e14]; rfl) | (simpa using e14)), (by omega), (by simpa [bigTail] using gM1_0), rfl, hnxM1, by omega, holdM1, rfl⟩ ?_
 clear e0 e1 e5 e13 e14
 rintro km s M2 ds ⟨i, e0, e1, e5, e13, e14, hi, gb, hk, hnxM2, hngM2, holdM2, rfl⟩
 refine at_seq rfl ?_
 refine at_region hS rfl (by kernel_rfl) ?_
 refine s_op (a_bin (by simp (disch := omega) only [Zu, Nat.reduceEqDiff, ↓reduceIte, Zd, reduceCtorEq, abin_lss, ne_eq, not_false_eq_true, gb, e13, e14] <;> rfl)) rfl ?_
 refine s_end (fun s' hs' => ?_)
 replace e0 := kp 0 hs' e0
 replace e1 := kp 1 hs' e1
 replace e5 := kp 5 hs' e5
 replace e13 := kp 13 hs' e13
 replace e14 := kp 14 hs' e14
 have e15 := congrFun hs' 15
 simp only [Zu, Nat.reduceEqDiff, ↓reduceIte, newPtr, AMem.next_alloc] at e15
 clear hs'
 refine o_norm ?_
 refine t_norm ?_
 refine at_seq rfl ?_
 refine at_cond rfl rfl e15 (fun h4 => ?_) (fun h4 => ?_)
 ·
  try simp only [Zh] at h4
  refine at_skip rfl ?_
  refine t_norm ?_
  refine at_seq rfl ?_
  refine at_block rfl ?_
  refine at_seq rfl ?_
  refine at_region hS rfl (by kernel_rfl) ?_
  refine s_op (a_mv e14) rfl ?_
  refine s_as ?_
  refine s_end (fun s' hs' => ?_)
  replace e0 := kp 0 hs' e0
  replace e1 := kp 1 hs' e1
  replace e5 := kp 5 hs' e5
  have e6 := congrFun hs' 6
  replace e13 := kp 13 hs' e13
  replace e14 := kp 14 hs' e14
  simp only [Zu, Nat.reduceEqDiff, ↓reduceIte, newPtr, AMem.next_alloc] at e6
  clear hs'
  refine o_norm ?_
  refine t_norm ?_
  have hst : astore Try.prog 5 (byteCells (List.replicate (n.toNat - i) 0 ++ bigTail v i)) (n - 1 - i).toNat (.int .u8 (v / 256 ^ i % 256)) = some (byteCells (List.replicate (n.toNat - (i + 1)) 0 ++ bigTail v (i + 1))) := by
    rw [st5 (by rw [byteCells_length, List.length_append, List.length_replicate, bigTail_length]; omega), show (n - 1 - i).toNat = n.toNat - 1 - i from by omega]
    rw [set_big (by omega) _ ?_]
    simp; omega
  refine at_region hS rfl (by kernel_rfl) ?_
  refine s_op (a_mv e5) rfl ?_
  refine s_op (a_mv e1) rfl ?_
  refine s_op (a_bin (by simp (disch := omega) only [Zu, Nat.reduceEqDiff, ↓reduceIte, Zd, reduceCtorEq, abin_sub, wrap_i64, wrap_u32, wrap_u8, wrap_u64, wrap_i32, wrap_u16, ne_eq, not_false_eq_true, aia_u8, Nat.zero_add, hst, shr_mul8, gb] <;> rfl)) rfl ?_
  refine s_op (a_mv e6) rfl ?_
  refine s_op (a_bin (by simp (disch := omega) only [Zu, Nat.reduceEqDiff, ↓reduceIte, Zd, reduceCtorEq, abin_sub, wrap_i64, wrap_u32, wrap_u8, wrap_u64, wrap_i32, wrap_u16, ne_eq, not_false_eq_true, aia_u8, Nat.zero_add, hst, shr_mul8, gb] <;> rfl)) rfl ?_
  refine s_op (a_mv e0) rfl ?_
  refine s_op (a_mv e6) rfl ?_
  refine s_op (a_bin (by simp (disch := omega) only [Zu, Nat.reduceEqDiff, ↓reduceIte, Zd, reduceCtorEq, abin_mul, wrap_i64, wrap_u32, wrap_u8, wrap_u64, wrap_i32, wrap_u16, ne_eq, not_false_eq_true, aia_u8, Nat.zero_add, hst, shr_mul8, gb] <;> rfl)) rfl ?_
  refine s_op (a_bin (by simp (disch := omega) only [Zu, Nat.reduceEqDiff, ↓reduceIte, Zd, reduceCtorEq, shr_8, shr_16, shr_4, shr8_4, shr8_7, ne_eq, not_false_eq_true, aia_u8, Nat.zero_add, hst, shr_mul8, gb] <;> rfl)) rfl ?_
  refine s_op (a_convi (by simp only [Zu, Nat.reduceEqDiff, ↓reduceIte, aia_u8, Nat.zero_add, hst, shr_mul8, newPtr, AMem.next_alloc, gb] <;> rfl) rfl rfl (by simp (disch := omega) only [wrapm_u8, Int.emod_eq_of_lt]; try rfl)) rfl ?_
  refine s_op (a_ia (by simp (disch := omega) only [Zu, Nat.reduceEqDiff, ↓reduceIte, aia_u8, Nat.zero_add, hst, shr_mul8, newPtr, AMem.next_alloc, gb] <;> rfl)) rfl ?_
  refine s_op (a_store (by simp only [Zu, Nat.reduceEqDiff, ↓reduceIte, aia_u8, Nat.zero_add, hst, shr_mul8, newPtr, AMem.next_alloc, gb] <;> rfl) (by simp (disch := first | (refine Zx ?_; simp only [Zn]; done) | ((try simp only [Zn]); omega)) only [Zg, aia_u8, Nat.zero_add, hst, shr_mul8, newPtr, gb] <;> rfl) (by simp only [Zu, Nat.reduceEqDiff, ↓reduceIte, aia_u8, Nat.zero_add, hst, shr_mul8, newPtr, AMem.next_alloc, gb] <;> rfl) (by simp (disch := (first | omega | (simp only [List.length_cons, List.length_nil]; omega))) only [st5, List.set_cons_succ, List.set_cons_zero, aia_u8, Nat.zero_add, hst, shr_mul8, newPtr, AMem.next_alloc, gb] <;> rfl)) rfl ?_
  refine s_end (fun s' hs' => ?_)
  replace e0 := kp 0 hs' e0
  replace e1 := kp 1 hs' e1
  replace e5 := kp 5 hs' e5
  replace e13 := kp 13 hs' e13
  replace e14 := kp 14 hs' e14
  clear hs'
  try clear e6
  refine o_norm ?_
  refine q_mem (fun M3 hEM3 => ?_)
  have hnM3 := congrArg AMem.next hEM3; simp only [Zn, Nat.add_assoc, Nat.reduceAdd] at hnM3
  have hnxM3 : M.next ≤ M3.next := by have := hnxM2; omega
  have holdM3 : ∀ j, j < M.next → M3.get j = M.get j := fun j hj => by have := hnxM2; rw [hEM3]; simp (disch := first | (refine Zx ?_; simp only [Zn]; done) | ((try simp only [Zn]); omega)) only [Zg]; exact holdM2 j hj
  have gM3_0 := congrArg (fun m => AMem.get m M.next) hEM3; try simp (disch := first | (refine Zx ?_; simp only [Zn]; done) | ((try simp only [Zn]); omega)) only [Zg, Nat.add_assoc, Nat.reduceAdd, gb] at gM3_0
  clear hEM3
  refine b_norm ?_
  refine t_norm ?_
  refine at_region hS rfl (by kernel_rfl) ?_
  refine s_op (a_bin (by simp (disch := ((try simp only [List.length_append, List.length_cons, List.length_nil]); omega)) only [Zu, Nat.reduceEqDiff, ↓reduceIte, Zd, reduceCtorEq, abin_add, abin_aadd, wrap_i64, wrap_u32, wrap_u8, wrap_u64, wrap_i32, wrap_u16, ne_eq, not_false_eq_true, e14] <;> rfl)) rfl ?_
  refine s_mv ?_
  refine s_end (fun s' hs' => ?_)
  replace e0 := kp 0 hs' e0
  replace e1 := kp 1 hs' e1
  replace e5 := kp 5 hs' e5
  replace e13 := kp 13 hs' e13
  replace e14 := congrFun hs' 14
  simp only [Zu, Nat.reduceEqDiff, ↓reduceIte, newPtr, AMem.next_alloc] at e14
  clear hs'
  refine o_norm ?_
  refine t_norm ?_
  exact ⟨n.toNat - (i + 1), by omega, i + 1, (by first | exact e0 | (rw [e0]; rfl) | (rw [e0]; simp; done)), (by first | exact e1 | (rw [e1]; rfl) | (rw [e1]; simp; done)), (by first | exact e5 | (rw [e5]; rfl) | (rw [e5]; simp; done)), (by first | exact e13 | (rw [e13]; rfl) | (rw [e13]; simp; done)), (by first | exact e14 | (rw [e14]; rfl) | (rw [e14]; simp; done)), (by omega), gM3_0, rfl, hnxM3, by omega, holdM3, rfl⟩
 ·
  try simp only [Zh] at h4
  have : i = n.toNat := by omega
  subst this
  rw [Nat.sub_self, List.replicate_zero, List.nil_append, ← bigF_tail] at gb
  refine at_exit rfl ?_
  refine t_exit ?_
  refine t_exit ?_
  refine b_here ?_
  refine t_norm ?_
  refine at_seq rfl ?_
  have hstr := astr_slice (M := M2) (l := bigF v n.toNat) (n := n.toNat) gb (bigF_length _ _)
  refine at_region hS rfl (by kernel_rfl) ?_
  refine s_op (a_mv e5) rfl ?_
  refine s_op (a_conv (by simp (disch := omega) only [Zu, Nat.reduceEqDiff, ↓reduceIte, hstr, newPtr, AMem.next_alloc, gb] <;> rfl)) rfl ?_
  refine s_as ?_
  refine s_end (fun s' hs' => ?_)
  have e4 := congrFun hs' 4
  simp only [Zu, Nat.reduceEqDiff, ↓reduceIte, newPtr, AMem.next_alloc] at e4
  clear hs'
  try clear e5
  refine o_norm ?_
  refine t_norm ?_
  refine at_ret rfl ?_
  refine bq_ret rfl (ars_cons (ar_tmp e4) ars_nil) ?_
  exact ⟨_, _, hK, Canon.forget rfl holdM2⟩
end Go.Proofs.Ytdkdkpiemigfkaa
set_option linter.unusedVariables false
set_option linter.unusedSimpArgs false
set_option maxRecDepth 8000
namespace Go.Proofs.Ytdkdkpiemigfkaa
open Go Go.Proofs
def sp70 : ASpec := fun args M K => ∃ l : List UInt8, args = [asString l] ∧ l.length ≤ 1000000000 ∧ K (.ret (.int .i64 (numF l))) M
theorem shl_num {a c : Int} (h0 : 0 ≤ a) (h1 : a ≤ 18446744073709551) : IntKind.i64.wrap (a * 256) = a * 256 := wrap_i64 (by omega) (by omega)
theorem f70_ok : Sound Try.prog 70 sp70 := by
 refine Sound.of_awp (c := bodyOf Try.f70) Try.func70 rfl rfl rfl ?_
 rintro args M K ⟨l, rfl, hll, hK⟩
 refine ⟨Nat.le_of_ble_eq_true rfl, ?_⟩
 have hS := noS_ok Try.prog
 have e0 : entry [asString l] 0 = asString l := rfl
 have hsl : ∀ (s : Slots) (M : AMem) (t : Nat), s t = .int .i64 (max 0 ((l.length : Int) - 7)) → aslice Try.prog s M 9 (asString l) (some (.tmp t)) none = some (asString (l.drop (l.length - 7))) := by
   intro s M t h
   rw [aslice_part (l := l) (a := max 0 ((l.length : Int) - 7)) (b := l.length) (by simp only [abound, ev_tmp, h]) rfl (by omega) (by omega) (by omega)]
   unfold part
   rw [show (max 0 ((l.length : Int) - 7)).toNat = l.length - 7 from by omega, List.take_of_length_le (by rw [List.length_drop]; omega)]
 have hd7 : (l.drop (l.length - 7)).length ≤ 7 := by rw [List.length_drop]; omega
 have hsl7 : ∀ (s : Slots) (M : AMem), s 10 = .int .i64 (max 0 ((l.length : Int) - 7)) → aslice Try.prog s M 9 (asString l) (some (.tmp 10)) none = some (asString (l.drop (l.length - 7))) := fun s M => hsl s M 10
 unfold numF at hK
 refine at_seq rfl ?_
 refine at_region hS rfl (by kernel_rfl) ?_
 refine s_op (a_as (by simp only [ev_const] <;> rfl)) rfl ?_
 refine s_end (fun s' hs' => ?_)
 replace e0 := kp 0 hs' e0
 clear hs'
 refine o_norm ?_
 refine t_norm ?_
 refine at_seq rfl ?_
 refine at_region hS rfl (by kernel_rfl) ?_
 refine s_op (a_as (by simp only [ev_const] <;> rfl)) rfl ?_
 refine s_end (fun s' hs' => ?_)
 replace e0 := kp 0 hs' e0
 have e3 := congrFun hs' 3
 simp only [Zu, Nat.reduceEqDiff, ↓reduceIte, newPtr, AMem.next_alloc] at e3
 clear hs'
 refine o_norm ?_
 refine t_norm ?_
 refine at_seq rfl ?_
 refine at_seq rfl ?_
 refine at_region hS rfl (by kernel_rfl) ?_
 refine s_op (a_mv e0) rfl ?_
 refine s_op (a_mv e0) rfl ?_
 refine s_op (a_len (by simp (disch := omega) only [Zu, Nat.reduceEqDiff, ↓reduceIte, alen_str, hlenS, aconv_bytes, alen_slice Try.underlying55, newPtr, AMem.next_alloc] <;> rfl)) rfl ?_
 refine s_op (a_bin (by simp (disch := omega) only [Zu, Nat.reduceEqDiff, ↓reduceIte, Zd, reduceCtorEq, abin_sub, wrap_i64, wrap_u32, wrap_u8, wrap_u64, wrap_i32, wrap_u16, ne_eq, not_false_eq_true, aconv_bytes, alen_slice Try.underlying55] <;> rfl)) rfl ?_
 refine s_op (a_max (by simp only [Zu, Nat.reduceEqDiff, ↓reduceIte, hlenS, aconv_bytes, alen_slice Try.underlying55, newPtr, AMem.next_alloc] <;> rfl) (by simp only [Zu, Nat.reduceEqDiff, ↓reduceIte, hlenS, aconv_bytes, alen_slice Try.underlying55, newPtr, AMem.next_alloc] <;> rfl) rfl) rfl ?_
 refine s_op (a_slice (by simp only [Zu, Nat.reduceEqDiff, ↓reduceIte, e0]; exact hsl7 _ _ (by simp only [Zu, Nat.reduceEqDiff, ↓reduceIte]))) rfl ?_
 refine s_op (a_conv (by simp (disch := omega) only [Zu, Nat.reduceEqDiff, ↓reduceIte, aconv_bytes, alen_slice Try.underlying55, newPtr, AMem.next_alloc] <;> rfl)) rfl ?_
 refine s_op (a_len (by simp (disch := omega) only [Zu, Nat.reduceEqDiff, ↓reduceIte, alen_str, hlenS, aconv_bytes, alen_slice Try.underlying55, newPtr, AMem.next_alloc] <;> rfl)) rfl ?_
 refine s_op (a_mv (by simp only [ev_const] <;> rfl)) rfl ?_
 refine s_end (fun s' hs' => ?_)
 replace e3 := kp 3 hs' e3
 have e12 := congrFun hs' 12
 have e13 := congrFun hs' 13
 have e14 := congrFun hs' 14
 simp only [Zu, Nat.reduceEqDiff, ↓reduceIte, newPtr, AMem.next_alloc] at e12 e13 e14
 clear hs'
 try clear e0
 refine o_norm ?_
 refine q_mem (fun M1 hEM1 => ?_)
 have hnM1 := congrArg AMem.next hEM1; simp only [Zn, Nat.add_assoc, Nat.reduceAdd] at hnM1
 have hnxM1 : M.next ≤ M1.next := by have := (Nat.le_refl M.next); omega
 have holdM1 : ∀ j, j < M.next → M1.get j = M.get j := fun j hj => by have := (Nat.le_refl M.next); rw [hEM1]; simp (disch := first | (refine Zx ?_; simp only [Zn]; done) | ((try simp only [Zn]); omega)) only [Zg]; done
 have gM1_0 := congrArg (fun m => AMem.get m M.next) hEM1; try simp (disch := first | (refine Zx ?_; simp only [Zn]; done) | ((try simp only [Zn]); omega)) only [Zg, Nat.add_assoc, Nat.reduceAdd] at gM1_0
 clear hEM1
 generalize l.drop (l.length - 7) = z at *
 refine t_norm ?_
 refine at_block rfl ?_
 refine at_loop rfl (fun km s ML ds => ∃ (i : Nat), s 3 = .int .i64 (numGo 0 (z.take i)) ∧ s 12 = .slice (some ⟨M.next, 0, none⟩) z.length 1 ∧ s 13 = .int .i64 z.length ∧ s 14 = .int .i64 i ∧ i ≤ z.length ∧ ML.get M.next = .cells (byteCells z) true ∧ km = z.length - i ∧ M.next ≤ ML.next ∧ M1.next ≤ ML.next ∧ (∀ j, j < M.next → ML.get j = M.get j) ∧ ds = []) (z.length - (0)) ⟨0, (by first | exact e3 | (rw [e3]; rfl) | (simpa using e3)), (by first | exact e12 | (rw [e12]; rfl) | (simpa using e12)), (by first | exact e13 | (rw [e13]; rfl) | (simpa using e13)), (by first | exact e14 | (rw [e14]; rfl) | (simpa using e14)), (by omega), gM1_0, rfl, hnxM1, by omega, holdM1, rfl⟩ ?_
 clear e3 e12 e13 e14
 rintro km s M2 ds ⟨i, e3, e12, e13, e14, hi, gb, hk, hnxM2, hngM2, holdM2, rfl⟩
 refine at_seq rfl ?_
 refine at_region hS rfl (by kernel_rfl) ?_
 refine s_op (a_bin (by simp (disch := omega) only [Zu, Nat.reduceEqDiff, ↓reduceIte, Zd, reduceCtorEq, abin_lss, ne_eq, not_false_eq_true, gb, e13, e14] <;> rfl)) rfl ?_
 refine s_end (fun s' hs' => ?_)
 replace e3 := kp 3 hs' e3
 replace e12 := kp 12 hs' e12
 replace e13 := kp 13 hs' e13
 replace e14 := kp 14 hs' e14
 have e15 := congrFun hs' 15
 simp only [Zu, Nat.reduceEqDiff, ↓reduceIte, newPtr, AMem.next_alloc] at e15
 clear hs'
 refine o_norm ?_
 refine t_norm ?_
 refine at_seq rfl ?_
 refine at_cond rfl rfl e15 (fun h3 => ?_) (fun h3 => ?_)
 ·
  try simp only [Zh] at h3
  refine at_skip rfl ?_
  refine t_norm ?_
  refine at_seq rfl ?_
  refine at_block rfl ?_
  refine at_seq rfl ?_
  have hil : i < z.length := by omega
  have hb := numGo_bound (z.take i) 0 (by decide)
  have hb3 : numGo 0 (z.take i) < 256 ^ 6 := by
    have hti : (z.take i).length ≤ 6 := by rw [List.length_take]; omega
    refine Int.lt_of_lt_of_le hb.2 ?_
    rw [Int.zero_add, Int.one_mul]
    have := Nat.pow_le_pow_right (n := 256) (by decide) hti
    exact_mod_cast this
  have hb4 : 0 ≤ numGo 0 (z.take i) := hb.1
  have hb5 : numGo 0 (z.take i) ≤ 281474976710656 := by omega
  have hcb : (0 : Int) ≤ z[i].toNat ∧ (z[i].toNat : Int) < 256 := by have := z[i].toNat_lt; omega
  have hcm : (numGo 0 (z.take i) * 256) % 256 = 0 := by omega
  have hget := byteCells_get hil
  have htk : numGo 0 (z.take (i + 1)) = numGo 0 (z.take i) * 256 + z[i].toNat := by rw [take_snoc z i hil, numGo_append]; rfl
  refine at_region hS rfl (by kernel_rfl) ?_
  refine s_op (a_ia (by simp (disch := omega) only [Zu, Nat.reduceEqDiff, ↓reduceIte, aia_u8, Int.toNat_natCast, Nat.zero_add, newPtr, AMem.next_alloc, gb, e12, e14] <;> rfl)) rfl ?_
  refine s_op (a_load (by simp only [Zu, Nat.reduceEqDiff, ↓reduceIte, aia_u8, Nat.zero_add, hget, newPtr, AMem.next_alloc, gb] <;> rfl) (by simp (disch := first | (refine Zx ?_; simp only [Zn]; done) | ((try simp only [Zn]); omega)) only [Zg, aia_u8, Nat.zero_add, hget, newPtr, gb] <;> rfl) (by simp only [ld5, Zl, aia_u8, Nat.zero_add, hget, newPtr, AMem.next_alloc, gb] <;> rfl)) rfl ?_
  refine s_as ?_
  refine s_end (fun s' hs' => ?_)
  replace e3 := kp 3 hs' e3
  have e5 := congrFun hs' 5
  replace e12 := kp 12 hs' e12
  replace e13 := kp 13 hs' e13
  replace e14 := kp 14 hs' e14
  simp only [Zu, Nat.reduceEqDiff, ↓reduceIte, newPtr, AMem.next_alloc] at e5
  clear hs'
  refine o_norm ?_
  refine t_norm ?_
  refine at_region hS rfl (by kernel_rfl) ?_
  refine s_op (a_mv e3) rfl ?_
  refine s_op (a_bin (by simp (disch := omega) only [Zu, Nat.reduceEqDiff, ↓reduceIte, Zd, reduceCtorEq, shl_8, wrap_i64, wrap_u32, wrap_u8, wrap_u64, wrap_i32, wrap_u16, ne_eq, not_false_eq_true, shl_num, gb] <;> rfl)) rfl ?_
  refine s_op (a_mv e5) rfl ?_
  refine s_op (a_convi (by simp only [Zu, Nat.reduceEqDiff, ↓reduceIte, shl_num, newPtr, AMem.next_alloc, gb] <;> rfl) rfl rfl (by simp (disch := omega) only [wrap_i64]; try rfl)) rfl ?_
  refine s_op (a_bin (by simp (disch := omega) only [Zu, Nat.reduceEqDiff, ↓reduceIte, Zd, reduceCtorEq, abin_or, or_256, ne_eq, not_false_eq_true, shl_num, gb] <;> rfl)) rfl ?_
  refine s_as ?_
  refine s_end (fun s' hs' => ?_)
  replace e3 := congrFun hs' 3
  replace e12 := kp 12 hs' e12
  replace e13 := kp 13 hs' e13
  replace e14 := kp 14 hs' e14
  simp only [Zu, Nat.reduceEqDiff, ↓reduceIte, newPtr, AMem.next_alloc] at e3
  clear hs'
  try clear e5
  refine o_norm ?_
  refine b_norm ?_
  refine t_norm ?_
  refine at_region hS rfl (by kernel_rfl) ?_
  refine s_op (a_bin (by simp (disch := ((try simp only [List.length_append, List.length_cons, List.length_nil]); omega)) only [Zu, Nat.reduceEqDiff, ↓reduceIte, Zd, reduceCtorEq, abin_add, abin_aadd, wrap_i64, wrap_u32, wrap_u8, wrap_u64, wrap_i32, wrap_u16, ne_eq, not_false_eq_true, gb, e14] <;> rfl)) rfl ?_
  refine s_mv ?_
  refine s_end (fun s' hs' => ?_)
  replace e3 := kp 3 hs' e3
  replace e12 := kp 12 hs' e12
  replace e13 := kp 13 hs' e13
  replace e14 := congrFun hs' 14
  simp only [Zu, Nat.reduceEqDiff, ↓reduceIte, newPtr, AMem.next_alloc] at e14
  clear hs'
  refine o_norm ?_
  refine t_norm ?_
  exact ⟨z.length - (i + 1), by omega, i + 1, (by rw [e3, htk]), (by first | exact e12 | (rw [e12]; rfl) | (rw [e12]; simp; done)), (by first | exact e13 | (rw [e13]; rfl) | (rw [e13]; simp; done)), (by first | exact e14 | (rw [e14]; rfl) | (rw [e14]; simp; done)), (by omega), gb, rfl, hnxM2, by omega, holdM2, rfl⟩
 ·
  try simp only [Zh] at h3
  have hiz : i = z.length := by omega
  rw [hiz, List.take_length] at e3
  refine at_exit rfl ?_
  refine t_exit ?_
  refine t_exit ?_
  refine b_here ?_
  refine t_norm ?_
  refine at_seq rfl ?_
  refine at_region hS rfl (by kernel_rfl) ?_
  refine s_op (a_mv e3) rfl ?_
  refine s_as ?_
  refine s_end (fun s' hs' => ?_)
  have e2 := congrFun hs' 2
  simp only [Zu, Nat.reduceEqDiff, ↓reduceIte, newPtr, AMem.next_alloc] at e2
  clear hs'
  try clear e3
  refine o_norm ?_
  refine t_norm ?_
  refine at_ret rfl ?_
  refine bq_ret rfl (ars_cons (ar_tmp e2) ars_nil) ?_
  exact ⟨_, _, hK, Canon.forget rfl holdM2⟩
theorem Row.at1 {M : AMem} {len : Nat} {v : Value} {cs : List Value} {t el : TypeId} {i : TypeInfo} (h : Row M 1 v len cs) (ht : Try.prog.underlying t = some (.slice el)) (hi : Try.prog.info? el = some i) (he : i.size = 1) {j : Nat} (hj : j < len) {te : TypeId} (hld : ∀ (cs : List Value) (off : Nat), aload Try.prog te cs off = cs[off]?) (hte : ∃ it, Try.prog.info? te = some it ∧ it.size = 1) (k : IntKind) :
    ∃ id off all own, aindexAddr Try.prog t v (.int k (j : Nat)) = some (.pointer (some ⟨id, off, none⟩)) ∧ id < M.next ∧ M.get id = .cells all own ∧ aload Try.prog te all off = cs[j]? := by
  obtain ⟨id, off, all, own, h1, h2, h3, h4⟩ := h.at (P := Try.prog) ht hi he (j := (j : Int)) (by omega) (by omega) k
  obtain ⟨it, hit, his⟩ := hte
  refine ⟨id, off, all, own, h1, h2, h3, ?_⟩
  have := h4 te it 0 hit (by omega) (by omega)
  rw [Nat.add_zero, Int.toNat_natCast, Nat.mul_one, Nat.add_zero] at this
  rw [this, hld]
def sp95 : ASpec := fun args M K => ∃ (lv : Value) (ps : List (List UInt8)), args = [lv] ∧ Row M 1 lv ps.length (ps.map asString) ∧ (ps.flatten.length ≤ 1000000000 ∧ ps.length ≤ 1000000000) ∧ K (.ret (.int .i64 (ocF ps.flatten))) M
noncomputable def S95 : FuncId → ASpec := tab [(103, sp103)]
theorem S95_103 : S95 103 = sp103 := rfl
theorem S95_ok : ∀ f, Sound Try.prog f (S95 f) := tab_sound _ (by simp [f103_ok])
def parB (m : Nat) (c : Int) : Int := if m % 2 = 0 then c * 256 else c
theorem shl_par {c : Int} {m : Nat} {k' : IntKind} (h0 : 0 ≤ c) (h1 : c < 256) : abin .shl (.int .i64 c) (.int k' (8 * (1 - (m : Int) % 2))) = some (.int .i64 (parB m c)) := by
  unfold parB
  rcases Nat.mod_two_eq_zero_or_one m with h | h
  · have e : 8 * (1 - (m : Int) % 2) = 8 := by omega
    have hw : IntKind.i64.wrap (c * 2 ^ 8) = c * 256 := by rw [show (2:Int)^8 = 256 from by decide]; exact wrap_i64 (by omega) (by omega)
    rw [e, abin_shl (by omega), if_pos h, show min (8 : Int).toNat IntKind.i64.bits = 8 from by decide, hw]
  · have e : 8 * (1 - (m : Int) % 2) = 0 := by omega
    have hw : IntKind.i64.wrap (c * 2 ^ 0) = c := by rw [show (2:Int)^0 = 1 from by decide, Int.mul_one]; exact wrap_i64 (by omega) (by omega)
    rw [e, abin_shl (by omega), if_neg (by omega), show min (0 : Int).toNat IntKind.i64.bits = 0 from by decide, hw]
theorem sumB_snoc (a : List UInt8) (c : UInt8) : sumB 0 (a ++ [c]) = sumB 0 a + parB a.length c.toNat := by
  rw [sumB_append]; simp only [sumB, Nat.zero_add, parB, Int.add_zero]; split <;> simp
theorem parB_bound {m : Nat} {c : Int} (h0 : 0 ≤ c) (h1 : c < 256) : 0 ≤ parB m c ∧ parB m c ≤ 65535 := by unfold parB; split <;> omega
theorem flatten_le {ps : List (List UInt8)} {j : Nat} (h : j < ps.length) : (ps.take j).flatten.length + ps[j].length ≤ ps.flatten.length := by
  have e : ps.flatten = (ps.take j).flatten ++ (ps[j] ++ (ps.drop (j + 1)).flatten) := by
    conv => lhs; rw [← List.take_append_drop j ps]
    rw [List.flatten_append, List.drop_eq_getElem_cons h, List.flatten_cons]
  rw [e, List.length_append, List.length_append]; omega
theorem flatten_snoc {ps : List (List UInt8)} {j : Nat} (h : j < ps.length) : (ps.take (j + 1)).flatten = (ps.take j).flatten ++ ps[j] := by
  rw [take_snoc ps j h, List.flatten_append, List.flatten_cons, List.flatten_nil, List.append_nil]
theorem f95_ok : Sound Try.prog 95 sp95 := by
 refine Sound.of_awp (c := bodyOf Try.f95) Try.func95 rfl rfl rfl ?_
 rintro args M K ⟨lv, ps, rfl, hrow, ⟨hf, hp⟩, hK⟩
 refine ⟨Nat.le_of_ble_eq_true rfl, ?_⟩
 have hS := S95_ok
 have e0 : entry [lv] 0 = lv := rfl
 refine at_seq rfl ?_
 refine at_region hS rfl (by kernel_rfl) ?_
 refine s_op (a_as (by simp only [ev_const] <;> rfl)) rfl ?_
 refine s_end (fun s' hs' => ?_)
 replace e0 := kp 0 hs' e0
 clear hs'
 refine o_norm ?_
 refine t_norm ?_
 refine at_seq rfl ?_
 refine at_region hS rfl (by kernel_rfl) ?_
 refine s_op (a_as (by simp only [ev_const] <;> rfl)) rfl ?_
 refine s_op (a_as (by simp only [ev_const] <;> rfl)) rfl ?_
 refine s_end (fun s' hs' => ?_)
 replace e0 := kp 0 hs' e0
 have e3 := congrFun hs' 3
 have e4 := congrFun hs' 4
 simp only [Zu, Nat.reduceEqDiff, ↓reduceIte, newPtr, AMem.next_alloc] at e3 e4
 clear hs'
 refine o_norm ?_
 refine t_norm ?_
 refine at_seq rfl ?_
 refine at_seq rfl ?_
 refine at_region hS rfl (by kernel_rfl) ?_
 refine s_op (a_mv e0) rfl ?_
 refine s_op (a_len (by simp (disch := omega) only [Zu, Nat.reduceEqDiff, ↓reduceIte, alen_str, Row.len hrow (P := Try.prog) Try.underlying45, newPtr, AMem.next_alloc] <;> rfl)) rfl ?_
 refine s_op (a_mv (by simp only [ev_const] <;> rfl)) rfl ?_
 refine s_end (fun s' hs' => ?_)
 replace e3 := kp 3 hs' e3
 replace e4 := kp 4 hs' e4
 have e8 := congrFun hs' 8
 have e9 := congrFun hs' 9
 have e10 := congrFun hs' 10
 simp only [Zu, Nat.reduceEqDiff, ↓reduceIte, newPtr, AMem.next_alloc] at e8 e9 e10
 clear hs'
 try clear e0
 refine o_norm ?_
 refine t_norm ?_
 refine at_block rfl ?_
 refine at_loop rfl (fun km s ML ds => ∃ (j : Nat), s 3 = .int .i64 (foldF (sumB 0 (ps.take j).flatten)) ∧ s 4 = .int .i64 (ps.take j).flatten.length ∧ s 8 = lv ∧ s 9 = .int .i64 ps.length ∧ s 10 = .int .i64 j ∧ j ≤ ps.length ∧ km = ps.length - j ∧ M.next ≤ ML.next ∧ M.next ≤ ML.next ∧ (∀ j, j < M.next → ML.get j = M.get j) ∧ ds = []) (ps.length - (0)) ⟨0, (by first | exact e3 | (rw [e3]; rfl) | (simpa using e3)), (by first | exact e4 | (rw [e4]; rfl) | (simpa using e4)), (by first | exact e8 | (rw [e8]; rfl) | (simpa using e8)), (by first | exact e9 | (rw [e9]; rfl) | (simpa using e9)), (by first | exact e10 | (rw [e10]; rfl) | (simpa using e10)), (by omega), rfl, (Nat.le_refl M.next), by omega, (fun _ _ => rfl), rfl⟩ ?_
 clear e3 e4 e8 e9 e10
 rintro km s M1 ds ⟨j, e3, e4, e8, e9, e10, hj, hk, hnxM1, hngM1, holdM1, rfl⟩
 refine at_seq rfl ?_
 refine at_region hS rfl (by kernel_rfl) ?_
 refine s_op (a_bin (by simp (disch := omega) only [Zu, Nat.reduceEqDiff, ↓reduceIte, Zd, reduceCtorEq, abin_lss, ne_eq, not_false_eq_true, e9, e10] <;> rfl)) rfl ?_
 refine s_end (fun s' hs' => ?_)
 replace e3 := kp 3 hs' e3
 replace e4 := kp 4 hs' e4
 replace e8 := kp 8 hs' e8
 replace e9 := kp 9 hs' e9
 replace e10 := kp 10 hs' e10
 have e11 := congrFun hs' 11
 simp only [Zu, Nat.reduceEqDiff, ↓reduceIte, newPtr, AMem.next_alloc] at e11
 clear hs'
 refine o_norm ?_
 refine t_norm ?_
 refine at_seq rfl ?_
 refine at_cond rfl rfl e11 (fun h3 => ?_) (fun h3 => ?_)
 ·
  try simp only [Zh] at h3
  refine at_skip rfl ?_
  refine t_norm ?_
  refine at_seq rfl ?_
  refine at_block rfl ?_
  refine at_seq rfl ?_
  have hjl : j < ps.length := by omega
  have hrow' := hrow.keep (M' := M1) hnxM1 holdM1
  obtain ⟨id, off, all, own, hia, hid, hget, hld⟩ := hrow'.at1 Try.underlying45 (i := _) (by rfl) rfl hjl ld9 ⟨_, rfl, rfl⟩ .i64
  rw [show (ps.map asString)[j]? = some (asString ps[j]) from by simp [hjl]] at hld
  have hfl := flatten_le hjl
  refine at_region hS rfl (by kernel_rfl) ?_
  refine s_op (a_ia (by simp (disch := omega) only [Zu, Nat.reduceEqDiff, ↓reduceIte, hia, newPtr, AMem.next_alloc, e8, e10] <;> rfl)) rfl ?_
  refine s_op (a_load (by simp only [Zu, Nat.reduceEqDiff, ↓reduceIte, hget, hld, newPtr, AMem.next_alloc] <;> rfl) (by simp (disch := first | (refine Zx ?_; simp only [Zn]; done) | ((try simp only [Zn]); omega)) only [Zg, hget, hld, newPtr] <;> rfl) (by simp only [ld9, Zl, hget, hld, newPtr, AMem.next_alloc] <;> rfl)) rfl ?_
  refine s_as ?_
  refine s_end (fun s' hs' => ?_)
  replace e3 := kp 3 hs' e3
  replace e4 := kp 4 hs' e4
  have e6 := congrFun hs' 6
  replace e8 := kp 8 hs' e8
  replace e9 := kp 9 hs' e9
  replace e10 := kp 10 hs' e10
  simp only [Zu, Nat.reduceEqDiff, ↓reduceIte, newPtr, AMem.next_alloc] at e6
  clear hs'
  refine o_norm ?_
  refine t_norm ?_
  refine at_seq rfl ?_
  clear hia hget hld hid
  generalize hA : (ps.take j).flatten = A at *
  generalize hP : ps[j] = p at *
  refine at_region hS rfl (by kernel_rfl) ?_
  refine s_op (a_mv e6) rfl ?_
  refine s_op (a_len (by simp (disch := omega) only [Zu, Nat.reduceEqDiff, ↓reduceIte, alen_str, hlenS, newPtr, AMem.next_alloc] <;> rfl)) rfl ?_
  refine s_op (a_mv (by simp only [ev_const] <;> rfl)) rfl ?_
  refine s_end (fun s' hs' => ?_)
  replace e3 := kp 3 hs' e3
  replace e4 := kp 4 hs' e4
  replace e6 := kp 6 hs' e6
  replace e8 := kp 8 hs' e8
  replace e9 := kp 9 hs' e9
  replace e10 := kp 10 hs' e10
  have e15 := congrFun hs' 15
  have e16 := congrFun hs' 16
  simp only [Zu, Nat.reduceEqDiff, ↓reduceIte, newPtr, AMem.next_alloc] at e15 e16
  clear hs'
  refine o_norm ?_
  refine t_norm ?_
  refine at_block rfl ?_
  refine at_loop rfl (fun km s ML ds => ∃ (i : Nat), s 3 = .int .i64 (foldF (sumB 0 (A ++ p.take i))) ∧ s 4 = .int .i64 (A.length + i : Nat) ∧ s 6 = asString p ∧ s 8 = lv ∧ s 9 = .int .i64 ps.length ∧ s 10 = .int .i64 j ∧ s 15 = .int .i64 p.length ∧ s 16 = .int .i64 i ∧ i ≤ p.length ∧ km = p.length - i ∧ M.next ≤ ML.next ∧ M1.next ≤ ML.next ∧ (∀ j, j < M.next → ML.get j = M.get j) ∧ ds = []) (p.length - (0)) ⟨0, (by first | exact e3 | (rw [e3]; rfl) | (simpa using e3)), (by first | exact e4 | (rw [e4]; rfl) | (simpa using e4)), (by first | exact e6 | (rw [e6]; rfl) | (simpa using e6)), (by first | exact e8 | (rw [e8]; rfl) | (simpa using e8)), (by first | exact e9 | (rw [e9]; rfl) | (simpa using e9)), (by first | exact e10 | (rw [e10]; rfl) | (simpa using e10)), (by first | exact e15 | (rw [e15]; rfl) | (simpa using e15)), (by first | exact e16 | (rw [e16]; rfl) | (simpa using e16)), (by omega), rfl, hnxM1, by omega, holdM1, rfl⟩ ?_
  clear e3 e4 e6 e8 e9 e10 e15 e16
  rintro km s M2 ds ⟨i, e3, e4, e6, e8, e9, e10, e15, e16, hi, hk, hnxM2, hngM2, holdM2, rfl⟩
  refine at_seq rfl ?_
  skip
  refine at_region hS rfl (by kernel_rfl) ?_
  refine s_op (a_bin (by simp (disch := omega) only [Zu, Nat.reduceEqDiff, ↓reduceIte, Zd, reduceCtorEq, abin_lss, ne_eq, not_false_eq_true, e15, e16] <;> rfl)) rfl ?_
  refine s_end (fun s' hs' => ?_)
  replace e3 := kp 3 hs' e3
  replace e4 := kp 4 hs' e4
  replace e6 := kp 6 hs' e6
  replace e8 := kp 8 hs' e8
  replace e9 := kp 9 hs' e9
  replace e10 := kp 10 hs' e10
  replace e15 := kp 15 hs' e15
  replace e16 := kp 16 hs' e16
  have e17 := congrFun hs' 17
  simp only [Zu, Nat.reduceEqDiff, ↓reduceIte, newPtr, AMem.next_alloc] at e17
  clear hs'
  refine o_norm ?_
  refine t_norm ?_
  refine at_seq rfl ?_
  refine at_cond rfl rfl e17 (fun h6 => ?_) (fun h6 => ?_)
  ·
   try simp only [Zh] at h6
   refine at_skip rfl ?_
   refine t_norm ?_
   refine at_seq rfl ?_
   refine at_block rfl ?_
   refine at_seq rfl ?_
   have hil : i < p.length := by omega
   have hx : aindex Try.prog 9 (asString p) (.int .i64 i) = some (.int .u8 p[i].toNat) := aindex_as Try.underlying9 (by omega) (by simp [hil])
   have hc : (0:Int) ≤ p[i].toNat ∧ (p[i].toNat : Int) < 256 := by have := p[i].toNat_lt; omega
   have hpb := parB_bound (m := A.length + i) hc.1 hc.2
   have hfb := foldF_bound (sumB_nonneg (A ++ p.take i) 0)
   have htk : foldF (sumB 0 (A ++ p.take (i + 1))) = foldF (foldF (sumB 0 (A ++ p.take i)) + parB (A.length + i) p[i].toNat) := by
     rw [take_snoc p i hil, ← List.append_assoc, sumB_snoc, foldF_add (sumB_nonneg _ 0) hpb.1]
     congr 3; simp; omega
   refine at_region hS rfl (by kernel_rfl) ?_
   refine s_op (a_mv e16) rfl ?_
   refine s_as ?_
   refine s_end (fun s' hs' => ?_)
   replace e3 := kp 3 hs' e3
   replace e4 := kp 4 hs' e4
   replace e6 := kp 6 hs' e6
   have e7 := congrFun hs' 7
   replace e8 := kp 8 hs' e8
   replace e9 := kp 9 hs' e9
   replace e10 := kp 10 hs' e10
   replace e15 := kp 15 hs' e15
   replace e16 := kp 16 hs' e16
   simp only [Zu, Nat.reduceEqDiff, ↓reduceIte, newPtr, AMem.next_alloc] at e7
   clear hs'
   refine o_norm ?_
   refine t_norm ?_
   refine at_seq rfl ?_
   refine at_region hS rfl (by kernel_rfl) ?_
   refine s_op (a_mv e3) rfl ?_
   refine s_op (a_mv e6) rfl ?_
   refine s_op (a_mv e7) rfl ?_
   refine s_op (a_index (by simp (disch := omega) only [Zu, Nat.reduceEqDiff, ↓reduceIte, hx, shl_par] <;> rfl)) rfl ?_
   refine s_op (a_convi (by simp only [Zu, Nat.reduceEqDiff, ↓reduceIte, hx, shl_par, newPtr, AMem.next_alloc] <;> rfl) rfl rfl (by simp (disch := omega) only [wrap_i64]; try rfl)) rfl ?_
   refine s_op (a_mv e4) rfl ?_
   refine s_op (a_bin (by simp (disch := omega) only [Zu, Nat.reduceEqDiff, ↓reduceIte, Zd, reduceCtorEq, abin_rem, Int.tmod_eq_emod_of_nonneg, ne_eq, not_false_eq_true, hx, shl_par] <;> rfl)) rfl ?_
   refine s_op (a_bin (by simp (disch := omega) only [Zu, Nat.reduceEqDiff, ↓reduceIte, Zd, reduceCtorEq, abin_sub, wrap_i64, wrap_u32, wrap_u8, wrap_u64, wrap_i32, wrap_u16, ne_eq, not_false_eq_true, hx, shl_par] <;> rfl)) rfl ?_
   refine s_op (a_bin (by simp (disch := omega) only [Zu, Nat.reduceEqDiff, ↓reduceIte, Zd, reduceCtorEq, abin_mul, wrap_i64, wrap_u32, wrap_u8, wrap_u64, wrap_i32, wrap_u16, ne_eq, not_false_eq_true, hx, shl_par] <;> rfl)) rfl ?_
   refine s_op (a_bin (by simp (disch := omega) only [Zu, Nat.reduceEqDiff, ↓reduceIte, Zd, reduceCtorEq, shl_8, wrap_i64, wrap_u32, wrap_u8, wrap_u64, wrap_i32, wrap_u16, ne_eq, not_false_eq_true, hx, shl_par] <;> rfl)) rfl ?_
   refine s_op (a_bin (by simp (disch := ((try simp only [List.length_append, List.length_cons, List.length_nil]); omega)) only [Zu, Nat.reduceEqDiff, ↓reduceIte, Zd, reduceCtorEq, abin_add, abin_aadd, wrap_i64, wrap_u32, wrap_u8, wrap_u64, wrap_i32, wrap_u16, ne_eq, not_false_eq_true, hx, shl_par] <;> rfl)) rfl ?_
   refine s_call (by simp only [Zu, Nat.reduceEqDiff, ↓reduceIte, hx, shl_par, newPtr, AMem.next_alloc] <;> rfl) (by simp only [Zu, Nat.reduceEqDiff, ↓reduceIte, Zm, hx, shl_par, newPtr, AMem.next_alloc] <;> rfl) ?_
   rw [S95_103]; refine ⟨_, rfl, ⟨by omega, by omega⟩, ?_⟩
   show EA _ _ _ _ _ _
   refine s_as ?_
   refine s_end (fun s' hs' => ?_)
   replace e3 := congrFun hs' 3
   replace e4 := kp 4 hs' e4
   replace e6 := kp 6 hs' e6
   replace e8 := kp 8 hs' e8
   replace e9 := kp 9 hs' e9
   replace e10 := kp 10 hs' e10
   replace e15 := kp 15 hs' e15
   replace e16 := kp 16 hs' e16
   simp only [Zu, Nat.reduceEqDiff, ↓reduceIte, newPtr, AMem.next_alloc] at e3
   clear hs'
   try clear e7
   refine o_norm ?_
   refine t_norm ?_
   refine at_region hS rfl (by kernel_rfl) ?_
   refine s_op (a_mv e4) rfl ?_
   refine s_op (a_bin (by simp (disch := ((try simp only [List.length_append, List.length_cons, List.length_nil]); omega)) only [Zu, Nat.reduceEqDiff, ↓reduceIte, Zd, reduceCtorEq, abin_add, abin_aadd, wrap_i64, wrap_u32, wrap_u8, wrap_u64, wrap_i32, wrap_u16, ne_eq, not_false_eq_true] <;> rfl)) rfl ?_
   refine s_as ?_
   refine s_end (fun s' hs' => ?_)
   replace e3 := kp 3 hs' e3
   replace e4 := congrFun hs' 4
   replace e6 := kp 6 hs' e6
   replace e8 := kp 8 hs' e8
   replace e9 := kp 9 hs' e9
   replace e10 := kp 10 hs' e10
   replace e15 := kp 15 hs' e15
   replace e16 := kp 16 hs' e16
   simp only [Zu, Nat.reduceEqDiff, ↓reduceIte, newPtr, AMem.next_alloc] at e4
   clear hs'
   refine o_norm ?_
   refine b_norm ?_
   refine t_norm ?_
   refine at_region hS rfl (by kernel_rfl) ?_
   refine s_op (a_bin (by simp (disch := ((try simp only [List.length_append, List.length_cons, List.length_nil]); omega)) only [Zu, Nat.reduceEqDiff, ↓reduceIte, Zd, reduceCtorEq, abin_add, abin_aadd, wrap_i64, wrap_u32, wrap_u8, wrap_u64, wrap_i32, wrap_u16, ne_eq, not_false_eq_true, e16] <;> rfl)) rfl ?_
   refine s_mv ?_
   refine s_end (fun s' hs' => ?_)
   replace e3 := kp 3 hs' e3
   replace e4 := kp 4 hs' e4
   replace e6 := kp 6 hs' e6
   replace e8 := kp 8 hs' e8
   replace e9 := kp 9 hs' e9
   replace e10 := kp 10 hs' e10
   replace e15 := kp 15 hs' e15
   replace e16 := congrFun hs' 16
   simp only [Zu, Nat.reduceEqDiff, ↓reduceIte, newPtr, AMem.next_alloc] at e16
   clear hs'
   refine o_norm ?_
   refine t_norm ?_
   exact ⟨p.length - (i + 1), by omega, i + 1, (by rw [e3, htk]), (by first | exact e4 | (rw [e4]; rfl) | (rw [e4]; simp; done)), (by first | exact e6 | (rw [e6]; rfl) | (rw [e6]; simp; done)), (by first | exact e8 | (rw [e8]; rfl) | (rw [e8]; simp; done)), (by first | exact e9 | (rw [e9]; rfl) | (rw [e9]; simp; done)), (by first | exact e10 | (rw [e10]; rfl) | (rw [e10]; simp; done)), (by first | exact e15 | (rw [e15]; rfl) | (rw [e15]; simp; done)), (by first | exact e16 | (rw [e16]; rfl) | (rw [e16]; simp; done)), (by omega), rfl, hnxM2, by omega, holdM2, rfl⟩
  ·
   try simp only [Zh] at h6
   have hiz : i = p.length := by omega
   rw [hiz, List.take_length] at e3
   rw [hiz] at e4
   rw [show ((A.length + p.length : Nat) : Int) = ((A ++ p).length : Nat) from by simp] at e4
   refine at_exit rfl ?_
   refine t_exit ?_
   refine t_exit ?_
   refine b_here ?_
   refine b_norm ?_
   refine t_norm ?_
   refine at_region hS rfl (by kernel_rfl) ?_
   refine s_op (a_bin (by simp (disch := ((try simp only [List.length_append, List.length_cons, List.length_nil]); omega)) only [Zu, Nat.reduceEqDiff, ↓reduceIte, Zd, reduceCtorEq, abin_add, abin_aadd, wrap_i64, wrap_u32, wrap_u8, wrap_u64, wrap_i32, wrap_u16, ne_eq, not_false_eq_true, e10] <;> rfl)) rfl ?_
   refine s_mv ?_
   refine s_end (fun s' hs' => ?_)
   replace e3 := kp 3 hs' e3
   replace e4 := kp 4 hs' e4
   replace e8 := kp 8 hs' e8
   replace e9 := kp 9 hs' e9
   replace e10 := congrFun hs' 10
   simp only [Zu, Nat.reduceEqDiff, ↓reduceIte, newPtr, AMem.next_alloc] at e10
   clear hs'
   refine o_norm ?_
   refine t_norm ?_
   exact ⟨ps.length - (j + 1), by omega, j + 1, (by rw [flatten_snoc hjl, hA, hP]; exact e3), (by rw [flatten_snoc hjl, hA, hP]; exact e4), (by first | exact e8 | (rw [e8]; rfl) | (rw [e8]; simp; done)), (by first | exact e9 | (rw [e9]; rfl) | (rw [e9]; simp; done)), (by first | exact e10 | (rw [e10]; rfl) | (rw [e10]; simp; done)), (by omega), rfl, hnxM2, by omega, holdM2, rfl⟩
 ·
  try simp only [Zh] at h3
  refine at_exit rfl ?_
  refine t_exit ?_
  refine t_exit ?_
  refine b_here ?_
  refine t_norm ?_
  refine at_seq rfl ?_
  have hjz : j = ps.length := by omega
  rw [hjz, List.take_length] at e3
  have hfb := foldF_bound (sumB_nonneg ps.flatten 0)
  refine at_region hS rfl (by kernel_rfl) ?_
  refine s_op (a_mv e3) rfl ?_
  refine s_op (a_un (by simp (disch := omega) only [Zu, Nat.reduceEqDiff, ↓reduceIte, Zd, reduceCtorEq, aun, wrap_i64, IntKind.signed, not_and] <;> rfl)) rfl ?_
  refine s_op (a_bin (by simp (disch := omega) only [Zu, Nat.reduceEqDiff, ↓reduceIte, Zd, reduceCtorEq, abin_and, and_255, and_15, and_65535, and_8191, ne_eq, not_false_eq_true, not_and] <;> rfl)) rfl ?_
  refine s_as ?_
  refine s_end (fun s' hs' => ?_)
  have e2 := congrFun hs' 2
  simp only [Zu, Nat.reduceEqDiff, ↓reduceIte, newPtr, AMem.next_alloc] at e2
  clear hs'
  try clear e3
  refine o_norm ?_
  refine t_norm ?_
  refine at_ret rfl ?_
  refine bq_ret rfl (ars_cons (ar_tmp e2) ars_nil) ?_
  exact ⟨_, _, hK, Canon.forget rfl holdM1⟩
end Go.Proofs.Ytdkdkpiemigfkaa
set_option linter.unusedVariables false
set_option linter.unusedSimpArgs false
set_option maxRecDepth 8000
namespace Go.Proofs.Ytdkdkpiemigfkaa
open Go Go.Proofs
def aint : Value → Option Int
  | .int _ j => some j
  | _ => none
theorem aint_int (k : IntKind) (j : Int) : aint (.int k j) = some j := rfl
theorem ab_none (s : Slots) (d : Int) : abound s d none = some d := rfl
theorem ab_some (s : Slots) (d : Int) (x : Operand) : abound s d (some x) = aint (ev s x) := by
  simp only [abound]
  cases ev s x <;> rfl
def strpart (l : List UInt8) (a b : Int) : Option Value := if 0 ≤ a ∧ a ≤ b ∧ b ≤ l.length then some (asString (part l a.toNat b.toNat)) else none
def asl2 (l : List UInt8) : Option Int → Option Int → Option Value
  | some a, some b => strpart l a b
  | _, _ => none
theorem asl2_some (l : List UInt8) (a b : Int) : asl2 l (some a) (some b) = strpart l a b := rfl
theorem strpart_ok {l : List UInt8} {a b : Int} (h0 : 0 ≤ a) (h1 : a ≤ b) (h2 : b ≤ l.length) : strpart l a b = some (asString (part l a.toNat b.toNat)) := if_pos ⟨h0, h1, h2⟩
theorem asl_str (s : Slots) (M : AMem) (l : List UInt8) (lo hi : Option Operand) : aslice Try.prog s M 9 (asString l) lo hi = asl2 l (abound s 0 lo) (abound s (l.length : Nat) hi) := by
  have e : (⟨l.toArray⟩ : ByteArray).size = l.length := as_size
  simp only [aslice, Try.underlying9, asString, e]
  cases ha : abound s 0 lo with
  | none => rfl
  | some a =>
    cases hb : abound s (l.length : Nat) hi with
    | none => rfl
    | some b =>
      simp only [asl2, strpart]
      by_cases h : 0 ≤ a ∧ a ≤ b ∧ b ≤ l.length
      · rw [if_pos h, if_pos h]
        unfold part
        rw [show (b - a).toNat = b.toNat - a.toNat from by omega]
        rfl
      · rw [if_neg h, if_neg h]
theorem aidx {l : List UInt8} {a : Int} {k : IntKind} (h0 : 0 ≤ a) (h1 : a < l.length) : aindex Try.prog 9 (asString l) (.int k a) = some (.int .u8 (byteAt l a.toNat)) := by
  have := byteAt_index (l := l) (i := a.toNat) (by omega) k
  rw [show ((a.toNat : Nat) : Int) = a from by omega] at this
  exact this
theorem Zs : (∀ (s : Slots) (M : AMem) (l : List UInt8) (lo hi : Option Operand), aslice Try.prog s M 9 (asString l) lo hi = asl2 l (abound s 0 lo) (abound s (l.length : Nat) hi)) ∧ (∀ (l : List UInt8) (a b : Int), asl2 l (some a) (some b) = strpart l a b) ∧
    (∀ (l : List UInt8) (a b : Int), 0 ≤ a → a ≤ b → b ≤ l.length → strpart l a b = some (asString (part l a.toNat b.toNat))) ∧ (∀ (s : Slots) (d : Int), abound s d none = some d) ∧ (∀ (s : Slots) (d : Int) (x : Operand), abound s d (some x) = aint (ev s x)) ∧
    (∀ (k : IntKind) (j : Int), aint (.int k j) = some j) ∧ (∀ n : Nat, ((n : Int)).toNat = n) ∧ (∀ (l : List UInt8) (a : Int) (k : IntKind), 0 ≤ a → a < l.length → aindex Try.prog 9 (asString l) (.int k a) = some (.int .u8 (byteAt l a.toNat))) :=
  ⟨asl_str, asl2_some, fun _ _ _ h0 h1 h2 => strpart_ok h0 h1 h2, ab_none, ab_some, aint_int, Int.toNat_natCast, fun _ _ _ h0 h1 => aidx h0 h1⟩
theorem aslice_arr59 {s : Slots} {M : AMem} {id off : Nat} {cs : List Value} {own : Bool} (hg : M.get id = .cells cs own) (hl : off + 6 ≤ cs.length) : aslice Try.prog s M 59 (.pointer (some ⟨id, off, none⟩)) none none = some (.slice (some ⟨id, off, none⟩) 6 1) := by
  have hi : ∃ i, Try.prog.info? 5 = some i ∧ i.size = 1 := ⟨_, rfl, rfl⟩
  obtain ⟨i, hi1, hi2⟩ := hi
  simp only [aslice, Try.underlying59, hi1, hg, abound, hi2]
  rw [if_pos ⟨by omega, by decide, by decide, by decide⟩]
  rfl
theorem acopy_str {M : AMem} {id off : Nat} {cs : List Value} {l : List UInt8} (hg : M.get id = .cells cs true) (hl : off + 6 ≤ cs.length) (h6 : 6 ≤ l.length) : acopyOp Try.prog M 55 (.slice (some ⟨id, off, none⟩) 6 1) (asString l) = some (.int .i64 6, M.set id (.cells (aput cs off (byteCells (l.take 6))) true)) := by
  have hi : ∃ i, Try.prog.info? 5 = some i ∧ i.size = 1 := ⟨_, rfl, rfl⟩
  obtain ⟨i, hi1, hi2⟩ := hi
  have hs : asrc M 1 (asString l) = some (l.length, byteCells l) := by
    have e : (⟨l.toArray⟩ : ByteArray).size = l.length := as_size
    show (if 1 = 1 then some ((⟨l.toArray⟩ : ByteArray).size, bcells ⟨l.toArray⟩) else none) = _
    rw [if_pos rfl, e]; rfl
  have hm : min l.length 6 = 6 := by omega
  simp only [acopyOp, Try.underlying55, hi1, hg, hi2, hs, hm, byteCells_one]
  rw [if_pos ⟨trivial, by omega, trivial⟩]
  simp [byteCells, List.map_take]
theorem aput_eth1 {d d' s : List UInt8} {t : Int} (hd : d.length = 6) (hd' : d'.length = 6) : aput (ethCells d s t) 0 (byteCells d') = ethCells d' s t := by
  have := aput_mid (byteCells d') [] (byteCells d) (byteCells s ++ [.int .i64 t]) (by simp [byteCells_length, hd, hd'])
  simpa [ethCells] using this
theorem aput_eth2 {d s s' : List UInt8} {t : Int} (hd : d.length = 6) (hs : s.length = 6) (hs' : s'.length = 6) : aput (ethCells d s t) 6 (byteCells s') = ethCells d s' t := by
  have := aput_mid (byteCells s') (byteCells d) (byteCells s) [.int .i64 t] (by simp [byteCells_length, hs, hs'])
  rw [byteCells_length, hd] at this
  simpa [ethCells] using this
theorem st3_eth {d s : List UInt8} {t x : Int} (hd : d.length = 6) (hs : s.length = 6) : astore Try.prog 3 (ethCells d s t) 12 (.int .i64 x) = some (ethCells d s x) := by
  rw [st3 (by rw [ethCells_length hd hs]; omega)]
  have hl : (byteCells d ++ byteCells s).length = 12 := by rw [List.length_append, byteCells_length, byteCells_length]; omega
  unfold ethCells
  rw [← hl, List.set_append_right _ _ (Nat.le_refl _), Nat.sub_self]; rfl
def sp56 : ASpec := fun args M K => ∃ l : List UInt8, args = [asString l] ∧ l.length ≤ 1000000000 ∧ K (.ret (retEth (ethGetF l))) M
noncomputable def S56 : FuncId → ASpec := tab [(70, sp70)]
theorem S56_70 : S56 70 = sp70 := rfl
theorem S56_ok : ∀ f, Sound Try.prog f (S56 f) := tab_sound _ (by simp [f70_ok])
theorem f56_ok : Sound Try.prog 56 sp56 := by
 refine Sound.of_awp (c := bodyOf Try.f56) Try.func56 rfl rfl rfl ?_
 rintro args M K ⟨l, rfl, hll, hK⟩
 refine ⟨Nat.le_of_ble_eq_true rfl, ?_⟩
 have hS := S56_ok
 have e0 : entry [asString l] 0 = asString l := rfl
 have hz : azero Try.prog 61 = some eth0 := z61
 have hb : abuild Try.prog 61 [] = some eth0 := b61
 have hst0 : astore Try.prog 61 eth0 0 (.agg eth0.toArray) = some eth0 := st61 rfl rfl (ethCells_one _ _ _)
 refine at_seq rfl ?_
 refine at_region hS rfl (by kernel_rfl) ?_
 refine s_op (a_alloc hz) rfl ?_
 refine s_op (a_as (by simp only [ev_const] <;> rfl)) rfl ?_
 refine s_op (a_as (by simp only [ev_const] <;> rfl)) rfl ?_
 refine s_end (fun s' hs' => ?_)
 replace e0 := kp 0 hs' e0
 have e2 := congrFun hs' 2
 simp only [Zu, Nat.reduceEqDiff, ↓reduceIte, newPtr, AMem.next_alloc] at e2
 clear hs'
 refine o_norm ?_
 refine q_mem (fun M1 hEM1 => ?_)
 have hnM1 := congrArg AMem.next hEM1; simp only [Zn, Nat.add_assoc, Nat.reduceAdd] at hnM1
 have hnxM1 : M.next ≤ M1.next := by have := (Nat.le_refl M.next); omega
 have holdM1 : ∀ j, j < M.next → M1.get j = M.get j := fun j hj => by have := (Nat.le_refl M.next); rw [hEM1]; simp (disch := first | (refine Zx ?_; simp only [Zn]; done) | ((try simp only [Zn]); omega)) only [Zg]; done
 have gM1_0 := congrArg (fun m => AMem.get m M.next) hEM1; try simp (disch := first | (refine Zx ?_; simp only [Zn]; done) | ((try simp only [Zn]); omega)) only [Zg, Nat.add_assoc, Nat.reduceAdd] at gM1_0
 clear hEM1
 refine t_norm ?_
 refine at_seq rfl ?_
 refine at_block rfl ?_
 refine at_seq rfl ?_
 refine at_region hS rfl (by kernel_rfl) ?_
 refine s_op (a_mv e0) rfl ?_
 refine s_op (a_len (by simp (disch := omega) only [Zu, Nat.reduceEqDiff, ↓reduceIte, alen_str, hlenS, Zs, Int.reduceToNat, newPtr, AMem.next_alloc, gM1_0] <;> rfl)) rfl ?_
 refine s_op (a_bin (by simp (disch := omega) only [Zu, Nat.reduceEqDiff, ↓reduceIte, Zd, reduceCtorEq, abin_lss, ne_eq, not_false_eq_true, Zs, Int.reduceToNat] <;> rfl)) rfl ?_
 refine s_as ?_
 refine s_end (fun s' hs' => ?_)
 replace e0 := kp 0 hs' e0
 replace e2 := kp 2 hs' e2
 have e6 := congrFun hs' 6
 simp only [Zu, Nat.reduceEqDiff, ↓reduceIte, newPtr, AMem.next_alloc] at e6
 clear hs'
 refine o_norm ?_
 refine t_norm ?_
 refine at_cond rfl rfl e6 (fun h1 => ?_) (fun h1 => ?_)
 ·
  try simp only [Zh] at h1
  refine at_seq rfl ?_
  refine at_region hS rfl (by kernel_rfl) ?_
  refine s_op (a_build (by simp only [Zm, Array.toList, Zs, Int.reduceToNat, hb, hst0, newPtr, AMem.next_alloc] <;> rfl)) rfl ?_
  refine s_op (a_store e2 (by simp (disch := first | (refine Zx ?_; simp only [Zn]; done) | ((try simp only [Zn]); omega)) only [Zg, hb, hst0, newPtr, gM1_0, e2] <;> rfl) (by simp only [Zu, Nat.reduceEqDiff, ↓reduceIte, hb, hst0, newPtr, AMem.next_alloc, gM1_0, e2] <;> rfl) (by simp only [hb, hst0, newPtr, AMem.next_alloc, gM1_0, e2] <;> rfl)) rfl ?_
  refine s_op (a_as (by simp only [ev_const] <;> rfl)) rfl ?_
  refine s_op (a_as (by simp only [ev_const] <;> rfl)) rfl ?_
  refine s_end (fun s' hs' => ?_)
  replace e2 := kp 2 hs' e2
  have e3 := congrFun hs' 3
  have e4 := congrFun hs' 4
  simp only [Zu, Nat.reduceEqDiff, ↓reduceIte, newPtr, AMem.next_alloc] at e3 e4
  clear hs'
  refine o_norm ?_
  refine q_mem (fun M2 hEM2 => ?_)
  have hnM2 := congrArg AMem.next hEM2; simp only [Zn, Nat.add_assoc, Nat.reduceAdd] at hnM2
  have hnxM2 : M.next ≤ M2.next := by have := hnxM1; omega
  have holdM2 : ∀ j, j < M.next → M2.get j = M.get j := fun j hj => by have := hnxM1; rw [hEM2]; simp (disch := first | (refine Zx ?_; simp only [Zn]; done) | ((try simp only [Zn]); omega)) only [Zg]; exact holdM1 j hj
  have gM2_0 := congrArg (fun m => AMem.get m M.next) hEM2; try simp (disch := first | (refine Zx ?_; simp only [Zn]; done) | ((try simp only [Zn]); omega)) only [Zg, Nat.add_assoc, Nat.reduceAdd, gM1_0] at gM2_0
  clear hEM2
  refine t_norm ?_
  refine at_ret rfl ?_
  refine b_ret ?_
  refine t_ret ?_
  have hF : ethGetF l = (eth0, [], 2) := by unfold ethGetF; rw [if_pos (by omega)]
  rw [hF] at hK
  refine bq_ret rfl (ars_cons (ar_cell e2 gM2_0 (ld61 rfl)) (ars_cons (ar_tmp e3) (ars_cons (ar_tmp e4) ars_nil))) ?_
  exact ⟨_, _, hK, Canon.forget (retEth_flat [] 2 (ethCells_flat 1 _ _ _)) holdM2⟩
 ·
  try simp only [Zh] at h1
  refine at_seq rfl ?_
  refine at_region hS rfl (by kernel_rfl) ?_
  refine s_op (a_mv e0) rfl ?_
  refine s_op (a_len (by simp (disch := omega) only [Zu, Nat.reduceEqDiff, ↓reduceIte, alen_str, hlenS, Zs, Int.reduceToNat, newPtr, AMem.next_alloc, gM1_0] <;> rfl)) rfl ?_
  refine s_op (a_bin (by simp (disch := omega) only [Zu, Nat.reduceEqDiff, ↓reduceIte, Zd, reduceCtorEq, abin_gtr, ne_eq, not_false_eq_true, Zs, Int.reduceToNat] <;> rfl)) rfl ?_
  refine s_as ?_
  refine s_end (fun s' hs' => ?_)
  replace e0 := kp 0 hs' e0
  replace e2 := kp 2 hs' e2
  have e11 := congrFun hs' 11
  simp only [Zu, Nat.reduceEqDiff, ↓reduceIte, newPtr, AMem.next_alloc] at e11
  clear hs'
  refine o_norm ?_
  refine t_norm ?_
  refine at_cond rfl rfl e11 (fun h3 => ?_) (fun h3 => ?_)
  ·
   try simp only [Zh] at h3
   refine at_seq rfl ?_
   refine at_region hS rfl (by kernel_rfl) ?_
   refine s_op (a_build (by simp only [Zm, Array.toList, Zs, Int.reduceToNat, hb, hst0, newPtr, AMem.next_alloc] <;> rfl)) rfl ?_
   refine s_op (a_store e2 (by simp (disch := first | (refine Zx ?_; simp only [Zn]; done) | ((try simp only [Zn]); omega)) only [Zg, hb, hst0, newPtr, gM1_0, e2] <;> rfl) (by simp only [Zu, Nat.reduceEqDiff, ↓reduceIte, hb, hst0, newPtr, AMem.next_alloc, gM1_0, e2] <;> rfl) (by simp only [hb, hst0, newPtr, AMem.next_alloc, gM1_0, e2] <;> rfl)) rfl ?_
   refine s_op (a_as (by simp only [ev_const] <;> rfl)) rfl ?_
   refine s_op (a_as (by simp only [ev_const] <;> rfl)) rfl ?_
   refine s_end (fun s' hs' => ?_)
   replace e2 := kp 2 hs' e2
   have e3 := congrFun hs' 3
   have e4 := congrFun hs' 4
   simp only [Zu, Nat.reduceEqDiff, ↓reduceIte, newPtr, AMem.next_alloc] at e3 e4
   clear hs'
   refine o_norm ?_
   refine q_mem (fun M3 hEM3 => ?_)
   have hnM3 := congrArg AMem.next hEM3; simp only [Zn, Nat.add_assoc, Nat.reduceAdd] at hnM3
   have hnxM3 : M.next ≤ M3.next := by have := hnxM1; omega
   have holdM3 : ∀ j, j < M.next → M3.get j = M.get j := fun j hj => by have := hnxM1; rw [hEM3]; simp (disch := first | (refine Zx ?_; simp only [Zn]; done) | ((try simp only [Zn]); omega)) only [Zg]; exact holdM1 j hj
   have gM3_0 := congrArg (fun m => AMem.get m M.next) hEM3; try simp (disch := first | (refine Zx ?_; simp only [Zn]; done) | ((try simp only [Zn]); omega)) only [Zg, Nat.add_assoc, Nat.reduceAdd, gM1_0] at gM3_0
   clear hEM3
   refine t_norm ?_
   refine at_ret rfl ?_
   refine b_ret ?_
   refine t_ret ?_
   have hF : ethGetF l = (eth0, [], 5) := by unfold ethGetF; rw [if_neg (by omega), if_pos (by omega)]
   rw [hF] at hK
   refine bq_ret rfl (ars_cons (ar_cell e2 gM3_0 (ld61 rfl)) (ars_cons (ar_tmp e3) (ars_cons (ar_tmp e4) ars_nil))) ?_
   exact ⟨_, _, hK, Canon.forget (retEth_flat [] 5 (ethCells_flat 1 _ _ _)) holdM3⟩
  ·
   try simp only [Zh] at h3
   refine at_skip rfl ?_
   refine b_norm ?_
   refine t_norm ?_
   refine at_seq rfl ?_
   refine at_region hS rfl (by kernel_rfl) ?_
   refine s_op (a_alloc hz) rfl ?_
   refine s_end (fun s' hs' => ?_)
   replace e0 := kp 0 hs' e0
   replace e2 := kp 2 hs' e2
   have e5 := congrFun hs' 5
   simp only [Zu, Nat.reduceEqDiff, ↓reduceIte, newPtr, AMem.next_alloc] at e5
   clear hs'
   refine o_norm ?_
   refine q_mem (fun M4 hEM4 => ?_)
   have hnM4 := congrArg AMem.next hEM4; simp only [Zn, Nat.add_assoc, Nat.reduceAdd] at hnM4
   have hnxM4 : M.next ≤ M4.next := by have := hnxM1; omega
   have holdM4 : ∀ j, j < M.next → M4.get j = M.get j := fun j hj => by have := hnxM1; rw [hEM4]; simp (disch := first | (refine Zx ?_; simp only [Zn]; done) | ((try simp only [Zn]); omega)) only [Zg]; exact holdM1 j hj
   have gM4_0 := congrArg (fun m => AMem.get m M.next) hEM4; try simp (disch := first | (refine Zx ?_; simp only [Zn]; done) | ((try simp only [Zn]); omega)) only [Zg, Nat.add_assoc, Nat.reduceAdd, gM1_0] at gM4_0
   have gM4_1 := congrArg (fun m => AMem.get m M1.next) hEM4; try simp (disch := first | (refine Zx ?_; simp only [Zn]; done) | ((try simp only [Zn]); omega)) only [Zg, Nat.add_assoc, Nat.reduceAdd, gM1_0] at gM4_1
   clear hEM4
   refine t_norm ?_
   refine at_seq rfl ?_
   have h6l : (l.take 6).length = 6 := by rw [List.length_take]; omega
   have hs1 : ∀ s, aslice Try.prog s M4 59 (.pointer (some ⟨M1.next, 0, none⟩)) none none = _ := fun s => aslice_arr59 gM4_1 (by decide)
   have hc1 := acopy_str (M := M4) (id := M1.next) (off := 0) (l := l) gM4_1 (by decide) (by omega)
   refine at_region hS rfl (by kernel_rfl) ?_
   refine s_op (a_fa (by simp only [Zu, Nat.reduceEqDiff, ↓reduceIte, fa61_0, Nat.zero_add, hs1, hc1, newPtr, AMem.next_alloc, e5] <;> rfl)) rfl ?_
   refine s_op (a_slice (by simp (disch := omega) only [Zu, Nat.reduceEqDiff, ↓reduceIte, Zs, Int.reduceToNat, hs1, hc1, gM4_0, gM4_1] <;> rfl)) rfl ?_
   refine s_op (a_mv e0) rfl ?_
   refine s_op (a_copy (by simp (disch := omega) only [Zu, Nat.reduceEqDiff, ↓reduceIte, alen_str, hlenS, Zs, Int.reduceToNat, hs1, hc1, newPtr, AMem.next_alloc, gM4_0, gM4_1] <;> rfl)) rfl ?_
   refine s_end (fun s' hs' => ?_)
   replace e0 := kp 0 hs' e0
   replace e2 := kp 2 hs' e2
   replace e5 := kp 5 hs' e5
   clear hs'
   refine o_norm ?_
   refine q_mem (fun M5 hEM5 => ?_)
   have hnM5 := congrArg AMem.next hEM5; simp only [Zn, Nat.add_assoc, Nat.reduceAdd] at hnM5
   have hnxM5 : M.next ≤ M5.next := by have := hnxM4; omega
   have holdM5 : ∀ j, j < M.next → M5.get j = M.get j := fun j hj => by have := hnxM4; rw [hEM5]; simp (disch := first | (refine Zx ?_; simp only [Zn]; done) | ((try simp only [Zn]); omega)) only [Zg]; exact holdM4 j hj
   have gM5_0 := congrArg (fun m => AMem.get m M.next) hEM5; try simp (disch := first | (refine Zx ?_; simp only [Zn]; done) | ((try simp only [Zn]); omega)) only [Zg, Nat.add_assoc, Nat.reduceAdd, gM4_0, gM4_1] at gM5_0
   have gM5_1 := congrArg (fun m => AMem.get m M1.next) hEM5; try simp (disch := first | (refine Zx ?_; simp only [Zn]; done) | ((try simp only [Zn]); omega)) only [Zg, Nat.add_assoc, Nat.reduceAdd, gM4_0, gM4_1] at gM5_1
   clear hEM5
   have ha1 : aput eth0 0 (byteCells (l.take 6)) = ethCells (l.take 6) (List.replicate 6 0) 0 := aput_eth1 rfl h6l
   rw [ha1] at gM5_1
   refine t_norm ?_
   refine at_seq rfl ?_
   have hq : (part l 6 l.length).take 6 = (l.drop 6).take 6 := by unfold part; rw [List.take_take, Nat.min_eq_left (by omega)]
   have h6q : ((l.drop 6).take 6).length = 6 := by rw [List.length_take, List.length_drop]; omega
   have hq6 : 6 ≤ (part l 6 l.length).length := by rw [part_length (Nat.le_refl _)]; omega
   have hs2 : ∀ s, aslice Try.prog s M5 59 (.pointer (some ⟨M1.next, 6, none⟩)) none none = _ := fun s => aslice_arr59 gM5_1 (by rw [ethCells_length h6l (by simp)]; omega)
   have hc2 := acopy_str (M := M5) (id := M1.next) (off := 6) (l := part l 6 l.length) gM5_1 (by rw [ethCells_length h6l (by simp)]; omega) hq6
   refine at_draw ⟨[[], [0], [], [2], [0, 1, 2, 3]], [0, 1, 2, 3], [(4, [])]⟩ hS rfl rfl (by kernel_rfl) (by kernel_rfl) ?_
   refine d_start ?_
   refine l_op rfl rfl (a_fa (by simp only [Zu, Nat.reduceEqDiff, ↓reduceIte, fa61_1, Nat.zero_add, hs2, hc2, newPtr, AMem.next_alloc, e5] <;> rfl)) rfl ?_ rfl
   refine l_op rfl rfl (a_slice (by simp (disch := omega) only [Zu, Nat.reduceEqDiff, ↓reduceIte, Zs, Int.reduceToNat, hs2, hc2, Nat.zero_add, gM5_0, gM5_1] <;> rfl)) rfl ?_ rfl
   refine l_op rfl rfl (a_mv e0) rfl ?_ rfl
   refine l_op rfl rfl (a_slice (by simp (disch := omega) only [Zu, Nat.reduceEqDiff, ↓reduceIte, Zs, Int.reduceToNat, hs2, hc2, Nat.zero_add, gM5_0, gM5_1] <;> rfl)) rfl ?_ rfl
   refine l_nil ?_
   refine h_op ?_ rfl rfl rfl ?_
   · refine again_l rfl rfl (a_slice (by simp (disch := omega) only [Zu, Nat.reduceEqDiff, ↓reduceIte, Zs, Int.reduceToNat, hs2, hc2, Nat.zero_add, gM5_0, gM5_1] <;> rfl)) ?_
     refine again_r rfl ?_
     refine again_l rfl rfl (a_slice (by simp (disch := omega) only [Zu, Nat.reduceEqDiff, ↓reduceIte, Zs, Int.reduceToNat, hs2, hc2, Nat.zero_add, gM5_0, gM5_1] <;> rfl)) ?_
     refine again_r rfl ?_
     exact again_nil
   refine s_op (a_copy (by simp (disch := omega) only [Zu, Nat.reduceEqDiff, ↓reduceIte, alen_str, hlenS, Zs, Int.reduceToNat, hs2, hc2, Nat.zero_add, newPtr, AMem.next_alloc, gM5_0, gM5_1] <;> rfl)) rfl ?_
   refine s_end (fun s' hs' => ?_); subst hs'
   refine l_nil ?_
   refine h_end ?_ (fun s' hs' => ?_)
   · exact again_nil
   replace e0 := kp 0 hs' e0
   replace e2 := kp 2 hs' e2
   replace e5 := kp 5 hs' e5
   clear hs'
   refine o_norm ?_
   refine q_mem (fun M6 hEM6 => ?_)
   have hnM6 := congrArg AMem.next hEM6; simp only [Zn, Nat.add_assoc, Nat.reduceAdd] at hnM6
   have hnxM6 : M.next ≤ M6.next := by have := hnxM5; omega
   have holdM6 : ∀ j, j < M.next → M6.get j = M.get j := fun j hj => by have := hnxM5; rw [hEM6]; simp (disch := first | (refine Zx ?_; simp only [Zn]; done) | ((try simp only [Zn]); omega)) only [Zg]; exact holdM5 j hj
   have gM6_0 := congrArg (fun m => AMem.get m M.next) hEM6; try simp (disch := first | (refine Zx ?_; simp only [Zn]; done) | ((try simp only [Zn]); omega)) only [Zg, Nat.add_assoc, Nat.reduceAdd, gM5_0, gM5_1] at gM6_0
   have gM6_1 := congrArg (fun m => AMem.get m M1.next) hEM6; try simp (disch := first | (refine Zx ?_; simp only [Zn]; done) | ((try simp only [Zn]); omega)) only [Zg, Nat.add_assoc, Nat.reduceAdd, gM5_0, gM5_1] at gM6_1
   clear hEM6
   rw [hq, aput_eth2 h6l (by simp) h6q] at gM6_1
   have p12 : part l 12 14 = (l.drop 12).take 2 := rfl
   have hst8 : ∀ x, astore Try.prog 3 (ethCells (l.take 6) ((l.drop 6).take 6) 0) 12 (.int .i64 x) = some (ethCells (l.take 6) ((l.drop 6).take 6) x) := fun x => st3_eth h6l h6q
   refine t_norm ?_
   refine at_seq rfl ?_
   refine at_region hS rfl (by kernel_rfl) ?_
   refine s_op (a_mv e0) rfl ?_
   refine s_op (a_slice (by simp (disch := omega) only [Zu, Nat.reduceEqDiff, ↓reduceIte, Zs, Int.reduceToNat, hst8, Nat.zero_add, gM6_0, gM6_1] <;> rfl)) rfl ?_
   refine s_call (by simp only [Zu, Nat.reduceEqDiff, ↓reduceIte, hlenS, Zs, Int.reduceToNat, hst8, Nat.zero_add, newPtr, AMem.next_alloc, gM6_0, gM6_1] <;> rfl) (by simp only [Zu, Nat.reduceEqDiff, ↓reduceIte, Zm, hlenS, Zs, Int.reduceToNat, hst8, Nat.zero_add, newPtr, AMem.next_alloc, gM6_0, gM6_1] <;> rfl) ?_
   rw [S56_70]; refine ⟨_, rfl, by rw [part_length (by omega)]; omega, ?_⟩
   show EA _ _ _ _ _ _
   refine s_op (a_fa (by simp only [Zu, Nat.reduceEqDiff, ↓reduceIte, fa61_2, Nat.zero_add, hst8, newPtr, AMem.next_alloc, e5] <;> rfl)) rfl ?_
   refine s_op (a_store (by simp only [Zu, Nat.reduceEqDiff, ↓reduceIte, hst8, Nat.zero_add, newPtr, AMem.next_alloc, gM6_0, gM6_1] <;> rfl) (by simp (disch := first | (refine Zx ?_; simp only [Zn]; done) | ((try simp only [Zn]); omega)) only [Zg, hst8, Nat.zero_add, newPtr, gM6_0, gM6_1] <;> rfl) (by simp only [Zu, Nat.reduceEqDiff, ↓reduceIte, hst8, Nat.zero_add, newPtr, AMem.next_alloc, gM6_0, gM6_1] <;> rfl) (by simp (disch := (first | omega | (simp only [List.length_cons, List.length_nil]; omega))) only [st3, List.set_cons_succ, List.set_cons_zero, hst8, Nat.zero_add, newPtr, AMem.next_alloc, gM6_0, gM6_1] <;> rfl)) rfl ?_
   refine s_end (fun s' hs' => ?_)
   replace e0 := kp 0 hs' e0
   replace e2 := kp 2 hs' e2
   replace e5 := kp 5 hs' e5
   clear hs'
   refine o_norm ?_
   refine q_mem (fun M7 hEM7 => ?_)
   have hnM7 := congrArg AMem.next hEM7; simp only [Zn, Nat.add_assoc, Nat.reduceAdd] at hnM7
   have hnxM7 : M.next ≤ M7.next := by have := hnxM6; omega
   have holdM7 : ∀ j, j < M.next → M7.get j = M.get j := fun j hj => by have := hnxM6; rw [hEM7]; simp (disch := first | (refine Zx ?_; simp only [Zn]; done) | ((try simp only [Zn]); omega)) only [Zg]; exact holdM6 j hj
   have gM7_0 := congrArg (fun m => AMem.get m M.next) hEM7; try simp (disch := first | (refine Zx ?_; simp only [Zn]; done) | ((try simp only [Zn]); omega)) only [Zg, Nat.add_assoc, Nat.reduceAdd, gM6_0, gM6_1] at gM7_0
   have gM7_1 := congrArg (fun m => AMem.get m M1.next) hEM7; try simp (disch := first | (refine Zx ?_; simp only [Zn]; done) | ((try simp only [Zn]); omega)) only [Zg, Nat.add_assoc, Nat.reduceAdd, gM6_0, gM6_1] at gM7_1
   clear hEM7
   rw [p12] at gM7_1
   have h13 : (ethCells (l.take 6) ((l.drop 6).take 6) (numF ((l.drop 12).take 2))).length = 13 := ethCells_length h6l h6q
   have hst9 : astore Try.prog 61 eth0 0 (.agg (ethCells (l.take 6) ((l.drop 6).take 6) (numF ((l.drop 12).take 2))).toArray) = some _ := st61 rfl h13 (ethCells_one _ _ _)
   have hld9 := ld61 h13
   have p14 : part l 14 l.length = l.drop 14 := by unfold part; rw [List.take_of_length_le (by rw [List.length_drop]; omega)]
   refine t_norm ?_
   refine at_seq rfl ?_
   refine at_draw ⟨[[], [], [1], [0], [0, 1, 2, 3], [0, 1, 2, 3, 4]], [0, 1, 2], [(3, [4, 5])]⟩ hS rfl rfl (by kernel_rfl) (by kernel_rfl) ?_
   refine d_start ?_
   refine l_op rfl rfl (a_load e5 (by simp (disch := first | (refine Zx ?_; simp only [Zn]; done) | ((try simp only [Zn]); omega)) only [Zg, hld9, hst9, p14, newPtr, gM7_0, gM7_1, e5] <;> rfl) (by simp only [hld9, hst9, p14, newPtr, AMem.next_alloc, gM7_0, gM7_1, e5] <;> rfl)) rfl ?_ rfl
   refine l_op rfl rfl (a_mv e0) rfl ?_ rfl
   refine l_op rfl rfl (a_slice (by simp (disch := omega) only [Zu, Nat.reduceEqDiff, ↓reduceIte, Zs, Int.reduceToNat, hst9, p14, gM7_0, gM7_1] <;> rfl)) rfl ?_ rfl
   refine l_nil ?_
   refine h_op ?_ rfl rfl rfl ?_
   · refine again_l rfl rfl (a_slice (by simp (disch := omega) only [Zu, Nat.reduceEqDiff, ↓reduceIte, Zs, Int.reduceToNat, hst9, p14, gM7_0, gM7_1] <;> rfl)) ?_
     refine again_r rfl ?_
     refine again_l rfl rfl (a_load e5 (by simp (disch := first | (refine Zx ?_; simp only [Zn]; done) | ((try simp only [Zn]); omega)) only [Zg, hld9, hst9, p14, newPtr, gM7_0, gM7_1, e5] <;> rfl) (by simp only [hld9, hst9, p14, newPtr, AMem.next_alloc, gM7_0, gM7_1, e5] <;> rfl)) ?_
     exact again_nil
   refine s_op (a_store e2 (by simp (disch := first | (refine Zx ?_; simp only [Zn]; done) | ((try simp only [Zn]); omega)) only [Zg, hst9, p14, newPtr, gM7_0, gM7_1, e2] <;> rfl) (by simp only [Zu, Nat.reduceEqDiff, ↓reduceIte, hst9, p14, newPtr, AMem.next_alloc, gM7_0, gM7_1, e2] <;> rfl) (by simp only [hst9, p14, newPtr, AMem.next_alloc, gM7_0, gM7_1, e2] <;> rfl)) rfl ?_
   refine s_end (fun s' hs' => ?_); subst hs'
   refine l_op rfl rfl (a_as (by simp only [Zu, Nat.reduceEqDiff, ↓reduceIte] <;> rfl)) rfl ?_ rfl
   refine l_op rfl rfl (a_as (by simp only [ev_const] <;> rfl)) rfl ?_ rfl
   refine l_nil ?_
   refine h_end ?_ (fun s' hs' => ?_)
   · refine again_r rfl ?_
     refine again_r rfl ?_
     refine again_l rfl rfl (a_slice (by simp (disch := omega) only [Zu, Nat.reduceEqDiff, ↓reduceIte, Zs, Int.reduceToNat, hst9, p14, gM7_0, gM7_1] <;> rfl)) ?_
     refine again_r rfl ?_
     exact again_nil
   replace e2 := kp 2 hs' e2
   have e3 := congrFun hs' 3
   have e4 := congrFun hs' 4
   simp only [Zu, Nat.reduceEqDiff, ↓reduceIte, newPtr, AMem.next_alloc] at e3 e4
   clear hs'
   try clear e0 e5
   refine o_norm ?_
   refine q_mem (fun M8 hEM8 => ?_)
   have hnM8 := congrArg AMem.next hEM8; simp only [Zn, Nat.add_assoc, Nat.reduceAdd] at hnM8
   have hnxM8 : M.next ≤ M8.next := by have := hnxM7; omega
   have holdM8 : ∀ j, j < M.next → M8.get j = M.get j := fun j hj => by have := hnxM7; rw [hEM8]; simp (disch := first | (refine Zx ?_; simp only [Zn]; done) | ((try simp only [Zn]); omega)) only [Zg]; exact holdM7 j hj
   have gM8_0 := congrArg (fun m => AMem.get m M.next) hEM8; try simp (disch := first | (refine Zx ?_; simp only [Zn]; done) | ((try simp only [Zn]); omega)) only [Zg, Nat.add_assoc, Nat.reduceAdd, gM7_0, gM7_1] at gM8_0
   have gM8_1 := congrArg (fun m => AMem.get m M1.next) hEM8; try simp (disch := first | (refine Zx ?_; simp only [Zn]; done) | ((try simp only [Zn]); omega)) only [Zg, Nat.add_assoc, Nat.reduceAdd, gM7_0, gM7_1] at gM8_1
   clear hEM8
   refine t_norm ?_
   refine at_ret rfl ?_
   have hF : ethGetF l = (ethCells (l.take 6) ((l.drop 6).take 6) (numF ((l.drop 12).take 2)), l.drop 14, 0) := by unfold ethGetF; rw [if_neg (by omega), if_neg (by omega)]
   rw [hF] at hK
   refine bq_ret rfl (ars_cons (ar_cell e2 gM8_0 (ld61 h13)) (ars_cons (ar_tmp e3) (ars_cons (ar_tmp e4) ars_nil))) ?_
   exact ⟨_, _, hK, Canon.forget (retEth_flat _ 0 (ethCells_flat 1 _ _ _)) holdM8⟩
end Go.Proofs.Ytdkdkpiemigfkaa
set_option linter.unusedVariables false
set_option linter.unusedSimpArgs false
set_option maxRecDepth 8000
namespace Go.Proofs.Ytdkdkpiemigfkaa
open Go Go.Proofs
def chk : Nat → List UInt8 → Bool
  | 0, l => decide ((l.length : Int) < 20)
  | 1, l => !decide (byteAt l 0 / 16 = 4) || decide (4 * (byteAt l 0 % 16) < 20)
  | 2, l => decide ((l.length : Int) < 4 * (byteAt l 0 % 16))
  | 3, l => decide (numF (part l 2 4) < 4 * (byteAt l 0 % 16))
  | 4, l => decide ((l.length : Int) < numF (part l 2 4))
  | 5, l => decide (byteAt l 6 / 128 = 1)
  | 6, l => decide (2000 < numF (part l 2 4) - 4 * (byteAt l 0 % 16))
  | 7, l => !decide (ocF (part l 0 (4 * (byteAt l 0 % 16)).toNat) = 0)
  | _, _ => false
def spC (j : Nat) : ASpec := fun args M K => ∃ l : List UInt8, args = [asString l] ∧ l.length ≤ 1000000000 ∧ (∀ i, i < j → chk i l = false) ∧ K (.ret (.bool (chk j l))) M
def spN (m : Nat) (f : List UInt8 → Int) : ASpec := fun args M K => ∃ l : List UInt8, args = [asString l] ∧ l.length ≤ 1000000000 ∧ m ≤ l.length ∧ K (.ret (.int .i64 (f l))) M
theorem shr8_7' {a : Int} {k' : IntKind} : abin .shr (.int .u8 a) (.int k' 7) = some (.int .u8 (a / 128)) := by simp [abin, IntKind.bits, Int.fdiv_eq_ediv_of_nonneg]
def sp72 : ASpec := spN 1 fun l => 4 * (byteAt l 0 % 16)
def sp73 : ASpec := spN 4 fun l => numF (part l 2 4)
theorem f72_ok : Sound Try.prog 72 sp72 := by
 refine Sound.of_awp (c := bodyOf Try.f72) Try.func72 rfl rfl rfl ?_
 rintro args M K ⟨l, rfl, hll, h1, hK⟩
 refine ⟨Nat.le_of_ble_eq_true rfl, ?_⟩
 have hS := noS_ok Try.prog
 have e0 : entry [asString l] 0 = asString l := rfl
 obtain ⟨z0, z1⟩ := byteAt_bound l 0
 refine at_seq rfl ?_
 refine at_region hS rfl (by kernel_rfl) ?_
 refine s_op (a_as (by simp only [ev_const] <;> rfl)) rfl ?_
 refine s_end (fun s' hs' => ?_)
 replace e0 := kp 0 hs' e0
 clear hs'
 refine o_norm ?_
 refine t_norm ?_
 refine at_seq rfl ?_
 refine at_region hS rfl (by kernel_rfl) ?_
 refine s_op (a_mv e0) rfl ?_
 refine s_op (a_index (by simp (disch := omega) only [Zu, Nat.reduceEqDiff, ↓reduceIte, Zs, Int.reduceToNat, and_15] <;> rfl)) rfl ?_
 refine s_op (a_convi (by simp only [Zu, Nat.reduceEqDiff, ↓reduceIte, Zs, Int.reduceToNat, and_15, newPtr, AMem.next_alloc] <;> rfl) rfl rfl (by simp (disch := omega) only [wrap_i64]; try rfl)) rfl ?_
 refine s_op (a_bin (by simp (disch := omega) only [Zu, Nat.reduceEqDiff, ↓reduceIte, Zd, reduceCtorEq, abin_and, and_255, and_15, and_65535, and_8191, ne_eq, not_false_eq_true, Zs, Int.reduceToNat] <;> rfl)) rfl ?_
 refine s_op (a_bin (by simp (disch := omega) only [Zu, Nat.reduceEqDiff, ↓reduceIte, Zd, reduceCtorEq, abin_mul, wrap_i64, wrap_u32, wrap_u8, wrap_u64, wrap_i32, wrap_u16, ne_eq, not_false_eq_true, Zs, Int.reduceToNat, and_15] <;> rfl)) rfl ?_
 refine s_as ?_
 refine s_end (fun s' hs' => ?_)
 have e2 := congrFun hs' 2
 simp only [Zu, Nat.reduceEqDiff, ↓reduceIte, newPtr, AMem.next_alloc] at e2
 clear hs'
 try clear e0
 refine o_norm ?_
 refine t_norm ?_
 refine at_ret rfl ?_
 refine bq_ret rfl (ars_cons (ar_tmp e2) ars_nil) ?_
 exact ⟨_, _, hK, Canon.forget rfl (fun _ _ => rfl)⟩
noncomputable def S73 : FuncId → ASpec := tab [(70, sp70)]
theorem S73_70 : S73 70 = sp70 := rfl
theorem S73_ok : ∀ f, Sound Try.prog f (S73 f) := tab_sound _ (by simp [f70_ok])
theorem f73_ok : Sound Try.prog 73 sp73 := by
 refine Sound.of_awp (c := bodyOf Try.f73) Try.func73 rfl rfl rfl ?_
 rintro args M K ⟨l, rfl, hll, h1, hK⟩
 refine ⟨Nat.le_of_ble_eq_true rfl, ?_⟩
 have hS := S73_ok
 have e0 : entry [asString l] 0 = asString l := rfl
 refine at_seq rfl ?_
 refine at_region hS rfl (by kernel_rfl) ?_
 refine s_op (a_as (by simp only [ev_const] <;> rfl)) rfl ?_
 refine s_end (fun s' hs' => ?_)
 replace e0 := kp 0 hs' e0
 clear hs'
 refine o_norm ?_
 refine t_norm ?_
 refine at_seq rfl ?_
 refine at_region hS rfl (by kernel_rfl) ?_
 refine s_op (a_mv e0) rfl ?_
 refine s_op (a_slice (by simp (disch := omega) only [Zu, Nat.reduceEqDiff, ↓reduceIte, Zs, Int.reduceToNat] <;> rfl)) rfl ?_
 refine s_call (by simp only [Zu, Nat.reduceEqDiff, ↓reduceIte, Zs, Int.reduceToNat, newPtr, AMem.next_alloc] <;> rfl) (by simp only [Zu, Nat.reduceEqDiff, ↓reduceIte, Zm, Zs, Int.reduceToNat, newPtr, AMem.next_alloc] <;> rfl) ?_
 rw [S73_70]; refine ⟨_, rfl, by rw [part_length (by omega)]; omega, ?_⟩
 show EA _ _ _ _ _ _
 refine s_as ?_
 refine s_end (fun s' hs' => ?_)
 have e2 := congrFun hs' 2
 simp only [Zu, Nat.reduceEqDiff, ↓reduceIte, newPtr, AMem.next_alloc] at e2
 clear hs'
 try clear e0
 refine o_norm ?_
 refine t_norm ?_
 refine at_ret rfl ?_
 refine bq_ret rfl (ars_cons (ar_tmp e2) ars_nil) ?_
 exact ⟨_, _, hK, Canon.forget rfl (fun _ _ => rfl)⟩
noncomputable def SC : FuncId → ASpec := tab [(72, sp72), (73, sp73), (95, sp95)]
theorem SC_72 : SC 72 = sp72 := rfl
theorem SC_73 : SC 73 = sp73 := rfl
theorem SC_95 : SC 95 = sp95 := rfl
theorem SC_ok : ∀ f, Sound Try.prog f (SC f) := tab_sound _ (by simp [f72_ok, f73_ok, f95_ok])
def sp87 : ASpec := spC 0
theorem f87_ok : Sound Try.prog 87 sp87 := by
 refine Sound.of_awp (c := bodyOf Try.f87) Try.func87 rfl rfl rfl ?_
 rintro args M K ⟨l, rfl, hll, hpre, hK⟩
 refine ⟨Nat.le_of_ble_eq_true rfl, ?_⟩
 have hS := SC_ok
 have e0 : entry [asString l] 0 = asString l := rfl
 obtain ⟨z0, z1⟩ := byteAt_bound l 0
 simp only [chk] at hK
 refine at_seq rfl ?_
 refine at_region hS rfl (by kernel_rfl) ?_
 refine s_op (a_as (by simp only [ev_const] <;> rfl)) rfl ?_
 refine s_end (fun s' hs' => ?_)
 replace e0 := kp 0 hs' e0
 clear hs'
 refine o_norm ?_
 refine t_norm ?_
 refine at_seq rfl ?_
 refine at_region hS rfl (by kernel_rfl) ?_
 refine s_op (a_mv e0) rfl ?_
 refine s_op (a_len (by simp (disch := omega) only [Zu, Nat.reduceEqDiff, ↓reduceIte, alen_str, Zs, Int.reduceToNat, hlenS, newPtr, AMem.next_alloc] <;> rfl)) rfl ?_
 refine s_op (a_bin (by simp (disch := omega) only [Zu, Nat.reduceEqDiff, ↓reduceIte, Zd, reduceCtorEq, abin_lss, ne_eq, not_false_eq_true, Zs, Int.reduceToNat] <;> rfl)) rfl ?_
 refine s_as ?_
 refine s_end (fun s' hs' => ?_)
 have e2 := congrFun hs' 2
 simp only [Zu, Nat.reduceEqDiff, ↓reduceIte, newPtr, AMem.next_alloc] at e2
 clear hs'
 try clear e0
 refine o_norm ?_
 refine t_norm ?_
 refine at_ret rfl ?_
 refine bq_ret rfl (ars_cons (ar_tmp e2) ars_nil) ?_
 exact ⟨_, _, hK, Canon.forget rfl (fun _ _ => rfl)⟩
def sp88 : ASpec := spC 1
theorem f88_ok : Sound Try.prog 88 sp88 := by
 refine Sound.of_awp (c := bodyOf Try.f88) Try.func88 rfl rfl rfl ?_
 rintro args M K ⟨l, rfl, hll, hpre, hK⟩
 refine ⟨Nat.le_of_ble_eq_true rfl, ?_⟩
 have hS := SC_ok
 have e0 : entry [asString l] 0 = asString l := rfl
 obtain ⟨z0, z1⟩ := byteAt_bound l 0
 have p0 : ¬ (l.length : Int) < 20 := of_decide_eq_false (hpre 0 (by omega))
 simp only [chk] at hK
 refine at_seq rfl ?_
 refine at_region hS rfl (by kernel_rfl) ?_
 refine s_op (a_as (by simp only [ev_const] <;> rfl)) rfl ?_
 refine s_end (fun s' hs' => ?_)
 replace e0 := kp 0 hs' e0
 clear hs'
 refine o_norm ?_
 refine t_norm ?_
 refine at_seq rfl ?_
 by_cases hv : byteAt l 0 / 16 = 4
 ·
  refine at_region hS rfl (by kernel_rfl) ?_
  refine s_op (a_mv e0) rfl ?_
  refine s_op (a_index (by simp (disch := omega) only [Zu, Nat.reduceEqDiff, ↓reduceIte, Zs, Int.reduceToNat, hv] <;> rfl)) rfl ?_
  refine s_op (a_bin (by simp (disch := omega) only [Zu, Nat.reduceEqDiff, ↓reduceIte, Zd, reduceCtorEq, shr_8, shr_16, shr_4, shr8_4, shr8_7, ne_eq, not_false_eq_true, Zs, Int.reduceToNat, hv] <;> rfl)) rfl ?_
  refine s_op (a_bin (by simp (disch := omega) only [Zu, Nat.reduceEqDiff, ↓reduceIte, Zd, reduceCtorEq, abin_neq, abin_aneq, ne_eq, not_false_eq_true, Zs, Int.reduceToNat, hv] <;> rfl)) rfl ?_
  refine s_mv ?_
  refine s_tk ?_
  refine s_op (a_mv e0) rfl ?_
  refine s_tk ?_
  refine s_call (by simp only [Zu, Nat.reduceEqDiff, ↓reduceIte, Zs, Int.reduceToNat, hlenS, hv, newPtr, AMem.next_alloc] <;> rfl) (by simp only [Zu, Nat.reduceEqDiff, ↓reduceIte, Zm, Zs, Int.reduceToNat, hlenS, hv, newPtr, AMem.next_alloc] <;> rfl) ?_
  rw [SC_72]; refine ⟨_, rfl, hll, by omega, ?_⟩
  show EA _ _ _ _ _ _
  refine s_tk ?_
  refine s_op (a_bin (by simp (disch := omega) only [Zu, Nat.reduceEqDiff, ↓reduceIte, Zd, reduceCtorEq, abin_lss, ne_eq, not_false_eq_true, Zs, Int.reduceToNat, hv] <;> rfl)) rfl ?_
  refine s_op (a_pick (by simp only [Zu, Nat.reduceEqDiff, ↓reduceIte, Zd, reduceCtorEq, hv] <;> rfl) (by simp only [Zu, Nat.reduceEqDiff, ↓reduceIte, Zd, reduceCtorEq, hv] <;> rfl)) rfl ?_
  refine s_as ?_
  refine s_end (fun s' hs' => ?_)
  have e2 := congrFun hs' 2
  simp only [Zu, Nat.reduceEqDiff, ↓reduceIte, newPtr, AMem.next_alloc] at e2
  clear hs'
  try clear e0
  refine o_norm ?_
  refine t_norm ?_
  refine at_ret rfl ?_
  simp only [hv, Zd, Bool.false_or, Bool.true_or] at hK
  refine bq_ret rfl (ars_cons (ar_tmp e2) ars_nil) ?_
  exact ⟨_, _, hK, Canon.forget rfl (fun _ _ => rfl)⟩
 ·
  refine at_region hS rfl (by kernel_rfl) ?_
  refine s_op (a_mv e0) rfl ?_
  refine s_op (a_index (by simp (disch := omega) only [Zu, Nat.reduceEqDiff, ↓reduceIte, Zs, Int.reduceToNat, hv] <;> rfl)) rfl ?_
  refine s_op (a_bin (by simp (disch := omega) only [Zu, Nat.reduceEqDiff, ↓reduceIte, Zd, reduceCtorEq, shr_8, shr_16, shr_4, shr8_4, shr8_7, ne_eq, not_false_eq_true, Zs, Int.reduceToNat, hv] <;> rfl)) rfl ?_
  refine s_op (a_bin (by simp (disch := omega) only [Zu, Nat.reduceEqDiff, ↓reduceIte, Zd, reduceCtorEq, abin_neq, abin_aneq, ne_eq, not_false_eq_true, Zs, Int.reduceToNat, hv] <;> rfl)) rfl ?_
  refine s_mv ?_
  refine s_lv ?_
  refine s_lv ?_
  refine s_lv ?_
  refine s_op (a_pick (by simp only [Zu, Nat.reduceEqDiff, ↓reduceIte, Zd, reduceCtorEq, hv] <;> rfl) (by simp only [Zu, Nat.reduceEqDiff, ↓reduceIte, Zd, reduceCtorEq, hv] <;> rfl)) rfl ?_
  refine s_as ?_
  refine s_end (fun s' hs' => ?_)
  have e2 := congrFun hs' 2
  simp only [Zu, Nat.reduceEqDiff, ↓reduceIte, newPtr, AMem.next_alloc] at e2
  clear hs'
  try clear e0
  refine o_norm ?_
  refine t_norm ?_
  refine at_ret rfl ?_
  simp only [hv, Zd, Bool.false_or, Bool.true_or] at hK
  refine bq_ret rfl (ars_cons (ar_tmp e2) ars_nil) ?_
  exact ⟨_, _, hK, Canon.forget rfl (fun _ _ => rfl)⟩
def sp89 : ASpec := spC 2
theorem f89_ok : Sound Try.prog 89 sp89 := by
 refine Sound.of_awp (c := bodyOf Try.f89) Try.func89 rfl rfl rfl ?_
 rintro args M K ⟨l, rfl, hll, hpre, hK⟩
 refine ⟨Nat.le_of_ble_eq_true rfl, ?_⟩
 have hS := SC_ok
 have e0 : entry [asString l] 0 = asString l := rfl
 obtain ⟨z0, z1⟩ := byteAt_bound l 0
 have p0 : ¬ (l.length : Int) < 20 := of_decide_eq_false (hpre 0 (by omega))
 have p1 : byteAt l 0 / 16 = 4 ∧ ¬ (4 * (byteAt l 0 % 16) < 20) := by have := hpre 1 (by omega); simp only [chk, Bool.or_eq_false_iff, Zh] at this; exact this
 simp only [chk] at hK
 refine at_seq rfl ?_
 refine at_region hS rfl (by kernel_rfl) ?_
 refine s_op (a_as (by simp only [ev_const] <;> rfl)) rfl ?_
 refine s_end (fun s' hs' => ?_)
 replace e0 := kp 0 hs' e0
 clear hs'
 refine o_norm ?_
 refine t_norm ?_
 refine at_seq rfl ?_
 refine at_region hS rfl (by kernel_rfl) ?_
 refine s_op (a_mv e0) rfl ?_
 refine s_op (a_len (by simp (disch := omega) only [Zu, Nat.reduceEqDiff, ↓reduceIte, alen_str, Zs, Int.reduceToNat, hlenS, newPtr, AMem.next_alloc] <;> rfl)) rfl ?_
 refine s_op (a_mv e0) rfl ?_
 refine s_call (by simp only [Zu, Nat.reduceEqDiff, ↓reduceIte, Zs, Int.reduceToNat, hlenS, newPtr, AMem.next_alloc] <;> rfl) (by simp only [Zu, Nat.reduceEqDiff, ↓reduceIte, Zm, Zs, Int.reduceToNat, hlenS, newPtr, AMem.next_alloc] <;> rfl) ?_
 rw [SC_72]; refine ⟨_, rfl, hll, by omega, ?_⟩
 show EA _ _ _ _ _ _
 refine s_op (a_bin (by simp (disch := omega) only [Zu, Nat.reduceEqDiff, ↓reduceIte, Zd, reduceCtorEq, abin_lss, ne_eq, not_false_eq_true, Zs, Int.reduceToNat] <;> rfl)) rfl ?_
 refine s_as ?_
 refine s_end (fun s' hs' => ?_)
 have e2 := congrFun hs' 2
 simp only [Zu, Nat.reduceEqDiff, ↓reduceIte, newPtr, AMem.next_alloc] at e2
 clear hs'
 try clear e0
 refine o_norm ?_
 refine t_norm ?_
 refine at_ret rfl ?_
 refine bq_ret rfl (ars_cons (ar_tmp e2) ars_nil) ?_
 exact ⟨_, _, hK, Canon.forget rfl (fun _ _ => rfl)⟩
def sp90 : ASpec := spC 3
theorem f90_ok : Sound Try.prog 90 sp90 := by
 refine Sound.of_awp (c := bodyOf Try.f90) Try.func90 rfl rfl rfl ?_
 rintro args M K ⟨l, rfl, hll, hpre, hK⟩
 refine ⟨Nat.le_of_ble_eq_true rfl, ?_⟩
 have hS := SC_ok
 have e0 : entry [asString l] 0 = asString l := rfl
 obtain ⟨z0, z1⟩ := byteAt_bound l 0
 have p0 : ¬ (l.length : Int) < 20 := of_decide_eq_false (hpre 0 (by omega))
 have p1 : byteAt l 0 / 16 = 4 ∧ ¬ (4 * (byteAt l 0 % 16) < 20) := by have := hpre 1 (by omega); simp only [chk, Bool.or_eq_false_iff, Zh] at this; exact this
 have p2 : ¬ ((l.length : Int) < 4 * (byteAt l 0 % 16)) := of_decide_eq_false (hpre 2 (by omega))
 obtain ⟨a0, a1⟩ := numF_bound (part l 2 4) (part_length (by omega))
 simp only [chk] at hK
 refine at_seq rfl ?_
 refine at_region hS rfl (by kernel_rfl) ?_
 refine s_op (a_as (by simp only [ev_const] <;> rfl)) rfl ?_
 refine s_end (fun s' hs' => ?_)
 replace e0 := kp 0 hs' e0
 clear hs'
 refine o_norm ?_
 refine t_norm ?_
 refine at_seq rfl ?_
 refine at_region hS rfl (by kernel_rfl) ?_
 refine s_op (a_mv e0) rfl ?_
 refine s_call (by simp only [Zu, Nat.reduceEqDiff, ↓reduceIte, Zs, Int.reduceToNat, hlenS, newPtr, AMem.next_alloc] <;> rfl) (by simp only [Zu, Nat.reduceEqDiff, ↓reduceIte, Zm, Zs, Int.reduceToNat, hlenS, newPtr, AMem.next_alloc] <;> rfl) ?_
 rw [SC_73]; refine ⟨_, rfl, hll, by omega, ?_⟩
 show EA _ _ _ _ _ _
 refine s_op (a_mv e0) rfl ?_
 refine s_call (by simp only [Zu, Nat.reduceEqDiff, ↓reduceIte, Zs, Int.reduceToNat, hlenS, newPtr, AMem.next_alloc] <;> rfl) (by simp only [Zu, Nat.reduceEqDiff, ↓reduceIte, Zm, Zs, Int.reduceToNat, hlenS, newPtr, AMem.next_alloc] <;> rfl) ?_
 rw [SC_72]; refine ⟨_, rfl, hll, by omega, ?_⟩
 show EA _ _ _ _ _ _
 refine s_op (a_bin (by simp (disch := omega) only [Zu, Nat.reduceEqDiff, ↓reduceIte, Zd, reduceCtorEq, abin_lss, ne_eq, not_false_eq_true, Zs, Int.reduceToNat] <;> rfl)) rfl ?_
 refine s_as ?_
 refine s_end (fun s' hs' => ?_)
 have e2 := congrFun hs' 2
 simp only [Zu, Nat.reduceEqDiff, ↓reduceIte, newPtr, AMem.next_alloc] at e2
 clear hs'
 try clear e0
 refine o_norm ?_
 refine t_norm ?_
 refine at_ret rfl ?_
 refine bq_ret rfl (ars_cons (ar_tmp e2) ars_nil) ?_
 exact ⟨_, _, hK, Canon.forget rfl (fun _ _ => rfl)⟩
def sp91 : ASpec := spC 4
theorem f91_ok : Sound Try.prog 91 sp91 := by
 refine Sound.of_awp (c := bodyOf Try.f91) Try.func91 rfl rfl rfl ?_
 rintro args M K ⟨l, rfl, hll, hpre, hK⟩
 refine ⟨Nat.le_of_ble_eq_true rfl, ?_⟩
 have hS := SC_ok
 have e0 : entry [asString l] 0 = asString l := rfl
 obtain ⟨z0, z1⟩ := byteAt_bound l 0
 have p0 : ¬ (l.length : Int) < 20 := of_decide_eq_false (hpre 0 (by omega))
 have p1 : byteAt l 0 / 16 = 4 ∧ ¬ (4 * (byteAt l 0 % 16) < 20) := by have := hpre 1 (by omega); simp only [chk, Bool.or_eq_false_iff, Zh] at this; exact this
 have p2 : ¬ ((l.length : Int) < 4 * (byteAt l 0 % 16)) := of_decide_eq_false (hpre 2 (by omega))
 obtain ⟨a0, a1⟩ := numF_bound (part l 2 4) (part_length (by omega))
 simp only [chk] at hK
 refine at_seq rfl ?_
 refine at_region hS rfl (by kernel_rfl) ?_
 refine s_op (a_as (by simp only [ev_const] <;> rfl)) rfl ?_
 refine s_end (fun s' hs' => ?_)
 replace e0 := kp 0 hs' e0
 clear hs'
 refine o_norm ?_
 refine t_norm ?_
 refine at_seq rfl ?_
 refine at_region hS rfl (by kernel_rfl) ?_
 refine s_op (a_mv e0) rfl ?_
 refine s_op (a_len (by simp (disch := omega) only [Zu, Nat.reduceEqDiff, ↓reduceIte, alen_str, Zs, Int.reduceToNat, hlenS, newPtr, AMem.next_alloc] <;> rfl)) rfl ?_
 refine s_op (a_mv e0) rfl ?_
 refine s_call (by simp only [Zu, Nat.reduceEqDiff, ↓reduceIte, Zs, Int.reduceToNat, hlenS, newPtr, AMem.next_alloc] <;> rfl) (by simp only [Zu, Nat.reduceEqDiff, ↓reduceIte, Zm, Zs, Int.reduceToNat, hlenS, newPtr, AMem.next_alloc] <;> rfl) ?_
 rw [SC_73]; refine ⟨_, rfl, hll, by omega, ?_⟩
 show EA _ _ _ _ _ _
 refine s_op (a_bin (by simp (disch := omega) only [Zu, Nat.reduceEqDiff, ↓reduceIte, Zd, reduceCtorEq, abin_lss, ne_eq, not_false_eq_true, Zs, Int.reduceToNat] <;> rfl)) rfl ?_
 refine s_as ?_
 refine s_end (fun s' hs' => ?_)
 have e2 := congrFun hs' 2
 simp only [Zu, Nat.reduceEqDiff, ↓reduceIte, newPtr, AMem.next_alloc] at e2
 clear hs'
 try clear e0
 refine o_norm ?_
 refine t_norm ?_
 refine at_ret rfl ?_
 refine bq_ret rfl (ars_cons (ar_tmp e2) ars_nil) ?_
 exact ⟨_, _, hK, Canon.forget rfl (fun _ _ => rfl)⟩
def sp92 : ASpec := spC 5
theorem f92_ok : Sound Try.prog 92 sp92 := by
 refine Sound.of_awp (c := bodyOf Try.f92) Try.func92 rfl rfl rfl ?_
 rintro args M K ⟨l, rfl, hll, hpre, hK⟩
 refine ⟨Nat.le_of_ble_eq_true rfl, ?_⟩
 have hS := SC_ok
 have e0 : entry [asString l] 0 = asString l := rfl
 obtain ⟨z0, z1⟩ := byteAt_bound l 0
 have p0 : ¬ (l.length : Int) < 20 := of_decide_eq_false (hpre 0 (by omega))
 have p1 : byteAt l 0 / 16 = 4 ∧ ¬ (4 * (byteAt l 0 % 16) < 20) := by have := hpre 1 (by omega); simp only [chk, Bool.or_eq_false_iff, Zh] at this; exact this
 have p2 : ¬ ((l.length : Int) < 4 * (byteAt l 0 % 16)) := of_decide_eq_false (hpre 2 (by omega))
 obtain ⟨a0, a1⟩ := numF_bound (part l 2 4) (part_length (by omega))
 simp only [chk] at hK
 refine at_seq rfl ?_
 refine at_region hS rfl (by kernel_rfl) ?_
 refine s_op (a_as (by simp only [ev_const] <;> rfl)) rfl ?_
 refine s_end (fun s' hs' => ?_)
 replace e0 := kp 0 hs' e0
 clear hs'
 refine o_norm ?_
 refine t_norm ?_
 refine at_seq rfl ?_
 refine at_region hS rfl (by kernel_rfl) ?_
 refine s_op (a_mv e0) rfl ?_
 refine s_op (a_index (by simp (disch := omega) only [Zu, Nat.reduceEqDiff, ↓reduceIte, Zs, Int.reduceToNat, shr8_7'] <;> rfl)) rfl ?_
 refine s_op (a_bin (by simp (disch := omega) only [Zu, Nat.reduceEqDiff, ↓reduceIte, Zd, reduceCtorEq, shr_8, shr_16, shr_4, shr8_4, shr8_7, ne_eq, not_false_eq_true, Zs, Int.reduceToNat, shr8_7'] <;> rfl)) rfl ?_
 refine s_op (a_bin (by simp (disch := omega) only [Zu, Nat.reduceEqDiff, ↓reduceIte, Zd, reduceCtorEq, abin_eql, abin_aeql, ne_eq, not_false_eq_true, Zs, Int.reduceToNat, shr8_7'] <;> rfl)) rfl ?_
 refine s_as ?_
 refine s_end (fun s' hs' => ?_)
 have e2 := congrFun hs' 2
 simp only [Zu, Nat.reduceEqDiff, ↓reduceIte, newPtr, AMem.next_alloc] at e2
 clear hs'
 try clear e0
 refine o_norm ?_
 refine t_norm ?_
 refine at_ret rfl ?_
 refine bq_ret rfl (ars_cons (ar_tmp e2) ars_nil) ?_
 exact ⟨_, _, hK, Canon.forget rfl (fun _ _ => rfl)⟩
def sp93 : ASpec := spC 6
theorem f93_ok : Sound Try.prog 93 sp93 := by
 refine Sound.of_awp (c := bodyOf Try.f93) Try.func93 rfl rfl rfl ?_
 rintro args M K ⟨l, rfl, hll, hpre, hK⟩
 refine ⟨Nat.le_of_ble_eq_true rfl, ?_⟩
 have hS := SC_ok
 have e0 : entry [asString l] 0 = asString l := rfl
 obtain ⟨z0, z1⟩ := byteAt_bound l 0
 have p0 : ¬ (l.length : Int) < 20 := of_decide_eq_false (hpre 0 (by omega))
 have p1 : byteAt l 0 / 16 = 4 ∧ ¬ (4 * (byteAt l 0 % 16) < 20) := by have := hpre 1 (by omega); simp only [chk, Bool.or_eq_false_iff, Zh] at this; exact this
 have p2 : ¬ ((l.length : Int) < 4 * (byteAt l 0 % 16)) := of_decide_eq_false (hpre 2 (by omega))
 obtain ⟨a0, a1⟩ := numF_bound (part l 2 4) (part_length (by omega))
 obtain ⟨w0, w1⟩ := byteAt_bound l 6
 simp only [chk] at hK
 refine at_seq rfl ?_
 refine at_region hS rfl (by kernel_rfl) ?_
 refine s_op (a_as (by simp only [ev_const] <;> rfl)) rfl ?_
 refine s_end (fun s' hs' => ?_)
 replace e0 := kp 0 hs' e0
 clear hs'
 refine o_norm ?_
 refine t_norm ?_
 refine at_seq rfl ?_
 refine at_region hS rfl (by kernel_rfl) ?_
 refine s_op (a_mv e0) rfl ?_
 refine s_call (by simp only [Zu, Nat.reduceEqDiff, ↓reduceIte, Zs, Int.reduceToNat, hlenS, newPtr, AMem.next_alloc] <;> rfl) (by simp only [Zu, Nat.reduceEqDiff, ↓reduceIte, Zm, Zs, Int.reduceToNat, hlenS, newPtr, AMem.next_alloc] <;> rfl) ?_
 rw [SC_73]; refine ⟨_, rfl, hll, by omega, ?_⟩
 show EA _ _ _ _ _ _
 refine s_op (a_mv e0) rfl ?_
 refine s_call (by simp only [Zu, Nat.reduceEqDiff, ↓reduceIte, Zs, Int.reduceToNat, hlenS, newPtr, AMem.next_alloc] <;> rfl) (by simp only [Zu, Nat.reduceEqDiff, ↓reduceIte, Zm, Zs, Int.reduceToNat, hlenS, newPtr, AMem.next_alloc] <;> rfl) ?_
 rw [SC_72]; refine ⟨_, rfl, hll, by omega, ?_⟩
 show EA _ _ _ _ _ _
 refine s_op (a_bin (by simp (disch := omega) only [Zu, Nat.reduceEqDiff, ↓reduceIte, Zd, reduceCtorEq, abin_sub, wrap_i64, wrap_u32, wrap_u8, wrap_u64, wrap_i32, wrap_u16, ne_eq, not_false_eq_true, Zs, Int.reduceToNat] <;> rfl)) rfl ?_
 refine s_op (a_bin (by simp (disch := omega) only [Zu, Nat.reduceEqDiff, ↓reduceIte, Zd, reduceCtorEq, abin_gtr, ne_eq, not_false_eq_true, Zs, Int.reduceToNat] <;> rfl)) rfl ?_
 refine s_as ?_
 refine s_end (fun s' hs' => ?_)
 have e2 := congrFun hs' 2
 simp only [Zu, Nat.reduceEqDiff, ↓reduceIte, newPtr, AMem.next_alloc] at e2
 clear hs'
 try clear e0
 refine o_norm ?_
 refine t_norm ?_
 refine at_ret rfl ?_
 refine bq_ret rfl (ars_cons (ar_tmp e2) ars_nil) ?_
 exact ⟨_, _, hK, Canon.forget rfl (fun _ _ => rfl)⟩
def sp94 : ASpec := spC 7
theorem f94_ok : Sound Try.prog 94 sp94 := by
 refine Sound.of_awp (c := bodyOf Try.f94) Try.func94 rfl rfl rfl ?_
 rintro args M K ⟨l, rfl, hll, hpre, hK⟩
 refine ⟨Nat.le_of_ble_eq_true rfl, ?_⟩
 have hS := SC_ok
 have e0 : entry [asString l] 0 = asString l := rfl
 obtain ⟨z0, z1⟩ := byteAt_bound l 0
 have p0 : ¬ (l.length : Int) < 20 := of_decide_eq_false (hpre 0 (by omega))
 have p1 : byteAt l 0 / 16 = 4 ∧ ¬ (4 * (byteAt l 0 % 16) < 20) := by have := hpre 1 (by omega); simp only [chk, Bool.or_eq_false_iff, Zh] at this; exact this
 have p2 : ¬ ((l.length : Int) < 4 * (byteAt l 0 % 16)) := of_decide_eq_false (hpre 2 (by omega))
 obtain ⟨a0, a1⟩ := numF_bound (part l 2 4) (part_length (by omega))
 obtain ⟨w0, w1⟩ := byteAt_bound l 6
 simp only [chk] at hK
 refine at_seq rfl ?_
 refine at_region hS rfl (by kernel_rfl) ?_
 refine s_op (a_as (by simp only [ev_const] <;> rfl)) rfl ?_
 refine s_end (fun s' hs' => ?_)
 replace e0 := kp 0 hs' e0
 clear hs'
 refine o_norm ?_
 refine t_norm ?_
 refine at_seq rfl ?_
 refine at_region hS rfl (by kernel_rfl) ?_
 refine s_op (a_mv e0) rfl ?_
 refine s_op (a_mv e0) rfl ?_
 refine s_call (by simp only [Zu, Nat.reduceEqDiff, ↓reduceIte, Zs, Int.reduceToNat, hlenS, newPtr, AMem.next_alloc] <;> rfl) (by simp only [Zu, Nat.reduceEqDiff, ↓reduceIte, Zm, Zs, Int.reduceToNat, hlenS, newPtr, AMem.next_alloc] <;> rfl) ?_
 rw [SC_72]; refine ⟨_, rfl, hll, by omega, ?_⟩
 show EA _ _ _ _ _ _
 refine s_op (a_slice (by simp (disch := omega) only [Zu, Nat.reduceEqDiff, ↓reduceIte, Zs, Int.reduceToNat] <;> rfl)) rfl ?_
 refine s_op (a_bslice (by simp only [Zu, Nat.reduceEqDiff, ↓reduceIte, Zm, Array.toList, Zs, Int.reduceToNat, newPtr, AMem.next_alloc]; exact abuildSlice_all [_] rfl rfl rfl rfl rfl (by decide) (by decide) rfl (by simp only [List.mem_cons, List.not_mem_nil, or_false, forall_eq_or_imp, forall_eq]; repeat' (first | rfl | apply And.intro)))) rfl ?_
 refine s_call (by simp only [Zu, Nat.reduceEqDiff, ↓reduceIte, Zs, Int.reduceToNat, hlenS, newPtr, AMem.next_alloc] <;> rfl) (by simp only [Zu, Nat.reduceEqDiff, ↓reduceIte, Zm, Zs, Int.reduceToNat, hlenS, newPtr, AMem.next_alloc] <;> rfl) ?_
 rw [SC_95]; refine ⟨_, [part l 0 (4 * (byteAt l 0 % 16)).toNat], rfl, ⟨rfl, .inr ⟨_, 0, _, _, rfl, by simp, get_new, Nat.le_refl _, rfl⟩⟩, ⟨by simp [part_length (show (4 * (byteAt l 0 % 16)).toNat ≤ l.length by omega)]; omega, by simp⟩, ?_⟩
 show EA _ _ _ _ _ _
 refine s_op (a_bin (by simp (disch := omega) only [Zu, Nat.reduceEqDiff, ↓reduceIte, Zd, reduceCtorEq, abin_neq, abin_aneq, ne_eq, not_false_eq_true, Zs, Int.reduceToNat] <;> rfl)) rfl ?_
 refine s_as ?_
 refine s_end (fun s' hs' => ?_)
 have e2 := congrFun hs' 2
 simp only [Zu, Nat.reduceEqDiff, ↓reduceIte, newPtr, AMem.next_alloc] at e2
 clear hs'
 try clear e0
 refine o_norm ?_
 refine q_mem (fun M1 hEM1 => ?_)
 have hnM1 := congrArg AMem.next hEM1; simp only [Zn, Nat.add_assoc, Nat.reduceAdd] at hnM1
 have hnxM1 : M.next ≤ M1.next := by have := (Nat.le_refl M.next); omega
 have holdM1 : ∀ j, j < M.next → M1.get j = M.get j := fun j hj => by have := (Nat.le_refl M.next); rw [hEM1]; simp (disch := first | (refine Zx ?_; simp only [Zn]; done) | ((try simp only [Zn]); omega)) only [Zg]; done
 have gM1_0 := congrArg (fun m => AMem.get m M.next) hEM1; try simp (disch := first | (refine Zx ?_; simp only [Zn]; done) | ((try simp only [Zn]); omega)) only [Zg, Nat.add_assoc, Nat.reduceAdd] at gM1_0
 clear hEM1
 refine t_norm ?_
 refine at_ret rfl ?_
 rw [show [part l 0 (4 * (byteAt l 0 % 16)).toNat].flatten = part l 0 (4 * (byteAt l 0 % 16)).toNat from by simp] at e2
 refine bq_ret rfl (ars_cons (ar_tmp e2) ars_nil) ?_
 exact ⟨_, _, hK, Canon.forget rfl holdM1⟩
end Go.Proofs.Ytdkdkpiemigfkaa
set_option linter.unusedVariables false
set_option linter.unusedSimpArgs false
set_option maxRecDepth 8000
namespace Go.Proofs.Ytdkdkpiemigfkaa
open Go Go.Proofs
def chkE (j : Nat) : Int := ([2, 3, 2, 3, 2, 3, 5, 4] : List Int).getD j 0
def chkFn (f : Nat) : Value := .func (.func f) #[] #[]
def chkCells : List Value := [chkFn 87, .int .i64 2, chkFn 88, .int .i64 3, chkFn 89, .int .i64 2, chkFn 90, .int .i64 3, chkFn 91, .int .i64 2, chkFn 92, .int .i64 3, chkFn 93, .int .i64 5, chkFn 94, .int .i64 4]
def sp71 : ASpec := fun args M K => args = [] ∧ K (.ret (.slice (some ⟨M.next, 0, none⟩) 8 2)) (M.alloc (.cells chkCells true))
theorem bd119 (f : Nat) (e : Int) : abuild Try.prog 119 [(0, .func (.func f) #[] #[]), (1, .int .i64 e)] = some [.func (.func f) #[] #[], .int .i64 e] :=
  abuild_all (i := _) (z := _) [1, 1] [.func (.func f) #[] #[], .int .i64 e] Try.underlying119 (by rfl) rfl (by kernel_rfl) (by kernel_rfl) (by kernel_rfl) rfl
theorem f71_ok : Sound Try.prog 71 sp71 := by
 refine Sound.of_awp (c := bodyOf Try.f71) Try.func71 rfl rfl rfl ?_
 rintro args M K ⟨rfl, hK⟩
 refine ⟨Nat.le_of_ble_eq_true rfl, ?_⟩
 have hS := noS_ok Try.prog
 refine at_seq rfl ?_
 refine at_region hS rfl (by kernel_rfl) ?_
 refine s_op (a_as (by simp only [ev_const] <;> rfl)) rfl ?_
 refine s_end (fun s' hs' => ?_)
 clear hs'
 refine o_norm ?_
 refine t_norm ?_
 refine at_seq rfl ?_
 refine at_region hS rfl (by kernel_rfl) ?_
 refine s_op (a_build (by simp only [Zu, Zm, Array.toList, bd119, newPtr, AMem.next_alloc] <;> rfl)) rfl ?_
 refine s_op (a_build (by simp only [Zu, Zm, Array.toList, bd119, newPtr, AMem.next_alloc] <;> rfl)) rfl ?_
 refine s_op (a_build (by simp only [Zu, Zm, Array.toList, bd119, newPtr, AMem.next_alloc] <;> rfl)) rfl ?_
 refine s_op (a_build (by simp only [Zu, Zm, Array.toList, bd119, newPtr, AMem.next_alloc] <;> rfl)) rfl ?_
 refine s_op (a_build (by simp only [Zu, Zm, Array.toList, bd119, newPtr, AMem.next_alloc] <;> rfl)) rfl ?_
 refine s_op (a_build (by simp only [Zu, Zm, Array.toList, bd119, newPtr, AMem.next_alloc] <;> rfl)) rfl ?_
 refine s_op (a_build (by simp only [Zu, Zm, Array.toList, bd119, newPtr, AMem.next_alloc] <;> rfl)) rfl ?_
 refine s_op (a_build (by simp only [Zu, Zm, Array.toList, bd119, newPtr, AMem.next_alloc] <;> rfl)) rfl ?_
 refine s_op (a_bslice (by simp only [Zu, Nat.reduceEqDiff, ↓reduceIte, Zm, Array.toList, bd119, newPtr, AMem.next_alloc]; exact abuildSlice_all [_, _, _, _, _, _, _, _] rfl rfl rfl rfl rfl (by decide) (by decide) rfl (by simp only [List.mem_cons, List.not_mem_nil, or_false, forall_eq_or_imp, forall_eq]; repeat' (first | rfl | apply And.intro)))) rfl ?_
 refine s_as ?_
 refine s_end (fun s' hs' => ?_)
 have e0 := congrFun hs' 0
 simp only [Zu, Nat.reduceEqDiff, ↓reduceIte, newPtr, AMem.next_alloc] at e0
 clear hs'
 refine o_norm ?_
 refine t_norm ?_
 refine at_ret rfl ?_
 refine bq_ret rfl (ars_cons (ar_tmp e0) ars_nil) ?_
 exact ⟨_, _, hK, Canon.refl (by simp)⟩
theorem ld117 (cs : List Value) (off : Nat) : aload Try.prog 117 cs off = cs[off]? := aload_one Try.underlying117 rfl rfl cs off
theorem z119 : azero Try.prog 119 = some [.nilFunc, .int .i64 0] := by kernel_rfl
theorem st119 (f : Nat) (e : Int) : astore Try.prog 119 [.nilFunc, .int .i64 0] 0 (.agg #[.func (.func f) #[] #[], .int .i64 e]) = some [.func (.func f) #[] #[], .int .i64 e] := astore_whole (i := _) (vs := [.func (.func f) #[] #[], .int .i64 e]) (by rfl) rfl rfl rfl
theorem fa119_0 (id off : Nat) : afieldAddr Try.prog 119 (.pointer (some ⟨id, off, none⟩)) 0 = some (.pointer (some ⟨id, off, none⟩)) := by kernel_rfl
theorem fa119_1 (id off : Nat) : afieldAddr Try.prog 119 (.pointer (some ⟨id, off, none⟩)) 1 = some (.pointer (some ⟨id, off + 1, none⟩)) := by kernel_rfl
theorem aia_119 {id off len : Nat} {j : Int} {k : IntKind} (h0 : 0 ≤ j) (h1 : j < len) : aindexAddr Try.prog 115 (.slice (some ⟨id, off, none⟩) len 2) (.int k j) = some (.pointer (some ⟨id, off + j.toNat * 2, none⟩)) := by
  have hi : ∃ i, Try.prog.info? 119 = some i ∧ i.size = 2 := ⟨_, rfl, rfl⟩
  obtain ⟨i, hi1, hi2⟩ := hi
  simp only [aindexAddr, Try.underlying115, hi1, hi2, h0, h1, and_self, if_true]
theorem chk_ld' {off : Nat} (h : off + 2 ≤ chkCells.length) : aload Try.prog 119 chkCells off = some (.agg ((chkCells.drop off).take 2).toArray) := aload_agg (i := _) Try.underlying119 (by rfl) rfl rfl h
theorem chk_ld : ∀ j : Nat, j < 8 → aload Try.prog 119 chkCells (j * 2) = some (.agg #[.func (.func (87 + j)) #[] #[], .int .i64 (chkE j)]) := by
  intro j hj
  rcases (by omega : j = 0 ∨ j = 1 ∨ j = 2 ∨ j = 3 ∨ j = 4 ∨ j = 5 ∨ j = 6 ∨ j = 7) with h | h | h | h | h | h | h | h <;> subst h <;>
    (rw [chk_ld' (by decide)]; rfl)
noncomputable def S57t (f : Nat) : ASpec := if 87 ≤ f ∧ f < 95 then spC (f - 87) else tab [(70, sp70), (71, sp71), (72, sp72), (73, sp73)] f
noncomputable def S57 : FuncId → ASpec := S57t
theorem S57_70 : S57 70 = sp70 := rfl
theorem S57_71 : S57 71 = sp71 := rfl
theorem S57_72 : S57 72 = sp72 := rfl
theorem S57_73 : S57 73 = sp73 := rfl
theorem S57_c {j : Nat} (h : j < 8) : S57 (87 + j) = spC j := by
  show S57t (87 + j) = _
  unfold S57t
  rw [if_pos ⟨by omega, by omega⟩, show 87 + j - 87 = j from by omega]
theorem S57_ok : ∀ f, Sound Try.prog f (S57 f) := by
  intro (f : Nat)
  show Sound Try.prog f (S57t f)
  unfold S57t
  split
  · rename_i h
    rcases (by omega : f = 87 ∨ f = 88 ∨ f = 89 ∨ f = 90 ∨ f = 91 ∨ f = 92 ∨ f = 93 ∨ f = 94) with h | h | h | h | h | h | h | h <;> subst h
    · exact f87_ok
    · exact f88_ok
    · exact f89_ok
    · exact f90_ok
    · exact f91_ok
    · exact f92_ok
    · exact f93_ok
    · exact f94_ok
  · exact tab_sound _ (by simp [f70_ok, f71_ok, f72_ok, f73_ok]) f
theorem numF_two (l : List UInt8) (h : 8 ≤ l.length) : numF (part l 6 8) = byteAt l 6 * 256 + byteAt l 7 := by
  have e : part l 6 8 = [l.getD 6 0, l.getD 7 0] := by
    unfold part
    have h6 : l.drop 6 = l[6] :: l[7] :: l.drop 8 := by rw [List.drop_eq_getElem_cons (by omega), List.drop_eq_getElem_cons (by omega)]
    rw [h6, show l.getD 6 0 = l[6] from by simp [show 6 < l.length from by omega], show l.getD 7 0 = l[7] from by simp [show 7 < l.length from by omega]]
    rfl
  rw [e]
  unfold numF byteAt
  simp [numGo]
theorem ipGetF_hit {l : List UInt8} {j : Nat} (hj : j < 8) (hpre : ∀ i, i < j → chk i l = false) (h : chk j l = true) : ipGetF l = (ip0, [], chkE j) := by
  have c : ∀ i, i < j → chk i l = false := hpre
  have hp0 : part l 0 (4 * (byteAt l 0 % 16)).toNat = l.take (4 * (byteAt l 0 % 16)).toNat := by simp [part]
  have d5 : 8 ≤ l.length → (32768 ≤ numF (part l 6 8) ↔ byteAt l 6 / 128 = 1) := by
    intro h8
    rw [numF_two l h8]
    have := byteAt_bound l 6; have := byteAt_bound l 7
    omega
  rcases (by omega : j = 0 ∨ j = 1 ∨ j = 2 ∨ j = 3 ∨ j = 4 ∨ j = 5 ∨ j = 6 ∨ j = 7) with h' | h' | h' | h' | h' | h' | h' | h' <;> subst h'
  all_goals (try have c0 := c 0 (by omega)); (try have c1 := c 1 (by omega)); (try have c2 := c 2 (by omega)); (try have c3 := c 3 (by omega)); (try have c4 := c 4 (by omega)); (try have c5 := c 5 (by omega)); (try have c6 := c 6 (by omega))
  all_goals clear c hpre
  all_goals simp only [chk, Bool.or_eq_false_iff, Bool.or_eq_true, Zh] at *
  all_goals unfold ipGetF
  · rw [if_pos (by omega)]; rfl
  · rw [if_neg (by omega), if_pos (by omega)]; rfl
  · rw [if_neg (by omega), if_neg (by omega), if_pos (by omega)]; rfl
  · rw [if_neg (by omega), if_neg (by omega), if_neg (by omega), if_pos (by omega)]; rfl
  · rw [if_neg (by omega), if_neg (by omega), if_neg (by omega), if_neg (by omega), if_pos (by omega)]; rfl
  · have := d5 (by omega)
    rw [if_neg (by omega), if_neg (by omega), if_neg (by omega), if_neg (by omega), if_neg (by omega), if_pos (by omega)]; rfl
  · have := d5 (by omega)
    rw [if_neg (by omega), if_neg (by omega), if_neg (by omega), if_neg (by omega), if_neg (by omega), if_neg (by omega), if_pos (by omega)]; rfl
  · have := d5 (by omega)
    rw [if_neg (by omega), if_neg (by omega), if_neg (by omega), if_neg (by omega), if_neg (by omega), if_neg (by omega), if_neg (by omega), if_pos (by rw [← hp0]; exact h)]; rfl
theorem ipGetF_all {l : List UInt8} (c : ∀ i, i < 8 → chk i l = false) : (20 ≤ l.length ∧ 20 ≤ 4 * (byteAt l 0 % 16) ∧ 4 * (byteAt l 0 % 16) ≤ l.length ∧ 4 * (byteAt l 0 % 16) ≤ numF (part l 2 4) ∧ numF (part l 2 4) ≤ l.length) ∧
    ipGetF l = (ipHead l, part l (4 * (byteAt l 0 % 16)).toNat (numF (part l 2 4)).toNat, 0) := by
  have hp0 : part l 0 (4 * (byteAt l 0 % 16)).toNat = l.take (4 * (byteAt l 0 % 16)).toNat := by simp [part]
  have d5 : 8 ≤ l.length → (32768 ≤ numF (part l 6 8) ↔ byteAt l 6 / 128 = 1) := by
    intro h8
    rw [numF_two l h8]
    have := byteAt_bound l 6; have := byteAt_bound l 7
    omega
  have c0 := c 0 (by omega)
  have c1 := c 1 (by omega)
  have c2 := c 2 (by omega)
  have c3 := c 3 (by omega)
  have c4 := c 4 (by omega)
  have c5 := c 5 (by omega)
  have c6 := c 6 (by omega)
  have c7 := c 7 (by omega)
  clear c
  simp only [chk, Bool.or_eq_false_iff, Bool.or_eq_true, Zh] at *
  have := d5 (by omega)
  refine ⟨by omega, ?_⟩
  unfold ipGetF
  rw [if_neg (by omega), if_neg (by omega), if_neg (by omega), if_neg (by omega), if_neg (by omega), if_neg (by omega), if_neg (by omega), if_neg (by rw [← hp0]; simp [c7])]
def sp57 : ASpec := fun args M K => ∃ l : List UInt8, args = [asString l] ∧ l.length ≤ 1000000000 ∧ K (.ret (retIP (ipGetF l))) M
set_option maxHeartbeats 2000000 in
theorem f57_ok : Sound Try.prog 57 sp57 := by
 refine Sound.of_awp (c := bodyOf Try.f57) Try.func57 rfl rfl rfl ?_
 rintro args M K ⟨l, rfl, hll, hK⟩
 refine ⟨Nat.le_of_ble_eq_true rfl, ?_⟩
 have hS := S57_ok
 have e0 : entry [asString l] 0 = asString l := rfl
 have hz : azero Try.prog 64 = some ip0.cells := z64
 have hb : abuild Try.prog 64 [] = some ip0.cells := b64
 have hst : ∀ h : IPh, astore Try.prog 64 ip0.cells 0 (.agg h.cells.toArray) = some h.cells := fun h => st64 _ _
 have hlen115 : ∀ (M : AMem) (a : Addr) (n e : Nat), alen Try.prog M 115 (.slice (some a) n e) = some (.int .i64 n) := fun M a n e => alen_slice Try.underlying115
 refine at_seq rfl ?_
 refine at_region hS rfl (by kernel_rfl) ?_
 refine s_op (a_alloc hz) rfl ?_
 refine s_op (a_as (by simp only [ev_const] <;> rfl)) rfl ?_
 refine s_op (a_as (by simp only [ev_const] <;> rfl)) rfl ?_
 refine s_end (fun s' hs' => ?_)
 replace e0 := kp 0 hs' e0
 have e2 := congrFun hs' 2
 simp only [Zu, Nat.reduceEqDiff, ↓reduceIte, newPtr, AMem.next_alloc] at e2
 clear hs'
 refine o_norm ?_
 refine q_mem (fun M1 hEM1 => ?_)
 have hnM1 := congrArg AMem.next hEM1; simp only [Zn, Nat.add_assoc, Nat.reduceAdd] at hnM1
 have hnxM1 : M.next ≤ M1.next := by have := (Nat.le_refl M.next); omega
 have holdM1 : ∀ j, j < M.next → M1.get j = M.get j := fun j hj => by have := (Nat.le_refl M.next); rw [hEM1]; simp (disch := first | (refine Zx ?_; simp only [Zn]; done) | ((try simp only [Zn]); omega)) only [Zg]; done
 have gM1_0 := congrArg (fun m => AMem.get m M.next) hEM1; try simp (disch := first | (refine Zx ?_; simp only [Zn]; done) | ((try simp only [Zn]); omega)) only [Zg, Nat.add_assoc, Nat.reduceAdd] at gM1_0
 clear hEM1
 refine t_norm ?_
 refine at_seq rfl ?_
 refine at_seq rfl ?_
 refine at_region hS rfl (by kernel_rfl) ?_
 refine s_call (by simp only [ev_func, hlen115, newPtr, AMem.next_alloc, gM1_0] <;> rfl) (by simp only [ev_func, Zm, hlen115, newPtr, AMem.next_alloc, gM1_0] <;> rfl) ?_
 rw [S57_71]; refine ⟨rfl, ?_⟩
 show EA _ _ _ _ _ _
 refine s_op (a_len (by simp (disch := omega) only [Zu, Nat.reduceEqDiff, ↓reduceIte, alen_str, hlen115, newPtr, AMem.next_alloc, gM1_0] <;> rfl)) rfl ?_
 refine s_op (a_mv (by simp only [ev_const] <;> rfl)) rfl ?_
 refine s_end (fun s' hs' => ?_)
 replace e0 := kp 0 hs' e0
 replace e2 := kp 2 hs' e2
 have e9 := congrFun hs' 9
 have e10 := congrFun hs' 10
 have e11 := congrFun hs' 11
 simp only [Zu, Nat.reduceEqDiff, ↓reduceIte, newPtr, AMem.next_alloc] at e9 e10 e11
 clear hs'
 refine o_norm ?_
 refine q_mem (fun M2 hEM2 => ?_)
 have hnM2 := congrArg AMem.next hEM2; simp only [Zn, Nat.add_assoc, Nat.reduceAdd] at hnM2
 have hnxM2 : M.next ≤ M2.next := by have := hnxM1; omega
 have holdM2 : ∀ j, j < M.next → M2.get j = M.get j := fun j hj => by have := hnxM1; rw [hEM2]; simp (disch := first | (refine Zx ?_; simp only [Zn]; done) | ((try simp only [Zn]); omega)) only [Zg]; exact holdM1 j hj
 have gM2_0 := congrArg (fun m => AMem.get m M.next) hEM2; try simp (disch := first | (refine Zx ?_; simp only [Zn]; done) | ((try simp only [Zn]); omega)) only [Zg, Nat.add_assoc, Nat.reduceAdd, gM1_0] at gM2_0
 have gM2_1 := congrArg (fun m => AMem.get m M1.next) hEM2; try simp (disch := first | (refine Zx ?_; simp only [Zn]; done) | ((try simp only [Zn]); omega)) only [Zg, Nat.add_assoc, Nat.reduceAdd, gM1_0] at gM2_1
 clear hEM2
 refine t_norm ?_
 refine at_block rfl ?_
 refine at_loop rfl (fun km s ML ds => ∃ (j : Nat), s 0 = asString l ∧ s 2 = .pointer (some ⟨M.next, 0, none⟩) ∧ s 9 = .slice (some ⟨M1.next, 0, none⟩) 8 2 ∧ s 10 = .int .i64 8 ∧ s 11 = .int .i64 j ∧ j ≤ 8 ∧ (∀ i, i < j → chk i l = false) ∧ ML.get M.next = .cells ip0.cells true ∧ ML.get M1.next = .cells chkCells true ∧ km = 8 - j ∧ M.next ≤ ML.next ∧ M2.next ≤ ML.next ∧ (∀ j, j < M.next → ML.get j = M.get j) ∧ ds = []) (8 - (0)) ⟨0, (by first | exact e0 | (rw [e0]; rfl) | (simpa using e0)), (by first | exact e2 | (rw [e2]; rfl) | (simpa using e2)), (by first | exact e9 | (rw [e9]; rfl) | (simpa using e9)), (by first | exact e10 | (rw [e10]; rfl) | (simpa using e10)), (by first | exact e11 | (rw [e11]; rfl) | (simpa using e11)), (by omega), (by intro i hi; omega), gM2_0, gM2_1, rfl, hnxM2, by omega, holdM2, rfl⟩ ?_
 clear e0 e2 e9 e10 e11
 rintro km s M3 ds ⟨j, e0, e2, e9, e10, e11, hj, hpre, g0, g1, hk, hnxM3, hngM3, holdM3, rfl⟩
 refine at_seq rfl ?_
 refine at_region hS rfl (by kernel_rfl) ?_
 refine s_op (a_bin (by simp (disch := omega) only [Zu, Nat.reduceEqDiff, ↓reduceIte, Zd, reduceCtorEq, abin_lss, ne_eq, not_false_eq_true, g0, g1, e10, e11] <;> rfl)) rfl ?_
 refine s_end (fun s' hs' => ?_)
 replace e0 := kp 0 hs' e0
 replace e2 := kp 2 hs' e2
 replace e9 := kp 9 hs' e9
 replace e10 := kp 10 hs' e10
 replace e11 := kp 11 hs' e11
 have e12 := congrFun hs' 12
 simp only [Zu, Nat.reduceEqDiff, ↓reduceIte, newPtr, AMem.next_alloc] at e12
 clear hs'
 refine o_norm ?_
 refine t_norm ?_
 refine at_seq rfl ?_
 refine at_cond rfl rfl e12 (fun h2 => ?_) (fun h2 => ?_)
 ·
  try simp only [Zh] at h2
  refine at_skip rfl ?_
  refine t_norm ?_
  refine at_seq rfl ?_
  refine at_block rfl ?_
  refine at_seq rfl ?_
  have hj8 : j < 8 := by omega
  have hld := chk_ld j hj8
  have hno : M1.next ≠ M.next := by omega
  refine at_region hS rfl (by kernel_rfl) ?_
  refine s_op (a_ia (by simp (disch := omega) only [Zu, Nat.reduceEqDiff, ↓reduceIte, aia_119, Int.toNat_natCast, Nat.zero_add, st119, newPtr, AMem.next_alloc, g0, g1, e9, e11] <;> rfl)) rfl ?_
  refine s_op (a_load (by simp only [Zu, Nat.reduceEqDiff, ↓reduceIte, aia_119, Nat.zero_add, hld, st119, newPtr, AMem.next_alloc, g0, g1] <;> rfl) (by simp (disch := first | (refine Zx ?_; simp only [Zn]; done) | ((try simp only [Zn]); omega)) only [Zg, aia_119, Nat.zero_add, hld, st119, newPtr, g0, g1] <;> rfl) (by simp only [aia_119, Nat.zero_add, hld, st119, newPtr, AMem.next_alloc, g0, g1] <;> rfl)) rfl ?_
  refine s_op (a_alloc z119) rfl ?_
  refine s_op (a_store (by simp only [Zu, Nat.reduceEqDiff, ↓reduceIte, aia_119, Nat.zero_add, st119, newPtr, AMem.next_alloc, g0, g1] <;> rfl) (by simp (disch := first | (refine Zx ?_; simp only [Zn]; done) | ((try simp only [Zn]); omega)) only [Zg, aia_119, Nat.zero_add, st119, newPtr, g0, g1] <;> rfl) (by simp only [Zu, Nat.reduceEqDiff, ↓reduceIte, aia_119, Nat.zero_add, st119, newPtr, AMem.next_alloc, g0, g1] <;> rfl) (by simp only [aia_119, Nat.zero_add, st119, newPtr, AMem.next_alloc, g0, g1] <;> rfl)) rfl ?_
  refine s_end (fun s' hs' => ?_)
  replace e0 := kp 0 hs' e0
  replace e2 := kp 2 hs' e2
  have e6 := congrFun hs' 6
  replace e9 := kp 9 hs' e9
  replace e10 := kp 10 hs' e10
  replace e11 := kp 11 hs' e11
  simp only [Zu, Nat.reduceEqDiff, ↓reduceIte, newPtr, AMem.next_alloc] at e6
  clear hs'
  refine o_norm ?_
  refine q_mem (fun M4 hEM4 => ?_)
  have hnM4 := congrArg AMem.next hEM4; simp only [Zn, Nat.add_assoc, Nat.reduceAdd] at hnM4
  have hnxM4 : M.next ≤ M4.next := by have := hnxM3; omega
  have holdM4 : ∀ j, j < M.next → M4.get j = M.get j := fun j hj => by have := hnxM3; rw [hEM4]; simp (disch := first | (refine Zx ?_; simp only [Zn]; done) | ((try simp only [Zn]); omega)) only [Zg]; exact holdM3 j hj
  have gM4_0 := congrArg (fun m => AMem.get m M.next) hEM4; try simp (disch := first | (refine Zx ?_; simp only [Zn]; done) | ((try simp only [Zn]); omega)) only [Zg, Nat.add_assoc, Nat.reduceAdd, g0, g1] at gM4_0
  have gM4_1 := congrArg (fun m => AMem.get m M1.next) hEM4; try simp (disch := first | (refine Zx ?_; simp only [Zn]; done) | ((try simp only [Zn]); omega)) only [Zg, Nat.add_assoc, Nat.reduceAdd, g0, g1] at gM4_1
  have gM4_2 := congrArg (fun m => AMem.get m M3.next) hEM4; try simp (disch := first | (refine Zx ?_; simp only [Zn]; done) | ((try simp only [Zn]); omega)) only [Zg, Nat.add_assoc, Nat.reduceAdd, g0, g1] at gM4_2
  clear hEM4
  refine t_norm ?_
  refine at_seq rfl ?_
  refine at_region hS rfl (by kernel_rfl) ?_
  refine s_op (a_fa (by simp only [Zu, Nat.reduceEqDiff, ↓reduceIte, fa119_0, Nat.zero_add, List.getElem?_cons_zero, newPtr, AMem.next_alloc, e6] <;> rfl)) rfl ?_
  refine s_op (a_load (by simp only [Zu, Nat.reduceEqDiff, ↓reduceIte, ld117, List.getElem?_cons_zero, newPtr, AMem.next_alloc, gM4_0, gM4_1, gM4_2] <;> rfl) (by simp (disch := first | (refine Zx ?_; simp only [Zn]; done) | ((try simp only [Zn]); omega)) only [Zg, ld117, List.getElem?_cons_zero, newPtr, gM4_0, gM4_1, gM4_2] <;> rfl) (by simp only [ld117, List.getElem?_cons_zero, newPtr, AMem.next_alloc, gM4_0, gM4_1, gM4_2] <;> rfl)) rfl ?_
  refine s_op (a_mv e0) rfl ?_
  refine s_call (by simp only [Zu, Nat.reduceEqDiff, ↓reduceIte, List.getElem?_cons_zero, newPtr, AMem.next_alloc, gM4_0, gM4_1, gM4_2] <;> rfl) (by simp only [Zu, Nat.reduceEqDiff, ↓reduceIte, Zm, List.getElem?_cons_zero, newPtr, AMem.next_alloc, gM4_0, gM4_1, gM4_2] <;> rfl) ?_
  rw [S57_c hj8]; refine ⟨l, rfl, hll, hpre, ?_⟩
  show EA _ _ _ _ _ _
  refine s_end (fun s' hs' => ?_)
  replace e0 := kp 0 hs' e0
  replace e2 := kp 2 hs' e2
  replace e6 := kp 6 hs' e6
  replace e9 := kp 9 hs' e9
  replace e10 := kp 10 hs' e10
  replace e11 := kp 11 hs' e11
  have e18 := congrFun hs' 18
  simp only [Zu, Nat.reduceEqDiff, ↓reduceIte, newPtr, AMem.next_alloc] at e18
  clear hs'
  refine o_norm ?_
  refine t_norm ?_
  refine at_cond rfl rfl e18 (fun h4 => ?_) (fun h4 => ?_)
  ·
   try simp only [Zh] at h4
   refine at_seq rfl ?_
   refine at_draw ⟨[[], [], [1], [0], [0, 3], [0, 1, 2, 3, 4]], [0, 1, 2], [(3, [4, 5])]⟩ hS rfl rfl (by kernel_rfl) (by kernel_rfl) ?_
   refine d_start ?_
   refine l_op rfl rfl (a_build (by simp only [Zm, Array.toList, hb, hst, newPtr, AMem.next_alloc] <;> rfl)) rfl ?_ rfl
   refine l_op rfl rfl (a_fa (by simp only [Zu, Nat.reduceEqDiff, ↓reduceIte, fa119_1, Nat.zero_add, hb, hst, newPtr, AMem.next_alloc, e6] <;> rfl)) rfl ?_ rfl
   refine l_op rfl rfl (a_load (by simp only [Zu, Nat.reduceEqDiff, ↓reduceIte, hb, ld29, hst, newPtr, AMem.next_alloc, gM4_0, gM4_1, gM4_2] <;> rfl) (by simp (disch := first | (refine Zx ?_; simp only [Zn]; done) | ((try simp only [Zn]); omega)) only [Zg, hb, ld29, hst, newPtr, gM4_0, gM4_1, gM4_2] <;> rfl) (by simp only [ld29, Zl, hb, hst, newPtr, AMem.next_alloc, gM4_0, gM4_1, gM4_2] <;> rfl)) rfl ?_ rfl
   refine l_nil ?_
   refine h_op ?_ rfl rfl rfl ?_
   · refine again_l rfl rfl (a_load (by simp only [Zu, Nat.reduceEqDiff, ↓reduceIte, hb, ld29, hst, newPtr, AMem.next_alloc, gM4_0, gM4_1, gM4_2] <;> rfl) (by simp (disch := first | (refine Zx ?_; simp only [Zn]; done) | ((try simp only [Zn]); omega)) only [Zg, hb, ld29, hst, newPtr, gM4_0, gM4_1, gM4_2] <;> rfl) (by simp only [ld29, Zl, hb, hst, newPtr, AMem.next_alloc, gM4_0, gM4_1, gM4_2] <;> rfl)) ?_
     refine again_r rfl ?_
     refine again_r rfl ?_
     exact again_nil
   refine s_op (a_store e2 (by simp (disch := first | (refine Zx ?_; simp only [Zn]; done) | ((try simp only [Zn]); omega)) only [Zg, hb, hst, newPtr, gM4_0, gM4_1, gM4_2, e2] <;> rfl) (by simp only [Zu, Nat.reduceEqDiff, ↓reduceIte, hb, hst, newPtr, AMem.next_alloc, gM4_0, gM4_1, gM4_2, e2] <;> rfl) (by simp only [hb, hst, newPtr, AMem.next_alloc, gM4_0, gM4_1, gM4_2, e2] <;> rfl)) rfl ?_
   refine s_end (fun s' hs' => ?_); subst hs'
   refine l_op rfl rfl (a_as (by simp only [ev_const] <;> rfl)) rfl ?_ rfl
   refine l_op rfl rfl (a_as (by simp only [Zu, Nat.reduceEqDiff, ↓reduceIte] <;> rfl)) rfl ?_ rfl
   refine l_nil ?_
   refine h_end ?_ (fun s' hs' => ?_)
   · refine again_r rfl ?_
     refine again_r rfl ?_
     refine again_l rfl rfl (a_load (by simp only [Zu, Nat.reduceEqDiff, ↓reduceIte, hb, ld29, hst, newPtr, AMem.next_alloc, gM4_0, gM4_1, gM4_2] <;> rfl) (by simp (disch := first | (refine Zx ?_; simp only [Zn]; done) | ((try simp only [Zn]); omega)) only [Zg, hb, ld29, hst, newPtr, gM4_0, gM4_1, gM4_2] <;> rfl) (by simp only [ld29, Zl, hb, hst, newPtr, AMem.next_alloc, gM4_0, gM4_1, gM4_2] <;> rfl)) ?_
     refine again_r rfl ?_
     exact again_nil
   replace e2 := kp 2 hs' e2
   have e3 := congrFun hs' 3
   have e4 := congrFun hs' 4
   simp only [Zu, Nat.reduceEqDiff, ↓reduceIte, newPtr, AMem.next_alloc] at e3 e4
   clear hs'
   try clear e6
   refine o_norm ?_
   refine q_mem (fun M5 hEM5 => ?_)
   have hnM5 := congrArg AMem.next hEM5; simp only [Zn, Nat.add_assoc, Nat.reduceAdd] at hnM5
   have hnxM5 : M.next ≤ M5.next := by have := hnxM4; omega
   have holdM5 : ∀ j, j < M.next → M5.get j = M.get j := fun j hj => by have := hnxM4; rw [hEM5]; simp (disch := first | (refine Zx ?_; simp only [Zn]; done) | ((try simp only [Zn]); omega)) only [Zg]; exact holdM4 j hj
   have gM5_0 := congrArg (fun m => AMem.get m M.next) hEM5; try simp (disch := first | (refine Zx ?_; simp only [Zn]; done) | ((try simp only [Zn]); omega)) only [Zg, Nat.add_assoc, Nat.reduceAdd, gM4_0, gM4_1, gM4_2] at gM5_0
   have gM5_1 := congrArg (fun m => AMem.get m M1.next) hEM5; try simp (disch := first | (refine Zx ?_; simp only [Zn]; done) | ((try simp only [Zn]); omega)) only [Zg, Nat.add_assoc, Nat.reduceAdd, gM4_0, gM4_1, gM4_2] at gM5_1
   have gM5_2 := congrArg (fun m => AMem.get m M3.next) hEM5; try simp (disch := first | (refine Zx ?_; simp only [Zn]; done) | ((try simp only [Zn]); omega)) only [Zg, Nat.add_assoc, Nat.reduceAdd, gM4_0, gM4_1, gM4_2] at gM5_2
   clear hEM5
   refine t_norm ?_
   refine at_ret rfl ?_
   refine b_ret ?_
   refine t_ret ?_
   refine t_ret ?_
   refine b_ret ?_
   refine t_ret ?_
   have hF := ipGetF_hit hj8 hpre h4
   rw [hF] at hK
   refine bq_ret rfl (ars_cons (ar_cell e2 gM5_0 (ld64 ip0)) (ars_cons (ar_tmp e3) (ars_cons (ar_tmp e4) ars_nil))) ?_
   exact ⟨_, _, hK, Canon.forget rfl holdM5⟩
  ·
   try simp only [Zh] at h4
   have hcj : chk j l = false := h4
   refine at_skip rfl ?_
   refine b_norm ?_
   refine t_norm ?_
   refine at_region hS rfl (by kernel_rfl) ?_
   refine s_op (a_bin (by simp (disch := ((try simp only [List.length_append, List.length_cons, List.length_nil]); omega)) only [Zu, Nat.reduceEqDiff, ↓reduceIte, Zd, reduceCtorEq, abin_add, abin_aadd, wrap_i64, wrap_u32, wrap_u8, wrap_u64, wrap_i32, wrap_u16, ne_eq, not_false_eq_true, e11] <;> rfl)) rfl ?_
   refine s_mv ?_
   refine s_end (fun s' hs' => ?_)
   replace e0 := kp 0 hs' e0
   replace e2 := kp 2 hs' e2
   replace e9 := kp 9 hs' e9
   replace e10 := kp 10 hs' e10
   replace e11 := congrFun hs' 11
   simp only [Zu, Nat.reduceEqDiff, ↓reduceIte, newPtr, AMem.next_alloc] at e11
   clear hs'
   refine o_norm ?_
   refine t_norm ?_
   exact ⟨8 - (j + 1), by omega, j + 1, (by first | exact e0 | (rw [e0]; rfl) | (rw [e0]; simp; done)), (by first | exact e2 | (rw [e2]; rfl) | (rw [e2]; simp; done)), (by first | exact e9 | (rw [e9]; rfl) | (rw [e9]; simp; done)), (by first | exact e10 | (rw [e10]; rfl) | (rw [e10]; simp; done)), (by first | exact e11 | (rw [e11]; rfl) | (rw [e11]; simp; done)), (by omega), (by intro i hi; rcases (by omega : i < j ∨ i = j) with h | h; exact hpre i h; subst h; exact hcj), gM4_0, gM4_1, rfl, hnxM4, by omega, holdM4, rfl⟩
 ·
  try simp only [Zh] at h2
  have hj8 : j = 8 := by omega
  subst hj8
  obtain ⟨⟨b0, b1, b2, b3, b4⟩, hF⟩ := ipGetF_all hpre
  rw [hF] at hK
  refine at_exit rfl ?_
  refine t_exit ?_
  refine t_exit ?_
  refine b_here ?_
  refine t_norm ?_
  refine at_seq rfl ?_
  refine at_region hS rfl (by kernel_rfl) ?_
  refine s_op (a_mv e0) rfl ?_
  refine s_op (a_slice (by simp (disch := omega) only [Zu, Nat.reduceEqDiff, ↓reduceIte, Zs, Int.reduceToNat, g0, g1] <;> rfl)) rfl ?_
  refine s_call (by simp only [Zu, Nat.reduceEqDiff, ↓reduceIte, Zs, Int.reduceToNat, newPtr, AMem.next_alloc, g0, g1] <;> rfl) (by simp only [Zu, Nat.reduceEqDiff, ↓reduceIte, Zm, Zs, Int.reduceToNat, newPtr, AMem.next_alloc, g0, g1] <;> rfl) ?_
  rw [S57_70]; refine ⟨_, rfl, by rw [part_length (by omega)]; omega, ?_⟩
  show EA _ _ _ _ _ _
  refine s_as ?_
  refine s_end (fun s' hs' => ?_)
  replace e0 := kp 0 hs' e0
  replace e2 := kp 2 hs' e2
  have e7 := congrFun hs' 7
  simp only [Zu, Nat.reduceEqDiff, ↓reduceIte, newPtr, AMem.next_alloc] at e7
  clear hs'
  refine o_norm ?_
  refine t_norm ?_
  refine at_seq rfl ?_
  obtain ⟨x0, x0'⟩ := byteAt_bound l 1
  obtain ⟨x1, x1'⟩ := byteAt_bound l 8
  obtain ⟨x2, x2'⟩ := byteAt_bound l 9
  obtain ⟨c0, c1⟩ := numF_bound (part l 6 8) (part_length (by omega))
  obtain ⟨m0, m1⟩ := numF_bound4 (part l 12 16) (part_length (by omega))
  obtain ⟨m2, m3⟩ := numF_bound4 (part l 16 20) (part_length (by omega))
  refine at_draw ⟨[[], [0], [0, 1], [], [3], [3, 4], [], [6], [6, 7], [], [9], [9, 10], [], [12], [12, 13], [], [15], [15, 16], [], [18], [18, 19], [], [21], [3, 4, 5, 21, 22], [3, 4, 5, 21, 22, 23], [], [25], [3, 4, 5, 21, 22, 23, 25, 26], [3, 4, 5, 21, 22, 23, 25, 26, 27], [], [], [3, 4, 5, 21, 22, 23, 25, 26, 27, 30], [3, 4, 5, 21, 22, 23, 25, 26, 27, 29, 30, 31], [0, 1, 2, 3, 4, 5, 6, 7, 8, 9, 10, 11, 12, 13, 14, 15, 16, 17, 18, 19, 20, 21, 22, 23, 24, 25, 26, 27, 28, 29, 30, 31, 32], [], [0, 1, 2, 3, 4, 5, 6, 7, 8, 9, 10, 11, 12, 13, 14, 15, 16, 17, 18, 19, 20, 21, 22, 23, 24, 25, 26, 27, 28, 29, 30, 31, 32, 33, 34]], [0, 1, 2, 3, 4, 6, 7, 8, 9, 10, 11, 12, 13, 14, 15, 16, 17, 18, 19, 20, 21, 22, 25, 26, 29, 30, 34], [(5, []), (23, [24]), (27, [28]), (31, [32, 33]), (35, [])]⟩ hS rfl rfl (by kernel_rfl) (by kernel_rfl) ?_
  refine d_start ?_
  refine l_op rfl rfl (a_mv e0) rfl ?_ rfl
  refine l_op rfl rfl (a_index (by simp (disch := omega) only [Zu, Nat.reduceEqDiff, ↓reduceIte, Zs, Int.reduceToNat, bd64v, hst, and_8191, g0, g1] <;> rfl)) rfl ?_ rfl
  refine l_op rfl rfl (a_convi (by simp only [Zu, Nat.reduceEqDiff, ↓reduceIte, Zs, Int.reduceToNat, bd64v, hst, and_8191, newPtr, AMem.next_alloc, g0, g1] <;> rfl) rfl rfl (by simp (disch := omega) only [wrap_i64]; try rfl)) rfl ?_ rfl
  refine l_op rfl rfl (a_mv e0) rfl ?_ rfl
  refine l_op rfl rfl (a_slice (by simp (disch := omega) only [Zu, Nat.reduceEqDiff, ↓reduceIte, Zs, Int.reduceToNat, bd64v, hst, and_8191, g0, g1] <;> rfl)) rfl ?_ rfl
  refine l_op rfl rfl (a_mv e7) rfl ?_ rfl
  refine l_op rfl rfl (a_bin (by simp (disch := omega) only [Zu, Nat.reduceEqDiff, ↓reduceIte, Zd, reduceCtorEq, abin_and, and_255, and_15, and_65535, and_8191, ne_eq, not_false_eq_true, Zs, Int.reduceToNat, bd64v, hst, g0, g1] <;> rfl)) rfl ?_ rfl
  refine l_op rfl rfl (a_bin (by simp (disch := omega) only [Zu, Nat.reduceEqDiff, ↓reduceIte, Zd, reduceCtorEq, abin_neq, abin_aneq, ne_eq, not_false_eq_true, Zs, Int.reduceToNat, bd64v, hst, and_8191, g0, g1] <;> rfl)) rfl ?_ rfl
  refine l_op rfl rfl (a_mv e7) rfl ?_ rfl
  refine l_op rfl rfl (a_bin (by simp (disch := omega) only [Zu, Nat.reduceEqDiff, ↓reduceIte, Zd, reduceCtorEq, abin_and, and_255, and_15, and_65535, and_8191, ne_eq, not_false_eq_true, Zs, Int.reduceToNat, bd64v, hst, g0, g1] <;> rfl)) rfl ?_ rfl
  refine l_op rfl rfl (a_bin (by simp (disch := omega) only [Zu, Nat.reduceEqDiff, ↓reduceIte, Zd, reduceCtorEq, abin_neq, abin_aneq, ne_eq, not_false_eq_true, Zs, Int.reduceToNat, bd64v, hst, and_8191, g0, g1] <;> rfl)) rfl ?_ rfl
  refine l_op rfl rfl (a_mv e7) rfl ?_ rfl
  refine l_op rfl rfl (a_bin (by simp (disch := omega) only [Zu, Nat.reduceEqDiff, ↓reduceIte, Zd, reduceCtorEq, abin_and, and_255, and_15, and_65535, and_8191, ne_eq, not_false_eq_true, Zs, Int.reduceToNat, bd64v, hst, g0, g1] <;> rfl)) rfl ?_ rfl
  refine l_op rfl rfl (a_bin (by simp (disch := omega) only [Zu, Nat.reduceEqDiff, ↓reduceIte, Zd, reduceCtorEq, abin_mul, wrap_i64, wrap_u32, wrap_u8, wrap_u64, wrap_i32, wrap_u16, ne_eq, not_false_eq_true, Zs, Int.reduceToNat, bd64v, hst, and_8191, g0, g1] <;> rfl)) rfl ?_ rfl
  refine l_op rfl rfl (a_mv e0) rfl ?_ rfl
  refine l_op rfl rfl (a_index (by simp (disch := omega) only [Zu, Nat.reduceEqDiff, ↓reduceIte, Zs, Int.reduceToNat, bd64v, hst, and_8191, g0, g1] <;> rfl)) rfl ?_ rfl
  refine l_op rfl rfl (a_convi (by simp only [Zu, Nat.reduceEqDiff, ↓reduceIte, Zs, Int.reduceToNat, bd64v, hst, and_8191, newPtr, AMem.next_alloc, g0, g1] <;> rfl) rfl rfl (by simp (disch := omega) only [wrap_i64]; try rfl)) rfl ?_ rfl
  refine l_op rfl rfl (a_mv e0) rfl ?_ rfl
  refine l_op rfl rfl (a_index (by simp (disch := omega) only [Zu, Nat.reduceEqDiff, ↓reduceIte, Zs, Int.reduceToNat, bd64v, hst, and_8191, g0, g1] <;> rfl)) rfl ?_ rfl
  refine l_op rfl rfl (a_convi (by simp only [Zu, Nat.reduceEqDiff, ↓reduceIte, Zs, Int.reduceToNat, bd64v, hst, and_8191, newPtr, AMem.next_alloc, g0, g1] <;> rfl) rfl rfl (by simp (disch := omega) only [wrap_i64]; try rfl)) rfl ?_ rfl
  refine l_op rfl rfl (a_mv e0) rfl ?_ rfl
  refine l_op rfl rfl (a_slice (by simp (disch := omega) only [Zu, Nat.reduceEqDiff, ↓reduceIte, Zs, Int.reduceToNat, bd64v, hst, and_8191, g0, g1] <;> rfl)) rfl ?_ rfl
  refine l_op rfl rfl (a_mv e0) rfl ?_ rfl
  refine l_op rfl rfl (a_slice (by simp (disch := omega) only [Zu, Nat.reduceEqDiff, ↓reduceIte, Zs, Int.reduceToNat, bd64v, hst, and_8191, g0, g1] <;> rfl)) rfl ?_ rfl
  refine l_op rfl rfl (a_mv e0) rfl ?_ rfl
  refine l_op rfl rfl (a_mv e0) rfl ?_ rfl
  refine l_new rfl rfl (a_alloc hz) rfl ?_ rfl
  refine l_nil ?_
  refine h_op ?_ rfl rfl rfl ?_
  · refine again_f rfl rfl rfl (a_alloc hz) (by simp (disch := first | (refine Zx ?_; simp only [Zn]; done) | ((try simp only [Zn]); omega)) only [Zg, bd64v, hst, and_8191, newPtr, g0, g1] <;> rfl) ?_
    refine again_r rfl ?_
    refine again_r rfl ?_
    refine again_l rfl rfl (a_slice (by simp (disch := omega) only [Zu, Nat.reduceEqDiff, ↓reduceIte, Zs, Int.reduceToNat, bd64v, hst, and_8191, g0, g1] <;> rfl)) ?_
    refine again_r rfl ?_
    refine again_l rfl rfl (a_slice (by simp (disch := omega) only [Zu, Nat.reduceEqDiff, ↓reduceIte, Zs, Int.reduceToNat, bd64v, hst, and_8191, g0, g1] <;> rfl)) ?_
    refine again_r rfl ?_
    refine again_l rfl rfl (a_convi (by simp only [Zu, Nat.reduceEqDiff, ↓reduceIte, Zs, Int.reduceToNat, bd64v, hst, and_8191, newPtr, AMem.next_alloc, g0, g1] <;> rfl) rfl rfl (by simp (disch := omega) only [wrap_i64]; try rfl)) ?_
    refine again_r rfl ?_
    refine again_r rfl ?_
    refine again_l rfl rfl (a_convi (by simp only [Zu, Nat.reduceEqDiff, ↓reduceIte, Zs, Int.reduceToNat, bd64v, hst, and_8191, newPtr, AMem.next_alloc, g0, g1] <;> rfl) rfl rfl (by simp (disch := omega) only [wrap_i64]; try rfl)) ?_
    refine again_r rfl ?_
    refine again_r rfl ?_
    refine again_r rfl ?_
    refine again_r rfl ?_
    refine again_r rfl ?_
    refine again_r rfl ?_
    refine again_r rfl ?_
    refine again_r rfl ?_
    refine again_r rfl ?_
    refine again_r rfl ?_
    refine again_r rfl ?_
    refine again_l rfl rfl (a_slice (by simp (disch := omega) only [Zu, Nat.reduceEqDiff, ↓reduceIte, Zs, Int.reduceToNat, bd64v, hst, and_8191, g0, g1] <;> rfl)) ?_
    refine again_r rfl ?_
    refine again_l rfl rfl (a_convi (by simp only [Zu, Nat.reduceEqDiff, ↓reduceIte, Zs, Int.reduceToNat, bd64v, hst, and_8191, newPtr, AMem.next_alloc, g0, g1] <;> rfl) rfl rfl (by simp (disch := omega) only [wrap_i64]; try rfl)) ?_
    refine again_r rfl ?_
    refine again_r rfl ?_
    exact again_nil
  refine s_call (by simp only [Zu, Nat.reduceEqDiff, ↓reduceIte, Zs, Int.reduceToNat, bd64v, hst, and_8191, newPtr, AMem.next_alloc, g0, g1] <;> rfl) (by simp only [Zu, Nat.reduceEqDiff, ↓reduceIte, Zm, Zs, Int.reduceToNat, bd64v, hst, and_8191, newPtr, AMem.next_alloc, g0, g1] <;> rfl) ?_
  rw [S57_70]; refine ⟨_, rfl, by rw [part_length (by omega)]; omega, ?_⟩
  show EA _ _ _ _ _ _
  refine s_end (fun s' hs' => ?_); subst hs'
  refine l_nil ?_
  refine h_op ?_ rfl rfl rfl ?_
  · refine again_f rfl rfl rfl (a_alloc hz) (by simp (disch := first | (refine Zx ?_; simp only [Zn]; done) | ((try simp only [Zn]); omega)) only [Zg, bd64v, hst, and_8191, newPtr, g0, g1] <;> rfl) ?_
    refine again_r rfl ?_
    refine again_r rfl ?_
    refine again_l rfl rfl (a_slice (by simp (disch := omega) only [Zu, Nat.reduceEqDiff, ↓reduceIte, Zs, Int.reduceToNat, bd64v, hst, and_8191, g0, g1] <;> rfl)) ?_
    refine again_r rfl ?_
    refine again_l rfl rfl (a_slice (by simp (disch := omega) only [Zu, Nat.reduceEqDiff, ↓reduceIte, Zs, Int.reduceToNat, bd64v, hst, and_8191, g0, g1] <;> rfl)) ?_
    refine again_r rfl ?_
    refine again_l rfl rfl (a_convi (by simp only [Zu, Nat.reduceEqDiff, ↓reduceIte, Zs, Int.reduceToNat, bd64v, hst, and_8191, newPtr, AMem.next_alloc, g0, g1] <;> rfl) rfl rfl (by simp (disch := omega) only [wrap_i64]; try rfl)) ?_
    refine again_r rfl ?_
    refine again_r rfl ?_
    refine again_l rfl rfl (a_convi (by simp only [Zu, Nat.reduceEqDiff, ↓reduceIte, Zs, Int.reduceToNat, bd64v, hst, and_8191, newPtr, AMem.next_alloc, g0, g1] <;> rfl) rfl rfl (by simp (disch := omega) only [wrap_i64]; try rfl)) ?_
    refine again_r rfl ?_
    refine again_r rfl ?_
    refine again_r rfl ?_
    refine again_r rfl ?_
    refine again_r rfl ?_
    refine again_r rfl ?_
    refine again_r rfl ?_
    refine again_r rfl ?_
    refine again_r rfl ?_
    refine again_r rfl ?_
    refine again_r rfl ?_
    refine again_l rfl rfl (a_convi (by simp only [Zu, Nat.reduceEqDiff, ↓reduceIte, Zs, Int.reduceToNat, bd64v, hst, and_8191, newPtr, AMem.next_alloc, g0, g1] <;> rfl) rfl rfl (by simp (disch := omega) only [wrap_i64]; try rfl)) ?_
    refine again_r rfl ?_
    refine again_r rfl ?_
    exact again_nil
  refine s_call (by simp only [Zu, Nat.reduceEqDiff, ↓reduceIte, Zs, Int.reduceToNat, bd64v, hst, and_8191, newPtr, AMem.next_alloc, g0, g1] <;> rfl) (by simp only [Zu, Nat.reduceEqDiff, ↓reduceIte, Zm, Zs, Int.reduceToNat, bd64v, hst, and_8191, newPtr, AMem.next_alloc, g0, g1] <;> rfl) ?_
  rw [S57_70]; refine ⟨_, rfl, by rw [part_length (by omega)]; omega, ?_⟩
  show EA _ _ _ _ _ _
  refine s_end (fun s' hs' => ?_); subst hs'
  refine l_op rfl rfl (a_convi (by simp only [Zu, Nat.reduceEqDiff, ↓reduceIte, Zs, Int.reduceToNat, bd64v, hst, and_8191, newPtr, AMem.next_alloc, g0, g1] <;> rfl) rfl rfl (by simp (disch := omega) only [wrapm_u32, Int.emod_eq_of_lt]; try rfl)) rfl ?_ rfl
  refine l_nil ?_
  refine h_op ?_ rfl rfl rfl ?_
  · refine again_l rfl rfl (a_convi (by simp only [Zu, Nat.reduceEqDiff, ↓reduceIte, Zs, Int.reduceToNat, bd64v, hst, and_8191, newPtr, AMem.next_alloc, g0, g1] <;> rfl) rfl rfl (by simp (disch := omega) only [wrapm_u32, Int.emod_eq_of_lt]; try rfl)) ?_
    refine again_f rfl rfl rfl (a_alloc hz) (by simp (disch := first | (refine Zx ?_; simp only [Zn]; done) | ((try simp only [Zn]); omega)) only [Zg, bd64v, hst, and_8191, newPtr, g0, g1] <;> rfl) ?_
    refine again_r rfl ?_
    refine again_r rfl ?_
    refine again_l rfl rfl (a_slice (by simp (disch := omega) only [Zu, Nat.reduceEqDiff, ↓reduceIte, Zs, Int.reduceToNat, bd64v, hst, and_8191, g0, g1] <;> rfl)) ?_
    refine again_r rfl ?_
    refine again_l rfl rfl (a_convi (by simp only [Zu, Nat.reduceEqDiff, ↓reduceIte, Zs, Int.reduceToNat, bd64v, hst, and_8191, newPtr, AMem.next_alloc, g0, g1] <;> rfl) rfl rfl (by simp (disch := omega) only [wrap_i64]; try rfl)) ?_
    refine again_r rfl ?_
    refine again_r rfl ?_
    refine again_l rfl rfl (a_convi (by simp only [Zu, Nat.reduceEqDiff, ↓reduceIte, Zs, Int.reduceToNat, bd64v, hst, and_8191, newPtr, AMem.next_alloc, g0, g1] <;> rfl) rfl rfl (by simp (disch := omega) only [wrap_i64]; try rfl)) ?_
    refine again_r rfl ?_
    refine again_r rfl ?_
    refine again_r rfl ?_
    refine again_r rfl ?_
    refine again_r rfl ?_
    refine again_r rfl ?_
    refine again_r rfl ?_
    refine again_r rfl ?_
    refine again_r rfl ?_
    refine again_r rfl ?_
    refine again_r rfl ?_
    refine again_l rfl rfl (a_convi (by simp only [Zu, Nat.reduceEqDiff, ↓reduceIte, Zs, Int.reduceToNat, bd64v, hst, and_8191, newPtr, AMem.next_alloc, g0, g1] <;> rfl) rfl rfl (by simp (disch := omega) only [wrap_i64]; try rfl)) ?_
    refine again_r rfl ?_
    refine again_r rfl ?_
    exact again_nil
  refine s_call (by simp only [Zu, Nat.reduceEqDiff, ↓reduceIte, Zs, Int.reduceToNat, bd64v, hst, and_8191, newPtr, AMem.next_alloc, g0, g1] <;> rfl) (by simp only [Zu, Nat.reduceEqDiff, ↓reduceIte, Zm, Zs, Int.reduceToNat, bd64v, hst, and_8191, newPtr, AMem.next_alloc, g0, g1] <;> rfl) ?_
  rw [S57_70]; refine ⟨_, rfl, by rw [part_length (by omega)]; omega, ?_⟩
  show EA _ _ _ _ _ _
  refine s_end (fun s' hs' => ?_); subst hs'
  refine l_op rfl rfl (a_convi (by simp only [Zu, Nat.reduceEqDiff, ↓reduceIte, Zs, Int.reduceToNat, bd64v, hst, and_8191, newPtr, AMem.next_alloc, g0, g1] <;> rfl) rfl rfl (by simp (disch := omega) only [wrapm_u32, Int.emod_eq_of_lt]; try rfl)) rfl ?_ rfl
  refine l_nil ?_
  refine h_op ?_ rfl rfl rfl ?_
  · refine again_l rfl rfl (a_convi (by simp only [Zu, Nat.reduceEqDiff, ↓reduceIte, Zs, Int.reduceToNat, bd64v, hst, and_8191, newPtr, AMem.next_alloc, g0, g1] <;> rfl) rfl rfl (by simp (disch := omega) only [wrapm_u32, Int.emod_eq_of_lt]; try rfl)) ?_
    refine again_l rfl rfl (a_convi (by simp only [Zu, Nat.reduceEqDiff, ↓reduceIte, Zs, Int.reduceToNat, bd64v, hst, and_8191, newPtr, AMem.next_alloc, g0, g1] <;> rfl) rfl rfl (by simp (disch := omega) only [wrapm_u32, Int.emod_eq_of_lt]; try rfl)) ?_
    refine again_f rfl rfl rfl (a_alloc hz) (by simp (disch := first | (refine Zx ?_; simp only [Zn]; done) | ((try simp only [Zn]); omega)) only [Zg, bd64v, hst, and_8191, newPtr, g0, g1] <;> rfl) ?_
    refine again_r rfl ?_
    refine again_r rfl ?_
    refine again_l rfl rfl (a_convi (by simp only [Zu, Nat.reduceEqDiff, ↓reduceIte, Zs, Int.reduceToNat, bd64v, hst, and_8191, newPtr, AMem.next_alloc, g0, g1] <;> rfl) rfl rfl (by simp (disch := omega) only [wrap_i64]; try rfl)) ?_
    refine again_r rfl ?_
    refine again_r rfl ?_
    refine again_l rfl rfl (a_convi (by simp only [Zu, Nat.reduceEqDiff, ↓reduceIte, Zs, Int.reduceToNat, bd64v, hst, and_8191, newPtr, AMem.next_alloc, g0, g1] <;> rfl) rfl rfl (by simp (disch := omega) only [wrap_i64]; try rfl)) ?_
    refine again_r rfl ?_
    refine again_r rfl ?_
    refine again_r rfl ?_
    refine again_r rfl ?_
    refine again_r rfl ?_
    refine again_r rfl ?_
    refine again_r rfl ?_
    refine again_r rfl ?_
    refine again_r rfl ?_
    refine again_r rfl ?_
    refine again_r rfl ?_
    refine again_l rfl rfl (a_convi (by simp only [Zu, Nat.reduceEqDiff, ↓reduceIte, Zs, Int.reduceToNat, bd64v, hst, and_8191, newPtr, AMem.next_alloc, g0, g1] <;> rfl) rfl rfl (by simp (disch := omega) only [wrap_i64]; try rfl)) ?_
    refine again_r rfl ?_
    refine again_r rfl ?_
    exact again_nil
  refine s_call (by simp only [Zu, Nat.reduceEqDiff, ↓reduceIte, Zs, Int.reduceToNat, bd64v, hst, and_8191, newPtr, AMem.next_alloc, g0, g1] <;> rfl) (by simp only [Zu, Nat.reduceEqDiff, ↓reduceIte, Zm, Zs, Int.reduceToNat, bd64v, hst, and_8191, newPtr, AMem.next_alloc, g0, g1] <;> rfl) ?_
  rw [S57_72]; refine ⟨_, rfl, by omega, by omega, ?_⟩
  show EA _ _ _ _ _ _
  refine s_end (fun s' hs' => ?_); subst hs'
  refine l_op rfl rfl (a_slice (by simp (disch := omega) only [Zu, Nat.reduceEqDiff, ↓reduceIte, Zs, Int.reduceToNat, bd64v, hst, and_8191, g0, g1] <;> rfl)) rfl ?_ rfl
  refine l_op rfl rfl (a_build (by simp only [Zu, Nat.reduceEqDiff, ↓reduceIte, Zm, Array.toList, Zs, Int.reduceToNat, bd64v, hst, and_8191, newPtr, AMem.next_alloc, g0, g1] <;> rfl)) rfl ?_ rfl
  refine l_nil ?_
  refine h_op ?_ rfl rfl rfl ?_
  · refine again_r rfl ?_
    refine again_l rfl rfl (a_slice (by simp (disch := omega) only [Zu, Nat.reduceEqDiff, ↓reduceIte, Zs, Int.reduceToNat, bd64v, hst, and_8191, g0, g1] <;> rfl)) ?_
    refine again_l rfl rfl (a_convi (by simp only [Zu, Nat.reduceEqDiff, ↓reduceIte, Zs, Int.reduceToNat, bd64v, hst, and_8191, newPtr, AMem.next_alloc, g0, g1] <;> rfl) rfl rfl (by simp (disch := omega) only [wrapm_u32, Int.emod_eq_of_lt]; try rfl)) ?_
    refine again_l rfl rfl (a_convi (by simp only [Zu, Nat.reduceEqDiff, ↓reduceIte, Zs, Int.reduceToNat, bd64v, hst, and_8191, newPtr, AMem.next_alloc, g0, g1] <;> rfl) rfl rfl (by simp (disch := omega) only [wrapm_u32, Int.emod_eq_of_lt]; try rfl)) ?_
    refine again_f rfl rfl rfl (a_alloc hz) (by simp (disch := first | (refine Zx ?_; simp only [Zn]; done) | ((try simp only [Zn]); omega)) only [Zg, bd64v, hst, and_8191, newPtr, g0, g1] <;> rfl) ?_
    refine again_r rfl ?_
    refine again_l rfl rfl (a_convi (by simp only [Zu, Nat.reduceEqDiff, ↓reduceIte, Zs, Int.reduceToNat, bd64v, hst, and_8191, newPtr, AMem.next_alloc, g0, g1] <;> rfl) rfl rfl (by simp (disch := omega) only [wrap_i64]; try rfl)) ?_
    refine again_r rfl ?_
    refine again_r rfl ?_
    refine again_l rfl rfl (a_convi (by simp only [Zu, Nat.reduceEqDiff, ↓reduceIte, Zs, Int.reduceToNat, bd64v, hst, and_8191, newPtr, AMem.next_alloc, g0, g1] <;> rfl) rfl rfl (by simp (disch := omega) only [wrap_i64]; try rfl)) ?_
    refine again_r rfl ?_
    refine again_r rfl ?_
    refine again_r rfl ?_
    refine again_r rfl ?_
    refine again_r rfl ?_
    refine again_r rfl ?_
    refine again_r rfl ?_
    refine again_r rfl ?_
    refine again_r rfl ?_
    refine again_r rfl ?_
    refine again_r rfl ?_
    refine again_l rfl rfl (a_convi (by simp only [Zu, Nat.reduceEqDiff, ↓reduceIte, Zs, Int.reduceToNat, bd64v, hst, and_8191, newPtr, AMem.next_alloc, g0, g1] <;> rfl) rfl rfl (by simp (disch := omega) only [wrap_i64]; try rfl)) ?_
    refine again_r rfl ?_
    refine again_r rfl ?_
    exact again_nil
  refine s_op (a_store (by simp only [Zu, Nat.reduceEqDiff, ↓reduceIte, bd64v, hst, and_8191, newPtr, AMem.next_alloc, g0, g1] <;> rfl) (by simp (disch := first | (refine Zx ?_; simp only [Zn]; done) | ((try simp only [Zn]); omega)) only [Zg, bd64v, hst, and_8191, newPtr, g0, g1] <;> rfl) (by simp only [Zu, Nat.reduceEqDiff, ↓reduceIte, bd64v, hst, and_8191, newPtr, AMem.next_alloc, g0, g1] <;> rfl) (by simp only [bd64v, hst, and_8191, newPtr, AMem.next_alloc, g0, g1] <;> rfl)) rfl ?_
  refine s_end (fun s' hs' => ?_); subst hs'
  refine l_nil ?_
  refine h_end ?_ (fun s' hs' => ?_)
  · exact again_nil
  replace e0 := kp 0 hs' e0
  replace e2 := kp 2 hs' e2
  have e8 := congrFun hs' 8
  simp only [Zu, Nat.reduceEqDiff, ↓reduceIte, newPtr, AMem.next_alloc] at e8
  clear hs'
  try clear e7
  refine o_norm ?_
  refine q_mem (fun M6 hEM6 => ?_)
  have hnM6 := congrArg AMem.next hEM6; simp only [Zn, Nat.add_assoc, Nat.reduceAdd] at hnM6
  have hnxM6 : M.next ≤ M6.next := by have := hnxM3; omega
  have holdM6 : ∀ j, j < M.next → M6.get j = M.get j := fun j hj => by have := hnxM3; rw [hEM6]; simp (disch := first | (refine Zx ?_; simp only [Zn]; done) | ((try simp only [Zn]); omega)) only [Zg]; exact holdM3 j hj
  have gM6_0 := congrArg (fun m => AMem.get m M.next) hEM6; try simp (disch := first | (refine Zx ?_; simp only [Zn]; done) | ((try simp only [Zn]); omega)) only [Zg, Nat.add_assoc, Nat.reduceAdd, g0, g1] at gM6_0
  have gM6_1 := congrArg (fun m => AMem.get m M1.next) hEM6; try simp (disch := first | (refine Zx ?_; simp only [Zn]; done) | ((try simp only [Zn]); omega)) only [Zg, Nat.add_assoc, Nat.reduceAdd, g0, g1] at gM6_1
  have gM6_2 := congrArg (fun m => AMem.get m M3.next) hEM6; try simp (disch := first | (refine Zx ?_; simp only [Zn]; done) | ((try simp only [Zn]); omega)) only [Zg, Nat.add_assoc, Nat.reduceAdd, g0, g1] at gM6_2
  clear hEM6
  refine t_norm ?_
  refine at_seq rfl ?_
  refine at_draw ⟨[[], [], [], [2], [], [2, 3, 4], [1, 2, 3, 4, 5], [0, 2, 3, 4, 5], [0, 1, 2, 3, 4, 5, 6, 7], [0, 1, 2, 3, 4, 5, 6, 7, 8]], [0, 1, 2, 4], [(3, []), (5, [6]), (7, [8, 9])]⟩ hS rfl rfl (by kernel_rfl) (by kernel_rfl) ?_
  refine d_start ?_
  refine l_op rfl rfl (a_load e8 (by simp (disch := first | (refine Zx ?_; simp only [Zn]; done) | ((try simp only [Zn]); omega)) only [Zg, ld64, hst, newPtr, gM6_0, gM6_1, gM6_2, e8] <;> rfl) (by simp only [ld64, hst, newPtr, AMem.next_alloc, gM6_0, gM6_1, gM6_2, e8] <;> rfl)) rfl ?_ rfl
  refine l_op rfl rfl (a_mv e0) rfl ?_ rfl
  refine l_op rfl rfl (a_mv e0) rfl ?_ rfl
  refine l_op rfl rfl (a_mv e0) rfl ?_ rfl
  refine l_nil ?_
  refine h_op ?_ rfl rfl rfl ?_
  · refine again_r rfl ?_
    refine again_r rfl ?_
    refine again_r rfl ?_
    refine again_l rfl rfl (a_load e8 (by simp (disch := first | (refine Zx ?_; simp only [Zn]; done) | ((try simp only [Zn]); omega)) only [Zg, ld64, hst, newPtr, gM6_0, gM6_1, gM6_2, e8] <;> rfl) (by simp only [ld64, hst, newPtr, AMem.next_alloc, gM6_0, gM6_1, gM6_2, e8] <;> rfl)) ?_
    exact again_nil
  refine s_call (by simp only [Zu, Nat.reduceEqDiff, ↓reduceIte, Zs, Int.reduceToNat, hst, newPtr, AMem.next_alloc, gM6_0, gM6_1, gM6_2] <;> rfl) (by simp only [Zu, Nat.reduceEqDiff, ↓reduceIte, Zm, Zs, Int.reduceToNat, hst, newPtr, AMem.next_alloc, gM6_0, gM6_1, gM6_2] <;> rfl) ?_
  rw [S57_72]; refine ⟨_, rfl, by omega, by omega, ?_⟩
  show EA _ _ _ _ _ _
  refine s_end (fun s' hs' => ?_); subst hs'
  refine l_nil ?_
  refine h_op ?_ rfl rfl rfl ?_
  · refine again_r rfl ?_
    refine again_r rfl ?_
    refine again_l rfl rfl (a_load e8 (by simp (disch := first | (refine Zx ?_; simp only [Zn]; done) | ((try simp only [Zn]); omega)) only [Zg, ld64, hst, newPtr, gM6_0, gM6_1, gM6_2, e8] <;> rfl) (by simp only [ld64, hst, newPtr, AMem.next_alloc, gM6_0, gM6_1, gM6_2, e8] <;> rfl)) ?_
    exact again_nil
  refine s_call (by simp only [Zu, Nat.reduceEqDiff, ↓reduceIte, Zs, Int.reduceToNat, hst, newPtr, AMem.next_alloc, gM6_0, gM6_1, gM6_2] <;> rfl) (by simp only [Zu, Nat.reduceEqDiff, ↓reduceIte, Zm, Zs, Int.reduceToNat, hst, newPtr, AMem.next_alloc, gM6_0, gM6_1, gM6_2] <;> rfl) ?_
  rw [S57_73]; refine ⟨_, rfl, by omega, by omega, ?_⟩
  show EA _ _ _ _ _ _
  refine s_end (fun s' hs' => ?_); subst hs'
  refine l_op rfl rfl (a_slice (by simp (disch := omega) only [Zu, Nat.reduceEqDiff, ↓reduceIte, Zs, Int.reduceToNat, hst, gM6_0, gM6_1, gM6_2] <;> rfl)) rfl ?_ rfl
  refine l_nil ?_
  refine h_op ?_ rfl rfl rfl ?_
  · refine again_l rfl rfl (a_slice (by simp (disch := omega) only [Zu, Nat.reduceEqDiff, ↓reduceIte, Zs, Int.reduceToNat, hst, gM6_0, gM6_1, gM6_2] <;> rfl)) ?_
    refine again_r rfl ?_
    refine again_l rfl rfl (a_load e8 (by simp (disch := first | (refine Zx ?_; simp only [Zn]; done) | ((try simp only [Zn]); omega)) only [Zg, ld64, hst, newPtr, gM6_0, gM6_1, gM6_2, e8] <;> rfl) (by simp only [ld64, hst, newPtr, AMem.next_alloc, gM6_0, gM6_1, gM6_2, e8] <;> rfl)) ?_
    exact again_nil
  refine s_op (a_store e2 (by simp (disch := first | (refine Zx ?_; simp only [Zn]; done) | ((try simp only [Zn]); omega)) only [Zg, hst, newPtr, gM6_0, gM6_1, gM6_2, e2] <;> rfl) (by simp only [Zu, Nat.reduceEqDiff, ↓reduceIte, hst, newPtr, AMem.next_alloc, gM6_0, gM6_1, gM6_2, e2] <;> rfl) (by simp only [hst, newPtr, AMem.next_alloc, gM6_0, gM6_1, gM6_2, e2] <;> rfl)) rfl ?_
  refine s_end (fun s' hs' => ?_); subst hs'
  refine l_op rfl rfl (a_as (by simp only [Zu, Nat.reduceEqDiff, ↓reduceIte] <;> rfl)) rfl ?_ rfl
  refine l_op rfl rfl (a_as (by simp only [ev_const] <;> rfl)) rfl ?_ rfl
  refine l_nil ?_
  refine h_end ?_ (fun s' hs' => ?_)
  · refine again_r rfl ?_
    refine again_r rfl ?_
    refine again_l rfl rfl (a_slice (by simp (disch := omega) only [Zu, Nat.reduceEqDiff, ↓reduceIte, Zs, Int.reduceToNat, hst, gM6_0, gM6_1, gM6_2] <;> rfl)) ?_
    refine again_r rfl ?_
    exact again_nil
  replace e2 := kp 2 hs' e2
  have e3 := congrFun hs' 3
  have e4 := congrFun hs' 4
  simp only [Zu, Nat.reduceEqDiff, ↓reduceIte, newPtr, AMem.next_alloc] at e3 e4
  clear hs'
  try clear e0 e8
  refine o_norm ?_
  refine q_mem (fun M7 hEM7 => ?_)
  have hnM7 := congrArg AMem.next hEM7; simp only [Zn, Nat.add_assoc, Nat.reduceAdd] at hnM7
  have hnxM7 : M.next ≤ M7.next := by have := hnxM6; omega
  have holdM7 : ∀ j, j < M.next → M7.get j = M.get j := fun j hj => by have := hnxM6; rw [hEM7]; simp (disch := first | (refine Zx ?_; simp only [Zn]; done) | ((try simp only [Zn]); omega)) only [Zg]; exact holdM6 j hj
  have gM7_0 := congrArg (fun m => AMem.get m M.next) hEM7; try simp (disch := first | (refine Zx ?_; simp only [Zn]; done) | ((try simp only [Zn]); omega)) only [Zg, Nat.add_assoc, Nat.reduceAdd, gM6_0, gM6_1, gM6_2] at gM7_0
  have gM7_1 := congrArg (fun m => AMem.get m M1.next) hEM7; try simp (disch := first | (refine Zx ?_; simp only [Zn]; done) | ((try simp only [Zn]); omega)) only [Zg, Nat.add_assoc, Nat.reduceAdd, gM6_0, gM6_1, gM6_2] at gM7_1
  have gM7_2 := congrArg (fun m => AMem.get m M3.next) hEM7; try simp (disch := first | (refine Zx ?_; simp only [Zn]; done) | ((try simp only [Zn]); omega)) only [Zg, Nat.add_assoc, Nat.reduceAdd, gM6_0, gM6_1, gM6_2] at gM7_2
  clear hEM7
  refine t_norm ?_
  refine at_ret rfl ?_
  refine bq_ret rfl (ars_cons (ar_cell e2 gM7_0 (ld64 (ipHead l))) (ars_cons (ar_tmp e3) (ars_cons (ar_tmp e4) ars_nil))) ?_
  exact ⟨_, _, hK, Canon.forget rfl holdM7⟩
end Go.Proofs.Ytdkdkpiemigfkaa
set_option linter.unusedVariables false
set_option linter.unusedSimpArgs false
set_option maxRecDepth 8000
namespace Go.Proofs.Ytdkdkpiemigfkaa
open Go Go.Proofs
def u32 (a : Int) : Prop := 0 ≤ a ∧ a ≤ 4294967295
def headCells (h : Segh) (src dst : Int) : List Value := h.cells ++ [.int .u32 src, .int .u32 dst]
theorem hcells_agg (cs : List Value) : (Value.agg cs.toArray).cells.toList = cs := rfl
theorem hc_len (h : Segh) (src dst : Int) : (headCells h src dst).length = 9 := rfl
theorem hc_7 (h : Segh) (src dst : Int) : (headCells h src dst)[7]? = some (.int .u32 src) := rfl
theorem hc_8 (h : Segh) (src dst : Int) : (headCells h src dst)[8]? = some (.int .u32 dst) := rfl
theorem ld121 (h : Segh) (src dst : Int) : aload Try.prog 121 (headCells h src dst) 0 = some (.agg (headCells h src dst).toArray) := aload_whole Try.underlying121 (i := _) (by rfl) rfl rfl
theorem ld57h (h : Segh) (src dst : Int) : aload Try.prog 57 (headCells h src dst) 0 = some (.agg h.cells.toArray) := aload_agg (n := 7) Try.underlying57 (i := _) (by rfl) rfl rfl (by rw [hc_len]; decide)
def seg0 : Segh := ⟨0, 0, 0, 0, 0, 0, []⟩
theorem z121 : azero Try.prog 121 = some (headCells seg0 0 0) := by kernel_rfl
theorem bd121 (a b : Int) : abuild Try.prog 121 [(1, .int .u32 a), (2, .int .u32 b)] = some (headCells seg0 a b) := by kernel_rfl
theorem st121 (h h' : Segh) (a b a' b' : Int) : astore Try.prog 121 (headCells h a b) 0 (.agg (headCells h' a' b').toArray) = some (headCells h' a' b') := astore_whole (i := _) (by rfl) rfl rfl rfl
def sp96 : ASpec := fun args M K => ∃ (h : Segh) (src dst : Int) (n : Int), args = [.agg (headCells h src dst).toArray, .int .i64 n] ∧ (u32 src ∧ u32 dst ∧ 0 ≤ n ∧ n ≤ 100000000) ∧ K (.ret (asString (pseudoF src dst 6 n.toNat))) M
noncomputable def S96 : FuncId → ASpec := tab [(104, sp104)]
theorem S96_104 : S96 104 = sp104 := rfl
theorem S96_ok : ∀ f, Sound Try.prog f (S96 f) := tab_sound _ (by simp [f104_ok])
theorem str0 : Value.string ⟨#[0]⟩ = asString [0] := rfl
theorem f96_ok : Sound Try.prog 96 sp96 := by
 refine Sound.of_awp (c := bodyOf Try.f96) Try.func96 rfl rfl rfl ?_
 rintro args M K ⟨h, src, dst, n, rfl, ⟨⟨s0, s1⟩, ⟨d0, d1⟩, n0, n1⟩, hK⟩
 refine ⟨Nat.le_of_ble_eq_true rfl, ?_⟩
 have hS := S96_ok
 have e0 : entry [.agg (headCells h src dst).toArray, .int .i64 n] 0 = .agg (headCells h src dst).toArray := rfl
 have e1 : entry [.agg (headCells h src dst).toArray, .int .i64 n] 1 = .int .i64 n := rfl
 refine at_seq rfl ?_
 refine at_region hS rfl (by kernel_rfl) ?_
 refine s_op (a_box (by simp only [Zu, Nat.reduceEqDiff, ↓reduceIte, hcells_agg, newPtr, AMem.next_alloc, e0] <;> rfl)) rfl ?_
 refine s_op (a_as (by simp only [ev_const] <;> rfl)) rfl ?_
 refine s_end (fun s' hs' => ?_)
 replace e1 := kp 1 hs' e1
 have e2 := congrFun hs' 2
 simp only [Zu, Nat.reduceEqDiff, ↓reduceIte, newPtr, AMem.next_alloc] at e2
 clear hs'
 try clear e0
 refine o_norm ?_
 refine q_mem (fun M1 hEM1 => ?_)
 have hnM1 := congrArg AMem.next hEM1; simp only [Zn, Nat.add_assoc, Nat.reduceAdd] at hnM1
 have hnxM1 : M.next ≤ M1.next := by have := (Nat.le_refl M.next); omega
 have holdM1 : ∀ j, j < M.next → M1.get j = M.get j := fun j hj => by have := (Nat.le_refl M.next); rw [hEM1]; simp (disch := first | (refine Zx ?_; simp only [Zn]; done) | ((try simp only [Zn]); omega)) only [Zg]; done
 have gM1_0 := congrArg (fun m => AMem.get m M.next) hEM1; try simp (disch := first | (refine Zx ?_; simp only [Zn]; done) | ((try simp only [Zn]); omega)) only [Zg, Nat.add_assoc, Nat.reduceAdd] at gM1_0
 clear hEM1
 refine t_norm ?_
 refine at_seq rfl ?_
 have l1 := bigF_length src 4
 have l2 := bigF_length dst 4
 have l3 := bigF_length 6 1
 have l4 := bigF_length n 2
 refine at_draw ⟨[[], [0], [0, 1], [0, 1, 2], [], [4], [4, 5], [0, 1, 2, 3, 4, 5, 6], [0, 1, 2, 3, 4, 5, 6, 7], [0, 1, 2, 3, 4, 5, 6, 7, 8], [0, 1, 2, 3, 4, 5, 6, 7], [0, 1, 2, 3, 4, 5, 6, 7, 8, 9, 10], [], [0, 1, 2, 3, 4, 5, 6, 7, 10, 12], [0, 1, 2, 3, 4, 5, 6, 7, 8, 9, 10, 11, 12, 13], [0, 1, 2, 3, 4, 5, 6, 7, 8, 9, 10, 11, 12, 13, 14]], [0, 1, 2, 4, 5, 6, 12], [(3, []), (7, [8, 9]), (10, [11]), (13, [14, 15])]⟩ hS rfl rfl (by kernel_rfl) (by kernel_rfl) ?_
 refine d_start ?_
 refine l_op rfl rfl (a_fa (by simp only [Zu, Nat.reduceEqDiff, ↓reduceIte, fa121_1, Nat.zero_add, fa121_2, Nat.reduceAdd, hc_7, hc_8, str0, two_nat, four_nat, one_nat, newPtr, AMem.next_alloc, e2] <;> rfl)) rfl ?_ rfl
 refine l_op rfl rfl (a_load (by simp only [Zu, Nat.reduceEqDiff, ↓reduceIte, Nat.zero_add, Nat.reduceAdd, hc_7, hc_8, ld23, str0, two_nat, four_nat, one_nat, newPtr, AMem.next_alloc, gM1_0] <;> rfl) (by simp (disch := first | (refine Zx ?_; simp only [Zn]; done) | ((try simp only [Zn]); omega)) only [Zg, Nat.zero_add, Nat.reduceAdd, hc_7, hc_8, ld23, str0, two_nat, four_nat, one_nat, newPtr, gM1_0] <;> rfl) (by simp only [ld23, Zl, Nat.zero_add, Nat.reduceAdd, hc_7, hc_8, str0, two_nat, four_nat, one_nat, newPtr, AMem.next_alloc, gM1_0] <;> rfl)) rfl ?_ rfl
 refine l_op rfl rfl (a_convi (by simp only [Zu, Nat.reduceEqDiff, ↓reduceIte, Nat.zero_add, Nat.reduceAdd, hc_7, hc_8, str0, two_nat, four_nat, one_nat, newPtr, AMem.next_alloc, gM1_0] <;> rfl) rfl rfl (by simp (disch := omega) only [wrap_i64]; try rfl)) rfl ?_ rfl
 refine l_op rfl rfl (a_fa (by simp only [Zu, Nat.reduceEqDiff, ↓reduceIte, fa121_2, Nat.zero_add, fa121_1, Nat.reduceAdd, hc_7, hc_8, str0, two_nat, four_nat, one_nat, newPtr, AMem.next_alloc, e2] <;> rfl)) rfl ?_ rfl
 refine l_op rfl rfl (a_load (by simp only [Zu, Nat.reduceEqDiff, ↓reduceIte, Nat.zero_add, Nat.reduceAdd, hc_7, hc_8, ld23, str0, two_nat, four_nat, one_nat, newPtr, AMem.next_alloc, gM1_0] <;> rfl) (by simp (disch := first | (refine Zx ?_; simp only [Zn]; done) | ((try simp only [Zn]); omega)) only [Zg, Nat.zero_add, Nat.reduceAdd, hc_7, hc_8, ld23, str0, two_nat, four_nat, one_nat, newPtr, gM1_0] <;> rfl) (by simp only [ld23, Zl, Nat.zero_add, Nat.reduceAdd, hc_7, hc_8, str0, two_nat, four_nat, one_nat, newPtr, AMem.next_alloc, gM1_0] <;> rfl)) rfl ?_ rfl
 refine l_op rfl rfl (a_convi (by simp only [Zu, Nat.reduceEqDiff, ↓reduceIte, Nat.zero_add, Nat.reduceAdd, hc_7, hc_8, str0, two_nat, four_nat, one_nat, newPtr, AMem.next_alloc, gM1_0] <;> rfl) rfl rfl (by simp (disch := omega) only [wrap_i64]; try rfl)) rfl ?_ rfl
 refine l_op rfl rfl (a_mv e1) rfl ?_ rfl
 refine l_nil ?_
 refine h_op ?_ rfl rfl rfl ?_
 · refine again_r rfl ?_
   refine again_l rfl rfl (a_convi (by simp only [Zu, Nat.reduceEqDiff, ↓reduceIte, Nat.zero_add, Nat.reduceAdd, hc_7, hc_8, str0, two_nat, four_nat, one_nat, newPtr, AMem.next_alloc, gM1_0] <;> rfl) rfl rfl (by simp (disch := omega) only [wrap_i64]; try rfl)) ?_
   refine again_l rfl rfl (a_load (by simp only [Zu, Nat.reduceEqDiff, ↓reduceIte, Nat.zero_add, Nat.reduceAdd, hc_7, hc_8, ld23, str0, two_nat, four_nat, one_nat, newPtr, AMem.next_alloc, gM1_0] <;> rfl) (by simp (disch := first | (refine Zx ?_; simp only [Zn]; done) | ((try simp only [Zn]); omega)) only [Zg, Nat.zero_add, Nat.reduceAdd, hc_7, hc_8, ld23, str0, two_nat, four_nat, one_nat, newPtr, gM1_0] <;> rfl) (by simp only [ld23, Zl, Nat.zero_add, Nat.reduceAdd, hc_7, hc_8, str0, two_nat, four_nat, one_nat, newPtr, AMem.next_alloc, gM1_0] <;> rfl)) ?_
   refine again_r rfl ?_
   refine again_l rfl rfl (a_convi (by simp only [Zu, Nat.reduceEqDiff, ↓reduceIte, Nat.zero_add, Nat.reduceAdd, hc_7, hc_8, str0, two_nat, four_nat, one_nat, newPtr, AMem.next_alloc, gM1_0] <;> rfl) rfl rfl (by simp (disch := omega) only [wrap_i64]; try rfl)) ?_
   refine again_l rfl rfl (a_load (by simp only [Zu, Nat.reduceEqDiff, ↓reduceIte, Nat.zero_add, Nat.reduceAdd, hc_7, hc_8, ld23, str0, two_nat, four_nat, one_nat, newPtr, AMem.next_alloc, gM1_0] <;> rfl) (by simp (disch := first | (refine Zx ?_; simp only [Zn]; done) | ((try simp only [Zn]); omega)) only [Zg, Nat.zero_add, Nat.reduceAdd, hc_7, hc_8, ld23, str0, two_nat, four_nat, one_nat, newPtr, gM1_0] <;> rfl) (by simp only [ld23, Zl, Nat.zero_add, Nat.reduceAdd, hc_7, hc_8, str0, two_nat, four_nat, one_nat, newPtr, AMem.next_alloc, gM1_0] <;> rfl)) ?_
   refine again_r rfl ?_
   exact again_nil
 refine s_call (by simp only [Zu, Nat.reduceEqDiff, ↓reduceIte, Nat.zero_add, Nat.reduceAdd, hc_7, hc_8, str0, two_nat, four_nat, one_nat, newPtr, AMem.next_alloc, gM1_0] <;> rfl) (by simp only [Zu, Nat.reduceEqDiff, ↓reduceIte, Zm, Nat.zero_add, Nat.reduceAdd, hc_7, hc_8, str0, two_nat, four_nat, one_nat, newPtr, AMem.next_alloc, gM1_0] <;> rfl) ?_
 rw [S96_104]; refine ⟨_, _, rfl, ⟨⟨by omega, by omega⟩, by omega, by omega⟩, ?_⟩
 show EA _ _ _ _ _ _
 refine s_end (fun s' hs' => ?_); subst hs'
 refine l_nil ?_
 refine h_op ?_ rfl rfl rfl ?_
 · refine again_r rfl ?_
   refine again_l rfl rfl (a_convi (by simp only [Zu, Nat.reduceEqDiff, ↓reduceIte, Nat.zero_add, Nat.reduceAdd, hc_7, hc_8, str0, two_nat, four_nat, one_nat, newPtr, AMem.next_alloc, gM1_0] <;> rfl) rfl rfl (by simp (disch := omega) only [wrap_i64]; try rfl)) ?_
   refine again_l rfl rfl (a_load (by simp only [Zu, Nat.reduceEqDiff, ↓reduceIte, Nat.zero_add, Nat.reduceAdd, hc_7, hc_8, ld23, str0, two_nat, four_nat, one_nat, newPtr, AMem.next_alloc, gM1_0] <;> rfl) (by simp (disch := first | (refine Zx ?_; simp only [Zn]; done) | ((try simp only [Zn]); omega)) only [Zg, Nat.zero_add, Nat.reduceAdd, hc_7, hc_8, ld23, str0, two_nat, four_nat, one_nat, newPtr, gM1_0] <;> rfl) (by simp only [ld23, Zl, Nat.zero_add, Nat.reduceAdd, hc_7, hc_8, str0, two_nat, four_nat, one_nat, newPtr, AMem.next_alloc, gM1_0] <;> rfl)) ?_
   refine again_r rfl ?_
   exact again_nil
 refine s_call (by simp only [Zu, Nat.reduceEqDiff, ↓reduceIte, Nat.zero_add, Nat.reduceAdd, hc_7, hc_8, str0, two_nat, four_nat, one_nat, newPtr, AMem.next_alloc, gM1_0] <;> rfl) (by simp only [Zu, Nat.reduceEqDiff, ↓reduceIte, Zm, Nat.zero_add, Nat.reduceAdd, hc_7, hc_8, str0, two_nat, four_nat, one_nat, newPtr, AMem.next_alloc, gM1_0] <;> rfl) ?_
 rw [S96_104]; refine ⟨_, _, rfl, ⟨⟨by omega, by omega⟩, by omega, by omega⟩, ?_⟩
 show EA _ _ _ _ _ _
 refine s_end (fun s' hs' => ?_); subst hs'
 refine l_op rfl rfl (a_bin (by simp (disch := ((try simp only [List.length_append, List.length_cons, List.length_nil]); omega)) only [Zu, Nat.reduceEqDiff, ↓reduceIte, Zd, reduceCtorEq, abin_add, abin_aadd, wrap_i64, wrap_u32, wrap_u8, wrap_u64, wrap_i32, wrap_u16, ne_eq, not_false_eq_true, Nat.zero_add, Nat.reduceAdd, hc_7, hc_8, str0, two_nat, four_nat, one_nat] <;> rfl)) rfl ?_ rfl
 refine l_op rfl rfl (a_bin (by simp (disch := ((try simp only [List.length_append, List.length_cons, List.length_nil]); omega)) only [Zu, Nat.reduceEqDiff, ↓reduceIte, Zd, reduceCtorEq, abin_add, abin_aadd, wrap_i64, wrap_u32, wrap_u8, wrap_u64, wrap_i32, wrap_u16, ne_eq, not_false_eq_true, Nat.zero_add, Nat.reduceAdd, hc_7, hc_8, str0, two_nat, four_nat, one_nat] <;> rfl)) rfl ?_ rfl
 refine l_nil ?_
 refine h_op ?_ rfl rfl rfl ?_
 · refine again_r rfl ?_
   refine again_r rfl ?_
   refine again_r rfl ?_
   exact again_nil
 refine s_call (by simp only [Zu, Nat.zero_add, Nat.reduceAdd, hc_7, hc_8, str0, two_nat, four_nat, one_nat, newPtr, AMem.next_alloc, gM1_0] <;> rfl) (by simp only [Zu, Zm, Nat.zero_add, Nat.reduceAdd, hc_7, hc_8, str0, two_nat, four_nat, one_nat, newPtr, AMem.next_alloc, gM1_0] <;> rfl) ?_
 rw [S96_104]; refine ⟨_, _, rfl, ⟨⟨by omega, by omega⟩, by omega, by omega⟩, ?_⟩
 show EA _ _ _ _ _ _
 refine s_end (fun s' hs' => ?_); subst hs'
 refine l_op rfl rfl (a_bin (by simp (disch := ((try simp only [List.length_append, List.length_cons, List.length_nil]); omega)) only [Zu, Nat.reduceEqDiff, ↓reduceIte, Zd, reduceCtorEq, abin_add, abin_aadd, wrap_i64, wrap_u32, wrap_u8, wrap_u64, wrap_i32, wrap_u16, ne_eq, not_false_eq_true, Nat.zero_add, Nat.reduceAdd, hc_7, hc_8, str0, two_nat, four_nat, one_nat] <;> rfl)) rfl ?_ rfl
 refine l_nil ?_
 refine h_op ?_ rfl rfl rfl ?_
 · refine again_r rfl ?_
   refine again_r rfl ?_
   refine again_r rfl ?_
   refine again_r rfl ?_
   exact again_nil
 refine s_call (by simp only [Zu, Nat.reduceEqDiff, ↓reduceIte, Nat.zero_add, Nat.reduceAdd, hc_7, hc_8, str0, two_nat, four_nat, one_nat, newPtr, AMem.next_alloc, gM1_0] <;> rfl) (by simp only [Zu, Nat.reduceEqDiff, ↓reduceIte, Zm, Nat.zero_add, Nat.reduceAdd, hc_7, hc_8, str0, two_nat, four_nat, one_nat, newPtr, AMem.next_alloc, gM1_0] <;> rfl) ?_
 rw [S96_104]; refine ⟨_, _, rfl, ⟨⟨by omega, by omega⟩, by omega, by omega⟩, ?_⟩
 show EA _ _ _ _ _ _
 refine s_end (fun s' hs' => ?_); subst hs'
 refine l_op rfl rfl (a_bin (by simp (disch := ((try simp only [List.length_append, List.length_cons, List.length_nil]); omega)) only [Zu, Nat.reduceEqDiff, ↓reduceIte, Zd, reduceCtorEq, abin_add, abin_aadd, wrap_i64, wrap_u32, wrap_u8, wrap_u64, wrap_i32, wrap_u16, ne_eq, not_false_eq_true, Nat.zero_add, Nat.reduceAdd, hc_7, hc_8, str0, two_nat, four_nat, one_nat] <;> rfl)) rfl ?_ rfl
 refine l_op rfl rfl (a_as (by simp only [Zu, Nat.reduceEqDiff, ↓reduceIte] <;> rfl)) rfl ?_ rfl
 refine l_nil ?_
 refine h_end ?_ (fun s' hs' => ?_)
 · refine again_r rfl ?_
   refine again_r rfl ?_
   refine again_r rfl ?_
   refine again_r rfl ?_
   refine again_r rfl ?_
   exact again_nil
 have e4 := congrFun hs' 4
 simp only [Zu, Nat.reduceEqDiff, ↓reduceIte, newPtr, AMem.next_alloc] at e4
 clear hs'
 try clear e1 e2
 refine o_norm ?_
 refine t_norm ?_
 refine at_ret rfl ?_
 have hp : bigF src 4 ++ bigF dst 4 ++ [0] ++ bigF 6 1 ++ bigF n 2 = pseudoF src dst 6 n.toNat := by
   unfold pseudoF
   rw [show ((n.toNat : Nat) : Int) = n from by omega, show bigF 6 2 = [0] ++ bigF 6 1 from rfl]
   simp only [List.append_assoc]
 rw [hp] at e4
 refine bq_ret rfl (ars_cons (ar_tmp e4) ars_nil) ?_
 exact ⟨_, _, hK, Canon.forget rfl holdM1⟩
def tcpE (src dst : Int) (l : List UInt8) : Int :=
  if l.length < 20 then 2 else
  if byteAt l 12 / 16 * 4 < 20 then 3 else
  if (l.length : Int) < byteAt l 12 / 16 * 4 then 2 else
  if byteAt l 12 % 16 ≠ 0 ∨ 63 < byteAt l 13 then 3 else
  if 2000 < l.length then 5 else
  if ocF (pseudoF src dst 6 l.length ++ l) ≠ 0 then 4 else 0
def tcpHead (l : List UInt8) : Segh :=
  ⟨numF (part l 0 2), numF (part l 2 4), numF (part l 4 8), numF (part l 8 12), byteAt l 13, numF (part l 14 16), part l 20 (byteAt l 12 / 16 * 4).toNat⟩
def tcpGetF (src dst : Int) (l : List UInt8) : Segh × List UInt8 × Int :=
  if tcpE src dst l = 0 then (tcpHead l, part l (byteAt l 12 / 16 * 4).toNat l.length, 0) else (seg0, [], tcpE src dst l)
def retSeg (r : Segh × List UInt8 × Int) : Value := .tuple #[.agg r.1.cells.toArray, asString r.2.1, .int .i64 r.2.2]
def sp74 : ASpec := fun args M K => ∃ (h : Segh) (src dst : Int) (l : List UInt8), args = [.agg (headCells h src dst).toArray, asString l] ∧ (u32 src ∧ u32 dst ∧ l.length ≤ 100000000) ∧ K (.ret (.int .i64 (tcpE src dst l))) M
noncomputable def S74 : FuncId → ASpec := tab [(96, sp96), (95, sp95)]
theorem S74_96 : S74 96 = sp96 := rfl
theorem S74_95 : S74 95 = sp95 := rfl
theorem S74_ok : ∀ f, Sound Try.prog f (S74 f) := tab_sound _ (by simp [f96_ok, f95_ok])
theorem and8_15' {k : Int} (h0 : 0 ≤ k) (h1 : k ≤ 255) : abits .and .u8 k 15 = k % 16 := and8_15 h0 h1
theorem row_two {M : AMem} {id : Nat} {own : Bool} {a b : List UInt8} (hid : id < M.next) (hg : M.get id = .cells [asString a, asString b] own) : Row M 1 (.slice (some ⟨id, 0, none⟩) 2 1) [a, b].length ([a, b].map asString) :=
  ⟨rfl, .inr ⟨id, 0, _, _, rfl, hid, hg, Nat.le_refl _, rfl⟩⟩
theorem f74_ok : Sound Try.prog 74 sp74 := by
 refine Sound.of_awp (c := bodyOf Try.f74) Try.func74 rfl rfl rfl ?_
 rintro args M K ⟨h, src, dst, l, rfl, ⟨hs, hd, hll⟩, hK⟩
 refine ⟨Nat.le_of_ble_eq_true rfl, ?_⟩
 have hS := S74_ok
 have e0 : entry [.agg (headCells h src dst).toArray, asString l] 0 = .agg (headCells h src dst).toArray := rfl
 have e1 : entry [.agg (headCells h src dst).toArray, asString l] 1 = asString l := rfl
 obtain ⟨z0, z1⟩ := byteAt_bound l 12
 obtain ⟨z2, z3⟩ := byteAt_bound l 13
 refine at_seq rfl ?_
 refine at_region hS rfl (by kernel_rfl) ?_
 refine s_op (a_box (by simp only [Zu, Nat.reduceEqDiff, ↓reduceIte, hcells_agg, newPtr, AMem.next_alloc, e0] <;> rfl)) rfl ?_
 refine s_op (a_as (by simp only [ev_const] <;> rfl)) rfl ?_
 refine s_end (fun s' hs' => ?_)
 replace e1 := kp 1 hs' e1
 have e2 := congrFun hs' 2
 simp only [Zu, Nat.reduceEqDiff, ↓reduceIte, newPtr, AMem.next_alloc] at e2
 clear hs'
 try clear e0
 refine o_norm ?_
 refine q_mem (fun M1 hEM1 => ?_)
 have hnM1 := congrArg AMem.next hEM1; simp only [Zn, Nat.add_assoc, Nat.reduceAdd] at hnM1
 have hnxM1 : M.next ≤ M1.next := by have := (Nat.le_refl M.next); omega
 have holdM1 : ∀ j, j < M.next → M1.get j = M.get j := fun j hj => by have := (Nat.le_refl M.next); rw [hEM1]; simp (disch := first | (refine Zx ?_; simp only [Zn]; done) | ((try simp only [Zn]); omega)) only [Zg]; done
 have gM1_0 := congrArg (fun m => AMem.get m M.next) hEM1; try simp (disch := first | (refine Zx ?_; simp only [Zn]; done) | ((try simp only [Zn]); omega)) only [Zg, Nat.add_assoc, Nat.reduceAdd] at gM1_0
 clear hEM1
 refine t_norm ?_
 refine at_seq rfl ?_
 refine at_seq rfl ?_
 refine at_region hS rfl (by kernel_rfl) ?_
 refine s_op (a_mv e1) rfl ?_
 refine s_op (a_len (by simp (disch := omega) only [Zu, Nat.reduceEqDiff, ↓reduceIte, alen_str, hlenS, Zs, Int.reduceToNat, hcells_agg, newPtr, AMem.next_alloc, gM1_0] <;> rfl)) rfl ?_
 refine s_op (a_bin (by simp (disch := omega) only [Zu, Nat.reduceEqDiff, ↓reduceIte, Zd, reduceCtorEq, abin_lss, ne_eq, not_false_eq_true, Zs, Int.reduceToNat, hcells_agg] <;> rfl)) rfl ?_
 refine s_end (fun s' hs' => ?_)
 replace e1 := kp 1 hs' e1
 replace e2 := kp 2 hs' e2
 have e8 := congrFun hs' 8
 simp only [Zu, Nat.reduceEqDiff, ↓reduceIte, newPtr, AMem.next_alloc] at e8
 clear hs'
 refine o_norm ?_
 refine t_norm ?_
 refine at_cond rfl rfl e8 (fun h1 => ?_) (fun h1 => ?_)
 ·
  try simp only [Zh] at h1
  refine at_seq rfl ?_
  refine at_region hS rfl (by kernel_rfl) ?_
  refine s_op (a_as (by simp only [ev_const] <;> rfl)) rfl ?_
  refine s_end (fun s' hs' => ?_)
  have e4 := congrFun hs' 4
  simp only [Zu, Nat.reduceEqDiff, ↓reduceIte, newPtr, AMem.next_alloc] at e4
  clear hs'
  refine o_norm ?_
  refine t_norm ?_
  refine at_ret rfl ?_
  refine t_ret ?_
  rw [show tcpE src dst l = 2 from by unfold tcpE; rw [if_pos (by omega)]] at hK
  refine bq_ret rfl (ars_cons (ar_tmp e4) ars_nil) ?_
  exact ⟨_, _, hK, Canon.forget rfl holdM1⟩
 ·
  try simp only [Zh] at h1
  refine at_skip rfl ?_
  refine t_norm ?_
  refine at_seq rfl ?_
  refine at_region hS rfl (by kernel_rfl) ?_
  refine s_op (a_mv e1) rfl ?_
  refine s_op (a_index (by simp (disch := omega) only [Zu, Nat.reduceEqDiff, ↓reduceIte, Zs, Int.reduceToNat, hcells_agg] <;> rfl)) rfl ?_
  refine s_op (a_convi (by simp only [Zu, Nat.reduceEqDiff, ↓reduceIte, Zs, Int.reduceToNat, hcells_agg, newPtr, AMem.next_alloc, gM1_0] <;> rfl) rfl rfl (by simp (disch := omega) only [wrap_i64]; try rfl)) rfl ?_
  refine s_op (a_bin (by simp (disch := omega) only [Zu, Nat.reduceEqDiff, ↓reduceIte, Zd, reduceCtorEq, shr_8, shr_16, shr_4, shr8_4, shr8_7, ne_eq, not_false_eq_true, Zs, Int.reduceToNat, hcells_agg] <;> rfl)) rfl ?_
  refine s_as ?_
  refine s_end (fun s' hs' => ?_)
  replace e1 := kp 1 hs' e1
  replace e2 := kp 2 hs' e2
  have e5 := congrFun hs' 5
  simp only [Zu, Nat.reduceEqDiff, ↓reduceIte, newPtr, AMem.next_alloc] at e5
  clear hs'
  refine o_norm ?_
  refine t_norm ?_
  refine at_seq rfl ?_
  refine at_block rfl ?_
  refine at_seq rfl ?_
  refine at_region hS rfl (by kernel_rfl) ?_
  refine s_op (a_mv e5) rfl ?_
  refine s_op (a_bin (by simp (disch := omega) only [Zu, Nat.reduceEqDiff, ↓reduceIte, Zd, reduceCtorEq, abin_lss, ne_eq, not_false_eq_true, Zs, Int.reduceToNat, hcells_agg] <;> rfl)) rfl ?_
  refine s_as ?_
  refine s_end (fun s' hs' => ?_)
  replace e1 := kp 1 hs' e1
  replace e2 := kp 2 hs' e2
  replace e5 := kp 5 hs' e5
  have e13 := congrFun hs' 13
  simp only [Zu, Nat.reduceEqDiff, ↓reduceIte, newPtr, AMem.next_alloc] at e13
  clear hs'
  refine o_norm ?_
  refine t_norm ?_
  refine at_cond rfl rfl e13 (fun h4 => ?_) (fun h4 => ?_)
  ·
   try simp only [Zh] at h4
   refine at_seq rfl ?_
   refine at_region hS rfl (by kernel_rfl) ?_
   refine s_op (a_as (by simp only [ev_const] <;> rfl)) rfl ?_
   refine s_end (fun s' hs' => ?_)
   have e4 := congrFun hs' 4
   simp only [Zu, Nat.reduceEqDiff, ↓reduceIte, newPtr, AMem.next_alloc] at e4
   clear hs'
   refine o_norm ?_
   refine t_norm ?_
   refine at_ret rfl ?_
   refine b_ret ?_
   refine t_ret ?_
   rw [show tcpE src dst l = 3 from by unfold tcpE; rw [if_neg (by omega), if_pos (by omega)]] at hK
   refine bq_ret rfl (ars_cons (ar_tmp e4) ars_nil) ?_
   exact ⟨_, _, hK, Canon.forget rfl holdM1⟩
  ·
   try simp only [Zh] at h4
   refine at_seq rfl ?_
   refine at_region hS rfl (by kernel_rfl) ?_
   refine s_op (a_mv e1) rfl ?_
   refine s_op (a_len (by simp (disch := omega) only [Zu, Nat.reduceEqDiff, ↓reduceIte, alen_str, hlenS, Zs, Int.reduceToNat, hcells_agg, newPtr, AMem.next_alloc, gM1_0] <;> rfl)) rfl ?_
   refine s_op (a_mv e5) rfl ?_
   refine s_op (a_bin (by simp (disch := omega) only [Zu, Nat.reduceEqDiff, ↓reduceIte, Zd, reduceCtorEq, abin_mul, wrap_i64, wrap_u32, wrap_u8, wrap_u64, wrap_i32, wrap_u16, ne_eq, not_false_eq_true, Zs, Int.reduceToNat, hcells_agg] <;> rfl)) rfl ?_
   refine s_op (a_bin (by simp (disch := omega) only [Zu, Nat.reduceEqDiff, ↓reduceIte, Zd, reduceCtorEq, abin_lss, ne_eq, not_false_eq_true, Zs, Int.reduceToNat, hcells_agg] <;> rfl)) rfl ?_
   refine s_as ?_
   refine s_end (fun s' hs' => ?_)
   replace e1 := kp 1 hs' e1
   replace e2 := kp 2 hs' e2
   have e16 := congrFun hs' 16
   simp only [Zu, Nat.reduceEqDiff, ↓reduceIte, newPtr, AMem.next_alloc] at e16
   clear hs'
   try clear e5
   refine o_norm ?_
   refine t_norm ?_
   refine at_cond rfl rfl e16 (fun h6 => ?_) (fun h6 => ?_)
   ·
    try simp only [Zh] at h6
    refine at_seq rfl ?_
    refine at_region hS rfl (by kernel_rfl) ?_
    refine s_op (a_as (by simp only [ev_const] <;> rfl)) rfl ?_
    refine s_end (fun s' hs' => ?_)
    have e4 := congrFun hs' 4
    simp only [Zu, Nat.reduceEqDiff, ↓reduceIte, newPtr, AMem.next_alloc] at e4
    clear hs'
    refine o_norm ?_
    refine t_norm ?_
    refine at_ret rfl ?_
    refine b_ret ?_
    refine t_ret ?_
    rw [show tcpE src dst l = 2 from by unfold tcpE; rw [if_neg (by omega), if_neg (by omega), if_pos (by omega)]] at hK
    refine bq_ret rfl (ars_cons (ar_tmp e4) ars_nil) ?_
    exact ⟨_, _, hK, Canon.forget rfl holdM1⟩
   ·
    try simp only [Zh] at h6
    refine at_seq rfl ?_
    by_cases hv : byteAt l 12 % 16 = 0
    ·
     refine at_region hS rfl (by kernel_rfl) ?_
     refine s_op (a_mv e1) rfl ?_
     refine s_op (a_index (by simp (disch := omega) only [Zu, Nat.reduceEqDiff, ↓reduceIte, Zs, Int.reduceToNat, hcells_agg, and8_15', hv] <;> rfl)) rfl ?_
     refine s_op (a_bin (by simp (disch := omega) only [Zu, Nat.reduceEqDiff, ↓reduceIte, Zd, reduceCtorEq, abin_and, and_255, and_15, and_65535, and_8191, ne_eq, not_false_eq_true, Zs, Int.reduceToNat, hcells_agg, and8_15', hv] <;> rfl)) rfl ?_
     refine s_op (a_bin (by simp (disch := omega) only [Zu, Nat.reduceEqDiff, ↓reduceIte, Zd, reduceCtorEq, abin_neq, abin_aneq, ne_eq, not_false_eq_true, Zs, Int.reduceToNat, hcells_agg, and8_15', hv] <;> rfl)) rfl ?_
     refine s_mv ?_
     refine s_tk ?_
     refine s_op (a_mv e1) rfl ?_
     refine s_tk ?_
     refine s_op (a_index (by simp (disch := omega) only [Zu, Nat.reduceEqDiff, ↓reduceIte, Zs, Int.reduceToNat, hcells_agg, and8_15', hv] <;> rfl)) rfl ?_
     refine s_tk ?_
     refine s_op (a_bin (by simp (disch := omega) only [Zu, Nat.reduceEqDiff, ↓reduceIte, Zd, reduceCtorEq, abin_gtr, ne_eq, not_false_eq_true, Zs, Int.reduceToNat, hcells_agg, and8_15', hv] <;> rfl)) rfl ?_
     refine s_op (a_pick (by simp only [Zu, Nat.reduceEqDiff, ↓reduceIte, Zd, reduceCtorEq, hcells_agg, and8_15', hv] <;> rfl) (by simp only [Zu, Nat.reduceEqDiff, ↓reduceIte, Zd, reduceCtorEq, hcells_agg, and8_15', hv] <;> rfl)) rfl ?_
     refine s_as ?_
     refine s_end (fun s' hs' => ?_)
     replace e1 := kp 1 hs' e1
     replace e2 := kp 2 hs' e2
     have e22 := congrFun hs' 22
     simp only [Zu, Nat.reduceEqDiff, ↓reduceIte, newPtr, AMem.next_alloc] at e22
     clear hs'
     refine o_norm ?_
     refine t_norm ?_
     refine at_cond rfl rfl e22 (fun h8 => ?_) (fun h8 => ?_)
     ·
      try simp only [Zh] at h8
      refine at_seq rfl ?_
      refine at_region hS rfl (by kernel_rfl) ?_
      refine s_op (a_as (by simp only [ev_const] <;> rfl)) rfl ?_
      refine s_end (fun s' hs' => ?_)
      have e4 := congrFun hs' 4
      simp only [Zu, Nat.reduceEqDiff, ↓reduceIte, newPtr, AMem.next_alloc] at e4
      clear hs'
      refine o_norm ?_
      refine t_norm ?_
      refine at_ret rfl ?_
      refine b_ret ?_
      refine t_ret ?_
      rw [show tcpE src dst l = 3 from by unfold tcpE; rw [if_neg (by omega), if_neg (by omega), if_neg (by omega), if_pos (by omega)]] at hK
      refine bq_ret rfl (ars_cons (ar_tmp e4) ars_nil) ?_
      exact ⟨_, _, hK, Canon.forget rfl holdM1⟩
     ·
      try simp only [Zh] at h8
      refine at_seq rfl ?_
      refine at_region hS rfl (by kernel_rfl) ?_
      refine s_op (a_mv e1) rfl ?_
      refine s_op (a_len (by simp (disch := omega) only [Zu, Nat.reduceEqDiff, ↓reduceIte, alen_str, hlenS, Zs, Int.reduceToNat, hcells_agg, newPtr, AMem.next_alloc, gM1_0] <;> rfl)) rfl ?_
      refine s_op (a_bin (by simp (disch := omega) only [Zu, Nat.reduceEqDiff, ↓reduceIte, Zd, reduceCtorEq, abin_gtr, ne_eq, not_false_eq_true, Zs, Int.reduceToNat, hcells_agg] <;> rfl)) rfl ?_
      refine s_as ?_
      refine s_end (fun s' hs' => ?_)
      replace e1 := kp 1 hs' e1
      replace e2 := kp 2 hs' e2
      have e32 := congrFun hs' 32
      simp only [Zu, Nat.reduceEqDiff, ↓reduceIte, newPtr, AMem.next_alloc] at e32
      clear hs'
      refine o_norm ?_
      refine t_norm ?_
      refine at_cond rfl rfl e32 (fun h10 => ?_) (fun h10 => ?_)
      ·
       try simp only [Zh] at h10
       refine at_seq rfl ?_
       refine at_region hS rfl (by kernel_rfl) ?_
       refine s_op (a_as (by simp only [ev_const] <;> rfl)) rfl ?_
       refine s_end (fun s' hs' => ?_)
       have e4 := congrFun hs' 4
       simp only [Zu, Nat.reduceEqDiff, ↓reduceIte, newPtr, AMem.next_alloc] at e4
       clear hs'
       refine o_norm ?_
       refine t_norm ?_
       refine at_ret rfl ?_
       refine b_ret ?_
       refine t_ret ?_
       rw [show tcpE src dst l = 5 from by unfold tcpE; rw [if_neg (by omega), if_neg (by omega), if_neg (by omega), if_neg (by omega), if_pos (by omega)]] at hK
       refine bq_ret rfl (ars_cons (ar_tmp e4) ars_nil) ?_
       exact ⟨_, _, hK, Canon.forget rfl holdM1⟩
      ·
       try simp only [Zh] at h10
       refine at_seq rfl ?_
       have hpl : (pseudoF src dst 6 l.length).length = 12 := by unfold pseudoF; simp [bigF_length]
       refine at_region hS rfl (by kernel_rfl) ?_
       refine s_op (a_load e2 (by simp (disch := first | (refine Zx ?_; simp only [Zn]; done) | ((try simp only [Zn]); omega)) only [Zg, hcells_agg, ld121, newPtr, gM1_0, e2] <;> rfl) (by simp only [hcells_agg, ld121, newPtr, AMem.next_alloc, gM1_0, e2] <;> rfl)) rfl ?_
       refine s_op (a_mv e1) rfl ?_
       refine s_op (a_len (by simp (disch := omega) only [Zu, Nat.reduceEqDiff, ↓reduceIte, alen_str, hlenS, Zs, Int.reduceToNat, hcells_agg, newPtr, AMem.next_alloc, gM1_0] <;> rfl)) rfl ?_
       refine s_call (by simp only [Zu, Nat.reduceEqDiff, ↓reduceIte, hlenS, Zs, Int.reduceToNat, hcells_agg, newPtr, AMem.next_alloc, gM1_0] <;> rfl) (by simp only [Zu, Nat.reduceEqDiff, ↓reduceIte, Zm, hlenS, Zs, Int.reduceToNat, hcells_agg, newPtr, AMem.next_alloc, gM1_0] <;> rfl) ?_
       rw [S74_96]; refine ⟨h, src, dst, _, rfl, ⟨hs, hd, by omega, by omega⟩, ?_⟩
       show EA _ _ _ _ _ _
       rw [Int.toNat_natCast]
       refine s_op (a_mv e1) rfl ?_
       refine s_op (a_bslice (by simp only [Zu, Nat.reduceEqDiff, ↓reduceIte, Zm, Array.toList, Zs, Int.reduceToNat, hcells_agg, newPtr, AMem.next_alloc, gM1_0]; exact abuildSlice_all [_, _] rfl rfl rfl rfl rfl (by decide) (by decide) rfl (by simp only [List.mem_cons, List.not_mem_nil, or_false, forall_eq_or_imp, forall_eq]; repeat' (first | rfl | apply And.intro)))) rfl ?_
       refine s_call (by simp only [Zu, Nat.reduceEqDiff, ↓reduceIte, hlenS, Zs, Int.reduceToNat, hcells_agg, newPtr, AMem.next_alloc, gM1_0] <;> rfl) (by simp only [Zu, Nat.reduceEqDiff, ↓reduceIte, Zm, hlenS, Zs, Int.reduceToNat, hcells_agg, newPtr, AMem.next_alloc, gM1_0] <;> rfl) ?_
       rw [S74_95]; refine ⟨_, [_, l], rfl, row_two (by simp) get_new, ⟨by simp; omega, by simp⟩, ?_⟩
       show EA _ _ _ _ _ _
       rw [show [pseudoF src dst 6 l.length, l].flatten = pseudoF src dst 6 l.length ++ l from by simp]
       refine s_op (a_bin (by simp (disch := omega) only [Zu, Nat.reduceEqDiff, ↓reduceIte, Zd, reduceCtorEq, abin_neq, abin_aneq, ne_eq, not_false_eq_true, Zs, Int.reduceToNat, hcells_agg] <;> rfl)) rfl ?_
       refine s_as ?_
       refine s_end (fun s' hs' => ?_)
       have e36 := congrFun hs' 36
       simp only [Zu, Nat.reduceEqDiff, ↓reduceIte, newPtr, AMem.next_alloc] at e36
       clear hs'
       try clear e1 e2
       refine o_norm ?_
       refine q_mem (fun M2 hEM2 => ?_)
       have hnM2 := congrArg AMem.next hEM2; simp only [Zn, Nat.add_assoc, Nat.reduceAdd] at hnM2
       have hnxM2 : M.next ≤ M2.next := by have := hnxM1; omega
       have holdM2 : ∀ j, j < M.next → M2.get j = M.get j := fun j hj => by have := hnxM1; rw [hEM2]; simp (disch := first | (refine Zx ?_; simp only [Zn]; done) | ((try simp only [Zn]); omega)) only [Zg]; exact holdM1 j hj
       have gM2_0 := congrArg (fun m => AMem.get m M.next) hEM2; try simp (disch := first | (refine Zx ?_; simp only [Zn]; done) | ((try simp only [Zn]); omega)) only [Zg, Nat.add_assoc, Nat.reduceAdd, gM1_0] at gM2_0
       have gM2_1 := congrArg (fun m => AMem.get m M1.next) hEM2; try simp (disch := first | (refine Zx ?_; simp only [Zn]; done) | ((try simp only [Zn]); omega)) only [Zg, Nat.add_assoc, Nat.reduceAdd, gM1_0] at gM2_1
       clear hEM2
       refine t_norm ?_
       refine at_cond rfl rfl e36 (fun h12 => ?_) (fun h12 => ?_)
       ·
        try simp only [Zh] at h12
        refine at_seq rfl ?_
        refine at_region hS rfl (by kernel_rfl) ?_
        refine s_op (a_as (by simp only [ev_const] <;> rfl)) rfl ?_
        refine s_end (fun s' hs' => ?_)
        have e4 := congrFun hs' 4
        simp only [Zu, Nat.reduceEqDiff, ↓reduceIte, newPtr, AMem.next_alloc] at e4
        clear hs'
        refine o_norm ?_
        refine t_norm ?_
        refine at_ret rfl ?_
        refine b_ret ?_
        refine t_ret ?_
        rw [show tcpE src dst l = 4 from by unfold tcpE; rw [if_neg (by omega), if_neg (by omega), if_neg (by omega), if_neg (by omega), if_neg (by omega), if_pos h12]] at hK
        refine bq_ret rfl (ars_cons (ar_tmp e4) ars_nil) ?_
        exact ⟨_, _, hK, Canon.forget rfl holdM2⟩
       ·
        try simp only [Zh] at h12
        refine at_skip rfl ?_
        refine b_norm ?_
        refine t_norm ?_
        refine at_seq rfl ?_
        refine at_region hS rfl (by kernel_rfl) ?_
        refine s_op (a_as (by simp only [ev_const] <;> rfl)) rfl ?_
        refine s_end (fun s' hs' => ?_)
        have e4 := congrFun hs' 4
        simp only [Zu, Nat.reduceEqDiff, ↓reduceIte, newPtr, AMem.next_alloc] at e4
        clear hs'
        refine o_norm ?_
        refine t_norm ?_
        refine at_ret rfl ?_
        rw [show tcpE src dst l = 0 from by unfold tcpE; rw [if_neg (by omega), if_neg (by omega), if_neg (by omega), if_neg (by omega), if_neg (by omega), if_neg (by simpa using h12)]] at hK
        refine bq_ret rfl (ars_cons (ar_tmp e4) ars_nil) ?_
        exact ⟨_, _, hK, Canon.forget rfl holdM2⟩
    ·
     refine at_region hS rfl (by kernel_rfl) ?_
     refine s_op (a_mv e1) rfl ?_
     refine s_op (a_index (by simp (disch := omega) only [Zu, Nat.reduceEqDiff, ↓reduceIte, Zs, Int.reduceToNat, hcells_agg, and8_15', hv] <;> rfl)) rfl ?_
     refine s_op (a_bin (by simp (disch := omega) only [Zu, Nat.reduceEqDiff, ↓reduceIte, Zd, reduceCtorEq, abin_and, and_255, and_15, and_65535, and_8191, ne_eq, not_false_eq_true, Zs, Int.reduceToNat, hcells_agg, and8_15', hv] <;> rfl)) rfl ?_
     refine s_op (a_bin (by simp (disch := omega) only [Zu, Nat.reduceEqDiff, ↓reduceIte, Zd, reduceCtorEq, abin_neq, abin_aneq, ne_eq, not_false_eq_true, Zs, Int.reduceToNat, hcells_agg, and8_15', hv] <;> rfl)) rfl ?_
     refine s_mv ?_
     refine s_lv ?_
     refine s_lv ?_
     refine s_lv ?_
     refine s_op (a_pick (by simp only [Zu, Nat.reduceEqDiff, ↓reduceIte, Zd, reduceCtorEq, hcells_agg, and8_15', hv] <;> rfl) (by simp only [Zu, Nat.reduceEqDiff, ↓reduceIte, Zd, reduceCtorEq, hcells_agg, and8_15', hv] <;> rfl)) rfl ?_
     refine s_as ?_
     refine s_end (fun s' hs' => ?_)
     replace e1 := kp 1 hs' e1
     replace e2 := kp 2 hs' e2
     have e22 := congrFun hs' 22
     simp only [Zu, Nat.reduceEqDiff, ↓reduceIte, newPtr, AMem.next_alloc] at e22
     clear hs'
     refine o_norm ?_
     refine t_norm ?_
     refine at_cond rfl rfl e22 (fun h8 => ?_) (fun hc => by cases hc)
     try simp only [Zh] at h8
     refine at_seq rfl ?_
     refine at_region hS rfl (by kernel_rfl) ?_
     refine s_op (a_as (by simp only [ev_const] <;> rfl)) rfl ?_
     refine s_end (fun s' hs' => ?_)
     have e4 := congrFun hs' 4
     simp only [Zu, Nat.reduceEqDiff, ↓reduceIte, newPtr, AMem.next_alloc] at e4
     clear hs'
     refine o_norm ?_
     refine t_norm ?_
     refine at_ret rfl ?_
     refine b_ret ?_
     refine t_ret ?_
     rw [show tcpE src dst l = 3 from by unfold tcpE; rw [if_neg (by omega), if_neg (by omega), if_neg (by omega), if_pos (by omega)]] at hK
     refine bq_ret rfl (ars_cons (ar_tmp e4) ars_nil) ?_
     exact ⟨_, _, hK, Canon.forget rfl holdM1⟩
end Go.Proofs.Ytdkdkpiemigfkaa
