/- Part 3 of the proof of the given statement (theorem tallyParts_holds, in the last part): for every input the law returns true, and each argument reads behind the call as it read before. No condition beyond the statement's own. -/
import Derived.Test.YtdkdkpiemigfkaaC4P2
set_option linter.unusedVariables false
set_option linter.unusedSimpArgs false
set_option maxRecDepth 8000
namespace Go.Proofs.Ytdkdkpiemigfkaa
open Go Go.Proofs
theorem hlenS : ∀ (M : AMem) (l : List UInt8), alen Try.prog M 9 (asString l) = some (.int .i64 (l.length : Nat)) := fun M l => alen_as Try.underlying9
structure IPh.ok (h : IPh) : Prop where
  t0 : 0 ≤ h.tos
  t1 : h.tos ≤ 255
  l0 : 0 ≤ h.ttl
  l1 : h.ttl ≤ 255
  p0 : 0 ≤ h.proto
  p1 : h.proto ≤ 255
  i0 : 0 ≤ h.id
  i1 : h.id ≤ 65535
  o0 : 0 ≤ h.off
  o1 : h.off ≤ 65528
  o2 : h.off % 8 = 0
  n1 : (h.opts.length : Int) ≤ 40
  n2 : (h.opts.length : Int) % 4 = 0
  s0 : 0 ≤ h.src
  s1 : h.src ≤ 4294967295
  d0 : 0 ≤ h.dst
  d1 : h.dst ≤ 4294967295
def sp68 : ASpec := fun args M K => ∃ h : IPh, args = [.agg h.cells.toArray] ∧ h.ok ∧ K (.ret (.bool true)) M
set_option maxHeartbeats 1000000 in
theorem f68_ok : Sound Try.prog 68 sp68 := by
  refine Sound.of_awp (c := bodyOf Try.f68) Try.func68 rfl rfl rfl ?_
  rintro args M K ⟨h, rfl, hok, hK⟩
  refine ⟨Nat.le_of_ble_eq_true rfl, ?_⟩
  have hS := noS_ok Try.prog
  have e0 : entry [.agg h.cells.toArray] 0 = .agg h.cells.toArray := rfl
  obtain ⟨t0, t1, l0, l1, p0, p1, i0, i1, o0, o1, o2, n1, n2, s0, s1, d0, d1⟩ := hok
  repeat refine at_seq rfl ?_
  refine at_region hS rfl (by kernel_rfl) ?_
  refine s_op (a_box (by simp only [Zu, Nat.reduceEqDiff, ↓reduceIte, Value.cells, e0] <;> rfl)) rfl ?_
  refine s_op (a_as (by simp only [ev_const] <;> rfl)) rfl ?_
  refine s_end (fun s' hs' => ?_)
  have e1 := congrFun hs' 1
  simp only [Zu, Nat.reduceEqDiff, ↓reduceIte, newPtr, AMem.next_alloc] at e1
  clear hs'
  try clear e0
  refine o_norm ?_
  refine t_norm ?_
  repeat refine at_seq rfl ?_
  refine at_region hS rfl (by kernel_rfl) ?_
  refine s_op (a_fa (by simp only [Zu, Nat.reduceEqDiff, ↓reduceIte, fa64_0, Nat.zero_add, newPtr, IPh.cells, t0, t1, l0, l1, p0, p1, i0, i1, o0, o1, o2, n1, n2, e1] <;> rfl)) rfl ?_
  refine s_op (a_load (by simp only [Zu, Nat.reduceEqDiff, ↓reduceIte, newPtr, IPh.cells, t0, t1, l0, l1, p0, p1, i0, i1, o0, o1, o2, n1, n2] <;> rfl) (by simp (disch := first | (refine Zx ?_; (try simp only [Zn]) <;> omega)) only [Zg, newPtr, IPh.cells, t0, t1, l0, l1, p0, p1, i0, i1, o0, o1, o2, n1, n2] <;> rfl) (by simp only [ld3, Zl, newPtr, IPh.cells, t0, t1, l0, l1, p0, p1, i0, i1, o0, o1, o2, n1, n2] <;> rfl)) rfl ?_
  refine s_op (a_bin (by simp (disch := omega) only [Zu, Nat.reduceEqDiff, ↓reduceIte, Zd, reduceCtorEq, abin_geq, ne_eq, not_false_eq_true, IPh.cells, t0, t1, l0, l1, p0, p1, i0, i1, o0, o1, o2, n1, n2] <;> rfl)) rfl ?_
  refine s_mv ?_
  refine s_tk ?_
  refine s_op (a_fa (by simp only [Zu, Nat.reduceEqDiff, ↓reduceIte, fa64_0, Nat.zero_add, newPtr, IPh.cells, t0, t1, l0, l1, p0, p1, i0, i1, o0, o1, o2, n1, n2, e1] <;> rfl)) rfl ?_
  refine s_tk ?_
  refine s_op (a_load (by simp only [Zu, Nat.reduceEqDiff, ↓reduceIte, newPtr, IPh.cells, t0, t1, l0, l1, p0, p1, i0, i1, o0, o1, o2, n1, n2] <;> rfl) (by simp (disch := first | (refine Zx ?_; (try simp only [Zn]) <;> omega)) only [Zg, newPtr, IPh.cells, t0, t1, l0, l1, p0, p1, i0, i1, o0, o1, o2, n1, n2] <;> rfl) (by simp only [ld3, Zl, newPtr, IPh.cells, t0, t1, l0, l1, p0, p1, i0, i1, o0, o1, o2, n1, n2] <;> rfl)) rfl ?_
  refine s_tk ?_
  refine s_op (a_bin (by simp (disch := omega) only [Zu, Nat.reduceEqDiff, ↓reduceIte, Zd, reduceCtorEq, abin_leq, ne_eq, not_false_eq_true, IPh.cells, t0, t1, l0, l1, p0, p1, i0, i1, o0, o1, o2, n1, n2] <;> rfl)) rfl ?_
  refine s_op (a_pick (by simp only [Zu, Nat.reduceEqDiff, ↓reduceIte, Zd, reduceCtorEq, IPh.cells, t0, t1, l0, l1, p0, p1, i0, i1, o0, o1, o2, n1, n2] <;> rfl) (by simp only [Zu, Nat.reduceEqDiff, ↓reduceIte, Zd, reduceCtorEq, IPh.cells, t0, t1, l0, l1, p0, p1, i0, i1, o0, o1, o2, n1, n2] <;> rfl)) rfl ?_
  refine s_mv ?_
  refine s_tk ?_
  refine s_op (a_fa (by simp only [Zu, Nat.reduceEqDiff, ↓reduceIte, fa64_5, Nat.zero_add, newPtr, IPh.cells, t0, t1, l0, l1, p0, p1, i0, i1, o0, o1, o2, n1, n2, e1] <;> rfl)) rfl ?_
  refine s_tk ?_
  refine s_op (a_load (by simp only [Zu, Nat.reduceEqDiff, ↓reduceIte, newPtr, IPh.cells, t0, t1, l0, l1, p0, p1, i0, i1, o0, o1, o2, n1, n2] <;> rfl) (by simp (disch := first | (refine Zx ?_; (try simp only [Zn]) <;> omega)) only [Zg, newPtr, IPh.cells, t0, t1, l0, l1, p0, p1, i0, i1, o0, o1, o2, n1, n2] <;> rfl) (by simp only [ld3, Zl, newPtr, IPh.cells, t0, t1, l0, l1, p0, p1, i0, i1, o0, o1, o2, n1, n2] <;> rfl)) rfl ?_
  refine s_tk ?_
  refine s_op (a_bin (by simp (disch := omega) only [Zu, Nat.reduceEqDiff, ↓reduceIte, Zd, reduceCtorEq, abin_geq, ne_eq, not_false_eq_true, IPh.cells, t0, t1, l0, l1, p0, p1, i0, i1, o0, o1, o2, n1, n2] <;> rfl)) rfl ?_
  refine s_op (a_pick (by simp only [Zu, Nat.reduceEqDiff, ↓reduceIte, Zd, reduceCtorEq, IPh.cells, t0, t1, l0, l1, p0, p1, i0, i1, o0, o1, o2, n1, n2] <;> rfl) (by simp only [Zu, Nat.reduceEqDiff, ↓reduceIte, Zd, reduceCtorEq, IPh.cells, t0, t1, l0, l1, p0, p1, i0, i1, o0, o1, o2, n1, n2] <;> rfl)) rfl ?_
  refine s_mv ?_
  refine s_tk ?_
  refine s_op (a_fa (by simp only [Zu, Nat.reduceEqDiff, ↓reduceIte, fa64_5, Nat.zero_add, newPtr, IPh.cells, t0, t1, l0, l1, p0, p1, i0, i1, o0, o1, o2, n1, n2, e1] <;> rfl)) rfl ?_
  refine s_tk ?_
  refine s_op (a_load (by simp only [Zu, Nat.reduceEqDiff, ↓reduceIte, newPtr, IPh.cells, t0, t1, l0, l1, p0, p1, i0, i1, o0, o1, o2, n1, n2] <;> rfl) (by simp (disch := first | (refine Zx ?_; (try simp only [Zn]) <;> omega)) only [Zg, newPtr, IPh.cells, t0, t1, l0, l1, p0, p1, i0, i1, o0, o1, o2, n1, n2] <;> rfl) (by simp only [ld3, Zl, newPtr, IPh.cells, t0, t1, l0, l1, p0, p1, i0, i1, o0, o1, o2, n1, n2] <;> rfl)) rfl ?_
  refine s_tk ?_
  refine s_op (a_bin (by simp (disch := omega) only [Zu, Nat.reduceEqDiff, ↓reduceIte, Zd, reduceCtorEq, abin_leq, ne_eq, not_false_eq_true, IPh.cells, t0, t1, l0, l1, p0, p1, i0, i1, o0, o1, o2, n1, n2] <;> rfl)) rfl ?_
  refine s_op (a_pick (by simp only [Zu, Nat.reduceEqDiff, ↓reduceIte, Zd, reduceCtorEq, IPh.cells, t0, t1, l0, l1, p0, p1, i0, i1, o0, o1, o2, n1, n2] <;> rfl) (by simp only [Zu, Nat.reduceEqDiff, ↓reduceIte, Zd, reduceCtorEq, IPh.cells, t0, t1, l0, l1, p0, p1, i0, i1, o0, o1, o2, n1, n2] <;> rfl)) rfl ?_
  refine s_mv ?_
  refine s_tk ?_
  refine s_op (a_fa (by simp only [Zu, Nat.reduceEqDiff, ↓reduceIte, fa64_6, Nat.zero_add, newPtr, IPh.cells, t0, t1, l0, l1, p0, p1, i0, i1, o0, o1, o2, n1, n2, e1] <;> rfl)) rfl ?_
  refine s_tk ?_
  refine s_op (a_load (by simp only [Zu, Nat.reduceEqDiff, ↓reduceIte, newPtr, IPh.cells, t0, t1, l0, l1, p0, p1, i0, i1, o0, o1, o2, n1, n2] <;> rfl) (by simp (disch := first | (refine Zx ?_; (try simp only [Zn]) <;> omega)) only [Zg, newPtr, IPh.cells, t0, t1, l0, l1, p0, p1, i0, i1, o0, o1, o2, n1, n2] <;> rfl) (by simp only [ld3, Zl, newPtr, IPh.cells, t0, t1, l0, l1, p0, p1, i0, i1, o0, o1, o2, n1, n2] <;> rfl)) rfl ?_
  refine s_tk ?_
  refine s_op (a_bin (by simp (disch := omega) only [Zu, Nat.reduceEqDiff, ↓reduceIte, Zd, reduceCtorEq, abin_geq, ne_eq, not_false_eq_true, IPh.cells, t0, t1, l0, l1, p0, p1, i0, i1, o0, o1, o2, n1, n2] <;> rfl)) rfl ?_
  refine s_op (a_pick (by simp only [Zu, Nat.reduceEqDiff, ↓reduceIte, Zd, reduceCtorEq, IPh.cells, t0, t1, l0, l1, p0, p1, i0, i1, o0, o1, o2, n1, n2] <;> rfl) (by simp only [Zu, Nat.reduceEqDiff, ↓reduceIte, Zd, reduceCtorEq, IPh.cells, t0, t1, l0, l1, p0, p1, i0, i1, o0, o1, o2, n1, n2] <;> rfl)) rfl ?_
  refine s_mv ?_
  refine s_tk ?_
  refine s_op (a_fa (by simp only [Zu, Nat.reduceEqDiff, ↓reduceIte, fa64_6, Nat.zero_add, newPtr, IPh.cells, t0, t1, l0, l1, p0, p1, i0, i1, o0, o1, o2, n1, n2, e1] <;> rfl)) rfl ?_
  refine s_tk ?_
  refine s_op (a_load (by simp only [Zu, Nat.reduceEqDiff, ↓reduceIte, newPtr, IPh.cells, t0, t1, l0, l1, p0, p1, i0, i1, o0, o1, o2, n1, n2] <;> rfl) (by simp (disch := first | (refine Zx ?_; (try simp only [Zn]) <;> omega)) only [Zg, newPtr, IPh.cells, t0, t1, l0, l1, p0, p1, i0, i1, o0, o1, o2, n1, n2] <;> rfl) (by simp only [ld3, Zl, newPtr, IPh.cells, t0, t1, l0, l1, p0, p1, i0, i1, o0, o1, o2, n1, n2] <;> rfl)) rfl ?_
  refine s_tk ?_
  refine s_op (a_bin (by simp (disch := omega) only [Zu, Nat.reduceEqDiff, ↓reduceIte, Zd, reduceCtorEq, abin_leq, ne_eq, not_false_eq_true, IPh.cells, t0, t1, l0, l1, p0, p1, i0, i1, o0, o1, o2, n1, n2] <;> rfl)) rfl ?_
  refine s_op (a_pick (by simp only [Zu, Nat.reduceEqDiff, ↓reduceIte, Zd, reduceCtorEq, IPh.cells, t0, t1, l0, l1, p0, p1, i0, i1, o0, o1, o2, n1, n2] <;> rfl) (by simp only [Zu, Nat.reduceEqDiff, ↓reduceIte, Zd, reduceCtorEq, IPh.cells, t0, t1, l0, l1, p0, p1, i0, i1, o0, o1, o2, n1, n2] <;> rfl)) rfl ?_
  refine s_mv ?_
  refine s_tk ?_
  refine s_op (a_fa (by simp only [Zu, Nat.reduceEqDiff, ↓reduceIte, fa64_1, Nat.zero_add, newPtr, IPh.cells, t0, t1, l0, l1, p0, p1, i0, i1, o0, o1, o2, n1, n2, e1] <;> rfl)) rfl ?_
  refine s_tk ?_
  refine s_op (a_load (by simp only [Zu, Nat.reduceEqDiff, ↓reduceIte, newPtr, IPh.cells, t0, t1, l0, l1, p0, p1, i0, i1, o0, o1, o2, n1, n2] <;> rfl) (by simp (disch := first | (refine Zx ?_; (try simp only [Zn]) <;> omega)) only [Zg, newPtr, IPh.cells, t0, t1, l0, l1, p0, p1, i0, i1, o0, o1, o2, n1, n2] <;> rfl) (by simp only [ld3, Zl, newPtr, IPh.cells, t0, t1, l0, l1, p0, p1, i0, i1, o0, o1, o2, n1, n2] <;> rfl)) rfl ?_
  refine s_tk ?_
  refine s_op (a_bin (by simp (disch := omega) only [Zu, Nat.reduceEqDiff, ↓reduceIte, Zd, reduceCtorEq, abin_geq, ne_eq, not_false_eq_true, IPh.cells, t0, t1, l0, l1, p0, p1, i0, i1, o0, o1, o2, n1, n2] <;> rfl)) rfl ?_
  refine s_op (a_pick (by simp only [Zu, Nat.reduceEqDiff, ↓reduceIte, Zd, reduceCtorEq, IPh.cells, t0, t1, l0, l1, p0, p1, i0, i1, o0, o1, o2, n1, n2] <;> rfl) (by simp only [Zu, Nat.reduceEqDiff, ↓reduceIte, Zd, reduceCtorEq, IPh.cells, t0, t1, l0, l1, p0, p1, i0, i1, o0, o1, o2, n1, n2] <;> rfl)) rfl ?_
  refine s_mv ?_
  refine s_tk ?_
  refine s_op (a_fa (by simp only [Zu, Nat.reduceEqDiff, ↓reduceIte, fa64_1, Nat.zero_add, newPtr, IPh.cells, t0, t1, l0, l1, p0, p1, i0, i1, o0, o1, o2, n1, n2, e1] <;> rfl)) rfl ?_
  refine s_tk ?_
  refine s_op (a_load (by simp only [Zu, Nat.reduceEqDiff, ↓reduceIte, newPtr, IPh.cells, t0, t1, l0, l1, p0, p1, i0, i1, o0, o1, o2, n1, n2] <;> rfl) (by simp (disch := first | (refine Zx ?_; (try simp only [Zn]) <;> omega)) only [Zg, newPtr, IPh.cells, t0, t1, l0, l1, p0, p1, i0, i1, o0, o1, o2, n1, n2] <;> rfl) (by simp only [ld3, Zl, newPtr, IPh.cells, t0, t1, l0, l1, p0, p1, i0, i1, o0, o1, o2, n1, n2] <;> rfl)) rfl ?_
  refine s_tk ?_
  refine s_op (a_bin (by simp (disch := omega) only [Zu, Nat.reduceEqDiff, ↓reduceIte, Zd, reduceCtorEq, abin_leq, ne_eq, not_false_eq_true, IPh.cells, t0, t1, l0, l1, p0, p1, i0, i1, o0, o1, o2, n1, n2] <;> rfl)) rfl ?_
  refine s_op (a_pick (by simp only [Zu, Nat.reduceEqDiff, ↓reduceIte, Zd, reduceCtorEq, IPh.cells, t0, t1, l0, l1, p0, p1, i0, i1, o0, o1, o2, n1, n2] <;> rfl) (by simp only [Zu, Nat.reduceEqDiff, ↓reduceIte, Zd, reduceCtorEq, IPh.cells, t0, t1, l0, l1, p0, p1, i0, i1, o0, o1, o2, n1, n2] <;> rfl)) rfl ?_
  refine s_mv ?_
  refine s_tk ?_
  refine s_op (a_fa (by simp only [Zu, Nat.reduceEqDiff, ↓reduceIte, fa64_4, Nat.zero_add, newPtr, IPh.cells, t0, t1, l0, l1, p0, p1, i0, i1, o0, o1, o2, n1, n2, e1] <;> rfl)) rfl ?_
  refine s_tk ?_
  refine s_op (a_load (by simp only [Zu, Nat.reduceEqDiff, ↓reduceIte, newPtr, IPh.cells, t0, t1, l0, l1, p0, p1, i0, i1, o0, o1, o2, n1, n2] <;> rfl) (by simp (disch := first | (refine Zx ?_; (try simp only [Zn]) <;> omega)) only [Zg, newPtr, IPh.cells, t0, t1, l0, l1, p0, p1, i0, i1, o0, o1, o2, n1, n2] <;> rfl) (by simp only [ld3, Zl, newPtr, IPh.cells, t0, t1, l0, l1, p0, p1, i0, i1, o0, o1, o2, n1, n2] <;> rfl)) rfl ?_
  refine s_tk ?_
  refine s_op (a_bin (by simp (disch := omega) only [Zu, Nat.reduceEqDiff, ↓reduceIte, Zd, reduceCtorEq, abin_geq, ne_eq, not_false_eq_true, IPh.cells, t0, t1, l0, l1, p0, p1, i0, i1, o0, o1, o2, n1, n2] <;> rfl)) rfl ?_
  refine s_op (a_pick (by simp only [Zu, Nat.reduceEqDiff, ↓reduceIte, Zd, reduceCtorEq, IPh.cells, t0, t1, l0, l1, p0, p1, i0, i1, o0, o1, o2, n1, n2] <;> rfl) (by simp only [Zu, Nat.reduceEqDiff, ↓reduceIte, Zd, reduceCtorEq, IPh.cells, t0, t1, l0, l1, p0, p1, i0, i1, o0, o1, o2, n1, n2] <;> rfl)) rfl ?_
  refine s_mv ?_
  refine s_tk ?_
  refine s_op (a_fa (by simp only [Zu, Nat.reduceEqDiff, ↓reduceIte, fa64_4, Nat.zero_add, newPtr, IPh.cells, t0, t1, l0, l1, p0, p1, i0, i1, o0, o1, o2, n1, n2, e1] <;> rfl)) rfl ?_
  refine s_tk ?_
  refine s_op (a_load (by simp only [Zu, Nat.reduceEqDiff, ↓reduceIte, newPtr, IPh.cells, t0, t1, l0, l1, p0, p1, i0, i1, o0, o1, o2, n1, n2] <;> rfl) (by simp (disch := first | (refine Zx ?_; (try simp only [Zn]) <;> omega)) only [Zg, newPtr, IPh.cells, t0, t1, l0, l1, p0, p1, i0, i1, o0, o1, o2, n1, n2] <;> rfl) (by simp only [ld3, Zl, newPtr, IPh.cells, t0, t1, l0, l1, p0, p1, i0, i1, o0, o1, o2, n1, n2] <;> rfl)) rfl ?_
  refine s_tk ?_
  refine s_op (a_bin (by simp (disch := omega) only [Zu, Nat.reduceEqDiff, ↓reduceIte, Zd, reduceCtorEq, abin_leq, ne_eq, not_false_eq_true, IPh.cells, t0, t1, l0, l1, p0, p1, i0, i1, o0, o1, o2, n1, n2] <;> rfl)) rfl ?_
  refine s_op (a_pick (by simp only [Zu, Nat.reduceEqDiff, ↓reduceIte, Zd, reduceCtorEq, IPh.cells, t0, t1, l0, l1, p0, p1, i0, i1, o0, o1, o2, n1, n2] <;> rfl) (by simp only [Zu, Nat.reduceEqDiff, ↓reduceIte, Zd, reduceCtorEq, IPh.cells, t0, t1, l0, l1, p0, p1, i0, i1, o0, o1, o2, n1, n2] <;> rfl)) rfl ?_
  refine s_mv ?_
  refine s_tk ?_
  refine s_op (a_fa (by simp only [Zu, Nat.reduceEqDiff, ↓reduceIte, fa64_4, Nat.zero_add, newPtr, IPh.cells, t0, t1, l0, l1, p0, p1, i0, i1, o0, o1, o2, n1, n2, e1] <;> rfl)) rfl ?_
  refine s_tk ?_
  refine s_op (a_load (by simp only [Zu, Nat.reduceEqDiff, ↓reduceIte, newPtr, IPh.cells, t0, t1, l0, l1, p0, p1, i0, i1, o0, o1, o2, n1, n2] <;> rfl) (by simp (disch := first | (refine Zx ?_; (try simp only [Zn]) <;> omega)) only [Zg, newPtr, IPh.cells, t0, t1, l0, l1, p0, p1, i0, i1, o0, o1, o2, n1, n2] <;> rfl) (by simp only [ld3, Zl, newPtr, IPh.cells, t0, t1, l0, l1, p0, p1, i0, i1, o0, o1, o2, n1, n2] <;> rfl)) rfl ?_
  refine s_tk ?_
  refine s_op (a_bin (by simp (disch := omega) only [Zu, Nat.reduceEqDiff, ↓reduceIte, Zd, reduceCtorEq, abin_rem, Int.tmod_eq_emod_of_nonneg, ne_eq, not_false_eq_true, IPh.cells, t0, t1, l0, l1, p0, p1, i0, i1, o0, o1, o2, n1, n2] <;> rfl)) rfl ?_
  refine s_tk ?_
  refine s_op (a_bin (by simp (disch := omega) only [Zu, Nat.reduceEqDiff, ↓reduceIte, Zd, reduceCtorEq, abin_eql, abin_aeql, ne_eq, not_false_eq_true, IPh.cells, t0, t1, l0, l1, p0, p1, i0, i1, o0, o1, o2, n1, n2] <;> rfl)) rfl ?_
  refine s_op (a_pick (by simp only [Zu, Nat.reduceEqDiff, ↓reduceIte, Zd, reduceCtorEq, IPh.cells, t0, t1, l0, l1, p0, p1, i0, i1, o0, o1, o2, n1, n2] <;> rfl) (by simp only [Zu, Nat.reduceEqDiff, ↓reduceIte, Zd, reduceCtorEq, IPh.cells, t0, t1, l0, l1, p0, p1, i0, i1, o0, o1, o2, n1, n2] <;> rfl)) rfl ?_
  refine s_mv ?_
  refine s_tk ?_
  refine s_op (a_fa (by simp only [Zu, Nat.reduceEqDiff, ↓reduceIte, fa64_9, Nat.zero_add, newPtr, IPh.cells, t0, t1, l0, l1, p0, p1, i0, i1, o0, o1, o2, n1, n2, e1] <;> rfl)) rfl ?_
  refine s_tk ?_
  refine s_op (a_load (by simp only [Zu, Nat.reduceEqDiff, ↓reduceIte, newPtr, IPh.cells, t0, t1, l0, l1, p0, p1, i0, i1, o0, o1, o2, n1, n2] <;> rfl) (by simp (disch := first | (refine Zx ?_; (try simp only [Zn]) <;> omega)) only [Zg, newPtr, IPh.cells, t0, t1, l0, l1, p0, p1, i0, i1, o0, o1, o2, n1, n2] <;> rfl) (by simp only [ld9, Zl, newPtr, IPh.cells, t0, t1, l0, l1, p0, p1, i0, i1, o0, o1, o2, n1, n2] <;> rfl)) rfl ?_
  refine s_tk ?_
  refine s_op (a_len (by simp (disch := omega) only [Zu, Nat.reduceEqDiff, ↓reduceIte, alen_str, newPtr, IPh.cells, hlenS, t0, t1, l0, l1, p0, p1, i0, i1, o0, o1, o2, n1, n2] <;> rfl)) rfl ?_
  refine s_tk ?_
  refine s_op (a_bin (by simp (disch := omega) only [Zu, Nat.reduceEqDiff, ↓reduceIte, Zd, reduceCtorEq, abin_leq, ne_eq, not_false_eq_true, IPh.cells, t0, t1, l0, l1, p0, p1, i0, i1, o0, o1, o2, n1, n2] <;> rfl)) rfl ?_
  refine s_op (a_pick (by simp only [Zu, Nat.reduceEqDiff, ↓reduceIte, Zd, reduceCtorEq, IPh.cells, t0, t1, l0, l1, p0, p1, i0, i1, o0, o1, o2, n1, n2] <;> rfl) (by simp only [Zu, Nat.reduceEqDiff, ↓reduceIte, Zd, reduceCtorEq, IPh.cells, t0, t1, l0, l1, p0, p1, i0, i1, o0, o1, o2, n1, n2] <;> rfl)) rfl ?_
  refine s_mv ?_
  refine s_tk ?_
  refine s_op (a_fa (by simp only [Zu, Nat.reduceEqDiff, ↓reduceIte, fa64_9, Nat.zero_add, newPtr, IPh.cells, t0, t1, l0, l1, p0, p1, i0, i1, o0, o1, o2, n1, n2, e1] <;> rfl)) rfl ?_
  refine s_tk ?_
  refine s_op (a_load (by simp only [Zu, Nat.reduceEqDiff, ↓reduceIte, newPtr, IPh.cells, t0, t1, l0, l1, p0, p1, i0, i1, o0, o1, o2, n1, n2] <;> rfl) (by simp (disch := first | (refine Zx ?_; (try simp only [Zn]) <;> omega)) only [Zg, newPtr, IPh.cells, t0, t1, l0, l1, p0, p1, i0, i1, o0, o1, o2, n1, n2] <;> rfl) (by simp only [ld9, Zl, newPtr, IPh.cells, t0, t1, l0, l1, p0, p1, i0, i1, o0, o1, o2, n1, n2] <;> rfl)) rfl ?_
  refine s_tk ?_
  refine s_op (a_len (by simp (disch := omega) only [Zu, Nat.reduceEqDiff, ↓reduceIte, alen_str, newPtr, IPh.cells, hlenS, t0, t1, l0, l1, p0, p1, i0, i1, o0, o1, o2, n1, n2] <;> rfl)) rfl ?_
  refine s_tk ?_
  refine s_op (a_bin (by simp (disch := omega) only [Zu, Nat.reduceEqDiff, ↓reduceIte, Zd, reduceCtorEq, abin_rem, Int.tmod_eq_emod_of_nonneg, ne_eq, not_false_eq_true, IPh.cells, t0, t1, l0, l1, p0, p1, i0, i1, o0, o1, o2, n1, n2] <;> rfl)) rfl ?_
  refine s_tk ?_
  refine s_op (a_bin (by simp (disch := omega) only [Zu, Nat.reduceEqDiff, ↓reduceIte, Zd, reduceCtorEq, abin_eql, abin_aeql, ne_eq, not_false_eq_true, IPh.cells, t0, t1, l0, l1, p0, p1, i0, i1, o0, o1, o2, n1, n2] <;> rfl)) rfl ?_
  refine s_op (a_pick (by simp only [Zu, Nat.reduceEqDiff, ↓reduceIte, Zd, reduceCtorEq, IPh.cells, t0, t1, l0, l1, p0, p1, i0, i1, o0, o1, o2, n1, n2] <;> rfl) (by simp only [Zu, Nat.reduceEqDiff, ↓reduceIte, Zd, reduceCtorEq, IPh.cells, t0, t1, l0, l1, p0, p1, i0, i1, o0, o1, o2, n1, n2] <;> rfl)) rfl ?_
  refine s_as ?_
  refine s_end (fun s' hs' => ?_)
  have e2 := congrFun hs' 2
  simp only [Zu, Nat.reduceEqDiff, ↓reduceIte, newPtr, AMem.next_alloc] at e2
  clear hs'
  try clear e1
  refine o_norm ?_
  refine t_norm ?_
  refine at_ret rfl ?_
  refine bq_ret rfl (ars_cons (ar_tmp e2) ars_nil) ?_
  exact ⟨_, _, hK, Canon.forget rfl (fun j hj => get_old (by omega))⟩
structure Segh.ok (h : Segh) : Prop where
  s0 : 0 ≤ h.src
  s1 : h.src ≤ 65535
  d0 : 0 ≤ h.dst
  d1 : h.dst ≤ 65535
  w0 : 0 ≤ h.win
  w1 : h.win ≤ 65535
  f0 : 0 ≤ h.flags
  f1 : h.flags ≤ 63
  n1 : (h.opts.length : Int) ≤ 40
  n2 : (h.opts.length : Int) % 4 = 0
  q0 : 0 ≤ h.seq
  q1 : h.seq ≤ 4294967295
  a0 : 0 ≤ h.ack
  a1 : h.ack ≤ 4294967295
def sp51 : ASpec := fun args M K => ∃ h : Segh, args = [.agg h.cells.toArray] ∧ h.ok ∧ K (.ret (.bool true)) M
set_option maxHeartbeats 1000000 in
theorem f51_ok : Sound Try.prog 51 sp51 := by
  refine Sound.of_awp (c := bodyOf Try.f51) Try.func51 rfl rfl rfl ?_
  rintro args M K ⟨h, rfl, hok, hK⟩
  refine ⟨Nat.le_of_ble_eq_true rfl, ?_⟩
  have hS := noS_ok Try.prog
  have e0 : entry [.agg h.cells.toArray] 0 = .agg h.cells.toArray := rfl
  obtain ⟨s0, s1, d0, d1, w0, w1, f0, f1, n1, n2, q0, q1, a0, a1⟩ := hok
  repeat refine at_seq rfl ?_
  refine at_region hS rfl (by kernel_rfl) ?_
  refine s_op (a_box (by simp only [Zu, Nat.reduceEqDiff, ↓reduceIte, Value.cells, e0] <;> rfl)) rfl ?_
  refine s_op (a_as (by simp only [ev_const] <;> rfl)) rfl ?_
  refine s_end (fun s' hs' => ?_)
  have e1 := congrFun hs' 1
  simp only [Zu, Nat.reduceEqDiff, ↓reduceIte, newPtr, AMem.next_alloc] at e1
  clear hs'
  try clear e0
  refine o_norm ?_
  refine t_norm ?_
  repeat refine at_seq rfl ?_
  refine at_region hS rfl (by kernel_rfl) ?_
  refine s_op (a_fa (by simp only [Zu, Nat.reduceEqDiff, ↓reduceIte, fa57_0, Nat.zero_add, newPtr, Segh.cells, s0, s1, d0, d1, w0, w1, f0, f1, n1, n2, e1] <;> rfl)) rfl ?_
  refine s_op (a_load (by simp only [Zu, Nat.reduceEqDiff, ↓reduceIte, newPtr, Segh.cells, s0, s1, d0, d1, w0, w1, f0, f1, n1, n2] <;> rfl) (by simp (disch := first | (refine Zx ?_; (try simp only [Zn]) <;> omega)) only [Zg, newPtr, Segh.cells, s0, s1, d0, d1, w0, w1, f0, f1, n1, n2] <;> rfl) (by simp only [ld3, Zl, newPtr, Segh.cells, s0, s1, d0, d1, w0, w1, f0, f1, n1, n2] <;> rfl)) rfl ?_
  refine s_op (a_bin (by simp (disch := omega) only [Zu, Nat.reduceEqDiff, ↓reduceIte, Zd, reduceCtorEq, abin_geq, ne_eq, not_false_eq_true, Segh.cells, s0, s1, d0, d1, w0, w1, f0, f1, n1, n2] <;> rfl)) rfl ?_
  refine s_mv ?_
  refine s_tk ?_
  refine s_op (a_fa (by simp only [Zu, Nat.reduceEqDiff, ↓reduceIte, fa57_0, Nat.zero_add, newPtr, Segh.cells, s0, s1, d0, d1, w0, w1, f0, f1, n1, n2, e1] <;> rfl)) rfl ?_
  refine s_tk ?_
  refine s_op (a_load (by simp only [Zu, Nat.reduceEqDiff, ↓reduceIte, newPtr, Segh.cells, s0, s1, d0, d1, w0, w1, f0, f1, n1, n2] <;> rfl) (by simp (disch := first | (refine Zx ?_; (try simp only [Zn]) <;> omega)) only [Zg, newPtr, Segh.cells, s0, s1, d0, d1, w0, w1, f0, f1, n1, n2] <;> rfl) (by simp only [ld3, Zl, newPtr, Segh.cells, s0, s1, d0, d1, w0, w1, f0, f1, n1, n2] <;> rfl)) rfl ?_
  refine s_tk ?_
  refine s_op (a_bin (by simp (disch := omega) only [Zu, Nat.reduceEqDiff, ↓reduceIte, Zd, reduceCtorEq, abin_leq, ne_eq, not_false_eq_true, Segh.cells, s0, s1, d0, d1, w0, w1, f0, f1, n1, n2] <;> rfl)) rfl ?_
  refine s_op (a_pick (by simp only [Zu, Nat.reduceEqDiff, ↓reduceIte, Zd, reduceCtorEq, Segh.cells, s0, s1, d0, d1, w0, w1, f0, f1, n1, n2] <;> rfl) (by simp only [Zu, Nat.reduceEqDiff, ↓reduceIte, Zd, reduceCtorEq, Segh.cells, s0, s1, d0, d1, w0, w1, f0, f1, n1, n2] <;> rfl)) rfl ?_
  refine s_mv ?_
  refine s_tk ?_
  refine s_op (a_fa (by simp only [Zu, Nat.reduceEqDiff, ↓reduceIte, fa57_1, Nat.zero_add, newPtr, Segh.cells, s0, s1, d0, d1, w0, w1, f0, f1, n1, n2, e1] <;> rfl)) rfl ?_
  refine s_tk ?_
  refine s_op (a_load (by simp only [Zu, Nat.reduceEqDiff, ↓reduceIte, newPtr, Segh.cells, s0, s1, d0, d1, w0, w1, f0, f1, n1, n2] <;> rfl) (by simp (disch := first | (refine Zx ?_; (try simp only [Zn]) <;> omega)) only [Zg, newPtr, Segh.cells, s0, s1, d0, d1, w0, w1, f0, f1, n1, n2] <;> rfl) (by simp only [ld3, Zl, newPtr, Segh.cells, s0, s1, d0, d1, w0, w1, f0, f1, n1, n2] <;> rfl)) rfl ?_
  refine s_tk ?_
  refine s_op (a_bin (by simp (disch := omega) only [Zu, Nat.reduceEqDiff, ↓reduceIte, Zd, reduceCtorEq, abin_geq, ne_eq, not_false_eq_true, Segh.cells, s0, s1, d0, d1, w0, w1, f0, f1, n1, n2] <;> rfl)) rfl ?_
  refine s_op (a_pick (by simp only [Zu, Nat.reduceEqDiff, ↓reduceIte, Zd, reduceCtorEq, Segh.cells, s0, s1, d0, d1, w0, w1, f0, f1, n1, n2] <;> rfl) (by simp only [Zu, Nat.reduceEqDiff, ↓reduceIte, Zd, reduceCtorEq, Segh.cells, s0, s1, d0, d1, w0, w1, f0, f1, n1, n2] <;> rfl)) rfl ?_
  refine s_mv ?_
  refine s_tk ?_
  refine s_op (a_fa (by simp only [Zu, Nat.reduceEqDiff, ↓reduceIte, fa57_1, Nat.zero_add, newPtr, Segh.cells, s0, s1, d0, d1, w0, w1, f0, f1, n1, n2, e1] <;> rfl)) rfl ?_
  refine s_tk ?_
  refine s_op (a_load (by simp only [Zu, Nat.reduceEqDiff, ↓reduceIte, newPtr, Segh.cells, s0, s1, d0, d1, w0, w1, f0, f1, n1, n2] <;> rfl) (by simp (disch := first | (refine Zx ?_; (try simp only [Zn]) <;> omega)) only [Zg, newPtr, Segh.cells, s0, s1, d0, d1, w0, w1, f0, f1, n1, n2] <;> rfl) (by simp only [ld3, Zl, newPtr, Segh.cells, s0, s1, d0, d1, w0, w1, f0, f1, n1, n2] <;> rfl)) rfl ?_
  refine s_tk ?_
  refine s_op (a_bin (by simp (disch := omega) only [Zu, Nat.reduceEqDiff, ↓reduceIte, Zd, reduceCtorEq, abin_leq, ne_eq, not_false_eq_true, Segh.cells, s0, s1, d0, d1, w0, w1, f0, f1, n1, n2] <;> rfl)) rfl ?_
  refine s_op (a_pick (by simp only [Zu, Nat.reduceEqDiff, ↓reduceIte, Zd, reduceCtorEq, Segh.cells, s0, s1, d0, d1, w0, w1, f0, f1, n1, n2] <;> rfl) (by simp only [Zu, Nat.reduceEqDiff, ↓reduceIte, Zd, reduceCtorEq, Segh.cells, s0, s1, d0, d1, w0, w1, f0, f1, n1, n2] <;> rfl)) rfl ?_
  refine s_mv ?_
  refine s_tk ?_
  refine s_op (a_fa (by simp only [Zu, Nat.reduceEqDiff, ↓reduceIte, fa57_5, Nat.zero_add, newPtr, Segh.cells, s0, s1, d0, d1, w0, w1, f0, f1, n1, n2, e1] <;> rfl)) rfl ?_
  refine s_tk ?_
  refine s_op (a_load (by simp only [Zu, Nat.reduceEqDiff, ↓reduceIte, newPtr, Segh.cells, s0, s1, d0, d1, w0, w1, f0, f1, n1, n2] <;> rfl) (by simp (disch := first | (refine Zx ?_; (try simp only [Zn]) <;> omega)) only [Zg, newPtr, Segh.cells, s0, s1, d0, d1, w0, w1, f0, f1, n1, n2] <;> rfl) (by simp only [ld3, Zl, newPtr, Segh.cells, s0, s1, d0, d1, w0, w1, f0, f1, n1, n2] <;> rfl)) rfl ?_
  refine s_tk ?_
  refine s_op (a_bin (by simp (disch := omega) only [Zu, Nat.reduceEqDiff, ↓reduceIte, Zd, reduceCtorEq, abin_geq, ne_eq, not_false_eq_true, Segh.cells, s0, s1, d0, d1, w0, w1, f0, f1, n1, n2] <;> rfl)) rfl ?_
  refine s_op (a_pick (by simp only [Zu, Nat.reduceEqDiff, ↓reduceIte, Zd, reduceCtorEq, Segh.cells, s0, s1, d0, d1, w0, w1, f0, f1, n1, n2] <;> rfl) (by simp only [Zu, Nat.reduceEqDiff, ↓reduceIte, Zd, reduceCtorEq, Segh.cells, s0, s1, d0, d1, w0, w1, f0, f1, n1, n2] <;> rfl)) rfl ?_
  refine s_mv ?_
  refine s_tk ?_
  refine s_op (a_fa (by simp only [Zu, Nat.reduceEqDiff, ↓reduceIte, fa57_5, Nat.zero_add, newPtr, Segh.cells, s0, s1, d0, d1, w0, w1, f0, f1, n1, n2, e1] <;> rfl)) rfl ?_
  refine s_tk ?_
  refine s_op (a_load (by simp only [Zu, Nat.reduceEqDiff, ↓reduceIte, newPtr, Segh.cells, s0, s1, d0, d1, w0, w1, f0, f1, n1, n2] <;> rfl) (by simp (disch := first | (refine Zx ?_; (try simp only [Zn]) <;> omega)) only [Zg, newPtr, Segh.cells, s0, s1, d0, d1, w0, w1, f0, f1, n1, n2] <;> rfl) (by simp only [ld3, Zl, newPtr, Segh.cells, s0, s1, d0, d1, w0, w1, f0, f1, n1, n2] <;> rfl)) rfl ?_
  refine s_tk ?_
  refine s_op (a_bin (by simp (disch := omega) only [Zu, Nat.reduceEqDiff, ↓reduceIte, Zd, reduceCtorEq, abin_leq, ne_eq, not_false_eq_true, Segh.cells, s0, s1, d0, d1, w0, w1, f0, f1, n1, n2] <;> rfl)) rfl ?_
  refine s_op (a_pick (by simp only [Zu, Nat.reduceEqDiff, ↓reduceIte, Zd, reduceCtorEq, Segh.cells, s0, s1, d0, d1, w0, w1, f0, f1, n1, n2] <;> rfl) (by simp only [Zu, Nat.reduceEqDiff, ↓reduceIte, Zd, reduceCtorEq, Segh.cells, s0, s1, d0, d1, w0, w1, f0, f1, n1, n2] <;> rfl)) rfl ?_
  refine s_mv ?_
  refine s_tk ?_
  refine s_op (a_fa (by simp only [Zu, Nat.reduceEqDiff, ↓reduceIte, fa57_4, Nat.zero_add, newPtr, Segh.cells, s0, s1, d0, d1, w0, w1, f0, f1, n1, n2, e1] <;> rfl)) rfl ?_
  refine s_tk ?_
  refine s_op (a_load (by simp only [Zu, Nat.reduceEqDiff, ↓reduceIte, newPtr, Segh.cells, s0, s1, d0, d1, w0, w1, f0, f1, n1, n2] <;> rfl) (by simp (disch := first | (refine Zx ?_; (try simp only [Zn]) <;> omega)) only [Zg, newPtr, Segh.cells, s0, s1, d0, d1, w0, w1, f0, f1, n1, n2] <;> rfl) (by simp only [ld3, Zl, newPtr, Segh.cells, s0, s1, d0, d1, w0, w1, f0, f1, n1, n2] <;> rfl)) rfl ?_
  refine s_tk ?_
  refine s_op (a_bin (by simp (disch := omega) only [Zu, Nat.reduceEqDiff, ↓reduceIte, Zd, reduceCtorEq, abin_geq, ne_eq, not_false_eq_true, Segh.cells, s0, s1, d0, d1, w0, w1, f0, f1, n1, n2] <;> rfl)) rfl ?_
  refine s_op (a_pick (by simp only [Zu, Nat.reduceEqDiff, ↓reduceIte, Zd, reduceCtorEq, Segh.cells, s0, s1, d0, d1, w0, w1, f0, f1, n1, n2] <;> rfl) (by simp only [Zu, Nat.reduceEqDiff, ↓reduceIte, Zd, reduceCtorEq, Segh.cells, s0, s1, d0, d1, w0, w1, f0, f1, n1, n2] <;> rfl)) rfl ?_
  refine s_mv ?_
  refine s_tk ?_
  refine s_op (a_fa (by simp only [Zu, Nat.reduceEqDiff, ↓reduceIte, fa57_4, Nat.zero_add, newPtr, Segh.cells, s0, s1, d0, d1, w0, w1, f0, f1, n1, n2, e1] <;> rfl)) rfl ?_
  refine s_tk ?_
  refine s_op (a_load (by simp only [Zu, Nat.reduceEqDiff, ↓reduceIte, newPtr, Segh.cells, s0, s1, d0, d1, w0, w1, f0, f1, n1, n2] <;> rfl) (by simp (disch := first | (refine Zx ?_; (try simp only [Zn]) <;> omega)) only [Zg, newPtr, Segh.cells, s0, s1, d0, d1, w0, w1, f0, f1, n1, n2] <;> rfl) (by simp only [ld3, Zl, newPtr, Segh.cells, s0, s1, d0, d1, w0, w1, f0, f1, n1, n2] <;> rfl)) rfl ?_
  refine s_tk ?_
  refine s_op (a_bin (by simp (disch := omega) only [Zu, Nat.reduceEqDiff, ↓reduceIte, Zd, reduceCtorEq, abin_leq, ne_eq, not_false_eq_true, Segh.cells, s0, s1, d0, d1, w0, w1, f0, f1, n1, n2] <;> rfl)) rfl ?_
  refine s_op (a_pick (by simp only [Zu, Nat.reduceEqDiff, ↓reduceIte, Zd, reduceCtorEq, Segh.cells, s0, s1, d0, d1, w0, w1, f0, f1, n1, n2] <;> rfl) (by simp only [Zu, Nat.reduceEqDiff, ↓reduceIte, Zd, reduceCtorEq, Segh.cells, s0, s1, d0, d1, w0, w1, f0, f1, n1, n2] <;> rfl)) rfl ?_
  refine s_mv ?_
  refine s_tk ?_
  refine s_op (a_fa (by simp only [Zu, Nat.reduceEqDiff, ↓reduceIte, fa57_6, Nat.zero_add, newPtr, Segh.cells, s0, s1, d0, d1, w0, w1, f0, f1, n1, n2, e1] <;> rfl)) rfl ?_
  refine s_tk ?_
  refine s_op (a_load (by simp only [Zu, Nat.reduceEqDiff, ↓reduceIte, newPtr, Segh.cells, s0, s1, d0, d1, w0, w1, f0, f1, n1, n2] <;> rfl) (by simp (disch := first | (refine Zx ?_; (try simp only [Zn]) <;> omega)) only [Zg, newPtr, Segh.cells, s0, s1, d0, d1, w0, w1, f0, f1, n1, n2] <;> rfl) (by simp only [ld9, Zl, newPtr, Segh.cells, s0, s1, d0, d1, w0, w1, f0, f1, n1, n2] <;> rfl)) rfl ?_
  refine s_tk ?_
  refine s_op (a_len (by simp (disch := omega) only [Zu, Nat.reduceEqDiff, ↓reduceIte, alen_str, newPtr, Segh.cells, hlenS, s0, s1, d0, d1, w0, w1, f0, f1, n1, n2] <;> rfl)) rfl ?_
  refine s_tk ?_
  refine s_op (a_bin (by simp (disch := omega) only [Zu, Nat.reduceEqDiff, ↓reduceIte, Zd, reduceCtorEq, abin_leq, ne_eq, not_false_eq_true, Segh.cells, s0, s1, d0, d1, w0, w1, f0, f1, n1, n2] <;> rfl)) rfl ?_
  refine s_op (a_pick (by simp only [Zu, Nat.reduceEqDiff, ↓reduceIte, Zd, reduceCtorEq, Segh.cells, s0, s1, d0, d1, w0, w1, f0, f1, n1, n2] <;> rfl) (by simp only [Zu, Nat.reduceEqDiff, ↓reduceIte, Zd, reduceCtorEq, Segh.cells, s0, s1, d0, d1, w0, w1, f0, f1, n1, n2] <;> rfl)) rfl ?_
  refine s_mv ?_
  refine s_tk ?_
  refine s_op (a_fa (by simp only [Zu, Nat.reduceEqDiff, ↓reduceIte, fa57_6, Nat.zero_add, newPtr, Segh.cells, s0, s1, d0, d1, w0, w1, f0, f1, n1, n2, e1] <;> rfl)) rfl ?_
  refine s_tk ?_
  refine s_op (a_load (by simp only [Zu, Nat.reduceEqDiff, ↓reduceIte, newPtr, Segh.cells, s0, s1, d0, d1, w0, w1, f0, f1, n1, n2] <;> rfl) (by simp (disch := first | (refine Zx ?_; (try simp only [Zn]) <;> omega)) only [Zg, newPtr, Segh.cells, s0, s1, d0, d1, w0, w1, f0, f1, n1, n2] <;> rfl) (by simp only [ld9, Zl, newPtr, Segh.cells, s0, s1, d0, d1, w0, w1, f0, f1, n1, n2] <;> rfl)) rfl ?_
  refine s_tk ?_
  refine s_op (a_len (by simp (disch := omega) only [Zu, Nat.reduceEqDiff, ↓reduceIte, alen_str, newPtr, Segh.cells, hlenS, s0, s1, d0, d1, w0, w1, f0, f1, n1, n2] <;> rfl)) rfl ?_
  refine s_tk ?_
  refine s_op (a_bin (by simp (disch := omega) only [Zu, Nat.reduceEqDiff, ↓reduceIte, Zd, reduceCtorEq, abin_rem, Int.tmod_eq_emod_of_nonneg, ne_eq, not_false_eq_true, Segh.cells, s0, s1, d0, d1, w0, w1, f0, f1, n1, n2] <;> rfl)) rfl ?_
  refine s_tk ?_
  refine s_op (a_bin (by simp (disch := omega) only [Zu, Nat.reduceEqDiff, ↓reduceIte, Zd, reduceCtorEq, abin_eql, abin_aeql, ne_eq, not_false_eq_true, Segh.cells, s0, s1, d0, d1, w0, w1, f0, f1, n1, n2] <;> rfl)) rfl ?_
  refine s_op (a_pick (by simp only [Zu, Nat.reduceEqDiff, ↓reduceIte, Zd, reduceCtorEq, Segh.cells, s0, s1, d0, d1, w0, w1, f0, f1, n1, n2] <;> rfl) (by simp only [Zu, Nat.reduceEqDiff, ↓reduceIte, Zd, reduceCtorEq, Segh.cells, s0, s1, d0, d1, w0, w1, f0, f1, n1, n2] <;> rfl)) rfl ?_
  refine s_as ?_
  refine s_end (fun s' hs' => ?_)
  have e2 := congrFun hs' 2
  simp only [Zu, Nat.reduceEqDiff, ↓reduceIte, newPtr, AMem.next_alloc] at e2
  clear hs'
  try clear e1
  refine o_norm ?_
  refine t_norm ?_
  refine at_ret rfl ?_
  refine bq_ret rfl (ars_cons (ar_tmp e2) ars_nil) ?_
  exact ⟨_, _, hK, Canon.forget rfl (fun j hj => get_old (by omega))⟩
def pseudoF (src dst proto : Int) (n : Nat) : List UInt8 := bigF src 4 ++ bigF dst 4 ++ bigF proto 2 ++ bigF (n : Int) 2
def sp53 : ASpec := fun args M K => ∃ (src dst proto : Int) (l : List UInt8), args = [.int .u32 src, .int .u32 dst, .int .i64 proto, asString l] ∧ (0 ≤ src ∧ src ≤ 4294967295 ∧ 0 ≤ dst ∧ dst ≤ 4294967295 ∧ 0 ≤ proto ∧ proto ≤ 255 ∧ l.length ≤ 100000000) ∧ K (.ret (.int .i64 (ocF (pseudoF src dst proto l.length ++ l)))) M
noncomputable def S53 : FuncId → ASpec := tab [(52, sp52), (67, sp67)]
theorem S53_52 : S53 52 = sp52 := rfl
theorem S53_67 : S53 67 = sp67 := rfl
theorem S53_ok : ∀ f, Sound Try.prog f (S53 f) := tab_sound _ (by simp [f52_ok, f67_ok])
theorem two_nat : (2 : Int).toNat = 2 := rfl
theorem four_nat : (4 : Int).toNat = 4 := rfl
theorem one_nat : (1 : Int).toNat = 1 := rfl
theorem f53_ok : Sound Try.prog 53 sp53 := by
  refine Sound.of_awp (c := bodyOf Try.f53) Try.func53 rfl rfl rfl ?_
  rintro args M K ⟨src, dst, proto, l, rfl, ⟨h0, h1, h2, h3, h4, h5, h6⟩, hK⟩
  refine ⟨Nat.le_of_ble_eq_true rfl, ?_⟩
  have hS := S53_ok
  have e0 : entry [.int .u32 src, .int .u32 dst, .int .i64 proto, asString l] 0 = .int .u32 src := rfl
  have e1 : entry [.int .u32 src, .int .u32 dst, .int .i64 proto, asString l] 1 = .int .u32 dst := rfl
  have e2 : entry [.int .u32 src, .int .u32 dst, .int .i64 proto, asString l] 2 = .int .i64 proto := rfl
  have e3 : entry [.int .u32 src, .int .u32 dst, .int .i64 proto, asString l] 3 = asString l := rfl
  have q1 := bigF_length src 4
  have q2 := bigF_length dst 4
  have q3 := bigF_length proto 2
  have q4 := bigF_length (l.length : Int) 2
  have q5 : (bigF src 4 ++ bigF dst 4).length = 8 := by simp [q1, q2]
  have q6 : (bigF src 4 ++ bigF dst 4 ++ bigF proto 2).length = 10 := by simp [q1, q2, q3]
  have q7 : (bigF src 4 ++ bigF dst 4 ++ bigF proto 2 ++ bigF (l.length : Int) 2).length = 12 := by simp [q1, q2, q3, q4]
  repeat refine at_seq rfl ?_
  refine at_region hS rfl (by kernel_rfl) ?_
  refine s_op (a_as (by simp only [ev_const] <;> rfl)) rfl ?_
  refine s_end (fun s' hs' => ?_)
  replace e0 := kp 0 hs' e0
  replace e1 := kp 1 hs' e1
  replace e2 := kp 2 hs' e2
  replace e3 := kp 3 hs' e3
  clear hs'
  refine o_norm ?_
  refine t_norm ?_
  repeat refine at_seq rfl ?_
  unfold pseudoF at hK
  generalize hx1 : bigF src 4 = x1 at *
  generalize hx2 : bigF dst 4 = x2 at *
  generalize hx3 : bigF proto 2 = x3 at *
  generalize hx4 : bigF (l.length : Int) 2 = x4 at *
  refine at_region hS rfl (by kernel_rfl) ?_
  refine s_op (a_mv e0) rfl ?_
  refine s_op (a_convi (by simp only [Zu, Nat.reduceEqDiff, ↓reduceIte] <;> rfl) rfl rfl (by simp (disch := omega) only [wrap_i64]; try rfl)) rfl ?_
  refine s_call (by simp only [Zu, Nat.reduceEqDiff, ↓reduceIte, hlenS] <;> rfl) (by simp only [Zu, Nat.reduceEqDiff, ↓reduceIte, Zm, hlenS] <;> rfl) ?_
  rw [S53_52]; refine ⟨_, 4, rfl, ⟨⟨by omega, by omega⟩, by omega, by omega⟩, ?_⟩; rw [four_nat, hx1]
  show EA _ _ _ _ _ _
  refine s_op (a_mv e1) rfl ?_
  refine s_op (a_convi (by simp only [Zu, Nat.reduceEqDiff, ↓reduceIte] <;> rfl) rfl rfl (by simp (disch := omega) only [wrap_i64]; try rfl)) rfl ?_
  refine s_call (by simp only [Zu, Nat.reduceEqDiff, ↓reduceIte, hlenS] <;> rfl) (by simp only [Zu, Nat.reduceEqDiff, ↓reduceIte, Zm, hlenS] <;> rfl) ?_
  rw [S53_52]; refine ⟨_, 4, rfl, ⟨⟨by omega, by omega⟩, by omega, by omega⟩, ?_⟩; rw [four_nat, hx2]
  show EA _ _ _ _ _ _
  refine s_op (a_bin (by simp (disch := ((try simp only [List.length_append, List.length_cons, List.length_nil]); omega)) only [Zu, Nat.reduceEqDiff, ↓reduceIte, Zd, reduceCtorEq, abin_add, abin_aadd, wrap_i64, wrap_u32, wrap_u8, wrap_u64, wrap_i32, wrap_u16, ne_eq, not_false_eq_true] <;> rfl)) rfl ?_
  refine s_op (a_mv e2) rfl ?_
  refine s_call (by simp only [Zu, Nat.reduceEqDiff, ↓reduceIte, hlenS] <;> rfl) (by simp only [Zu, Nat.reduceEqDiff, ↓reduceIte, Zm, hlenS] <;> rfl) ?_
  rw [S53_52]; refine ⟨_, 2, rfl, ⟨⟨by omega, by omega⟩, by omega, by omega⟩, ?_⟩; rw [two_nat, hx3]
  show EA _ _ _ _ _ _
  refine s_op (a_bin (by simp (disch := ((try simp only [List.length_append, List.length_cons, List.length_nil]); omega)) only [Zu, Nat.reduceEqDiff, ↓reduceIte, Zd, reduceCtorEq, abin_add, abin_aadd, wrap_i64, wrap_u32, wrap_u8, wrap_u64, wrap_i32, wrap_u16, ne_eq, not_false_eq_true] <;> rfl)) rfl ?_
  refine s_op (a_mv e3) rfl ?_
  refine s_op (a_len (by simp (disch := omega) only [Zu, Nat.reduceEqDiff, ↓reduceIte, alen_str, hlenS] <;> rfl)) rfl ?_
  refine s_call (by simp only [Zu, Nat.reduceEqDiff, ↓reduceIte, hlenS] <;> rfl) (by simp only [Zu, Nat.reduceEqDiff, ↓reduceIte, Zm, hlenS] <;> rfl) ?_
  rw [S53_52]; refine ⟨_, 2, rfl, ⟨⟨by omega, by omega⟩, by omega, by omega⟩, ?_⟩; rw [two_nat, hx4]
  show EA _ _ _ _ _ _
  refine s_op (a_bin (by simp (disch := ((try simp only [List.length_append, List.length_cons, List.length_nil]); omega)) only [Zu, Nat.reduceEqDiff, ↓reduceIte, Zd, reduceCtorEq, abin_add, abin_aadd, wrap_i64, wrap_u32, wrap_u8, wrap_u64, wrap_i32, wrap_u16, ne_eq, not_false_eq_true] <;> rfl)) rfl ?_
  refine s_op (a_mv e3) rfl ?_
  refine s_op (a_bin (by simp (disch := ((try simp only [List.length_append, List.length_cons, List.length_nil]); omega)) only [Zu, Nat.reduceEqDiff, ↓reduceIte, Zd, reduceCtorEq, abin_add, abin_aadd, wrap_i64, wrap_u32, wrap_u8, wrap_u64, wrap_i32, wrap_u16, ne_eq, not_false_eq_true] <;> rfl)) rfl ?_
  refine s_call (by simp only [Zu, Nat.reduceEqDiff, ↓reduceIte, hlenS] <;> rfl) (by simp only [Zu, Nat.reduceEqDiff, ↓reduceIte, Zm, hlenS] <;> rfl) ?_
  rw [S53_67]; refine ⟨_, rfl, by rw [List.length_append]; omega, ?_⟩
  show EA _ _ _ _ _ _
  refine s_as ?_
  refine s_end (fun s' hs' => ?_)
  have e8 := congrFun hs' 8
  simp only [Zu, Nat.reduceEqDiff, ↓reduceIte] at e8
  clear hs'
  try clear e0 e1 e2 e3
  refine o_norm ?_
  refine t_norm ?_
  refine at_ret rfl ?_
  refine bq_ret rfl (ars_cons (ar_tmp e8) ars_nil) ?_
  exact ⟨_, _, hK, Canon.refl (Nat.le_refl _)⟩
end Go.Proofs.Ytdkdkpiemigfkaa
set_option linter.unusedVariables false
set_option linter.unusedSimpArgs false
set_option maxRecDepth 8000
namespace Go.Proofs.Ytdkdkpiemigfkaa
open Go Go.Proofs
def ipA (h : IPh) (n : Nat) : List UInt8 := bigF (64 + (20 + (h.opts.length : Int)) / 4) 1 ++ bigF h.tos 1 ++ bigF (20 + h.opts.length + n) 2 ++ bigF h.id 2 ++ bigF (h.off / 8) 2 ++ bigF h.ttl 1 ++ bigF h.proto 1
def ipB (h : IPh) : List UInt8 := bigF h.src 4 ++ bigF h.dst 4 ++ h.opts
def ipPutF (h : IPh) (body : List UInt8) : List UInt8 := ipA h body.length ++ bigF (ocF (ipA h body.length ++ [0, 0] ++ ipB h)) 2 ++ ipB h ++ body
def sp54 : ASpec := fun args M K => ∃ (h : IPh) (body : List UInt8), args = [.agg h.cells.toArray, asString body] ∧ (h.ok ∧ h.keep = false ∧ h.more = false ∧ body.length ≤ 2000) ∧ K (.ret (.tuple #[asString (ipPutF h body), .int .i64 0])) M
noncomputable def S54 : FuncId → ASpec := tab [(52, sp52), (67, sp67), (68, sp68)]
theorem S54_52 : S54 52 = sp52 := rfl
theorem S54_67 : S54 67 = sp67 := rfl
theorem S54_68 : S54 68 = sp68 := rfl
theorem S54_ok : ∀ f, Sound Try.prog f (S54 f) := tab_sound _ (by simp [f52_ok, f67_ok, f68_ok])
theorem ocF_bound (l : List UInt8) : 0 ≤ ocF l ∧ ocF l ≤ 65535 := by
  have := foldF_bound (sumB_nonneg l 0)
  unfold ocF; omega
theorem str00 : Value.string ⟨#[0, 0]⟩ = asString [0, 0] := rfl
set_option maxHeartbeats 2000000 in
theorem f54_ok : Sound Try.prog 54 sp54 := by
  refine Sound.of_awp (c := bodyOf Try.f54) Try.func54 rfl rfl rfl ?_
  rintro args M K ⟨h, body, rfl, ⟨hok, hkeep, hmore, hbody⟩, hK⟩
  refine ⟨Nat.le_of_ble_eq_true rfl, ?_⟩
  have hS := S54_ok
  have e0 : entry [.agg h.cells.toArray, asString body] 0 = .agg h.cells.toArray := rfl
  have e1 : entry [.agg h.cells.toArray, asString body] 1 = asString body := rfl
  have hok' := hok
  obtain ⟨t0, t1, l0, l1, p0, p1, i0, i1, o0, o1, o2, n1, n2, s0, s1, d0, d1⟩ := hok'
  repeat refine at_seq rfl ?_
  refine at_region hS rfl (by kernel_rfl) ?_
  refine s_op (a_box (by simp only [Zu, Nat.reduceEqDiff, ↓reduceIte, Value.cells, e0] <;> rfl)) rfl ?_
  refine s_op (a_as (by simp only [ev_const] <;> rfl)) rfl ?_
  refine s_op (a_as (by simp only [ev_const] <;> rfl)) rfl ?_
  refine s_end (fun s' hs' => ?_)
  replace e1 := kp 1 hs' e1
  have e2 := congrFun hs' 2
  simp only [Zu, Nat.reduceEqDiff, ↓reduceIte, newPtr, AMem.next_alloc] at e2
  clear hs'
  try clear e0
  refine o_norm ?_
  refine t_norm ?_
  repeat refine at_seq rfl ?_
  refine at_block rfl ?_
  repeat refine at_seq rfl ?_
  refine at_region hS rfl (by kernel_rfl) ?_
  refine s_op (a_load e2 (by simp (disch := first | (refine Zx ?_; simp only [Zn]; done) | ((try simp only [Zn]); omega)) only [Zg, newPtr, ld64, e2] <;> rfl) (by simp only [newPtr, ld64, e2] <;> rfl)) rfl ?_
  refine s_call (by simp only [Zu, Nat.reduceEqDiff, ↓reduceIte, newPtr] <;> rfl) (by simp only [Zu, Nat.reduceEqDiff, ↓reduceIte, Zm, newPtr] <;> rfl) ?_
  rw [S54_68]; refine ⟨h, rfl, hok, ?_⟩
  show EA _ _ _ _ _ _
  refine s_op (a_un (by simp (disch := omega) only [Zu, Nat.reduceEqDiff, ↓reduceIte, Zd, reduceCtorEq, aun, wrap_i64, IntKind.signed] <;> rfl)) rfl ?_
  refine s_as ?_
  refine s_end (fun s' hs' => ?_)
  replace e1 := kp 1 hs' e1
  replace e2 := kp 2 hs' e2
  have e10 := congrFun hs' 10
  simp only [Zu, Nat.reduceEqDiff, ↓reduceIte, newPtr, AMem.next_alloc] at e10
  clear hs'
  refine o_norm ?_
  refine t_norm ?_
  refine at_cond rfl rfl e10 (fun hc => by cases hc) (fun hc => ?_)
  repeat refine at_seq rfl ?_
  have hb2 : ¬ ((2000 : Int) < body.length) := by omega
  refine at_region hS rfl (by kernel_rfl) ?_
  refine s_op (a_mv e1) rfl ?_
  refine s_op (a_len (by simp (disch := omega) only [Zu, Nat.reduceEqDiff, ↓reduceIte, alen_str, hlenS, hb2] <;> rfl)) rfl ?_
  refine s_op (a_bin (by simp (disch := omega) only [Zu, Nat.reduceEqDiff, ↓reduceIte, Zd, reduceCtorEq, abin_gtr, ne_eq, not_false_eq_true, hb2] <;> rfl)) rfl ?_
  refine s_as ?_
  refine s_end (fun s' hs' => ?_)
  replace e1 := kp 1 hs' e1
  replace e2 := kp 2 hs' e2
  have e14 := congrFun hs' 14
  simp only [Zu, Nat.reduceEqDiff, ↓reduceIte] at e14
  clear hs'
  refine o_norm ?_
  refine t_norm ?_
  refine at_cond rfl rfl e14 (fun hc => by cases hc) (fun hc => ?_)
  refine at_skip rfl ?_
  repeat (first | refine t_norm ?_ | refine b_norm ?_)
  repeat refine at_seq rfl ?_
  refine at_region hS rfl (by kernel_rfl) ?_
  refine s_op (a_fa (by simp only [Zu, Nat.reduceEqDiff, ↓reduceIte, fa64_9, Nat.zero_add, newPtr, IPh.cells, e2] <;> rfl)) rfl ?_
  refine s_op (a_load (by simp only [Zu, Nat.reduceEqDiff, ↓reduceIte, newPtr, IPh.cells] <;> rfl) (by simp (disch := first | (refine Zx ?_; simp only [Zn]; done) | ((try simp only [Zn]); omega)) only [Zg, newPtr, IPh.cells] <;> rfl) (by simp only [ld9, Zl, newPtr, IPh.cells] <;> rfl)) rfl ?_
  refine s_op (a_len (by simp (disch := omega) only [Zu, Nat.reduceEqDiff, ↓reduceIte, alen_str, newPtr, IPh.cells, hlenS] <;> rfl)) rfl ?_
  refine s_op (a_bin (by simp (disch := ((try simp only [List.length_append, List.length_cons, List.length_nil]); omega)) only [Zu, Nat.reduceEqDiff, ↓reduceIte, Zd, reduceCtorEq, abin_add, abin_aadd, wrap_i64, wrap_u32, wrap_u8, wrap_u64, wrap_i32, wrap_u16, ne_eq, not_false_eq_true, IPh.cells] <;> rfl)) rfl ?_
  refine s_as ?_
  refine s_end (fun s' hs' => ?_)
  replace e1 := kp 1 hs' e1
  replace e2 := kp 2 hs' e2
  have e6 := congrFun hs' 6
  simp only [Zu, Nat.reduceEqDiff, ↓reduceIte, newPtr, AMem.next_alloc] at e6
  clear hs'
  refine o_norm ?_
  refine t_norm ?_
  repeat refine at_seq rfl ?_
  refine at_region hS rfl (by kernel_rfl) ?_
  refine s_op (a_fa (by simp only [Zu, Nat.reduceEqDiff, ↓reduceIte, fa64_4, Nat.zero_add, newPtr, IPh.cells, e2] <;> rfl)) rfl ?_
  refine s_op (a_load (by simp only [Zu, Nat.reduceEqDiff, ↓reduceIte, newPtr, IPh.cells] <;> rfl) (by simp (disch := first | (refine Zx ?_; simp only [Zn]; done) | ((try simp only [Zn]); omega)) only [Zg, newPtr, IPh.cells] <;> rfl) (by simp only [ld3, Zl, newPtr, IPh.cells] <;> rfl)) rfl ?_
  refine s_op (a_bin (by simp (disch := omega) only [Zu, Nat.reduceEqDiff, ↓reduceIte, Zd, reduceCtorEq, abin_quo, wrap_i64, wrap_u32, wrap_u8, wrap_u64, wrap_i32, wrap_u16, Int.tdiv_eq_ediv_of_nonneg, ne_eq, not_false_eq_true, IPh.cells] <;> rfl)) rfl ?_
  refine s_as ?_
  refine s_end (fun s' hs' => ?_)
  replace e1 := kp 1 hs' e1
  replace e2 := kp 2 hs' e2
  replace e6 := kp 6 hs' e6
  have e7 := congrFun hs' 7
  simp only [Zu, Nat.reduceEqDiff, ↓reduceIte, newPtr, AMem.next_alloc] at e7
  clear hs'
  refine o_norm ?_
  refine t_norm ?_
  repeat refine at_seq rfl ?_
  refine at_region hS rfl (by kernel_rfl) ?_
  refine s_op (a_fa (by simp only [Zu, Nat.reduceEqDiff, ↓reduceIte, fa64_3, Nat.zero_add, newPtr, IPh.cells, hkeep, e2] <;> rfl)) rfl ?_
  refine s_op (a_load (by simp only [Zu, Nat.reduceEqDiff, ↓reduceIte, newPtr, IPh.cells, hkeep] <;> rfl) (by simp (disch := first | (refine Zx ?_; simp only [Zn]; done) | ((try simp only [Zn]); omega)) only [Zg, newPtr, IPh.cells, hkeep] <;> rfl) (by simp only [ld4, Zl, newPtr, IPh.cells, hkeep] <;> rfl)) rfl ?_
  refine s_end (fun s' hs' => ?_)
  replace e1 := kp 1 hs' e1
  replace e2 := kp 2 hs' e2
  replace e6 := kp 6 hs' e6
  replace e7 := kp 7 hs' e7
  have e26 := congrFun hs' 26
  simp only [Zu, Nat.reduceEqDiff, ↓reduceIte, newPtr, AMem.next_alloc] at e26
  clear hs'
  refine o_norm ?_
  refine t_norm ?_
  refine at_cond rfl rfl e26 (fun hc => by cases hc) (fun hc => ?_)
  refine at_skip rfl ?_
  refine t_norm ?_
  repeat refine at_seq rfl ?_
  refine at_region hS rfl (by kernel_rfl) ?_
  refine s_op (a_fa (by simp only [Zu, Nat.reduceEqDiff, ↓reduceIte, fa64_2, Nat.zero_add, newPtr, IPh.cells, hmore, e2] <;> rfl)) rfl ?_
  refine s_op (a_load (by simp only [Zu, Nat.reduceEqDiff, ↓reduceIte, newPtr, IPh.cells, hmore] <;> rfl) (by simp (disch := first | (refine Zx ?_; simp only [Zn]; done) | ((try simp only [Zn]); omega)) only [Zg, newPtr, IPh.cells, hmore] <;> rfl) (by simp only [ld4, Zl, newPtr, IPh.cells, hmore] <;> rfl)) rfl ?_
  refine s_end (fun s' hs' => ?_)
  replace e1 := kp 1 hs' e1
  replace e2 := kp 2 hs' e2
  replace e6 := kp 6 hs' e6
  replace e7 := kp 7 hs' e7
  have e30 := congrFun hs' 30
  simp only [Zu, Nat.reduceEqDiff, ↓reduceIte, newPtr, AMem.next_alloc] at e30
  clear hs'
  refine o_norm ?_
  refine t_norm ?_
  refine at_cond rfl rfl e30 (fun hc => by cases hc) (fun hc => ?_)
  refine at_skip rfl ?_
  refine t_norm ?_
  repeat refine at_seq rfl ?_
  have q1 := bigF_length (64 + (20 + (h.opts.length : Int)) / 4) 1
  have q2 := bigF_length h.tos 1
  have q3 := bigF_length (20 + (h.opts.length : Int) + body.length) 2
  have q4 := bigF_length h.id 2
  have q5 := bigF_length (h.off / 8) 2
  have q6 := bigF_length h.ttl 1
  have q7 := bigF_length h.proto 1
  have q8 := bigF_length h.src 4
  have q9 := bigF_length h.dst 4
  unfold ipPutF ipA ipB at hK
  generalize hx1 : bigF (64 + (20 + (h.opts.length : Int)) / 4) 1 = x1 at *
  generalize hx2 : bigF h.tos 1 = x2 at *
  generalize hx3 : bigF (20 + (h.opts.length : Int) + body.length) 2 = x3 at *
  generalize hx4 : bigF h.id 2 = x4 at *
  generalize hx5 : bigF (h.off / 8) 2 = x5 at *
  generalize hx6 : bigF h.ttl 1 = x6 at *
  generalize hx7 : bigF h.proto 1 = x7 at *
  generalize hx8 : bigF h.src 4 = x8 at *
  generalize hx9 : bigF h.dst 4 = x9 at *
  refine at_draw ⟨[[], [0], [0, 1], [0, 1, 2], [], [4], [0, 1, 2, 3, 4, 5], [0, 1, 2, 3, 4, 5, 6], [], [], [9], [8, 9, 10], [0, 1, 2, 3, 4, 5, 6, 8, 9, 10, 11], [0, 1, 2, 3, 4, 5, 6, 7, 8, 9, 10, 11, 12], [], [14], [0, 1, 2, 3, 4, 5, 6, 8, 9, 10, 11, 12, 14, 15], [0, 1, 2, 3, 4, 5, 6, 7, 8, 9, 10, 11, 12, 13, 14, 15, 16], [], [0, 1, 2, 3, 4, 5, 6, 8, 9, 10, 11, 12, 14, 15, 16, 18], [0, 1, 2, 3, 4, 5, 6, 7, 8, 9, 10, 11, 12, 13, 14, 15, 16, 17, 18, 19], [], [21], [0, 1, 2, 3, 4, 5, 6, 8, 9, 10, 11, 12, 14, 15, 16, 18, 19, 21, 22], [0, 1, 2, 3, 4, 5, 6, 7, 8, 9, 10, 11, 12, 13, 14, 15, 16, 17, 18, 19, 20, 21, 22, 23], [], [25], [0, 1, 2, 3, 4, 5, 6, 8, 9, 10, 11, 12, 14, 15, 16, 18, 19, 21, 22, 23, 25, 26], [0, 1, 2, 3, 4, 5, 6, 7, 8, 9, 10, 11, 12, 13, 14, 15, 16, 17, 18, 19, 20, 21, 22, 23, 24, 25, 26, 27], [0, 1, 2, 3, 4, 5, 6, 7, 8, 9, 10, 11, 12, 13, 14, 15, 16, 17, 18, 19, 20, 21, 22, 23, 24, 25, 26, 27, 28]], [0, 1, 2, 4, 5, 8, 9, 10, 11, 14, 15, 18, 21, 22, 25, 26], [(3, []), (6, [7]), (12, [13]), (16, [17]), (19, [20]), (23, [24]), (27, [28, 29])]⟩ hS rfl rfl (by kernel_rfl) (by kernel_rfl) ?_
  refine d_start ?_
  refine l_op rfl rfl (a_mv e6) rfl ?_ rfl
  refine l_op rfl rfl (a_bin (by simp (disch := omega) only [Zu, Nat.reduceEqDiff, ↓reduceIte, Zd, reduceCtorEq, abin_quo, wrap_i64, wrap_u32, wrap_u8, wrap_u64, wrap_i32, wrap_u16, Int.tdiv_eq_ediv_of_nonneg, ne_eq, not_false_eq_true, IPh.cells] <;> rfl)) rfl ?_ rfl
  refine l_op rfl rfl (a_bin (by simp (disch := ((try simp only [List.length_append, List.length_cons, List.length_nil]); omega)) only [Zu, Nat.reduceEqDiff, ↓reduceIte, Zd, reduceCtorEq, abin_add, abin_aadd, wrap_i64, wrap_u32, wrap_u8, wrap_u64, wrap_i32, wrap_u16, ne_eq, not_false_eq_true, IPh.cells] <;> rfl)) rfl ?_ rfl
  refine l_op rfl rfl (a_fa (by simp only [Zu, Nat.reduceEqDiff, ↓reduceIte, fa64_0, Nat.zero_add, newPtr, IPh.cells, e2] <;> rfl)) rfl ?_ rfl
  refine l_op rfl rfl (a_load (by simp only [Zu, Nat.reduceEqDiff, ↓reduceIte, newPtr, IPh.cells] <;> rfl) (by simp (disch := first | (refine Zx ?_; simp only [Zn]; done) | ((try simp only [Zn]); omega)) only [Zg, newPtr, IPh.cells] <;> rfl) (by simp only [ld3, Zl, newPtr, IPh.cells] <;> rfl)) rfl ?_ rfl
  refine l_op rfl rfl (a_mv e6) rfl ?_ rfl
  refine l_op rfl rfl (a_mv e1) rfl ?_ rfl
  refine l_op rfl rfl (a_len (by simp (disch := omega) only [Zu, Nat.reduceEqDiff, ↓reduceIte, alen_str, newPtr, IPh.cells, hlenS] <;> rfl)) rfl ?_ rfl
  refine l_op rfl rfl (a_bin (by simp (disch := ((try simp only [List.length_append, List.length_cons, List.length_nil]); omega)) only [Zu, Nat.reduceEqDiff, ↓reduceIte, Zd, reduceCtorEq, abin_add, abin_aadd, wrap_i64, wrap_u32, wrap_u8, wrap_u64, wrap_i32, wrap_u16, ne_eq, not_false_eq_true, IPh.cells] <;> rfl)) rfl ?_ rfl
  refine l_op rfl rfl (a_fa (by simp only [Zu, Nat.reduceEqDiff, ↓reduceIte, fa64_1, Nat.zero_add, newPtr, IPh.cells, e2] <;> rfl)) rfl ?_ rfl
  refine l_op rfl rfl (a_load (by simp only [Zu, Nat.reduceEqDiff, ↓reduceIte, newPtr, IPh.cells] <;> rfl) (by simp (disch := first | (refine Zx ?_; simp only [Zn]; done) | ((try simp only [Zn]); omega)) only [Zg, newPtr, IPh.cells] <;> rfl) (by simp only [ld3, Zl, newPtr, IPh.cells] <;> rfl)) rfl ?_ rfl
  refine l_op rfl rfl (a_mv e7) rfl ?_ rfl
  refine l_op rfl rfl (a_fa (by simp only [Zu, Nat.reduceEqDiff, ↓reduceIte, fa64_5, Nat.zero_add, newPtr, IPh.cells, e2] <;> rfl)) rfl ?_ rfl
  refine l_op rfl rfl (a_load (by simp only [Zu, Nat.reduceEqDiff, ↓reduceIte, newPtr, IPh.cells] <;> rfl) (by simp (disch := first | (refine Zx ?_; simp only [Zn]; done) | ((try simp only [Zn]); omega)) only [Zg, newPtr, IPh.cells] <;> rfl) (by simp only [ld3, Zl, newPtr, IPh.cells] <;> rfl)) rfl ?_ rfl
  refine l_op rfl rfl (a_fa (by simp only [Zu, Nat.reduceEqDiff, ↓reduceIte, fa64_6, Nat.zero_add, newPtr, IPh.cells, e2] <;> rfl)) rfl ?_ rfl
  refine l_op rfl rfl (a_load (by simp only [Zu, Nat.reduceEqDiff, ↓reduceIte, newPtr, IPh.cells] <;> rfl) (by simp (disch := first | (refine Zx ?_; simp only [Zn]; done) | ((try simp only [Zn]); omega)) only [Zg, newPtr, IPh.cells] <;> rfl) (by simp only [ld3, Zl, newPtr, IPh.cells] <;> rfl)) rfl ?_ rfl
  refine l_nil ?_
  refine h_op ?_ rfl rfl rfl ?_
  · refine again_l rfl rfl (a_load (by simp only [Zu, Nat.reduceEqDiff, ↓reduceIte, newPtr, IPh.cells] <;> rfl) (by simp (disch := first | (refine Zx ?_; simp only [Zn]; done) | ((try simp only [Zn]); omega)) only [Zg, newPtr, IPh.cells] <;> rfl) (by simp only [ld3, Zl, newPtr, IPh.cells] <;> rfl)) ?_
    refine again_r rfl ?_
    refine again_l rfl rfl (a_load (by simp only [Zu, Nat.reduceEqDiff, ↓reduceIte, newPtr, IPh.cells] <;> rfl) (by simp (disch := first | (refine Zx ?_; simp only [Zn]; done) | ((try simp only [Zn]); omega)) only [Zg, newPtr, IPh.cells] <;> rfl) (by simp only [ld3, Zl, newPtr, IPh.cells] <;> rfl)) ?_
    refine again_r rfl ?_
    refine again_r rfl ?_
    refine again_l rfl rfl (a_load (by simp only [Zu, Nat.reduceEqDiff, ↓reduceIte, newPtr, IPh.cells] <;> rfl) (by simp (disch := first | (refine Zx ?_; simp only [Zn]; done) | ((try simp only [Zn]); omega)) only [Zg, newPtr, IPh.cells] <;> rfl) (by simp only [ld3, Zl, newPtr, IPh.cells] <;> rfl)) ?_
    refine again_r rfl ?_
    refine again_r rfl ?_
    refine again_l rfl rfl (a_len (by simp (disch := omega) only [Zu, Nat.reduceEqDiff, ↓reduceIte, alen_str, newPtr, IPh.cells, hlenS] <;> rfl)) ?_
    refine again_r rfl ?_
    refine again_r rfl ?_
    refine again_l rfl rfl (a_load (by simp only [Zu, Nat.reduceEqDiff, ↓reduceIte, newPtr, IPh.cells] <;> rfl) (by simp (disch := first | (refine Zx ?_; simp only [Zn]; done) | ((try simp only [Zn]); omega)) only [Zg, newPtr, IPh.cells] <;> rfl) (by simp only [ld3, Zl, newPtr, IPh.cells] <;> rfl)) ?_
    refine again_r rfl ?_
    refine again_r rfl ?_
    refine again_r rfl ?_
    refine again_r rfl ?_
    exact again_nil
  refine s_call (by simp only [Zu, Nat.reduceEqDiff, ↓reduceIte, newPtr, IPh.cells, hlenS] <;> rfl) (by simp only [Zu, Nat.reduceEqDiff, ↓reduceIte, Zm, newPtr, IPh.cells, hlenS] <;> rfl) ?_
  rw [S54_52]; refine ⟨_, 1, rfl, ⟨⟨by omega, by omega⟩, by omega, by omega⟩, ?_⟩; rw [one_nat, hx1]
  show EA _ _ _ _ _ _
  refine s_end (fun s' hs' => ?_); subst hs'
  refine l_nil ?_
  refine h_op ?_ rfl rfl rfl ?_
  · refine again_l rfl rfl (a_load (by simp only [Zu, Nat.reduceEqDiff, ↓reduceIte, newPtr, IPh.cells] <;> rfl) (by simp (disch := first | (refine Zx ?_; simp only [Zn]; done) | ((try simp only [Zn]); omega)) only [Zg, newPtr, IPh.cells] <;> rfl) (by simp only [ld3, Zl, newPtr, IPh.cells] <;> rfl)) ?_
    refine again_r rfl ?_
    refine again_l rfl rfl (a_load (by simp only [Zu, Nat.reduceEqDiff, ↓reduceIte, newPtr, IPh.cells] <;> rfl) (by simp (disch := first | (refine Zx ?_; simp only [Zn]; done) | ((try simp only [Zn]); omega)) only [Zg, newPtr, IPh.cells] <;> rfl) (by simp only [ld3, Zl, newPtr, IPh.cells] <;> rfl)) ?_
    refine again_r rfl ?_
    refine again_r rfl ?_
    refine again_l rfl rfl (a_load (by simp only [Zu, Nat.reduceEqDiff, ↓reduceIte, newPtr, IPh.cells] <;> rfl) (by simp (disch := first | (refine Zx ?_; simp only [Zn]; done) | ((try simp only [Zn]); omega)) only [Zg, newPtr, IPh.cells] <;> rfl) (by simp only [ld3, Zl, newPtr, IPh.cells] <;> rfl)) ?_
    refine again_r rfl ?_
    refine again_r rfl ?_
    refine again_l rfl rfl (a_len (by simp (disch := omega) only [Zu, Nat.reduceEqDiff, ↓reduceIte, alen_str, newPtr, IPh.cells, hlenS] <;> rfl)) ?_
    refine again_r rfl ?_
    refine again_r rfl ?_
    refine again_l rfl rfl (a_load (by simp only [Zu, Nat.reduceEqDiff, ↓reduceIte, newPtr, IPh.cells] <;> rfl) (by simp (disch := first | (refine Zx ?_; simp only [Zn]; done) | ((try simp only [Zn]); omega)) only [Zg, newPtr, IPh.cells] <;> rfl) (by simp only [ld3, Zl, newPtr, IPh.cells] <;> rfl)) ?_
    refine again_r rfl ?_
    exact again_nil
  refine s_call (by simp only [Zu, Nat.reduceEqDiff, ↓reduceIte, newPtr, IPh.cells, hlenS] <;> rfl) (by simp only [Zu, Nat.reduceEqDiff, ↓reduceIte, Zm, newPtr, IPh.cells, hlenS] <;> rfl) ?_
  rw [S54_52]; refine ⟨_, 1, rfl, ⟨⟨by omega, by omega⟩, by omega, by omega⟩, ?_⟩; rw [one_nat, hx2]
  show EA _ _ _ _ _ _
  refine s_end (fun s' hs' => ?_); subst hs'
  refine l_op rfl rfl (a_bin (by simp (disch := ((try simp only [List.length_append, List.length_cons, List.length_nil]); omega)) only [Zu, Nat.reduceEqDiff, ↓reduceIte, Zd, reduceCtorEq, abin_add, abin_aadd, wrap_i64, wrap_u32, wrap_u8, wrap_u64, wrap_i32, wrap_u16, ne_eq, not_false_eq_true, IPh.cells] <;> rfl)) rfl ?_ rfl
  refine l_nil ?_
  refine h_op ?_ rfl rfl rfl ?_
  · refine again_r rfl ?_
    refine again_l rfl rfl (a_load (by simp only [Zu, Nat.reduceEqDiff, ↓reduceIte, newPtr, IPh.cells] <;> rfl) (by simp (disch := first | (refine Zx ?_; simp only [Zn]; done) | ((try simp only [Zn]); omega)) only [Zg, newPtr, IPh.cells] <;> rfl) (by simp only [ld3, Zl, newPtr, IPh.cells] <;> rfl)) ?_
    refine again_r rfl ?_
    refine again_l rfl rfl (a_load (by simp only [Zu, Nat.reduceEqDiff, ↓reduceIte, newPtr, IPh.cells] <;> rfl) (by simp (disch := first | (refine Zx ?_; simp only [Zn]; done) | ((try simp only [Zn]); omega)) only [Zg, newPtr, IPh.cells] <;> rfl) (by simp only [ld3, Zl, newPtr, IPh.cells] <;> rfl)) ?_
    refine again_r rfl ?_
    refine again_r rfl ?_
    refine again_l rfl rfl (a_load (by simp only [Zu, Nat.reduceEqDiff, ↓reduceIte, newPtr, IPh.cells] <;> rfl) (by simp (disch := first | (refine Zx ?_; simp only [Zn]; done) | ((try simp only [Zn]); omega)) only [Zg, newPtr, IPh.cells] <;> rfl) (by simp only [ld3, Zl, newPtr, IPh.cells] <;> rfl)) ?_
    refine again_r rfl ?_
    refine again_r rfl ?_
    refine again_l rfl rfl (a_len (by simp (disch := omega) only [Zu, Nat.reduceEqDiff, ↓reduceIte, alen_str, newPtr, IPh.cells, hlenS] <;> rfl)) ?_
    refine again_r rfl ?_
    refine again_r rfl ?_
    exact again_nil
  refine s_call (by simp only [Zu, Nat.reduceEqDiff, ↓reduceIte, newPtr, IPh.cells, hlenS] <;> rfl) (by simp only [Zu, Nat.reduceEqDiff, ↓reduceIte, Zm, newPtr, IPh.cells, hlenS] <;> rfl) ?_
  rw [S54_52]; refine ⟨_, 2, rfl, ⟨⟨by omega, by omega⟩, by omega, by omega⟩, ?_⟩; rw [two_nat, hx3]
  show EA _ _ _ _ _ _
  refine s_end (fun s' hs' => ?_); subst hs'
  refine l_op rfl rfl (a_bin (by simp (disch := ((try simp only [List.length_append, List.length_cons, List.length_nil]); omega)) only [Zu, Nat.reduceEqDiff, ↓reduceIte, Zd, reduceCtorEq, abin_add, abin_aadd, wrap_i64, wrap_u32, wrap_u8, wrap_u64, wrap_i32, wrap_u16, ne_eq, not_false_eq_true, IPh.cells] <;> rfl)) rfl ?_ rfl
  refine l_nil ?_
  refine h_op ?_ rfl rfl rfl ?_
  · refine again_r rfl ?_
    refine again_r rfl ?_
    refine again_l rfl rfl (a_load (by simp only [Zu, Nat.reduceEqDiff, ↓reduceIte, newPtr, IPh.cells] <;> rfl) (by simp (disch := first | (refine Zx ?_; simp only [Zn]; done) | ((try simp only [Zn]); omega)) only [Zg, newPtr, IPh.cells] <;> rfl) (by simp only [ld3, Zl, newPtr, IPh.cells] <;> rfl)) ?_
    refine again_r rfl ?_
    refine again_l rfl rfl (a_load (by simp only [Zu, Nat.reduceEqDiff, ↓reduceIte, newPtr, IPh.cells] <;> rfl) (by simp (disch := first | (refine Zx ?_; simp only [Zn]; done) | ((try simp only [Zn]); omega)) only [Zg, newPtr, IPh.cells] <;> rfl) (by simp only [ld3, Zl, newPtr, IPh.cells] <;> rfl)) ?_
    refine again_r rfl ?_
    refine again_r rfl ?_
    refine again_l rfl rfl (a_load (by simp only [Zu, Nat.reduceEqDiff, ↓reduceIte, newPtr, IPh.cells] <;> rfl) (by simp (disch := first | (refine Zx ?_; simp only [Zn]; done) | ((try simp only [Zn]); omega)) only [Zg, newPtr, IPh.cells] <;> rfl) (by simp only [ld3, Zl, newPtr, IPh.cells] <;> rfl)) ?_
    refine again_r rfl ?_
    exact again_nil
  refine s_call (by simp only [Zu, Nat.reduceEqDiff, ↓reduceIte, newPtr, IPh.cells, hlenS] <;> rfl) (by simp only [Zu, Nat.reduceEqDiff, ↓reduceIte, Zm, newPtr, IPh.cells, hlenS] <;> rfl) ?_
  rw [S54_52]; refine ⟨_, 2, rfl, ⟨⟨by omega, by omega⟩, by omega, by omega⟩, ?_⟩; rw [two_nat, hx4]
  show EA _ _ _ _ _ _
  refine s_end (fun s' hs' => ?_); subst hs'
  refine l_op rfl rfl (a_bin (by simp (disch := ((try simp only [List.length_append, List.length_cons, List.length_nil]); omega)) only [Zu, Nat.reduceEqDiff, ↓reduceIte, Zd, reduceCtorEq, abin_add, abin_aadd, wrap_i64, wrap_u32, wrap_u8, wrap_u64, wrap_i32, wrap_u16, ne_eq, not_false_eq_true, IPh.cells] <;> rfl)) rfl ?_ rfl
  refine l_nil ?_
  refine h_op ?_ rfl rfl rfl ?_
  · refine again_r rfl ?_
    refine again_r rfl ?_
    refine again_r rfl ?_
    refine again_l rfl rfl (a_load (by simp only [Zu, Nat.reduceEqDiff, ↓reduceIte, newPtr, IPh.cells] <;> rfl) (by simp (disch := first | (refine Zx ?_; simp only [Zn]; done) | ((try simp only [Zn]); omega)) only [Zg, newPtr, IPh.cells] <;> rfl) (by simp only [ld3, Zl, newPtr, IPh.cells] <;> rfl)) ?_
    refine again_r rfl ?_
    refine again_l rfl rfl (a_load (by simp only [Zu, Nat.reduceEqDiff, ↓reduceIte, newPtr, IPh.cells] <;> rfl) (by simp (disch := first | (refine Zx ?_; simp only [Zn]; done) | ((try simp only [Zn]); omega)) only [Zg, newPtr, IPh.cells] <;> rfl) (by simp only [ld3, Zl, newPtr, IPh.cells] <;> rfl)) ?_
    refine again_r rfl ?_
    refine again_r rfl ?_
    exact again_nil
  refine s_call (by simp only [Zu, Nat.reduceEqDiff, ↓reduceIte, newPtr, IPh.cells, hlenS] <;> rfl) (by simp only [Zu, Nat.reduceEqDiff, ↓reduceIte, Zm, newPtr, IPh.cells, hlenS] <;> rfl) ?_
  rw [S54_52]; refine ⟨_, 2, rfl, ⟨⟨by omega, by omega⟩, by omega, by omega⟩, ?_⟩; rw [two_nat, hx5]
  show EA _ _ _ _ _ _
  refine s_end (fun s' hs' => ?_); subst hs'
  refine l_op rfl rfl (a_bin (by simp (disch := ((try simp only [List.length_append, List.length_cons, List.length_nil]); omega)) only [Zu, Nat.reduceEqDiff, ↓reduceIte, Zd, reduceCtorEq, abin_add, abin_aadd, wrap_i64, wrap_u32, wrap_u8, wrap_u64, wrap_i32, wrap_u16, ne_eq, not_false_eq_true, IPh.cells] <;> rfl)) rfl ?_ rfl
  refine l_nil ?_
  refine h_op ?_ rfl rfl rfl ?_
  · refine again_r rfl ?_
    refine again_r rfl ?_
    refine again_r rfl ?_
    refine again_r rfl ?_
    refine again_l rfl rfl (a_load (by simp only [Zu, Nat.reduceEqDiff, ↓reduceIte, newPtr, IPh.cells] <;> rfl) (by simp (disch := first | (refine Zx ?_; simp only [Zn]; done) | ((try simp only [Zn]); omega)) only [Zg, newPtr, IPh.cells] <;> rfl) (by simp only [ld3, Zl, newPtr, IPh.cells] <;> rfl)) ?_
    refine again_r rfl ?_
    refine again_l rfl rfl (a_load (by simp only [Zu, Nat.reduceEqDiff, ↓reduceIte, newPtr, IPh.cells] <;> rfl) (by simp (disch := first | (refine Zx ?_; simp only [Zn]; done) | ((try simp only [Zn]); omega)) only [Zg, newPtr, IPh.cells] <;> rfl) (by simp only [ld3, Zl, newPtr, IPh.cells] <;> rfl)) ?_
    refine again_r rfl ?_
    exact again_nil
  refine s_call (by simp only [Zu, Nat.reduceEqDiff, ↓reduceIte, newPtr, IPh.cells, hlenS] <;> rfl) (by simp only [Zu, Nat.reduceEqDiff, ↓reduceIte, Zm, newPtr, IPh.cells, hlenS] <;> rfl) ?_
  rw [S54_52]; refine ⟨_, 1, rfl, ⟨⟨by omega, by omega⟩, by omega, by omega⟩, ?_⟩; rw [one_nat, hx6]
  show EA _ _ _ _ _ _
  refine s_end (fun s' hs' => ?_); subst hs'
  refine l_op rfl rfl (a_bin (by simp (disch := ((try simp only [List.length_append, List.length_cons, List.length_nil]); omega)) only [Zu, Nat.reduceEqDiff, ↓reduceIte, Zd, reduceCtorEq, abin_add, abin_aadd, wrap_i64, wrap_u32, wrap_u8, wrap_u64, wrap_i32, wrap_u16, ne_eq, not_false_eq_true, IPh.cells] <;> rfl)) rfl ?_ rfl
  refine l_nil ?_
  refine h_op ?_ rfl rfl rfl ?_
  · refine again_r rfl ?_
    refine again_r rfl ?_
    refine again_r rfl ?_
    refine again_r rfl ?_
    refine again_r rfl ?_
    refine again_l rfl rfl (a_load (by simp only [Zu, Nat.reduceEqDiff, ↓reduceIte, newPtr, IPh.cells] <;> rfl) (by simp (disch := first | (refine Zx ?_; simp only [Zn]; done) | ((try simp only [Zn]); omega)) only [Zg, newPtr, IPh.cells] <;> rfl) (by simp only [ld3, Zl, newPtr, IPh.cells] <;> rfl)) ?_
    refine again_r rfl ?_
    exact again_nil
  refine s_call (by simp only [Zu, Nat.reduceEqDiff, ↓reduceIte, newPtr, IPh.cells, hlenS] <;> rfl) (by simp only [Zu, Nat.reduceEqDiff, ↓reduceIte, Zm, newPtr, IPh.cells, hlenS] <;> rfl) ?_
  rw [S54_52]; refine ⟨_, 1, rfl, ⟨⟨by omega, by omega⟩, by omega, by omega⟩, ?_⟩; rw [one_nat, hx7]
  show EA _ _ _ _ _ _
  refine s_end (fun s' hs' => ?_); subst hs'
  refine l_op rfl rfl (a_bin (by simp (disch := ((try simp only [List.length_append, List.length_cons, List.length_nil]); omega)) only [Zu, Nat.reduceEqDiff, ↓reduceIte, Zd, reduceCtorEq, abin_add, abin_aadd, wrap_i64, wrap_u32, wrap_u8, wrap_u64, wrap_i32, wrap_u16, ne_eq, not_false_eq_true, IPh.cells] <;> rfl)) rfl ?_ rfl
  refine l_op rfl rfl (a_as (by simp only [Zu, Nat.reduceEqDiff, ↓reduceIte] <;> rfl)) rfl ?_ rfl
  refine l_nil ?_
  refine h_end ?_ (fun s' hs' => ?_)
  · refine again_r rfl ?_
    refine again_r rfl ?_
    refine again_r rfl ?_
    refine again_r rfl ?_
    refine again_r rfl ?_
    refine again_r rfl ?_
    refine again_r rfl ?_
    exact again_nil
  replace e1 := kp 1 hs' e1
  replace e2 := kp 2 hs' e2
  have e8 := congrFun hs' 8
  simp only [Zu, Nat.reduceEqDiff, ↓reduceIte, newPtr, AMem.next_alloc] at e8
  clear hs'
  try clear e6 e7
  refine o_norm ?_
  refine t_norm ?_
  repeat refine at_seq rfl ?_
  refine at_draw ⟨[[], [0], [0, 1], [0, 1, 2], [], [4], [4, 5], [0, 1, 2, 3, 4, 5, 6], [0, 1, 2, 3, 4, 5, 6, 7], [], [9], [0, 1, 2, 3, 4, 5, 6, 7, 8, 9, 10], [0, 1, 2, 3, 4, 5, 6, 7, 8, 9, 10, 11]], [0, 1, 2, 4, 5, 6, 9, 10], [(3, []), (7, [8, 11, 12])]⟩ hS rfl rfl (by kernel_rfl) (by kernel_rfl) ?_
  refine d_start ?_
  refine l_op rfl rfl (a_fa (by simp only [Zu, Nat.reduceEqDiff, ↓reduceIte, fa64_7, Nat.zero_add, newPtr, IPh.cells, e2] <;> rfl)) rfl ?_ rfl
  refine l_op rfl rfl (a_load (by simp only [Zu, Nat.reduceEqDiff, ↓reduceIte, newPtr, IPh.cells] <;> rfl) (by simp (disch := first | (refine Zx ?_; simp only [Zn]; done) | ((try simp only [Zn]); omega)) only [Zg, newPtr, IPh.cells] <;> rfl) (by simp only [ld23, Zl, newPtr, IPh.cells] <;> rfl)) rfl ?_ rfl
  refine l_op rfl rfl (a_convi (by simp only [Zu, Nat.reduceEqDiff, ↓reduceIte, newPtr, IPh.cells] <;> rfl) rfl rfl (by simp (disch := omega) only [wrap_i64]; try rfl)) rfl ?_ rfl
  refine l_op rfl rfl (a_fa (by simp only [Zu, Nat.reduceEqDiff, ↓reduceIte, fa64_8, Nat.zero_add, newPtr, IPh.cells, e2] <;> rfl)) rfl ?_ rfl
  refine l_op rfl rfl (a_load (by simp only [Zu, Nat.reduceEqDiff, ↓reduceIte, newPtr, IPh.cells] <;> rfl) (by simp (disch := first | (refine Zx ?_; simp only [Zn]; done) | ((try simp only [Zn]); omega)) only [Zg, newPtr, IPh.cells] <;> rfl) (by simp only [ld23, Zl, newPtr, IPh.cells] <;> rfl)) rfl ?_ rfl
  refine l_op rfl rfl (a_convi (by simp only [Zu, Nat.reduceEqDiff, ↓reduceIte, newPtr, IPh.cells] <;> rfl) rfl rfl (by simp (disch := omega) only [wrap_i64]; try rfl)) rfl ?_ rfl
  refine l_op rfl rfl (a_fa (by simp only [Zu, Nat.reduceEqDiff, ↓reduceIte, fa64_9, Nat.zero_add, newPtr, IPh.cells, e2] <;> rfl)) rfl ?_ rfl
  refine l_op rfl rfl (a_load (by simp only [Zu, Nat.reduceEqDiff, ↓reduceIte, newPtr, IPh.cells] <;> rfl) (by simp (disch := first | (refine Zx ?_; simp only [Zn]; done) | ((try simp only [Zn]); omega)) only [Zg, newPtr, IPh.cells] <;> rfl) (by simp only [ld9, Zl, newPtr, IPh.cells] <;> rfl)) rfl ?_ rfl
  refine l_nil ?_
  refine h_op ?_ rfl rfl rfl ?_
  · refine again_l rfl rfl (a_load (by simp only [Zu, Nat.reduceEqDiff, ↓reduceIte, newPtr, IPh.cells] <;> rfl) (by simp (disch := first | (refine Zx ?_; simp only [Zn]; done) | ((try simp only [Zn]); omega)) only [Zg, newPtr, IPh.cells] <;> rfl) (by simp only [ld9, Zl, newPtr, IPh.cells] <;> rfl)) ?_
    refine again_r rfl ?_
    refine again_l rfl rfl (a_convi (by simp only [Zu, Nat.reduceEqDiff, ↓reduceIte, newPtr, IPh.cells] <;> rfl) rfl rfl (by simp (disch := omega) only [wrap_i64]; try rfl)) ?_
    refine again_l rfl rfl (a_load (by simp only [Zu, Nat.reduceEqDiff, ↓reduceIte, newPtr, IPh.cells] <;> rfl) (by simp (disch := first | (refine Zx ?_; simp only [Zn]; done) | ((try simp only [Zn]); omega)) only [Zg, newPtr, IPh.cells] <;> rfl) (by simp only [ld23, Zl, newPtr, IPh.cells] <;> rfl)) ?_
    refine again_r rfl ?_
    refine again_l rfl rfl (a_convi (by simp only [Zu, Nat.reduceEqDiff, ↓reduceIte, newPtr, IPh.cells] <;> rfl) rfl rfl (by simp (disch := omega) only [wrap_i64]; try rfl)) ?_
    refine again_l rfl rfl (a_load (by simp only [Zu, Nat.reduceEqDiff, ↓reduceIte, newPtr, IPh.cells] <;> rfl) (by simp (disch := first | (refine Zx ?_; simp only [Zn]; done) | ((try simp only [Zn]); omega)) only [Zg, newPtr, IPh.cells] <;> rfl) (by simp only [ld23, Zl, newPtr, IPh.cells] <;> rfl)) ?_
    refine again_r rfl ?_
    exact again_nil
  refine s_call (by simp only [Zu, Nat.reduceEqDiff, ↓reduceIte, newPtr, IPh.cells, hlenS] <;> rfl) (by simp only [Zu, Nat.reduceEqDiff, ↓reduceIte, Zm, newPtr, IPh.cells, hlenS] <;> rfl) ?_
  rw [S54_52]; refine ⟨_, 4, rfl, ⟨⟨by omega, by omega⟩, by omega, by omega⟩, ?_⟩; rw [four_nat, hx8]
  show EA _ _ _ _ _ _
  refine s_end (fun s' hs' => ?_); subst hs'
  refine l_nil ?_
  refine h_op ?_ rfl rfl rfl ?_
  · refine again_l rfl rfl (a_load (by simp only [Zu, Nat.reduceEqDiff, ↓reduceIte, newPtr, IPh.cells] <;> rfl) (by simp (disch := first | (refine Zx ?_; simp only [Zn]; done) | ((try simp only [Zn]); omega)) only [Zg, newPtr, IPh.cells] <;> rfl) (by simp only [ld9, Zl, newPtr, IPh.cells] <;> rfl)) ?_
    refine again_r rfl ?_
    refine again_l rfl rfl (a_convi (by simp only [Zu, Nat.reduceEqDiff, ↓reduceIte, newPtr, IPh.cells] <;> rfl) rfl rfl (by simp (disch := omega) only [wrap_i64]; try rfl)) ?_
    refine again_l rfl rfl (a_load (by simp only [Zu, Nat.reduceEqDiff, ↓reduceIte, newPtr, IPh.cells] <;> rfl) (by simp (disch := first | (refine Zx ?_; simp only [Zn]; done) | ((try simp only [Zn]); omega)) only [Zg, newPtr, IPh.cells] <;> rfl) (by simp only [ld23, Zl, newPtr, IPh.cells] <;> rfl)) ?_
    refine again_r rfl ?_
    exact again_nil
  refine s_call (by simp only [Zu, Nat.reduceEqDiff, ↓reduceIte, newPtr, IPh.cells, hlenS] <;> rfl) (by simp only [Zu, Nat.reduceEqDiff, ↓reduceIte, Zm, newPtr, IPh.cells, hlenS] <;> rfl) ?_
  rw [S54_52]; refine ⟨_, 4, rfl, ⟨⟨by omega, by omega⟩, by omega, by omega⟩, ?_⟩; rw [four_nat, hx9]
  show EA _ _ _ _ _ _
  refine s_end (fun s' hs' => ?_); subst hs'
  refine l_op rfl rfl (a_bin (by simp (disch := ((try simp only [List.length_append, List.length_cons, List.length_nil]); omega)) only [Zu, Nat.reduceEqDiff, ↓reduceIte, Zd, reduceCtorEq, abin_add, abin_aadd, wrap_i64, wrap_u32, wrap_u8, wrap_u64, wrap_i32, wrap_u16, ne_eq, not_false_eq_true, IPh.cells] <;> rfl)) rfl ?_ rfl
  refine l_op rfl rfl (a_bin (by simp (disch := ((try simp only [List.length_append, List.length_cons, List.length_nil]); omega)) only [Zu, Nat.reduceEqDiff, ↓reduceIte, Zd, reduceCtorEq, abin_add, abin_aadd, wrap_i64, wrap_u32, wrap_u8, wrap_u64, wrap_i32, wrap_u16, ne_eq, not_false_eq_true, IPh.cells] <;> rfl)) rfl ?_ rfl
  refine l_op rfl rfl (a_as (by simp only [Zu, Nat.reduceEqDiff, ↓reduceIte] <;> rfl)) rfl ?_ rfl
  refine l_nil ?_
  refine h_end ?_ (fun s' hs' => ?_)
  · refine again_r rfl ?_
    refine again_r rfl ?_
    refine again_r rfl ?_
    refine again_l rfl rfl (a_load (by simp only [Zu, Nat.reduceEqDiff, ↓reduceIte, newPtr, IPh.cells] <;> rfl) (by simp (disch := first | (refine Zx ?_; simp only [Zn]; done) | ((try simp only [Zn]); omega)) only [Zg, newPtr, IPh.cells] <;> rfl) (by simp only [ld9, Zl, newPtr, IPh.cells] <;> rfl)) ?_
    refine again_r rfl ?_
    exact again_nil
  replace e1 := kp 1 hs' e1
  replace e8 := kp 8 hs' e8
  have e9 := congrFun hs' 9
  simp only [Zu, Nat.reduceEqDiff, ↓reduceIte, newPtr, AMem.next_alloc] at e9
  clear hs'
  try clear e2
  refine o_norm ?_
  refine t_norm ?_
  repeat refine at_seq rfl ?_
  generalize hxa : x1 ++ x2 ++ x3 ++ x4 ++ x5 ++ x6 ++ x7 = xa at *
  have qa : xa.length = 10 := by rw [← hxa]; simp [q1, q2, q3, q4, q5, q6, q7]
  generalize hxb : x8 ++ x9 ++ h.opts = xb at *
  have qb : xb.length ≤ 48 := by rw [← hxb]; simp [q8, q9]; omega
  obtain ⟨w1, w2⟩ := ocF_bound (xa ++ [0, 0] ++ xb)
  have q10 := bigF_length (ocF (xa ++ [0, 0] ++ xb)) 2
  generalize hxc : bigF (ocF (xa ++ [0, 0] ++ xb)) 2 = xc at *
  refine at_region hS rfl (by kernel_rfl) ?_
  refine s_op (a_mv e8) rfl ?_
  refine s_op (a_mv e8) rfl ?_
  refine s_op (a_bin (by simp (disch := ((try simp only [List.length_append, List.length_cons, List.length_nil]); omega)) only [Zu, Nat.reduceEqDiff, ↓reduceIte, Zd, reduceCtorEq, abin_add, abin_aadd, wrap_i64, wrap_u32, wrap_u8, wrap_u64, wrap_i32, wrap_u16, ne_eq, not_false_eq_true, str00] <;> rfl)) rfl ?_
  refine s_op (a_mv e9) rfl ?_
  refine s_op (a_bin (by simp (disch := ((try simp only [List.length_append, List.length_cons, List.length_nil]); omega)) only [Zu, Nat.reduceEqDiff, ↓reduceIte, Zd, reduceCtorEq, abin_add, abin_aadd, wrap_i64, wrap_u32, wrap_u8, wrap_u64, wrap_i32, wrap_u16, ne_eq, not_false_eq_true, str00] <;> rfl)) rfl ?_
  refine s_call (by simp only [Zu, Nat.reduceEqDiff, ↓reduceIte, str00] <;> rfl) (by simp only [Zu, Nat.reduceEqDiff, ↓reduceIte, Zm, str00] <;> rfl) ?_
  rw [S54_67]; refine ⟨_, rfl, by simp; omega, ?_⟩
  show EA _ _ _ _ _ _
  refine s_call (by simp only [Zu, Nat.reduceEqDiff, ↓reduceIte, str00] <;> rfl) (by simp only [Zu, Nat.reduceEqDiff, ↓reduceIte, Zm, str00] <;> rfl) ?_
  rw [S54_52]; refine ⟨_, 2, rfl, ⟨⟨by omega, by omega⟩, by omega, by omega⟩, ?_⟩; rw [two_nat, hxc]
  show EA _ _ _ _ _ _
  refine s_op (a_bin (by simp (disch := ((try simp only [List.length_append, List.length_cons, List.length_nil]); omega)) only [Zu, Nat.reduceEqDiff, ↓reduceIte, Zd, reduceCtorEq, abin_add, abin_aadd, wrap_i64, wrap_u32, wrap_u8, wrap_u64, wrap_i32, wrap_u16, ne_eq, not_false_eq_true, str00] <;> rfl)) rfl ?_
  refine s_op (a_mv e9) rfl ?_
  refine s_op (a_bin (by simp (disch := ((try simp only [List.length_append, List.length_cons, List.length_nil]); omega)) only [Zu, Nat.reduceEqDiff, ↓reduceIte, Zd, reduceCtorEq, abin_add, abin_aadd, wrap_i64, wrap_u32, wrap_u8, wrap_u64, wrap_i32, wrap_u16, ne_eq, not_false_eq_true, str00] <;> rfl)) rfl ?_
  refine s_op (a_mv e1) rfl ?_
  refine s_op (a_bin (by simp (disch := ((try simp only [List.length_append, List.length_cons, List.length_nil]); omega)) only [Zu, Nat.reduceEqDiff, ↓reduceIte, Zd, reduceCtorEq, abin_add, abin_aadd, wrap_i64, wrap_u32, wrap_u8, wrap_u64, wrap_i32, wrap_u16, ne_eq, not_false_eq_true, str00] <;> rfl)) rfl ?_
  refine s_as ?_
  refine s_op (a_as (by simp only [ev_const] <;> rfl)) rfl ?_
  refine s_end (fun s' hs' => ?_)
  have e4 := congrFun hs' 4
  have e5 := congrFun hs' 5
  simp only [Zu, Nat.reduceEqDiff, ↓reduceIte] at e4 e5
  clear hs'
  try clear e1 e8 e9
  refine o_norm ?_
  refine t_norm ?_
  refine at_ret rfl ?_
  refine bq_ret rfl (ars_cons (ar_tmp e4) (ars_cons (ar_tmp e5) ars_nil)) ?_
  exact ⟨_, _, hK, Canon.forget rfl (fun j hj => get_old (by omega))⟩
end Go.Proofs.Ytdkdkpiemigfkaa
set_option linter.unusedVariables false
set_option linter.unusedSimpArgs false
set_option maxRecDepth 8000
namespace Go.Proofs.Ytdkdkpiemigfkaa
open Go Go.Proofs
def tcpA (h : Segh) : List UInt8 := bigF h.src 2 ++ bigF h.dst 2 ++ bigF h.seq 4 ++ bigF h.ack 4 ++ bigF ((20 + (h.opts.length : Int)) / 4 * 16) 1 ++ bigF h.flags 1 ++ bigF h.win 2
def tcpB (h : Segh) (body : List UInt8) : List UInt8 := [0, 0] ++ h.opts ++ body
def tcpPutF (src dst : Int) (h : Segh) (body : List UInt8) : List UInt8 :=
  tcpA h ++ bigF (ocF (pseudoF src dst 6 (tcpA h ++ [0, 0] ++ tcpB h body).length ++ (tcpA h ++ [0, 0] ++ tcpB h body))) 2 ++ tcpB h body
def sp37 : ASpec := fun args M K => ∃ (src dst : Int) (h : Segh) (body : List UInt8), args = [.int .u32 src, .int .u32 dst, .agg h.cells.toArray, asString body] ∧ (0 ≤ src ∧ src ≤ 4294967295 ∧ 0 ≤ dst ∧ dst ≤ 4294967295 ∧ h.ok ∧ (body.length : Int) ≤ 1980 - h.opts.length) ∧ K (.ret (.tuple #[asString (tcpPutF src dst h body), .int .i64 0])) M
noncomputable def S37 : FuncId → ASpec := tab [(52, sp52), (53, sp53), (51, sp51)]
theorem S37_52 : S37 52 = sp52 := rfl
theorem S37_53 : S37 53 = sp53 := rfl
theorem S37_51 : S37 51 = sp51 := rfl
theorem S37_ok : ∀ f, Sound Try.prog f (S37 f) := tab_sound _ (by simp [f52_ok, f53_ok, f51_ok])
set_option maxHeartbeats 2000000 in
theorem f37_ok : Sound Try.prog 37 sp37 := by
  refine Sound.of_awp (c := bodyOf Try.f37) Try.func37 rfl rfl rfl ?_
  rintro args M K ⟨src, dst, h, body, rfl, ⟨r0, r1, r2, r3, hok, hbody⟩, hK⟩
  refine ⟨Nat.le_of_ble_eq_true rfl, ?_⟩
  have hS := S37_ok
  have e0 : entry [.int .u32 src, .int .u32 dst, .agg h.cells.toArray, asString body] 0 = .int .u32 src := rfl
  have e1 : entry [.int .u32 src, .int .u32 dst, .agg h.cells.toArray, asString body] 1 = .int .u32 dst := rfl
  have e2 : entry [.int .u32 src, .int .u32 dst, .agg h.cells.toArray, asString body] 2 = .agg h.cells.toArray := rfl
  have e3 : entry [.int .u32 src, .int .u32 dst, .agg h.cells.toArray, asString body] 3 = asString body := rfl
  have hok' := hok
  obtain ⟨s0, s1, d0, d1, w0, w1, f0, f1, n1, n2, q0, q1, a0, a1⟩ := hok'
  repeat refine at_seq rfl ?_
  refine at_region hS rfl (by kernel_rfl) ?_
  refine s_op (a_box (by simp only [Zu, Nat.reduceEqDiff, ↓reduceIte, Value.cells, e2] <;> rfl)) rfl ?_
  refine s_op (a_as (by simp only [ev_const] <;> rfl)) rfl ?_
  refine s_op (a_as (by simp only [ev_const] <;> rfl)) rfl ?_
  refine s_end (fun s' hs' => ?_)
  replace e0 := kp 0 hs' e0
  replace e1 := kp 1 hs' e1
  replace e3 := kp 3 hs' e3
  have e6 := congrFun hs' 6
  simp only [Zu, Nat.reduceEqDiff, ↓reduceIte, newPtr, AMem.next_alloc] at e6
  clear hs'
  try clear e2
  refine o_norm ?_
  refine t_norm ?_
  repeat refine at_seq rfl ?_
  refine at_block rfl ?_
  repeat refine at_seq rfl ?_
  refine at_region hS rfl (by kernel_rfl) ?_
  refine s_op (a_load e6 (by simp (disch := first | (refine Zx ?_; simp only [Zn]; done) | ((try simp only [Zn]); omega)) only [Zg, newPtr, ld57, e6] <;> rfl) (by simp only [newPtr, ld57, e6] <;> rfl)) rfl ?_
  refine s_call (by simp only [Zu, Nat.reduceEqDiff, ↓reduceIte, newPtr] <;> rfl) (by simp only [Zu, Nat.reduceEqDiff, ↓reduceIte, Zm, newPtr] <;> rfl) ?_
  rw [S37_51]; refine ⟨h, rfl, hok, ?_⟩
  show EA _ _ _ _ _ _
  refine s_op (a_un (by simp (disch := omega) only [Zu, Nat.reduceEqDiff, ↓reduceIte, Zd, reduceCtorEq, aun, wrap_i64, IntKind.signed] <;> rfl)) rfl ?_
  refine s_as ?_
  refine s_end (fun s' hs' => ?_)
  replace e0 := kp 0 hs' e0
  replace e1 := kp 1 hs' e1
  replace e3 := kp 3 hs' e3
  replace e6 := kp 6 hs' e6
  have e12 := congrFun hs' 12
  simp only [Zu, Nat.reduceEqDiff, ↓reduceIte, newPtr, AMem.next_alloc] at e12
  clear hs'
  refine o_norm ?_
  refine t_norm ?_
  refine at_cond rfl rfl e12 (fun hc => by cases hc) (fun hc => ?_)
  repeat refine at_seq rfl ?_
  have hb2 : ¬ ((1980 : Int) - h.opts.length < body.length) := by omega
  refine at_region hS rfl (by kernel_rfl) ?_
  refine s_op (a_mv e3) rfl ?_
  refine s_op (a_len (by simp (disch := omega) only [Zu, Nat.reduceEqDiff, ↓reduceIte, alen_str, newPtr, Segh.cells, hlenS, hb2] <;> rfl)) rfl ?_
  refine s_op (a_fa (by simp only [Zu, Nat.reduceEqDiff, ↓reduceIte, fa57_6, Nat.zero_add, newPtr, Segh.cells, hb2, e6] <;> rfl)) rfl ?_
  refine s_op (a_load (by simp only [Zu, Nat.reduceEqDiff, ↓reduceIte, newPtr, Segh.cells, hb2] <;> rfl) (by simp (disch := first | (refine Zx ?_; simp only [Zn]; done) | ((try simp only [Zn]); omega)) only [Zg, newPtr, Segh.cells, hb2] <;> rfl) (by simp only [ld9, Zl, newPtr, Segh.cells, hb2] <;> rfl)) rfl ?_
  refine s_op (a_len (by simp (disch := omega) only [Zu, Nat.reduceEqDiff, ↓reduceIte, alen_str, newPtr, Segh.cells, hlenS, hb2] <;> rfl)) rfl ?_
  refine s_op (a_bin (by simp (disch := omega) only [Zu, Nat.reduceEqDiff, ↓reduceIte, Zd, reduceCtorEq, abin_sub, wrap_i64, wrap_u32, wrap_u8, wrap_u64, wrap_i32, wrap_u16, ne_eq, not_false_eq_true, Segh.cells, hb2] <;> rfl)) rfl ?_
  refine s_op (a_bin (by simp (disch := omega) only [Zu, Nat.reduceEqDiff, ↓reduceIte, Zd, reduceCtorEq, abin_gtr, ne_eq, not_false_eq_true, Segh.cells, hb2] <;> rfl)) rfl ?_
  refine s_as ?_
  refine s_end (fun s' hs' => ?_)
  replace e0 := kp 0 hs' e0
  replace e1 := kp 1 hs' e1
  replace e3 := kp 3 hs' e3
  replace e6 := kp 6 hs' e6
  have e16 := congrFun hs' 16
  simp only [Zu, Nat.reduceEqDiff, ↓reduceIte, newPtr, AMem.next_alloc] at e16
  clear hs'
  refine o_norm ?_
  refine t_norm ?_
  refine at_cond rfl rfl e16 (fun hc => by cases hc) (fun hc => ?_)
  refine at_skip rfl ?_
  repeat (first | refine t_norm ?_ | refine b_norm ?_)
  repeat refine at_seq rfl ?_
  have l1 := bigF_length h.src 2
  have l2 := bigF_length h.dst 2
  have l3 := bigF_length h.seq 4
  have l4 := bigF_length h.ack 4
  have l5 := bigF_length ((20 + (h.opts.length : Int)) / 4 * 16) 1
  have l6 := bigF_length h.flags 1
  have l7 := bigF_length h.win 2
  unfold tcpPutF tcpA tcpB at hK
  generalize hx1 : bigF h.src 2 = x1 at *
  generalize hx2 : bigF h.dst 2 = x2 at *
  generalize hx3 : bigF h.seq 4 = x3 at *
  generalize hx4 : bigF h.ack 4 = x4 at *
  generalize hx5 : bigF ((20 + (h.opts.length : Int)) / 4 * 16) 1 = x5 at *
  generalize hx6 : bigF h.flags 1 = x6 at *
  generalize hx7 : bigF h.win 2 = x7 at *
  refine at_draw ⟨[[], [0], [0, 1], [], [3], [0, 1, 2, 3, 4], [0, 1, 2, 3, 4, 5], [], [7], [7, 8], [0, 1, 2, 3, 4, 5, 7, 8, 9], [0, 1, 2, 3, 4, 5, 6, 7, 8, 9, 10], [], [12], [12, 13], [0, 1, 2, 3, 4, 5, 7, 8, 9, 10, 12, 13, 14], [0, 1, 2, 3, 4, 5, 6, 7, 8, 9, 10, 11, 12, 13, 14, 15], [], [17], [17, 18], [17, 18, 19], [17, 18, 19, 20], [17, 18, 19, 20, 21], [0, 1, 2, 3, 4, 5, 7, 8, 9, 10, 12, 13, 14, 15, 17, 18, 19, 20, 21, 22], [0, 1, 2, 3, 4, 5, 6, 7, 8, 9, 10, 11, 12, 13, 14, 15, 16, 17, 18, 19, 20, 21, 22, 23], [], [25], [0, 1, 2, 3, 4, 5, 7, 8, 9, 10, 12, 13, 14, 15, 17, 18, 19, 20, 21, 22, 23, 25, 26], [0, 1, 2, 3, 4, 5, 6, 7, 8, 9, 10, 11, 12, 13, 14, 15, 16, 17, 18, 19, 20, 21, 22, 23, 24, 25, 26, 27], [], [29], [0, 1, 2, 3, 4, 5, 7, 8, 9, 10, 12, 13, 14, 15, 17, 18, 19, 20, 21, 22, 23, 25, 26, 27, 29, 30], [0, 1, 2, 3, 4, 5, 6, 7, 8, 9, 10, 11, 12, 13, 14, 15, 16, 17, 18, 19, 20, 21, 22, 23, 24, 25, 26, 27, 28, 29, 30, 31], [0, 1, 2, 3, 4, 5, 6, 7, 8, 9, 10, 11, 12, 13, 14, 15, 16, 17, 18, 19, 20, 21, 22, 23, 24, 25, 26, 27, 28, 29, 30, 31, 32]], [0, 1, 3, 4, 7, 8, 9, 12, 13, 14, 17, 18, 19, 20, 21, 22, 25, 26, 29, 30], [(2, []), (5, [6]), (10, [11]), (15, [16]), (23, [24]), (27, [28]), (31, [32, 33])]⟩ hS rfl rfl (by kernel_rfl) (by kernel_rfl) ?_
  refine d_start ?_
  refine l_op rfl rfl (a_fa (by simp only [Zu, Nat.reduceEqDiff, ↓reduceIte, fa57_0, Nat.zero_add, newPtr, Segh.cells, e6] <;> rfl)) rfl ?_ rfl
  refine l_op rfl rfl (a_load (by simp only [Zu, Nat.reduceEqDiff, ↓reduceIte, newPtr, Segh.cells] <;> rfl) (by simp (disch := first | (refine Zx ?_; simp only [Zn]; done) | ((try simp only [Zn]); omega)) only [Zg, newPtr, Segh.cells] <;> rfl) (by simp only [ld3, Zl, newPtr, Segh.cells] <;> rfl)) rfl ?_ rfl
  refine l_op rfl rfl (a_fa (by simp only [Zu, Nat.reduceEqDiff, ↓reduceIte, fa57_1, Nat.zero_add, newPtr, Segh.cells, e6] <;> rfl)) rfl ?_ rfl
  refine l_op rfl rfl (a_load (by simp only [Zu, Nat.reduceEqDiff, ↓reduceIte, newPtr, Segh.cells] <;> rfl) (by simp (disch := first | (refine Zx ?_; simp only [Zn]; done) | ((try simp only [Zn]); omega)) only [Zg, newPtr, Segh.cells] <;> rfl) (by simp only [ld3, Zl, newPtr, Segh.cells] <;> rfl)) rfl ?_ rfl
  refine l_op rfl rfl (a_fa (by simp only [Zu, Nat.reduceEqDiff, ↓reduceIte, fa57_2, Nat.zero_add, newPtr, Segh.cells, e6] <;> rfl)) rfl ?_ rfl
  refine l_op rfl rfl (a_load (by simp only [Zu, Nat.reduceEqDiff, ↓reduceIte, newPtr, Segh.cells] <;> rfl) (by simp (disch := first | (refine Zx ?_; simp only [Zn]; done) | ((try simp only [Zn]); omega)) only [Zg, newPtr, Segh.cells] <;> rfl) (by simp only [ld23, Zl, newPtr, Segh.cells] <;> rfl)) rfl ?_ rfl
  refine l_op rfl rfl (a_convi (by simp only [Zu, Nat.reduceEqDiff, ↓reduceIte, newPtr, Segh.cells] <;> rfl) rfl rfl (by simp (disch := omega) only [wrap_i64]; try rfl)) rfl ?_ rfl
  refine l_op rfl rfl (a_fa (by simp only [Zu, Nat.reduceEqDiff, ↓reduceIte, fa57_3, Nat.zero_add, newPtr, Segh.cells, e6] <;> rfl)) rfl ?_ rfl
  refine l_op rfl rfl (a_load (by simp only [Zu, Nat.reduceEqDiff, ↓reduceIte, newPtr, Segh.cells] <;> rfl) (by simp (disch := first | (refine Zx ?_; simp only [Zn]; done) | ((try simp only [Zn]); omega)) only [Zg, newPtr, Segh.cells] <;> rfl) (by simp only [ld23, Zl, newPtr, Segh.cells] <;> rfl)) rfl ?_ rfl
  refine l_op rfl rfl (a_convi (by simp only [Zu, Nat.reduceEqDiff, ↓reduceIte, newPtr, Segh.cells] <;> rfl) rfl rfl (by simp (disch := omega) only [wrap_i64]; try rfl)) rfl ?_ rfl
  refine l_op rfl rfl (a_fa (by simp only [Zu, Nat.reduceEqDiff, ↓reduceIte, fa57_6, Nat.zero_add, newPtr, Segh.cells, e6] <;> rfl)) rfl ?_ rfl
  refine l_op rfl rfl (a_load (by simp only [Zu, Nat.reduceEqDiff, ↓reduceIte, newPtr, Segh.cells] <;> rfl) (by simp (disch := first | (refine Zx ?_; simp only [Zn]; done) | ((try simp only [Zn]); omega)) only [Zg, newPtr, Segh.cells] <;> rfl) (by simp only [ld9, Zl, newPtr, Segh.cells] <;> rfl)) rfl ?_ rfl
  refine l_op rfl rfl (a_len (by simp (disch := omega) only [Zu, Nat.reduceEqDiff, ↓reduceIte, alen_str, newPtr, Segh.cells, hlenS] <;> rfl)) rfl ?_ rfl
  refine l_op rfl rfl (a_bin (by simp (disch := ((try simp only [List.length_append, List.length_cons, List.length_nil]); omega)) only [Zu, Nat.reduceEqDiff, ↓reduceIte, Zd, reduceCtorEq, abin_add, abin_aadd, wrap_i64, wrap_u32, wrap_u8, wrap_u64, wrap_i32, wrap_u16, ne_eq, not_false_eq_true, Segh.cells] <;> rfl)) rfl ?_ rfl
  refine l_op rfl rfl (a_bin (by simp (disch := omega) only [Zu, Nat.reduceEqDiff, ↓reduceIte, Zd, reduceCtorEq, abin_quo, wrap_i64, wrap_u32, wrap_u8, wrap_u64, wrap_i32, wrap_u16, Int.tdiv_eq_ediv_of_nonneg, ne_eq, not_false_eq_true, Segh.cells] <;> rfl)) rfl ?_ rfl
  refine l_op rfl rfl (a_bin (by simp (disch := omega) only [Zu, Nat.reduceEqDiff, ↓reduceIte, Zd, reduceCtorEq, abin_mul, wrap_i64, wrap_u32, wrap_u8, wrap_u64, wrap_i32, wrap_u16, ne_eq, not_false_eq_true, Segh.cells] <;> rfl)) rfl ?_ rfl
  refine l_op rfl rfl (a_fa (by simp only [Zu, Nat.reduceEqDiff, ↓reduceIte, fa57_4, Nat.zero_add, newPtr, Segh.cells, e6] <;> rfl)) rfl ?_ rfl
  refine l_op rfl rfl (a_load (by simp only [Zu, Nat.reduceEqDiff, ↓reduceIte, newPtr, Segh.cells] <;> rfl) (by simp (disch := first | (refine Zx ?_; simp only [Zn]; done) | ((try simp only [Zn]); omega)) only [Zg, newPtr, Segh.cells] <;> rfl) (by simp only [ld3, Zl, newPtr, Segh.cells] <;> rfl)) rfl ?_ rfl
  refine l_op rfl rfl (a_fa (by simp only [Zu, Nat.reduceEqDiff, ↓reduceIte, fa57_5, Nat.zero_add, newPtr, Segh.cells, e6] <;> rfl)) rfl ?_ rfl
  refine l_op rfl rfl (a_load (by simp only [Zu, Nat.reduceEqDiff, ↓reduceIte, newPtr, Segh.cells] <;> rfl) (by simp (disch := first | (refine Zx ?_; simp only [Zn]; done) | ((try simp only [Zn]); omega)) only [Zg, newPtr, Segh.cells] <;> rfl) (by simp only [ld3, Zl, newPtr, Segh.cells] <;> rfl)) rfl ?_ rfl
  refine l_nil ?_
  refine h_op ?_ rfl rfl rfl ?_
  · refine again_l rfl rfl (a_load (by simp only [Zu, Nat.reduceEqDiff, ↓reduceIte, newPtr, Segh.cells] <;> rfl) (by simp (disch := first | (refine Zx ?_; simp only [Zn]; done) | ((try simp only [Zn]); omega)) only [Zg, newPtr, Segh.cells] <;> rfl) (by simp only [ld3, Zl, newPtr, Segh.cells] <;> rfl)) ?_
    refine again_r rfl ?_
    refine again_l rfl rfl (a_load (by simp only [Zu, Nat.reduceEqDiff, ↓reduceIte, newPtr, Segh.cells] <;> rfl) (by simp (disch := first | (refine Zx ?_; simp only [Zn]; done) | ((try simp only [Zn]); omega)) only [Zg, newPtr, Segh.cells] <;> rfl) (by simp only [ld3, Zl, newPtr, Segh.cells] <;> rfl)) ?_
    refine again_r rfl ?_
    refine again_r rfl ?_
    refine again_r rfl ?_
    refine again_r rfl ?_
    refine again_l rfl rfl (a_len (by simp (disch := omega) only [Zu, Nat.reduceEqDiff, ↓reduceIte, alen_str, newPtr, Segh.cells, hlenS] <;> rfl)) ?_
    refine again_l rfl rfl (a_load (by simp only [Zu, Nat.reduceEqDiff, ↓reduceIte, newPtr, Segh.cells] <;> rfl) (by simp (disch := first | (refine Zx ?_; simp only [Zn]; done) | ((try simp only [Zn]); omega)) only [Zg, newPtr, Segh.cells] <;> rfl) (by simp only [ld9, Zl, newPtr, Segh.cells] <;> rfl)) ?_
    refine again_r rfl ?_
    refine again_l rfl rfl (a_convi (by simp only [Zu, Nat.reduceEqDiff, ↓reduceIte, newPtr, Segh.cells] <;> rfl) rfl rfl (by simp (disch := omega) only [wrap_i64]; try rfl)) ?_
    refine again_l rfl rfl (a_load (by simp only [Zu, Nat.reduceEqDiff, ↓reduceIte, newPtr, Segh.cells] <;> rfl) (by simp (disch := first | (refine Zx ?_; simp only [Zn]; done) | ((try simp only [Zn]); omega)) only [Zg, newPtr, Segh.cells] <;> rfl) (by simp only [ld23, Zl, newPtr, Segh.cells] <;> rfl)) ?_
    refine again_r rfl ?_
    refine again_l rfl rfl (a_convi (by simp only [Zu, Nat.reduceEqDiff, ↓reduceIte, newPtr, Segh.cells] <;> rfl) rfl rfl (by simp (disch := omega) only [wrap_i64]; try rfl)) ?_
    refine again_l rfl rfl (a_load (by simp only [Zu, Nat.reduceEqDiff, ↓reduceIte, newPtr, Segh.cells] <;> rfl) (by simp (disch := first | (refine Zx ?_; simp only [Zn]; done) | ((try simp only [Zn]); omega)) only [Zg, newPtr, Segh.cells] <;> rfl) (by simp only [ld23, Zl, newPtr, Segh.cells] <;> rfl)) ?_
    refine again_r rfl ?_
    refine again_l rfl rfl (a_load (by simp only [Zu, Nat.reduceEqDiff, ↓reduceIte, newPtr, Segh.cells] <;> rfl) (by simp (disch := first | (refine Zx ?_; simp only [Zn]; done) | ((try simp only [Zn]); omega)) only [Zg, newPtr, Segh.cells] <;> rfl) (by simp only [ld3, Zl, newPtr, Segh.cells] <;> rfl)) ?_
    refine again_r rfl ?_
    refine again_l rfl rfl (a_load (by simp only [Zu, Nat.reduceEqDiff, ↓reduceIte, newPtr, Segh.cells] <;> rfl) (by simp (disch := first | (refine Zx ?_; simp only [Zn]; done) | ((try simp only [Zn]); omega)) only [Zg, newPtr, Segh.cells] <;> rfl) (by simp only [ld3, Zl, newPtr, Segh.cells] <;> rfl)) ?_
    refine again_r rfl ?_
    exact again_nil
  refine s_call (by simp only [Zu, Nat.reduceEqDiff, ↓reduceIte, newPtr, Segh.cells, hlenS] <;> rfl) (by simp only [Zu, Nat.reduceEqDiff, ↓reduceIte, Zm, newPtr, Segh.cells, hlenS] <;> rfl) ?_
  rw [S37_52]; refine ⟨_, 2, rfl, ⟨⟨by omega, by omega⟩, by omega, by omega⟩, ?_⟩; rw [two_nat, hx1]
  show EA _ _ _ _ _ _
  refine s_end (fun s' hs' => ?_); subst hs'
  refine l_nil ?_
  refine h_op ?_ rfl rfl rfl ?_
  · refine again_l rfl rfl (a_load (by simp only [Zu, Nat.reduceEqDiff, ↓reduceIte, newPtr, Segh.cells] <;> rfl) (by simp (disch := first | (refine Zx ?_; simp only [Zn]; done) | ((try simp only [Zn]); omega)) only [Zg, newPtr, Segh.cells] <;> rfl) (by simp only [ld3, Zl, newPtr, Segh.cells] <;> rfl)) ?_
    refine again_r rfl ?_
    refine again_l rfl rfl (a_load (by simp only [Zu, Nat.reduceEqDiff, ↓reduceIte, newPtr, Segh.cells] <;> rfl) (by simp (disch := first | (refine Zx ?_; simp only [Zn]; done) | ((try simp only [Zn]); omega)) only [Zg, newPtr, Segh.cells] <;> rfl) (by simp only [ld3, Zl, newPtr, Segh.cells] <;> rfl)) ?_
    refine again_r rfl ?_
    refine again_r rfl ?_
    refine again_r rfl ?_
    refine again_r rfl ?_
    refine again_l rfl rfl (a_len (by simp (disch := omega) only [Zu, Nat.reduceEqDiff, ↓reduceIte, alen_str, newPtr, Segh.cells, hlenS] <;> rfl)) ?_
    refine again_l rfl rfl (a_load (by simp only [Zu, Nat.reduceEqDiff, ↓reduceIte, newPtr, Segh.cells] <;> rfl) (by simp (disch := first | (refine Zx ?_; simp only [Zn]; done) | ((try simp only [Zn]); omega)) only [Zg, newPtr, Segh.cells] <;> rfl) (by simp only [ld9, Zl, newPtr, Segh.cells] <;> rfl)) ?_
    refine again_r rfl ?_
    refine again_l rfl rfl (a_convi (by simp only [Zu, Nat.reduceEqDiff, ↓reduceIte, newPtr, Segh.cells] <;> rfl) rfl rfl (by simp (disch := omega) only [wrap_i64]; try rfl)) ?_
    refine again_l rfl rfl (a_load (by simp only [Zu, Nat.reduceEqDiff, ↓reduceIte, newPtr, Segh.cells] <;> rfl) (by simp (disch := first | (refine Zx ?_; simp only [Zn]; done) | ((try simp only [Zn]); omega)) only [Zg, newPtr, Segh.cells] <;> rfl) (by simp only [ld23, Zl, newPtr, Segh.cells] <;> rfl)) ?_
    refine again_r rfl ?_
    refine again_l rfl rfl (a_convi (by simp only [Zu, Nat.reduceEqDiff, ↓reduceIte, newPtr, Segh.cells] <;> rfl) rfl rfl (by simp (disch := omega) only [wrap_i64]; try rfl)) ?_
    refine again_l rfl rfl (a_load (by simp only [Zu, Nat.reduceEqDiff, ↓reduceIte, newPtr, Segh.cells] <;> rfl) (by simp (disch := first | (refine Zx ?_; simp only [Zn]; done) | ((try simp only [Zn]); omega)) only [Zg, newPtr, Segh.cells] <;> rfl) (by simp only [ld23, Zl, newPtr, Segh.cells] <;> rfl)) ?_
    refine again_r rfl ?_
    refine again_l rfl rfl (a_load (by simp only [Zu, Nat.reduceEqDiff, ↓reduceIte, newPtr, Segh.cells] <;> rfl) (by simp (disch := first | (refine Zx ?_; simp only [Zn]; done) | ((try simp only [Zn]); omega)) only [Zg, newPtr, Segh.cells] <;> rfl) (by simp only [ld3, Zl, newPtr, Segh.cells] <;> rfl)) ?_
    refine again_r rfl ?_
    exact again_nil
  refine s_call (by simp only [Zu, Nat.reduceEqDiff, ↓reduceIte, newPtr, Segh.cells, hlenS] <;> rfl) (by simp only [Zu, Nat.reduceEqDiff, ↓reduceIte, Zm, newPtr, Segh.cells, hlenS] <;> rfl) ?_
  rw [S37_52]; refine ⟨_, 2, rfl, ⟨⟨by omega, by omega⟩, by omega, by omega⟩, ?_⟩; rw [two_nat, hx2]
  show EA _ _ _ _ _ _
  refine s_end (fun s' hs' => ?_); subst hs'
  refine l_op rfl rfl (a_bin (by simp (disch := ((try simp only [List.length_append, List.length_cons, List.length_nil]); omega)) only [Zu, Nat.reduceEqDiff, ↓reduceIte, Zd, reduceCtorEq, abin_add, abin_aadd, wrap_i64, wrap_u32, wrap_u8, wrap_u64, wrap_i32, wrap_u16, ne_eq, not_false_eq_true, Segh.cells] <;> rfl)) rfl ?_ rfl
  refine l_nil ?_
  refine h_op ?_ rfl rfl rfl ?_
  · refine again_r rfl ?_
    refine again_l rfl rfl (a_load (by simp only [Zu, Nat.reduceEqDiff, ↓reduceIte, newPtr, Segh.cells] <;> rfl) (by simp (disch := first | (refine Zx ?_; simp only [Zn]; done) | ((try simp only [Zn]); omega)) only [Zg, newPtr, Segh.cells] <;> rfl) (by simp only [ld3, Zl, newPtr, Segh.cells] <;> rfl)) ?_
    refine again_r rfl ?_
    refine again_l rfl rfl (a_load (by simp only [Zu, Nat.reduceEqDiff, ↓reduceIte, newPtr, Segh.cells] <;> rfl) (by simp (disch := first | (refine Zx ?_; simp only [Zn]; done) | ((try simp only [Zn]); omega)) only [Zg, newPtr, Segh.cells] <;> rfl) (by simp only [ld3, Zl, newPtr, Segh.cells] <;> rfl)) ?_
    refine again_r rfl ?_
    refine again_r rfl ?_
    refine again_r rfl ?_
    refine again_r rfl ?_
    refine again_l rfl rfl (a_len (by simp (disch := omega) only [Zu, Nat.reduceEqDiff, ↓reduceIte, alen_str, newPtr, Segh.cells, hlenS] <;> rfl)) ?_
    refine again_l rfl rfl (a_load (by simp only [Zu, Nat.reduceEqDiff, ↓reduceIte, newPtr, Segh.cells] <;> rfl) (by simp (disch := first | (refine Zx ?_; simp only [Zn]; done) | ((try simp only [Zn]); omega)) only [Zg, newPtr, Segh.cells] <;> rfl) (by simp only [ld9, Zl, newPtr, Segh.cells] <;> rfl)) ?_
    refine again_r rfl ?_
    refine again_l rfl rfl (a_convi (by simp only [Zu, Nat.reduceEqDiff, ↓reduceIte, newPtr, Segh.cells] <;> rfl) rfl rfl (by simp (disch := omega) only [wrap_i64]; try rfl)) ?_
    refine again_l rfl rfl (a_load (by simp only [Zu, Nat.reduceEqDiff, ↓reduceIte, newPtr, Segh.cells] <;> rfl) (by simp (disch := first | (refine Zx ?_; simp only [Zn]; done) | ((try simp only [Zn]); omega)) only [Zg, newPtr, Segh.cells] <;> rfl) (by simp only [ld23, Zl, newPtr, Segh.cells] <;> rfl)) ?_
    refine again_r rfl ?_
    refine again_l rfl rfl (a_convi (by simp only [Zu, Nat.reduceEqDiff, ↓reduceIte, newPtr, Segh.cells] <;> rfl) rfl rfl (by simp (disch := omega) only [wrap_i64]; try rfl)) ?_
    refine again_l rfl rfl (a_load (by simp only [Zu, Nat.reduceEqDiff, ↓reduceIte, newPtr, Segh.cells] <;> rfl) (by simp (disch := first | (refine Zx ?_; simp only [Zn]; done) | ((try simp only [Zn]); omega)) only [Zg, newPtr, Segh.cells] <;> rfl) (by simp only [ld23, Zl, newPtr, Segh.cells] <;> rfl)) ?_
    refine again_r rfl ?_
    exact again_nil
  refine s_call (by simp only [Zu, Nat.reduceEqDiff, ↓reduceIte, newPtr, Segh.cells, hlenS] <;> rfl) (by simp only [Zu, Nat.reduceEqDiff, ↓reduceIte, Zm, newPtr, Segh.cells, hlenS] <;> rfl) ?_
  rw [S37_52]; refine ⟨_, 4, rfl, ⟨⟨by omega, by omega⟩, by omega, by omega⟩, ?_⟩; rw [four_nat, hx3]
  show EA _ _ _ _ _ _
  refine s_end (fun s' hs' => ?_); subst hs'
  refine l_op rfl rfl (a_bin (by simp (disch := ((try simp only [List.length_append, List.length_cons, List.length_nil]); omega)) only [Zu, Nat.reduceEqDiff, ↓reduceIte, Zd, reduceCtorEq, abin_add, abin_aadd, wrap_i64, wrap_u32, wrap_u8, wrap_u64, wrap_i32, wrap_u16, ne_eq, not_false_eq_true, Segh.cells] <;> rfl)) rfl ?_ rfl
  refine l_nil ?_
  refine h_op ?_ rfl rfl rfl ?_
  · refine again_r rfl ?_
    refine again_r rfl ?_
    refine again_l rfl rfl (a_load (by simp only [Zu, Nat.reduceEqDiff, ↓reduceIte, newPtr, Segh.cells] <;> rfl) (by simp (disch := first | (refine Zx ?_; simp only [Zn]; done) | ((try simp only [Zn]); omega)) only [Zg, newPtr, Segh.cells] <;> rfl) (by simp only [ld3, Zl, newPtr, Segh.cells] <;> rfl)) ?_
    refine again_r rfl ?_
    refine again_l rfl rfl (a_load (by simp only [Zu, Nat.reduceEqDiff, ↓reduceIte, newPtr, Segh.cells] <;> rfl) (by simp (disch := first | (refine Zx ?_; simp only [Zn]; done) | ((try simp only [Zn]); omega)) only [Zg, newPtr, Segh.cells] <;> rfl) (by simp only [ld3, Zl, newPtr, Segh.cells] <;> rfl)) ?_
    refine again_r rfl ?_
    refine again_r rfl ?_
    refine again_r rfl ?_
    refine again_r rfl ?_
    refine again_l rfl rfl (a_len (by simp (disch := omega) only [Zu, Nat.reduceEqDiff, ↓reduceIte, alen_str, newPtr, Segh.cells, hlenS] <;> rfl)) ?_
    refine again_l rfl rfl (a_load (by simp only [Zu, Nat.reduceEqDiff, ↓reduceIte, newPtr, Segh.cells] <;> rfl) (by simp (disch := first | (refine Zx ?_; simp only [Zn]; done) | ((try simp only [Zn]); omega)) only [Zg, newPtr, Segh.cells] <;> rfl) (by simp only [ld9, Zl, newPtr, Segh.cells] <;> rfl)) ?_
    refine again_r rfl ?_
    refine again_l rfl rfl (a_convi (by simp only [Zu, Nat.reduceEqDiff, ↓reduceIte, newPtr, Segh.cells] <;> rfl) rfl rfl (by simp (disch := omega) only [wrap_i64]; try rfl)) ?_
    refine again_l rfl rfl (a_load (by simp only [Zu, Nat.reduceEqDiff, ↓reduceIte, newPtr, Segh.cells] <;> rfl) (by simp (disch := first | (refine Zx ?_; simp only [Zn]; done) | ((try simp only [Zn]); omega)) only [Zg, newPtr, Segh.cells] <;> rfl) (by simp only [ld23, Zl, newPtr, Segh.cells] <;> rfl)) ?_
    refine again_r rfl ?_
    exact again_nil
  refine s_call (by simp only [Zu, Nat.reduceEqDiff, ↓reduceIte, newPtr, Segh.cells, hlenS] <;> rfl) (by simp only [Zu, Nat.reduceEqDiff, ↓reduceIte, Zm, newPtr, Segh.cells, hlenS] <;> rfl) ?_
  rw [S37_52]; refine ⟨_, 4, rfl, ⟨⟨by omega, by omega⟩, by omega, by omega⟩, ?_⟩; rw [four_nat, hx4]
  show EA _ _ _ _ _ _
  refine s_end (fun s' hs' => ?_); subst hs'
  refine l_op rfl rfl (a_bin (by simp (disch := ((try simp only [List.length_append, List.length_cons, List.length_nil]); omega)) only [Zu, Nat.reduceEqDiff, ↓reduceIte, Zd, reduceCtorEq, abin_add, abin_aadd, wrap_i64, wrap_u32, wrap_u8, wrap_u64, wrap_i32, wrap_u16, ne_eq, not_false_eq_true, Segh.cells] <;> rfl)) rfl ?_ rfl
  refine l_nil ?_
  refine h_op ?_ rfl rfl rfl ?_
  · refine again_r rfl ?_
    refine again_r rfl ?_
    refine again_r rfl ?_
    refine again_l rfl rfl (a_load (by simp only [Zu, Nat.reduceEqDiff, ↓reduceIte, newPtr, Segh.cells] <;> rfl) (by simp (disch := first | (refine Zx ?_; simp only [Zn]; done) | ((try simp only [Zn]); omega)) only [Zg, newPtr, Segh.cells] <;> rfl) (by simp only [ld3, Zl, newPtr, Segh.cells] <;> rfl)) ?_
    refine again_r rfl ?_
    refine again_l rfl rfl (a_load (by simp only [Zu, Nat.reduceEqDiff, ↓reduceIte, newPtr, Segh.cells] <;> rfl) (by simp (disch := first | (refine Zx ?_; simp only [Zn]; done) | ((try simp only [Zn]); omega)) only [Zg, newPtr, Segh.cells] <;> rfl) (by simp only [ld3, Zl, newPtr, Segh.cells] <;> rfl)) ?_
    refine again_r rfl ?_
    refine again_r rfl ?_
    refine again_r rfl ?_
    refine again_r rfl ?_
    refine again_l rfl rfl (a_len (by simp (disch := omega) only [Zu, Nat.reduceEqDiff, ↓reduceIte, alen_str, newPtr, Segh.cells, hlenS] <;> rfl)) ?_
    refine again_l rfl rfl (a_load (by simp only [Zu, Nat.reduceEqDiff, ↓reduceIte, newPtr, Segh.cells] <;> rfl) (by simp (disch := first | (refine Zx ?_; simp only [Zn]; done) | ((try simp only [Zn]); omega)) only [Zg, newPtr, Segh.cells] <;> rfl) (by simp only [ld9, Zl, newPtr, Segh.cells] <;> rfl)) ?_
    refine again_r rfl ?_
    exact again_nil
  refine s_call (by simp only [Zu, Nat.reduceEqDiff, ↓reduceIte, newPtr, Segh.cells, hlenS] <;> rfl) (by simp only [Zu, Nat.reduceEqDiff, ↓reduceIte, Zm, newPtr, Segh.cells, hlenS] <;> rfl) ?_
  rw [S37_52]; refine ⟨_, 1, rfl, ⟨⟨by omega, by omega⟩, by omega, by omega⟩, ?_⟩; rw [one_nat, hx5]
  show EA _ _ _ _ _ _
  refine s_end (fun s' hs' => ?_); subst hs'
  refine l_op rfl rfl (a_bin (by simp (disch := ((try simp only [List.length_append, List.length_cons, List.length_nil]); omega)) only [Zu, Nat.reduceEqDiff, ↓reduceIte, Zd, reduceCtorEq, abin_add, abin_aadd, wrap_i64, wrap_u32, wrap_u8, wrap_u64, wrap_i32, wrap_u16, ne_eq, not_false_eq_true, Segh.cells] <;> rfl)) rfl ?_ rfl
  refine l_nil ?_
  refine h_op ?_ rfl rfl rfl ?_
  · refine again_r rfl ?_
    refine again_r rfl ?_
    refine again_r rfl ?_
    refine again_r rfl ?_
    refine again_l rfl rfl (a_load (by simp only [Zu, Nat.reduceEqDiff, ↓reduceIte, newPtr, Segh.cells] <;> rfl) (by simp (disch := first | (refine Zx ?_; simp only [Zn]; done) | ((try simp only [Zn]); omega)) only [Zg, newPtr, Segh.cells] <;> rfl) (by simp only [ld3, Zl, newPtr, Segh.cells] <;> rfl)) ?_
    refine again_r rfl ?_
    refine again_l rfl rfl (a_load (by simp only [Zu, Nat.reduceEqDiff, ↓reduceIte, newPtr, Segh.cells] <;> rfl) (by simp (disch := first | (refine Zx ?_; simp only [Zn]; done) | ((try simp only [Zn]); omega)) only [Zg, newPtr, Segh.cells] <;> rfl) (by simp only [ld3, Zl, newPtr, Segh.cells] <;> rfl)) ?_
    refine again_r rfl ?_
    exact again_nil
  refine s_call (by simp only [Zu, Nat.reduceEqDiff, ↓reduceIte, newPtr, Segh.cells, hlenS] <;> rfl) (by simp only [Zu, Nat.reduceEqDiff, ↓reduceIte, Zm, newPtr, Segh.cells, hlenS] <;> rfl) ?_
  rw [S37_52]; refine ⟨_, 1, rfl, ⟨⟨by omega, by omega⟩, by omega, by omega⟩, ?_⟩; rw [one_nat, hx6]
  show EA _ _ _ _ _ _
  refine s_end (fun s' hs' => ?_); subst hs'
  refine l_op rfl rfl (a_bin (by simp (disch := ((try simp only [List.length_append, List.length_cons, List.length_nil]); omega)) only [Zu, Nat.reduceEqDiff, ↓reduceIte, Zd, reduceCtorEq, abin_add, abin_aadd, wrap_i64, wrap_u32, wrap_u8, wrap_u64, wrap_i32, wrap_u16, ne_eq, not_false_eq_true, Segh.cells] <;> rfl)) rfl ?_ rfl
  refine l_nil ?_
  refine h_op ?_ rfl rfl rfl ?_
  · refine again_r rfl ?_
    refine again_r rfl ?_
    refine again_r rfl ?_
    refine again_r rfl ?_
    refine again_r rfl ?_
    refine again_l rfl rfl (a_load (by simp only [Zu, Nat.reduceEqDiff, ↓reduceIte, newPtr, Segh.cells] <;> rfl) (by simp (disch := first | (refine Zx ?_; simp only [Zn]; done) | ((try simp only [Zn]); omega)) only [Zg, newPtr, Segh.cells] <;> rfl) (by simp only [ld3, Zl, newPtr, Segh.cells] <;> rfl)) ?_
    refine again_r rfl ?_
    exact again_nil
  refine s_call (by simp only [Zu, Nat.reduceEqDiff, ↓reduceIte, newPtr, Segh.cells, hlenS] <;> rfl) (by simp only [Zu, Nat.reduceEqDiff, ↓reduceIte, Zm, newPtr, Segh.cells, hlenS] <;> rfl) ?_
  rw [S37_52]; refine ⟨_, 2, rfl, ⟨⟨by omega, by omega⟩, by omega, by omega⟩, ?_⟩; rw [two_nat, hx7]
  show EA _ _ _ _ _ _
  refine s_end (fun s' hs' => ?_); subst hs'
  refine l_op rfl rfl (a_bin (by simp (disch := ((try simp only [List.length_append, List.length_cons, List.length_nil]); omega)) only [Zu, Nat.reduceEqDiff, ↓reduceIte, Zd, reduceCtorEq, abin_add, abin_aadd, wrap_i64, wrap_u32, wrap_u8, wrap_u64, wrap_i32, wrap_u16, ne_eq, not_false_eq_true, Segh.cells] <;> rfl)) rfl ?_ rfl
  refine l_op rfl rfl (a_as (by simp only [Zu, Nat.reduceEqDiff, ↓reduceIte] <;> rfl)) rfl ?_ rfl
  refine l_nil ?_
  refine h_end ?_ (fun s' hs' => ?_)
  · refine again_r rfl ?_
    refine again_r rfl ?_
    refine again_r rfl ?_
    refine again_r rfl ?_
    refine again_r rfl ?_
    refine again_r rfl ?_
    refine again_r rfl ?_
    exact again_nil
  replace e0 := kp 0 hs' e0
  replace e1 := kp 1 hs' e1
  replace e3 := kp 3 hs' e3
  replace e6 := kp 6 hs' e6
  have e10 := congrFun hs' 10
  simp only [Zu, Nat.reduceEqDiff, ↓reduceIte, newPtr, AMem.next_alloc] at e10
  clear hs'
  refine o_norm ?_
  refine t_norm ?_
  repeat refine at_seq rfl ?_
  generalize hxa : x1 ++ x2 ++ x3 ++ x4 ++ x5 ++ x6 ++ x7 = xa at *
  have la : xa.length = 16 := by rw [← hxa]; simp [l1, l2, l3, l4, l5, l6, l7]
  refine at_region hS rfl (by kernel_rfl) ?_
  refine s_op (a_fa (by simp only [Zu, Nat.reduceEqDiff, ↓reduceIte, fa57_6, Nat.zero_add, newPtr, Segh.cells, str00, e6] <;> rfl)) rfl ?_
  refine s_op (a_load (by simp only [Zu, Nat.reduceEqDiff, ↓reduceIte, newPtr, Segh.cells, str00] <;> rfl) (by simp (disch := first | (refine Zx ?_; simp only [Zn]; done) | ((try simp only [Zn]); omega)) only [Zg, newPtr, Segh.cells, str00] <;> rfl) (by simp only [ld9, Zl, newPtr, Segh.cells, str00] <;> rfl)) rfl ?_
  refine s_op (a_bin (by simp (disch := ((try simp only [List.length_append, List.length_cons, List.length_nil]); omega)) only [Zu, Nat.reduceEqDiff, ↓reduceIte, Zd, reduceCtorEq, abin_add, abin_aadd, wrap_i64, wrap_u32, wrap_u8, wrap_u64, wrap_i32, wrap_u16, ne_eq, not_false_eq_true, Segh.cells, str00] <;> rfl)) rfl ?_
  refine s_op (a_mv e3) rfl ?_
  refine s_op (a_bin (by simp (disch := ((try simp only [List.length_append, List.length_cons, List.length_nil]); omega)) only [Zu, Nat.reduceEqDiff, ↓reduceIte, Zd, reduceCtorEq, abin_add, abin_aadd, wrap_i64, wrap_u32, wrap_u8, wrap_u64, wrap_i32, wrap_u16, ne_eq, not_false_eq_true, Segh.cells, str00] <;> rfl)) rfl ?_
  refine s_as ?_
  refine s_end (fun s' hs' => ?_)
  replace e0 := kp 0 hs' e0
  replace e1 := kp 1 hs' e1
  replace e10 := kp 10 hs' e10
  have e11 := congrFun hs' 11
  simp only [Zu, Nat.reduceEqDiff, ↓reduceIte, newPtr, AMem.next_alloc] at e11
  clear hs'
  try clear e3 e6
  refine o_norm ?_
  refine t_norm ?_
  repeat refine at_seq rfl ?_
  generalize hxb : [0, 0] ++ h.opts ++ body = xb at *
  have lb : xb.length ≤ 1982 := by rw [← hxb]; simp; omega
  obtain ⟨u1, u2⟩ := ocF_bound (pseudoF src dst 6 (xa ++ [0, 0] ++ xb).length ++ (xa ++ [0, 0] ++ xb))
  have lc := bigF_length (ocF (pseudoF src dst 6 (xa ++ [0, 0] ++ xb).length ++ (xa ++ [0, 0] ++ xb))) 2
  generalize hxc : bigF (ocF (pseudoF src dst 6 (xa ++ [0, 0] ++ xb).length ++ (xa ++ [0, 0] ++ xb))) 2 = xc at *
  refine at_region hS rfl (by kernel_rfl) ?_
  refine s_op (a_mv e10) rfl ?_
  refine s_op (a_mv e0) rfl ?_
  refine s_op (a_mv e1) rfl ?_
  refine s_op (a_mv e10) rfl ?_
  refine s_op (a_bin (by simp (disch := ((try simp only [List.length_append, List.length_cons, List.length_nil]); omega)) only [Zu, Nat.reduceEqDiff, ↓reduceIte, Zd, reduceCtorEq, abin_add, abin_aadd, wrap_i64, wrap_u32, wrap_u8, wrap_u64, wrap_i32, wrap_u16, ne_eq, not_false_eq_true, str00] <;> rfl)) rfl ?_
  refine s_op (a_mv e11) rfl ?_
  refine s_op (a_bin (by simp (disch := ((try simp only [List.length_append, List.length_cons, List.length_nil]); omega)) only [Zu, Nat.reduceEqDiff, ↓reduceIte, Zd, reduceCtorEq, abin_add, abin_aadd, wrap_i64, wrap_u32, wrap_u8, wrap_u64, wrap_i32, wrap_u16, ne_eq, not_false_eq_true, str00] <;> rfl)) rfl ?_
  refine s_call (by simp only [Zu, Nat.reduceEqDiff, ↓reduceIte, str00] <;> rfl) (by simp only [Zu, Nat.reduceEqDiff, ↓reduceIte, Zm, str00] <;> rfl) ?_
  rw [S37_53]; refine ⟨src, dst, 6, xa ++ [0, 0] ++ xb, rfl, ⟨r0, r1, r2, r3, by omega, by omega, by simp; omega⟩, ?_⟩
  show EA _ _ _ _ _ _
  refine s_call (by simp only [Zu, Nat.reduceEqDiff, ↓reduceIte, str00] <;> rfl) (by simp only [Zu, Nat.reduceEqDiff, ↓reduceIte, Zm, str00] <;> rfl) ?_
  rw [S37_52]; refine ⟨_, 2, rfl, ⟨⟨by omega, by omega⟩, by omega, by omega⟩, ?_⟩; rw [two_nat, hxc]
  show EA _ _ _ _ _ _
  refine s_op (a_bin (by simp (disch := ((try simp only [List.length_append, List.length_cons, List.length_nil]); omega)) only [Zu, Nat.reduceEqDiff, ↓reduceIte, Zd, reduceCtorEq, abin_add, abin_aadd, wrap_i64, wrap_u32, wrap_u8, wrap_u64, wrap_i32, wrap_u16, ne_eq, not_false_eq_true, str00] <;> rfl)) rfl ?_
  refine s_op (a_mv e11) rfl ?_
  refine s_op (a_bin (by simp (disch := ((try simp only [List.length_append, List.length_cons, List.length_nil]); omega)) only [Zu, Nat.reduceEqDiff, ↓reduceIte, Zd, reduceCtorEq, abin_add, abin_aadd, wrap_i64, wrap_u32, wrap_u8, wrap_u64, wrap_i32, wrap_u16, ne_eq, not_false_eq_true, str00] <;> rfl)) rfl ?_
  refine s_as ?_
  refine s_op (a_as (by simp only [ev_const] <;> rfl)) rfl ?_
  refine s_end (fun s' hs' => ?_)
  have e8 := congrFun hs' 8
  have e9 := congrFun hs' 9
  simp only [Zu, Nat.reduceEqDiff, ↓reduceIte] at e8 e9
  clear hs'
  try clear e0 e1 e10 e11
  refine o_norm ?_
  refine t_norm ?_
  refine at_ret rfl ?_
  refine bq_ret rfl (ars_cons (ar_tmp e8) (ars_cons (ar_tmp e9) ars_nil)) ?_
  exact ⟨_, _, hK, Canon.forget rfl (fun j hj => get_old (by omega))⟩
def sp38 : ASpec := fun args M K => ∃ (d s : List UInt8) (t : Int) (h : IPh) (body : List UInt8), args = [.agg (ethCells d s t).toArray, .agg h.cells.toArray, asString body] ∧ (d.length = 6 ∧ s.length = 6 ∧ inI64 t ∧ h.ok ∧ h.keep = false ∧ h.more = false ∧ body.length ≤ 2000) ∧
  K (.ret (asString (ethPutF d s t (ipPutF h body)))) M
noncomputable def S38 : FuncId → ASpec := tab [(54, sp54), (55, sp55)]
theorem S38_54 : S38 54 = sp54 := rfl
theorem S38_55 : S38 55 = sp55 := rfl
theorem S38_ok : ∀ f, Sound Try.prog f (S38 f) := tab_sound _ (by simp [f54_ok, f55_ok])
theorem ipPutF_length (h : IPh) (body : List UInt8) : (ipPutF h body).length = 20 + h.opts.length + body.length := by
  unfold ipPutF ipA ipB; simp [bigF_length]; omega
theorem f38_ok : Sound Try.prog 38 sp38 := by
  refine Sound.of_awp (c := bodyOf Try.f38) Try.func38 rfl rfl rfl ?_
  rintro args M K ⟨d, s, t, h, body, rfl, ⟨hd, hs, ht, hok, hkeep, hmore, hbody⟩, hK⟩
  refine ⟨Nat.le_of_ble_eq_true rfl, ?_⟩
  have hS := S38_ok
  have e0 : entry [.agg (ethCells d s t).toArray, .agg h.cells.toArray, asString body] 0 = .agg (ethCells d s t).toArray := rfl
  have e1 : entry [.agg (ethCells d s t).toArray, .agg h.cells.toArray, asString body] 1 = .agg h.cells.toArray := rfl
  have e2 : entry [.agg (ethCells d s t).toArray, .agg h.cells.toArray, asString body] 2 = asString body := rfl
  have hlip := ipPutF_length h body
  have hl61 := ld61 (ethCells_length (t := t) hd hs)
  have ho := hok.n1
  repeat refine at_seq rfl ?_
  refine at_region hS rfl (by kernel_rfl) ?_
  refine s_op (a_box (by simp only [Zu, Nat.reduceEqDiff, ↓reduceIte, Value.cells, e0] <;> rfl)) rfl ?_
  refine s_op (a_box (by simp only [Zu, Nat.reduceEqDiff, ↓reduceIte, Value.cells, e1] <;> rfl)) rfl ?_
  refine s_op (a_as (by simp only [ev_const] <;> rfl)) rfl ?_
  refine s_end (fun s' hs' => ?_)
  replace e2 := kp 2 hs' e2
  have e3 := congrFun hs' 3
  have e4 := congrFun hs' 4
  simp only [Zu, Nat.reduceEqDiff, ↓reduceIte, newPtr, AMem.next_alloc] at e3 e4
  clear hs'
  try clear e0 e1
  refine o_norm ?_
  refine t_norm ?_
  repeat refine at_seq rfl ?_
  generalize hxp : ipPutF h body = xp at *
  have hgB : ((M.alloc (.cells (ethCells d s t) true)).alloc (.cells h.cells true)).get (M.next + 1) = .cells h.cells true := get_new (M := M.alloc _)
  have hgA : ((M.alloc (.cells (ethCells d s t) true)).alloc (.cells h.cells true)).get M.next = .cells (ethCells d s t) true := by rw [get_old (by simp), get_new]
  refine at_region hS rfl (by kernel_rfl) ?_
  refine s_op (a_load e4 (by simp (disch := first | (refine Zx ?_; simp only [Zn]; done) | ((try simp only [Zn]); omega)) only [Zg, newPtr, ld64, hgA, hgB, e4] <;> rfl) (by simp only [newPtr, ld64, AMem.next_alloc, hgA, hgB, e4] <;> rfl)) rfl ?_
  refine s_op (a_mv e2) rfl ?_
  refine s_call (by simp only [Zu, Nat.reduceEqDiff, ↓reduceIte, newPtr, AMem.next_alloc, hgA, hgB] <;> rfl) (by simp only [Zu, Nat.reduceEqDiff, ↓reduceIte, Zm, newPtr, AMem.next_alloc, hgA, hgB] <;> rfl) ?_
  rw [S38_54]; refine ⟨h, body, rfl, ⟨hok, hkeep, hmore, hbody⟩, ?_⟩; rw [hxp]
  show EA _ _ _ _ _ _
  refine s_mv ?_
  refine s_op (a_ext (by simp only [Zu, Nat.reduceEqDiff, ↓reduceIte, newPtr, AMem.next_alloc, hgA, hgB] <;> rfl) (by first | exact ext4_0 | exact ext3_0 | exact ext2_0 | rfl)) rfl ?_
  refine s_op (a_ext (by simp only [Zu, Nat.reduceEqDiff, ↓reduceIte, newPtr, AMem.next_alloc, hgA, hgB] <;> rfl) (by first | exact ext4_1 | exact ext3_1 | exact ext2_1 | rfl)) rfl ?_
  refine s_as ?_
  refine s_as ?_
  refine s_end (fun s' hs' => ?_)
  replace e3 := kp 3 hs' e3
  have e7 := congrFun hs' 7
  have e8 := congrFun hs' 8
  simp only [Zu, Nat.reduceEqDiff, ↓reduceIte, newPtr, AMem.next_alloc] at e7 e8
  clear hs'
  try clear e2 e4
  refine o_norm ?_
  refine t_norm ?_
  repeat refine at_seq rfl ?_
  refine at_region hS rfl (by kernel_rfl) ?_
  refine s_op (a_mv e8) rfl ?_
  refine s_op (a_bin (by simp (disch := omega) only [Zu, Nat.reduceEqDiff, ↓reduceIte, Zd, reduceCtorEq, abin_neq, abin_aneq, ne_eq, not_false_eq_true] <;> rfl)) rfl ?_
  refine s_end (fun s' hs' => ?_)
  replace e3 := kp 3 hs' e3
  replace e7 := kp 7 hs' e7
  have e16 := congrFun hs' 16
  simp only [Zu, Nat.reduceEqDiff, ↓reduceIte] at e16
  clear hs'
  try clear e8
  refine o_norm ?_
  refine t_norm ?_
  refine at_cond rfl rfl e16 (fun hc => by simp at hc) (fun hc => ?_)
  refine at_skip rfl ?_
  refine t_norm ?_
  repeat refine at_seq rfl ?_
  refine at_region hS rfl (by kernel_rfl) ?_
  refine s_op (a_load e3 (by simp (disch := first | (refine Zx ?_; simp only [Zn]; done) | ((try simp only [Zn]); omega)) only [Zg, newPtr, hl61, hgA, hgB, e3] <;> rfl) (by simp only [newPtr, hl61, hgA, hgB, e3] <;> rfl)) rfl ?_
  refine s_op (a_mv e7) rfl ?_
  refine s_call (by simp only [Zu, Nat.reduceEqDiff, ↓reduceIte, newPtr, hgA, hgB] <;> rfl) (by simp only [Zu, Nat.reduceEqDiff, ↓reduceIte, Zm, newPtr, hgA, hgB] <;> rfl) ?_
  rw [S38_55]; refine ⟨d, s, t, xp, rfl, ⟨hd, hs, ht, by omega⟩, ?_⟩
  show EA _ _ _ _ _ _
  refine s_as ?_
  refine s_end (fun s' hs' => ?_)
  have e6 := congrFun hs' 6
  simp only [Zu, Nat.reduceEqDiff, ↓reduceIte, newPtr, AMem.next_alloc] at e6
  clear hs'
  try clear e3 e7
  refine o_norm ?_
  refine t_norm ?_
  refine at_ret rfl ?_
  refine bq_ret rfl (ars_cons (ar_tmp e6) ars_nil) ?_
  exact ⟨_, _, hK, Canon.forget rfl (fun j hj => by rw [get_old (by simp; omega), get_old (by omega)])⟩
end Go.Proofs.Ytdkdkpiemigfkaa
set_option linter.unusedVariables false
set_option linter.unusedSimpArgs false
set_option maxRecDepth 8000
namespace Go.Proofs.Ytdkdkpiemigfkaa
open Go Go.Proofs
def segF (d s : List UInt8) (t : Int) (i : IPh) (h : Segh) (body : List UInt8) : List UInt8 := ethPutF d s t (ipPutF i (tcpPutF i.src i.dst h body))
def sp26 : ASpec := fun args M K => ∃ (d s : List UInt8) (t : Int) (i : IPh) (h : Segh) (body : List UInt8), args = [.agg (ethCells d s t).toArray, .agg i.cells.toArray, .agg h.cells.toArray, asString body] ∧
  (d.length = 6 ∧ s.length = 6 ∧ inI64 t ∧ i.ok ∧ i.keep = false ∧ i.more = false ∧ h.ok ∧ (body.length : Int) ≤ 1980 - h.opts.length) ∧ K (.ret (asString (segF d s t i h body))) M
noncomputable def S26 : FuncId → ASpec := tab [(37, sp37), (38, sp38)]
theorem S26_37 : S26 37 = sp37 := rfl
theorem S26_38 : S26 38 = sp38 := rfl
theorem S26_ok : ∀ f, Sound Try.prog f (S26 f) := tab_sound _ (by simp [f37_ok, f38_ok])
theorem tcpPutF_length (src dst : Int) (h : Segh) (body : List UInt8) : (tcpPutF src dst h body).length = 20 + h.opts.length + body.length := by
  unfold tcpPutF tcpA tcpB; simp [bigF_length]; omega
theorem f26_ok : Sound Try.prog 26 sp26 := by
  refine Sound.of_awp (c := bodyOf Try.f26) Try.func26 rfl rfl rfl ?_
  rintro args M K ⟨d, s, t, i, h, body, rfl, ⟨hd, hs, ht, hi, hkeep, hmore, hh, hbody⟩, hK⟩
  refine ⟨Nat.le_of_ble_eq_true rfl, ?_⟩
  have hS := S26_ok
  have e0 : entry [.agg (ethCells d s t).toArray, .agg i.cells.toArray, .agg h.cells.toArray, asString body] 0 = .agg (ethCells d s t).toArray := rfl
  have e1 : entry [.agg (ethCells d s t).toArray, .agg i.cells.toArray, .agg h.cells.toArray, asString body] 1 = .agg i.cells.toArray := rfl
  have e2 : entry [.agg (ethCells d s t).toArray, .agg i.cells.toArray, .agg h.cells.toArray, asString body] 2 = .agg h.cells.toArray := rfl
  have e3 : entry [.agg (ethCells d s t).toArray, .agg i.cells.toArray, .agg h.cells.toArray, asString body] 3 = asString body := rfl
  have hlip := tcpPutF_length i.src i.dst h body
  have hl61 := ld61 (ethCells_length (t := t) hd hs)
  have ho := hh.n1
  have hs7 : i.cells[7]? = some (.int .u32 i.src) := rfl
  have hs8 : i.cells[8]? = some (.int .u32 i.dst) := rfl
  repeat refine at_seq rfl ?_
  refine at_region hS rfl (by kernel_rfl) ?_
  refine s_op (a_box (by simp only [Zu, Nat.reduceEqDiff, ↓reduceIte, Value.cells, e0] <;> rfl)) rfl ?_
  refine s_op (a_box (by simp only [Zu, Nat.reduceEqDiff, ↓reduceIte, Value.cells, e1] <;> rfl)) rfl ?_
  refine s_op (a_box (by simp only [Zu, Nat.reduceEqDiff, ↓reduceIte, Value.cells, e2] <;> rfl)) rfl ?_
  refine s_op (a_as (by simp only [ev_const] <;> rfl)) rfl ?_
  refine s_end (fun s' hs' => ?_)
  replace e3 := kp 3 hs' e3
  have e4 := congrFun hs' 4
  have e5 := congrFun hs' 5
  have e6 := congrFun hs' 6
  simp only [Zu, Nat.reduceEqDiff, ↓reduceIte, newPtr, AMem.next_alloc] at e4 e5 e6
  clear hs'
  try clear e0 e1 e2
  refine o_norm ?_
  refine t_norm ?_
  repeat refine at_seq rfl ?_
  unfold segF at hK
  generalize hxp : tcpPutF i.src i.dst h body = xp at *
  refine at_region hS rfl (by kernel_rfl) ?_
  refine s_op (a_fa (by simp only [Zu, Nat.reduceEqDiff, ↓reduceIte, fa64_7, Nat.zero_add, newPtr, AMem.next_alloc, hs7, hs8, e5] <;> rfl)) rfl ?_
  refine s_op (a_load (by simp only [Zu, Nat.reduceEqDiff, ↓reduceIte, newPtr, ld57, Zg, hs7, hs8] <;> rfl) (by simp (disch := first | (refine Zx ?_; simp only [Zn]; done) | ((try simp only [Zn]); omega)) only [Zg, newPtr, ld57, hs7, hs8] <;> rfl) (by simp only [ld23, Zl, newPtr, ld57, Zg, hs7, hs8] <;> rfl)) rfl ?_
  refine s_op (a_fa (by simp only [Zu, Nat.reduceEqDiff, ↓reduceIte, fa64_8, Nat.zero_add, newPtr, AMem.next_alloc, hs7, hs8, e5] <;> rfl)) rfl ?_
  refine s_op (a_load (by simp only [Zu, Nat.reduceEqDiff, ↓reduceIte, newPtr, ld57, Zg, hs7, hs8] <;> rfl) (by simp (disch := first | (refine Zx ?_; simp only [Zn]; done) | ((try simp only [Zn]); omega)) only [Zg, newPtr, ld57, hs7, hs8] <;> rfl) (by simp only [ld23, Zl, newPtr, ld57, Zg, hs7, hs8] <;> rfl)) rfl ?_
  refine s_op (a_load e6 (by simp (disch := first | (refine Zx ?_; simp only [Zn]; done) | ((try simp only [Zn]); omega)) only [Zg, newPtr, ld57, hs7, hs8, e6] <;> rfl) (by simp only [newPtr, ld57, Zg, hs7, hs8, e6] <;> rfl)) rfl ?_
  refine s_op (a_mv e3) rfl ?_
  refine s_call (by simp only [Zu, Nat.reduceEqDiff, ↓reduceIte, newPtr, Zg, hs7, hs8] <;> rfl) (by simp only [Zu, Nat.reduceEqDiff, ↓reduceIte, Zm, newPtr, Zg, hs7, hs8] <;> rfl) ?_
  rw [S26_37]; refine ⟨i.src, i.dst, h, body, rfl, ⟨hi.s0, hi.s1, hi.d0, hi.d1, hh, hbody⟩, ?_⟩; rw [hxp]
  show EA _ _ _ _ _ _
  refine s_mv ?_
  refine s_op (a_ext (by simp only [Zu, Nat.reduceEqDiff, ↓reduceIte, newPtr, AMem.next_alloc, hs7, hs8] <;> rfl) (by first | exact ext4_0 | exact ext3_0 | exact ext2_0 | rfl)) rfl ?_
  refine s_op (a_ext (by simp only [Zu, Nat.reduceEqDiff, ↓reduceIte, newPtr, AMem.next_alloc, hs7, hs8] <;> rfl) (by first | exact ext4_1 | exact ext3_1 | exact ext2_1 | rfl)) rfl ?_
  refine s_as ?_
  refine s_as ?_
  refine s_end (fun s' hs' => ?_)
  replace e4 := kp 4 hs' e4
  replace e5 := kp 5 hs' e5
  have e9 := congrFun hs' 9
  have e10 := congrFun hs' 10
  simp only [Zu, Nat.reduceEqDiff, ↓reduceIte, newPtr, AMem.next_alloc] at e9 e10
  clear hs'
  try clear e3 e6
  refine o_norm ?_
  refine t_norm ?_
  repeat refine at_seq rfl ?_
  refine at_region hS rfl (by kernel_rfl) ?_
  refine s_op (a_mv e10) rfl ?_
  refine s_op (a_bin (by simp (disch := omega) only [Zu, Nat.reduceEqDiff, ↓reduceIte, Zd, reduceCtorEq, abin_neq, abin_aneq, ne_eq, not_false_eq_true] <;> rfl)) rfl ?_
  refine s_end (fun s' hs' => ?_)
  replace e4 := kp 4 hs' e4
  replace e5 := kp 5 hs' e5
  replace e9 := kp 9 hs' e9
  have e22 := congrFun hs' 22
  simp only [Zu, Nat.reduceEqDiff, ↓reduceIte] at e22
  clear hs'
  try clear e10
  refine o_norm ?_
  refine t_norm ?_
  refine at_cond rfl rfl e22 (fun hc => by simp at hc) (fun hc => ?_)
  refine at_skip rfl ?_
  refine t_norm ?_
  repeat refine at_seq rfl ?_
  refine at_region hS rfl (by kernel_rfl) ?_
  refine s_op (a_load e4 (by simp (disch := first | (refine Zx ?_; simp only [Zn]; done) | ((try simp only [Zn]); omega)) only [Zg, newPtr, hl61, ld64, e4] <;> rfl) (by simp only [newPtr, hl61, ld64, Zg, e4] <;> rfl)) rfl ?_
  refine s_op (a_load e5 (by simp (disch := first | (refine Zx ?_; simp only [Zn]; done) | ((try simp only [Zn]); omega)) only [Zg, newPtr, hl61, ld64, e5] <;> rfl) (by simp only [newPtr, hl61, ld64, Zg, e5] <;> rfl)) rfl ?_
  refine s_op (a_mv e9) rfl ?_
  refine s_call (by simp only [Zu, Nat.reduceEqDiff, ↓reduceIte, newPtr, Zg] <;> rfl) (by simp only [Zu, Nat.reduceEqDiff, ↓reduceIte, Zm, newPtr, Zg] <;> rfl) ?_
  rw [S26_38]; refine ⟨d, s, t, i, xp, rfl, ⟨hd, hs, ht, hi, hkeep, hmore, by omega⟩, ?_⟩
  show EA _ _ _ _ _ _
  refine s_as ?_
  refine s_end (fun s' hs' => ?_)
  have e8 := congrFun hs' 8
  simp only [Zu, Nat.reduceEqDiff, ↓reduceIte, newPtr, AMem.next_alloc] at e8
  clear hs'
  try clear e4 e5 e9
  refine o_norm ?_
  refine t_norm ?_
  refine at_ret rfl ?_
  refine bq_ret rfl (ars_cons (ar_tmp e8) ars_nil) ?_
  exact ⟨_, _, hK, Canon.forget rfl (fun j hj => by rw [get_old (by simp; omega), get_old (by simp; omega), get_old (by omega)])⟩
theorem bd39v (a b c d e : Int) : abuild Try.prog 39 [(0, .int .i64 a), (1, .int .u32 b), (2, .int .u32 c), (3, .int .i64 d), (4, .int .i64 e)] = some (Tup.cells ⟨a, b, c, d, e⟩) := bd39 ⟨a, b, c, d, e⟩
theorem bp61 (n : Int) : abuild Try.prog 61 [(2, .int .i64 n)] = some (ethCells (List.replicate 6 0) (List.replicate 6 0) n) := by kernel_rfl
theorem bp64 (a b c d : Int) : abuild Try.prog 64 [(5, .int .i64 a), (6, .int .i64 b), (7, .int .u32 c), (8, .int .u32 d)] = some (IPh.cells ⟨0, 0, false, false, 0, a, b, c, d, []⟩) := by kernel_rfl
theorem bp57 (a b c d e f : Int) : abuild Try.prog 57 [(0, .int .i64 a), (1, .int .i64 b), (2, .int .u32 c), (3, .int .u32 d), (4, .int .i64 e), (5, .int .i64 f)] = some (Segh.cells ⟨a, b, c, d, e, f, []⟩) := by kernel_rfl
theorem at_mem {P : Program} {r : Option Nat} {n : Nat} {s : Slots} {M : AMem} {ds : List Nat} {Q : APost} {c : Code} (h : ∀ M', M' = M → awp P r n c Q s M' ds) : awp P r n c Q s M ds := h M rfl
def ipF (host proto : Int) : IPh := ⟨0, 0, false, false, 0, 64, proto, if host = 1 then 167772162 else 167772161, if host = 1 then 167772161 else 167772162, []⟩
def sp28 : ASpec := fun args M K => ∃ h p : Int, args = [.int .i64 h, .int .i64 p] ∧ (h = 0 ∨ h = 1) ∧ K (.ret (.agg (ipF h p).cells.toArray)) M
theorem f28_ok : Sound Try.prog 28 sp28 := by
  refine Sound.of_awp (c := bodyOf Try.f28) Try.func28 rfl rfl rfl ?_
  rintro args M K ⟨h, p, rfl, hh, hK⟩
  refine ⟨Nat.le_of_ble_eq_true rfl, ?_⟩
  have hS := noS_ok Try.prog
  have e0 : entry [.int .i64 h, .int .i64 p] 0 = .int .i64 h := rfl
  have e1 : entry [.int .i64 h, .int .i64 p] 1 = .int .i64 p := rfl
  repeat refine at_seq rfl ?_
  refine at_region hS rfl (by kernel_rfl) ?_
  refine s_op (a_alloc z64) rfl ?_
  refine s_end (fun s' hs' => ?_)
  replace e0 := kp 0 hs' e0
  replace e1 := kp 1 hs' e1
  have e4 := congrFun hs' 4
  simp only [Zu, Nat.reduceEqDiff, ↓reduceIte, newPtr, AMem.next_alloc] at e4
  clear hs'
  refine o_norm ?_
  refine t_norm ?_
  repeat refine at_seq rfl ?_
  refine at_region hS rfl (by kernel_rfl) ?_
  refine s_op (a_mv e1) rfl ?_
  refine s_op (a_build (by simp only [Zu, Nat.reduceEqDiff, ↓reduceIte, Zm, Array.toList, newPtr, bp64, st64] <;> rfl)) rfl ?_
  refine s_op (a_alloc z64) rfl ?_
  refine s_op (a_store (by simp only [Zu, Nat.reduceEqDiff, ↓reduceIte, newPtr, bp64, st64] <;> rfl) (by simp (disch := first | (refine Zx ?_; simp only [Zn]; done) | ((try simp only [Zn]); omega)) only [Zg, newPtr, bp64, st64] <;> rfl) (by simp only [Zu, Nat.reduceEqDiff, ↓reduceIte, newPtr, bp64, st64] <;> rfl) (by simp only [newPtr, bp64, st64] <;> rfl)) rfl ?_
  refine s_end (fun s' hs' => ?_)
  replace e0 := kp 0 hs' e0
  replace e4 := kp 4 hs' e4
  have e5 := congrFun hs' 5
  simp only [Zu, Nat.reduceEqDiff, ↓reduceIte, newPtr, AMem.next_alloc] at e5
  clear hs'
  try clear e1
  refine o_norm ?_
  refine t_norm ?_
  refine at_mem (fun M1 hM1 => ?_)
  have hg1 : M1.get (M.next + 1) = .cells (IPh.cells ⟨0, 0, false, false, 0, 64, p, 167772161, 167772162, []⟩) true := by rw [hM1]; exact get_put
  have hg0 : M1.get M.next = .cells (IPh.cells ⟨0, 0, false, false, 0, 0, 0, 0, 0, []⟩) true := by rw [hM1, get_else (by simp), get_old (by simp), get_new]
  have hold : ∀ j, j < M.next → M1.get j = M.get j := fun j hj => by rw [hM1, get_else (by simp; omega), get_old (by simp; omega), get_old (by omega)]
  clear hM1
  repeat refine at_seq rfl ?_
  refine at_region hS rfl (by kernel_rfl) ?_
  refine s_op (a_mv e0) rfl ?_
  refine s_op (a_bin (by simp (disch := omega) only [Zu, Nat.reduceEqDiff, ↓reduceIte, Zd, reduceCtorEq, abin_eql, abin_aeql, ne_eq, not_false_eq_true] <;> rfl)) rfl ?_
  refine s_end (fun s' hs' => ?_)
  replace e4 := kp 4 hs' e4
  replace e5 := kp 5 hs' e5
  have e9 := congrFun hs' 9
  simp only [Zu, Nat.reduceEqDiff, ↓reduceIte] at e9
  clear hs'
  try clear e0
  refine o_norm ?_
  refine t_norm ?_
  rcases hh with rfl | rfl
  · refine at_cond rfl rfl e9 (fun hc => by simp at hc) (fun hc => ?_)
    refine at_skip rfl ?_
    refine t_norm ?_
    repeat refine at_seq rfl ?_
    refine at_region hS rfl (by kernel_rfl) ?_
    refine s_op (a_load e5 (by simp (disch := first | (refine Zx ?_; simp only [Zn]; done) | ((try simp only [Zn]); omega)) only [Zg, newPtr, hg1, hg0, ld64, st64, e5] <;> rfl) (by simp only [newPtr, AMem.next_alloc, hg1, hg0, ld64, st64, e5] <;> rfl)) rfl ?_
    refine s_op (a_store e4 (by simp (disch := first | (refine Zx ?_; simp only [Zn]; done) | ((try simp only [Zn]); omega)) only [Zg, newPtr, hg1, hg0, st64, e4] <;> rfl) (by simp only [Zu, Nat.reduceEqDiff, ↓reduceIte, newPtr, AMem.next_alloc, hg1, hg0, st64, e4] <;> rfl) (by simp only [newPtr, AMem.next_alloc, hg1, hg0, st64, e4] <;> rfl)) rfl ?_
    refine s_end (fun s' hs' => ?_)
    replace e4 := kp 4 hs' e4
    clear hs'
    try clear e5
    refine o_norm ?_
    refine t_norm ?_
    refine at_ret rfl ?_
    refine bq_ret rfl (ars_cons (ar_cell e4 get_put (ld64 (ipF 0 p))) ars_nil) ?_
    exact ⟨_, _, hK, Canon.forget rfl (fun j hj => by rw [get_else (by omega)]; exact hold j hj)⟩
  · refine at_cond rfl rfl e9 (fun hc => ?_) (fun hc => by simp at hc)
    repeat refine at_seq rfl ?_
    refine at_region hS rfl (by kernel_rfl) ?_
    refine s_op (a_fa (by simp only [Zu, Nat.reduceEqDiff, ↓reduceIte, fa64_8, Nat.zero_add, newPtr, AMem.next_alloc, hg1, hg0, IPh.cells, e5] <;> rfl)) rfl ?_
    refine s_op (a_load (by simp only [Zu, Nat.reduceEqDiff, ↓reduceIte, newPtr, AMem.next_alloc, hg1, hg0, IPh.cells] <;> rfl) (by simp (disch := first | (refine Zx ?_; simp only [Zn]; done) | ((try simp only [Zn]); omega)) only [Zg, newPtr, hg1, hg0, IPh.cells] <;> rfl) (by simp only [ld23, Zl, newPtr, AMem.next_alloc, hg1, hg0, IPh.cells] <;> rfl)) rfl ?_
    refine s_op (a_fa (by simp only [Zu, Nat.reduceEqDiff, ↓reduceIte, fa64_7, Nat.zero_add, newPtr, AMem.next_alloc, hg1, hg0, IPh.cells, e5] <;> rfl)) rfl ?_
    refine s_op (a_load (by simp only [Zu, Nat.reduceEqDiff, ↓reduceIte, newPtr, AMem.next_alloc, hg1, hg0, IPh.cells] <;> rfl) (by simp (disch := first | (refine Zx ?_; simp only [Zn]; done) | ((try simp only [Zn]); omega)) only [Zg, newPtr, hg1, hg0, IPh.cells] <;> rfl) (by simp only [ld23, Zl, newPtr, AMem.next_alloc, hg1, hg0, IPh.cells] <;> rfl)) rfl ?_
    refine s_op (a_fa (by simp only [Zu, Nat.reduceEqDiff, ↓reduceIte, fa64_7, Nat.zero_add, newPtr, AMem.next_alloc, hg1, hg0, IPh.cells, e5] <;> rfl)) rfl ?_
    refine s_op (a_store (by simp only [Zu, Nat.reduceEqDiff, ↓reduceIte, newPtr, AMem.next_alloc, hg1, hg0, IPh.cells] <;> rfl) (by simp (disch := first | (refine Zx ?_; simp only [Zn]; done) | ((try simp only [Zn]); omega)) only [Zg, newPtr, hg1, hg0, IPh.cells] <;> rfl) (by simp only [Zu, Nat.reduceEqDiff, ↓reduceIte, newPtr, AMem.next_alloc, hg1, hg0, IPh.cells] <;> rfl) (by simp (disch := (first | omega | (simp only [List.length_cons, List.length_nil]; omega))) only [st23, List.set_cons_succ, List.set_cons_zero, newPtr, AMem.next_alloc, hg1, hg0, IPh.cells] <;> rfl)) rfl ?_
    refine s_op (a_fa (by simp only [Zu, Nat.reduceEqDiff, ↓reduceIte, fa64_8, Nat.zero_add, newPtr, AMem.next_alloc, hg1, hg0, IPh.cells, e5] <;> rfl)) rfl ?_
    refine s_op (a_store (by simp only [Zu, Nat.reduceEqDiff, ↓reduceIte, newPtr, AMem.next_alloc, hg1, hg0, IPh.cells] <;> rfl) (by simp (disch := first | (refine Zx ?_; simp only [Zn]; done) | ((try simp only [Zn]); omega)) only [Zg, newPtr, hg1, hg0, IPh.cells] <;> rfl) (by simp only [Zu, Nat.reduceEqDiff, ↓reduceIte, newPtr, AMem.next_alloc, hg1, hg0, IPh.cells] <;> rfl) (by simp (disch := (first | omega | (simp only [List.length_cons, List.length_nil]; omega))) only [st23, List.set_cons_succ, List.set_cons_zero, newPtr, AMem.next_alloc, hg1, hg0, IPh.cells] <;> rfl)) rfl ?_
    refine s_end (fun s' hs' => ?_)
    replace e4 := kp 4 hs' e4
    replace e5 := kp 5 hs' e5
    clear hs'
    refine o_norm ?_
    refine t_norm ?_
    refine at_mem (fun M2 hM2 => ?_)
    have hk1 : M2.get (M.next + 1) = .cells (ipF 1 p).cells true := by rw [hM2, get_put]; rfl
    have hk0 : M2.get M.next = .cells (IPh.cells ⟨0, 0, false, false, 0, 0, 0, 0, 0, []⟩) true := by rw [hM2, get_else (by omega), get_else (by omega)]; exact hg0
    have hold2 : ∀ j, j < M.next → M2.get j = M.get j := fun j hj => by rw [hM2, get_else (by omega), get_else (by omega)]; exact hold j hj
    clear hM2
    repeat refine at_seq rfl ?_
    refine at_region hS rfl (by kernel_rfl) ?_
    refine s_op (a_load e5 (by simp (disch := first | (refine Zx ?_; simp only [Zn]; done) | ((try simp only [Zn]); omega)) only [Zg, newPtr, hk1, hk0, ld64, st64, e5] <;> rfl) (by simp only [newPtr, AMem.next_alloc, hk1, hk0, ld64, st64, e5] <;> rfl)) rfl ?_
    refine s_op (a_store e4 (by simp (disch := first | (refine Zx ?_; simp only [Zn]; done) | ((try simp only [Zn]); omega)) only [Zg, newPtr, hk1, hk0, st64, e4] <;> rfl) (by simp only [Zu, Nat.reduceEqDiff, ↓reduceIte, newPtr, AMem.next_alloc, hk1, hk0, st64, e4] <;> rfl) (by simp only [newPtr, AMem.next_alloc, hk1, hk0, st64, e4] <;> rfl)) rfl ?_
    refine s_end (fun s' hs' => ?_)
    replace e4 := kp 4 hs' e4
    clear hs'
    try clear e5
    refine o_norm ?_
    refine t_norm ?_
    refine at_ret rfl ?_
    refine bq_ret rfl (ars_cons (ar_cell e4 get_put (ld64 (ipF 1 p))) ars_nil) ?_
    exact ⟨_, _, hK, Canon.forget rfl (fun j hj => by rw [get_else (by omega)]; exact hold2 j hj)⟩
def macF (x : Int) : List UInt8 := [0, 0, 0, 0, 0, UInt8.ofNat x.toNat]
def sp27 : ASpec := fun args M K => ∃ h : Int, args = [.int .i64 h] ∧ (h = 0 ∨ h = 1) ∧ K (.ret (.agg (ethCells (macF (2 - h)) (macF (1 + h)) 2048).toArray)) M
theorem f27_ok : Sound Try.prog 27 sp27 := by
  refine Sound.of_awp (c := bodyOf Try.f27) Try.func27 rfl rfl rfl ?_
  rintro args M K ⟨h, rfl, hh, hK⟩
  refine ⟨Nat.le_of_ble_eq_true rfl, ?_⟩
  have hS := noS_ok Try.prog
  have e0 : entry [.int .i64 h] 0 = .int .i64 h := rfl
  have hb : abuild Try.prog 61 [(2, .int .i64 2048)] = some (ethCells (List.replicate 6 0) (List.replicate 6 0) 2048) := bp61 2048
  have hst : ∀ t, astore Try.prog 61 eth0 0 (.agg (ethCells (List.replicate 6 0) (List.replicate 6 0) t).toArray) = some (ethCells (List.replicate 6 0) (List.replicate 6 0) t) := fun t => st61 rfl rfl (ethCells_one _ _ _)
  have hz : azero Try.prog 61 = some eth0 := z61
  repeat refine at_seq rfl ?_
  refine at_region hS rfl (by kernel_rfl) ?_
  refine s_op (a_alloc hz) rfl ?_
  refine s_end (fun s' hs' => ?_)
  replace e0 := kp 0 hs' e0
  have e2 := congrFun hs' 2
  simp only [Zu, Nat.reduceEqDiff, ↓reduceIte, newPtr, AMem.next_alloc] at e2
  clear hs'
  refine o_norm ?_
  refine t_norm ?_
  repeat refine at_seq rfl ?_
  refine at_region hS rfl (by kernel_rfl) ?_
  refine s_op (a_build (by simp only [ev_const, Zm, Array.toList, newPtr, hb, hst] <;> rfl)) rfl ?_
  refine s_op (a_alloc hz) rfl ?_
  refine s_op (a_store (by simp only [Zu, Nat.reduceEqDiff, ↓reduceIte, newPtr, hb, hst] <;> rfl) (by simp (disch := first | (refine Zx ?_; simp only [Zn]; done) | ((try simp only [Zn]); omega)) only [Zg, newPtr, hb, hst] <;> rfl) (by simp only [Zu, Nat.reduceEqDiff, ↓reduceIte, newPtr, hb, hst] <;> rfl) (by simp only [newPtr, hb, hst] <;> rfl)) rfl ?_
  refine s_end (fun s' hs' => ?_)
  replace e0 := kp 0 hs' e0
  replace e2 := kp 2 hs' e2
  have e3 := congrFun hs' 3
  simp only [Zu, Nat.reduceEqDiff, ↓reduceIte, newPtr, AMem.next_alloc] at e3
  clear hs'
  refine o_norm ?_
  refine t_norm ?_
  refine at_mem (fun M1 hM1 => ?_)
  have hg1 : M1.get (M.next + 1) = .cells (ethCells (List.replicate 6 0) (List.replicate 6 0) 2048) true := by rw [hM1]; exact get_put
  have hg0 : M1.get M.next = .cells eth0 true := by rw [hM1, get_else (by simp), get_old (by simp), get_new]
  have hold : ∀ j, j < M.next → M1.get j = M.get j := fun j hj => by rw [hM1, get_else (by simp; omega), get_old (by simp; omega), get_old (by omega)]
  clear hM1
  have hc : ethCells (List.replicate 6 0) (List.replicate 6 0) 2048 = [.int .u8 0, .int .u8 0, .int .u8 0, .int .u8 0, .int .u8 0, .int .u8 0, .int .u8 0, .int .u8 0, .int .u8 0, .int .u8 0, .int .u8 0, .int .u8 0, .int .i64 2048] := rfl
  rw [hc] at hg1
  have hia : ∀ off, aindexAddr Try.prog 59 (.pointer (some ⟨M.next + 1, off, none⟩)) (.int .i64 5) = some (.pointer (some ⟨M.next + 1, off + 5, none⟩)) := fun off => by
    rw [aindexAddr_arr Try.underlying59 (i := _) (by rfl) (by omega) (by decide)]; rfl
  repeat refine at_seq rfl ?_
  refine at_region hS rfl (by kernel_rfl) ?_
  refine s_op (a_mv e0) rfl ?_
  refine s_op (a_bin (by simp (disch := ((try simp only [List.length_append, List.length_cons, List.length_nil]); omega)) only [Zu, Nat.reduceEqDiff, ↓reduceIte, Zd, reduceCtorEq, abin_add, abin_aadd, wrap_i64, wrap_u32, wrap_u8, wrap_u64, wrap_i32, wrap_u16, ne_eq, not_false_eq_true, hg1, Nat.zero_add, Nat.reduceAdd] <;> rfl)) rfl ?_
  refine s_op (a_convi (by simp only [Zu, Nat.reduceEqDiff, ↓reduceIte, newPtr, AMem.next_alloc, hg1, Nat.zero_add, Nat.reduceAdd] <;> rfl) rfl rfl (by simp (disch := omega) only [wrapm_u8, Int.emod_eq_of_lt]; try rfl)) rfl ?_
  refine s_op (a_mv e0) rfl ?_
  refine s_op (a_bin (by simp (disch := omega) only [Zu, Nat.reduceEqDiff, ↓reduceIte, Zd, reduceCtorEq, abin_sub, wrap_i64, wrap_u32, wrap_u8, wrap_u64, wrap_i32, wrap_u16, ne_eq, not_false_eq_true, hg1, Nat.zero_add, Nat.reduceAdd] <;> rfl)) rfl ?_
  refine s_op (a_convi (by simp only [Zu, Nat.reduceEqDiff, ↓reduceIte, newPtr, AMem.next_alloc, hg1, Nat.zero_add, Nat.reduceAdd] <;> rfl) rfl rfl (by simp (disch := omega) only [wrapm_u8, Int.emod_eq_of_lt]; try rfl)) rfl ?_
  refine s_op (a_fa (by simp only [Zu, Nat.reduceEqDiff, ↓reduceIte, fa61_1, Nat.zero_add, newPtr, AMem.next_alloc, hg1, Nat.reduceAdd, e3] <;> rfl)) rfl ?_
  refine s_op (a_ia (by simp (disch := omega) only [Zu, Nat.reduceEqDiff, ↓reduceIte, newPtr, AMem.next_alloc, hg1, hia, Nat.zero_add, Nat.reduceAdd] <;> rfl)) rfl ?_
  refine s_op (a_store (by simp only [Zu, Nat.reduceEqDiff, ↓reduceIte, newPtr, AMem.next_alloc, hg1, Nat.zero_add, Nat.reduceAdd] <;> rfl) (by simp (disch := first | (refine Zx ?_; simp only [Zn]; done) | ((try simp only [Zn]); omega)) only [Zg, newPtr, hg1, Nat.zero_add, Nat.reduceAdd] <;> rfl) (by simp only [Zu, Nat.reduceEqDiff, ↓reduceIte, newPtr, AMem.next_alloc, hg1, Nat.zero_add, Nat.reduceAdd] <;> rfl) (by simp (disch := (first | omega | (simp only [List.length_cons, List.length_nil]; omega))) only [st5, List.set_cons_succ, List.set_cons_zero, newPtr, AMem.next_alloc, hg1, Nat.zero_add, Nat.reduceAdd] <;> rfl)) rfl ?_
  refine s_op (a_fa (by simp only [Zu, Nat.reduceEqDiff, ↓reduceIte, fa61_0, Nat.zero_add, newPtr, AMem.next_alloc, hg1, Nat.reduceAdd, e3] <;> rfl)) rfl ?_
  refine s_op (a_ia (by simp (disch := omega) only [Zu, Nat.reduceEqDiff, ↓reduceIte, newPtr, AMem.next_alloc, hg1, hia, Nat.zero_add, Nat.reduceAdd] <;> rfl)) rfl ?_
  refine s_op (a_store (by simp only [Zu, Nat.reduceEqDiff, ↓reduceIte, newPtr, AMem.next_alloc, hg1, Nat.zero_add, Nat.reduceAdd] <;> rfl) (by simp (disch := first | (refine Zx ?_; simp only [Zn]; done) | ((try simp only [Zn]); omega)) only [Zg, newPtr, hg1, Nat.zero_add, Nat.reduceAdd] <;> rfl) (by simp only [Zu, Nat.reduceEqDiff, ↓reduceIte, newPtr, AMem.next_alloc, hg1, Nat.zero_add, Nat.reduceAdd] <;> rfl) (by simp (disch := (first | omega | (simp only [List.length_cons, List.length_nil]; omega))) only [st5, List.set_cons_succ, List.set_cons_zero, newPtr, AMem.next_alloc, hg1, Nat.zero_add, Nat.reduceAdd] <;> rfl)) rfl ?_
  refine s_end (fun s' hs' => ?_)
  replace e2 := kp 2 hs' e2
  replace e3 := kp 3 hs' e3
  clear hs'
  try clear e0
  refine o_norm ?_
  refine t_norm ?_
  refine at_mem (fun M2 hM2 => ?_)
  have hk1 : M2.get (M.next + 1) = .cells (ethCells (macF (2 - h)) (macF (1 + h)) 2048) true := by
    rw [hM2, get_put]
    rcases hh with rfl | rfl <;> rfl
  have hk0 : M2.get M.next = .cells eth0 true := by rw [hM2, get_else (by omega), get_else (by omega)]; exact hg0
  have hold2 : ∀ j, j < M.next → M2.get j = M.get j := fun j hj => by rw [hM2, get_else (by omega), get_else (by omega)]; exact hold j hj
  clear hM2
  have hl := ld61 (cs := ethCells (macF (2 - h)) (macF (1 + h)) 2048) rfl
  have hs2 : astore Try.prog 61 eth0 0 (.agg (ethCells (macF (2 - h)) (macF (1 + h)) 2048).toArray) = some (ethCells (macF (2 - h)) (macF (1 + h)) 2048) := st61 rfl rfl (ethCells_one _ _ _)
  repeat refine at_seq rfl ?_
  refine at_region hS rfl (by kernel_rfl) ?_
  refine s_op (a_load e3 (by simp (disch := first | (refine Zx ?_; simp only [Zn]; done) | ((try simp only [Zn]); omega)) only [Zg, newPtr, hk1, hk0, hl, hs2, e3] <;> rfl) (by simp only [newPtr, AMem.next_alloc, hk1, hk0, hl, hs2, e3] <;> rfl)) rfl ?_
  refine s_op (a_store e2 (by simp (disch := first | (refine Zx ?_; simp only [Zn]; done) | ((try simp only [Zn]); omega)) only [Zg, newPtr, hk1, hk0, hs2, e2] <;> rfl) (by simp only [Zu, Nat.reduceEqDiff, ↓reduceIte, newPtr, AMem.next_alloc, hk1, hk0, hs2, e2] <;> rfl) (by simp only [newPtr, AMem.next_alloc, hk1, hk0, hs2, e2] <;> rfl)) rfl ?_
  refine s_end (fun s' hs' => ?_)
  replace e2 := kp 2 hs' e2
  clear hs'
  try clear e3
  refine o_norm ?_
  refine t_norm ?_
  refine at_ret rfl ?_
  refine bq_ret rfl (ars_cons (ar_cell e2 get_put hl) ars_nil) ?_
  exact ⟨_, _, hK, Canon.forget (flat_agg (ethCells_flat 2 _ _ _)) (fun j hj => by rw [get_else (by omega)]; exact hold2 j hj)⟩
def seghF (host port flags seq ack : Int) : Segh := if host = 1 then ⟨80, 1000 + port, seq, ack, flags, 1000, []⟩ else ⟨1000 + port, 80, seq, ack, flags, 1000, []⟩
def lawSeg (host port flags seq ack : Int) (body : List UInt8) : List UInt8 := segF (macF (2 - host)) (macF (1 + host)) 2048 (ipF host 6) (seghF host port flags seq ack) body
def sp10 : ASpec := fun args M K => ∃ (host port flags seq ack : Int) (body : List UInt8), args = [.int .i64 host, .int .i64 port, .int .i64 flags, .int .u32 seq, .int .u32 ack, asString body] ∧
  ((host = 0 ∨ host = 1) ∧ 0 ≤ port ∧ port ≤ 60000 ∧ 0 ≤ flags ∧ flags ≤ 63 ∧ 0 ≤ seq ∧ seq ≤ 4294967295 ∧ 0 ≤ ack ∧ ack ≤ 4294967295 ∧ body.length ≤ 1980) ∧ K (.ret (asString (lawSeg host port flags seq ack body))) M
noncomputable def S10 : FuncId → ASpec := tab [(26, sp26), (27, sp27), (28, sp28)]
theorem S10_26 : S10 26 = sp26 := rfl
theorem S10_27 : S10 27 = sp27 := rfl
theorem S10_28 : S10 28 = sp28 := rfl
theorem S10_ok : ∀ f, Sound Try.prog f (S10 f) := tab_sound _ (by simp [f26_ok, f27_ok, f28_ok])
theorem ipF_ok {h : Int} (hh : h = 0 ∨ h = 1) : (ipF h 6).ok := by
  rcases hh with rfl | rfl <;> constructor <;> decide
theorem seghF_ok {host port flags seq ack : Int} (h1 : 0 ≤ port) (h2 : port ≤ 60000) (h3 : 0 ≤ flags) (h4 : flags ≤ 63) (h5 : 0 ≤ seq) (h6 : seq ≤ 4294967295) (h7 : 0 ≤ ack) (h8 : ack ≤ 4294967295) : (seghF host port flags seq ack).ok := by
  unfold seghF; split <;> constructor <;> simp <;> omega
theorem f10_ok : Sound Try.prog 10 sp10 := by
  refine Sound.of_awp (c := bodyOf Try.f10) Try.func10 rfl rfl rfl ?_
  rintro args M K ⟨host, port, flags, seq, ack, body, rfl, ⟨hh, p0, p1, l0, l1, q0, q1, a0, a1, hb⟩, hK⟩
  refine ⟨Nat.le_of_ble_eq_true rfl, ?_⟩
  have hS := S10_ok
  have e0 : entry [.int .i64 host, .int .i64 port, .int .i64 flags, .int .u32 seq, .int .u32 ack, asString body] 0 = .int .i64 host := rfl
  have e1 : entry [.int .i64 host, .int .i64 port, .int .i64 flags, .int .u32 seq, .int .u32 ack, asString body] 1 = .int .i64 port := rfl
  have e2 : entry [.int .i64 host, .int .i64 port, .int .i64 flags, .int .u32 seq, .int .u32 ack, asString body] 2 = .int .i64 flags := rfl
  have e3 : entry [.int .i64 host, .int .i64 port, .int .i64 flags, .int .u32 seq, .int .u32 ack, asString body] 3 = .int .u32 seq := rfl
  have e4 : entry [.int .i64 host, .int .i64 port, .int .i64 flags, .int .u32 seq, .int .u32 ack, asString body] 4 = .int .u32 ack := rfl
  have e5 : entry [.int .i64 host, .int .i64 port, .int .i64 flags, .int .u32 seq, .int .u32 ack, asString body] 5 = asString body := rfl
  have hfin : ∀ (s' : Slots) (M2 : AMem), s' 0 = .int .i64 host → s' 5 = asString body → s' 13 = .pointer (some ⟨M.next, 0, none⟩) → M2.get M.next = .cells (seghF host port flags seq ack).cells true → (∀ j, j < M.next → M2.get j = M.get j) →
      awp Try.prog none Try.f10.ntmps (csnd (csnd (csnd (bodyOf Try.f10)))) (BodyQ Try.prog Try.f10 fun res M' => ∃ res2 M2, K res2 M2 ∧ Canon M res M' res2 M2) s' M2 [] := by
    intro s' M2 e0 e5 e13 hg hold
    have hn0 : (seghF host port flags seq ack).opts = [] := by unfold seghF; split <;> rfl
    have hok := seghF_ok (host := host) p0 p1 l0 l1 q0 q1 a0 a1
    unfold lawSeg at hK
    generalize seghF host port flags seq ack = sg at *
    repeat refine at_seq rfl ?_
    refine at_draw ⟨[[], [0], [], [0, 1, 2], [], [], [0, 1, 2, 3, 4, 5], [0, 1, 2, 3, 4, 5, 6]], [0, 2, 4, 5], [(1, []), (3, []), (6, [7])]⟩ hS rfl rfl (by kernel_rfl) (by kernel_rfl) ?_
    refine d_start ?_
    refine l_op rfl rfl (a_mv e0) rfl ?_ rfl
    refine l_op rfl rfl (a_mv e0) rfl ?_ rfl
    refine l_op rfl rfl (a_load e13 (by simp (disch := first | (refine Zx ?_; simp only [Zn]; done) | ((try simp only [Zn]); omega)) only [Zg, hg, ld57, e13] <;> rfl) (by simp only [hg, ld57, e13] <;> rfl)) rfl ?_ rfl
    refine l_op rfl rfl (a_mv e5) rfl ?_ rfl
    refine l_nil ?_
    refine h_op ?_ rfl rfl rfl ?_
    · refine again_r rfl ?_
      refine again_l rfl rfl (a_load e13 (by simp (disch := first | (refine Zx ?_; simp only [Zn]; done) | ((try simp only [Zn]); omega)) only [Zg, hg, ld57, e13] <;> rfl) (by simp only [hg, ld57, e13] <;> rfl)) ?_
      refine again_r rfl ?_
      refine again_r rfl ?_
      exact again_nil
    refine s_call (by simp only [Zu, Nat.reduceEqDiff, ↓reduceIte, hg] <;> rfl) (by simp only [Zu, Nat.reduceEqDiff, ↓reduceIte, Zm, hg] <;> rfl) ?_
    rw [S10_27]; refine ⟨host, rfl, hh, ?_⟩
    show EA _ _ _ _ _ _
    refine s_end (fun s' hs' => ?_); subst hs'
    refine l_nil ?_
    refine h_op ?_ rfl rfl rfl ?_
    · refine again_r rfl ?_
      refine again_l rfl rfl (a_load e13 (by simp (disch := first | (refine Zx ?_; simp only [Zn]; done) | ((try simp only [Zn]); omega)) only [Zg, hg, ld57, e13] <;> rfl) (by simp only [hg, ld57, e13] <;> rfl)) ?_
      refine again_r rfl ?_
      exact again_nil
    refine s_call (by simp only [Zu, Nat.reduceEqDiff, ↓reduceIte, hg] <;> rfl) (by simp only [Zu, Nat.reduceEqDiff, ↓reduceIte, Zm, hg] <;> rfl) ?_
    rw [S10_28]; refine ⟨host, 6, rfl, hh, ?_⟩
    show EA _ _ _ _ _ _
    refine s_end (fun s' hs' => ?_); subst hs'
    refine l_nil ?_
    refine h_op ?_ rfl rfl rfl ?_
    · refine again_r rfl ?_
      refine again_l rfl rfl (a_load e13 (by simp (disch := first | (refine Zx ?_; simp only [Zn]; done) | ((try simp only [Zn]); omega)) only [Zg, hg, ld57, e13] <;> rfl) (by simp only [hg, ld57, e13] <;> rfl)) ?_
      exact again_nil
    refine s_call (by simp only [Zu, Nat.reduceEqDiff, ↓reduceIte, hg] <;> rfl) (by simp only [Zu, Nat.reduceEqDiff, ↓reduceIte, Zm, hg] <;> rfl) ?_
    rw [S10_26]; refine ⟨_, _, _, _, sg, body, rfl, ⟨rfl, rfl, ⟨by decide, by decide⟩, ipF_ok hh, rfl, rfl, hok, by rw [hn0]; simp; omega⟩, ?_⟩
    show EA _ _ _ _ _ _
    refine s_end (fun s' hs' => ?_); subst hs'
    refine l_op rfl rfl (a_as (by simp only [Zu, Nat.reduceEqDiff, ↓reduceIte] <;> rfl)) rfl ?_ rfl
    refine l_nil ?_
    refine h_end ?_ (fun s' hs' => ?_)
    · refine again_r rfl ?_
      exact again_nil
    have e12 := congrFun hs' 12
    simp only [Zu, Nat.reduceEqDiff, ↓reduceIte] at e12
    clear hs'
    try clear e0 e5 e13
    refine o_norm ?_
    refine t_norm ?_
    refine at_ret rfl ?_
    refine bq_ret rfl (ars_cons (ar_tmp e12) ars_nil) ?_
    exact ⟨_, _, hK, Canon.forget rfl hold⟩
  repeat refine at_seq rfl ?_
  refine at_region hS rfl (by kernel_rfl) ?_
  refine s_op (a_as (by simp only [ev_const] <;> rfl)) rfl ?_
  refine s_end (fun s' hs' => ?_)
  replace e0 := kp 0 hs' e0
  replace e1 := kp 1 hs' e1
  replace e2 := kp 2 hs' e2
  replace e3 := kp 3 hs' e3
  replace e4 := kp 4 hs' e4
  replace e5 := kp 5 hs' e5
  clear hs'
  refine o_norm ?_
  refine t_norm ?_
  repeat refine at_seq rfl ?_
  have hst : ∀ k : Segh, astore Try.prog 57 (Segh.cells ⟨0, 0, 0, 0, 0, 0, []⟩) 0 (.agg k.cells.toArray) = some k.cells := fun k => st57 _ _
  refine at_region hS rfl (by kernel_rfl) ?_
  refine s_op (a_mv e1) rfl ?_
  refine s_op (a_bin (by simp (disch := ((try simp only [List.length_append, List.length_cons, List.length_nil]); omega)) only [Zu, Nat.reduceEqDiff, ↓reduceIte, Zd, reduceCtorEq, abin_add, abin_aadd, wrap_i64, wrap_u32, wrap_u8, wrap_u64, wrap_i32, wrap_u16, ne_eq, not_false_eq_true, bp57, hst] <;> rfl)) rfl ?_
  refine s_op (a_mv e3) rfl ?_
  refine s_op (a_mv e4) rfl ?_
  refine s_op (a_mv e2) rfl ?_
  refine s_op (a_build (by simp only [Zu, Nat.reduceEqDiff, ↓reduceIte, Zm, Array.toList, newPtr, bp57, hst] <;> rfl)) rfl ?_
  refine s_op (a_alloc z57) rfl ?_
  refine s_op (a_store (by simp only [Zu, Nat.reduceEqDiff, ↓reduceIte, newPtr, bp57, hst] <;> rfl) (by simp (disch := first | (refine Zx ?_; simp only [Zn]; done) | ((try simp only [Zn]); omega)) only [Zg, newPtr, bp57, hst] <;> rfl) (by simp only [Zu, Nat.reduceEqDiff, ↓reduceIte, newPtr, bp57, hst] <;> rfl) (by simp only [newPtr, bp57, hst] <;> rfl)) rfl ?_
  refine s_end (fun s' hs' => ?_)
  replace e0 := kp 0 hs' e0
  replace e5 := kp 5 hs' e5
  have e13 := congrFun hs' 13
  simp only [Zu, Nat.reduceEqDiff, ↓reduceIte, newPtr, AMem.next_alloc] at e13
  clear hs'
  try clear e1 e2 e3 e4
  refine o_norm ?_
  refine t_norm ?_
  refine at_mem (fun M1 hM1 => ?_)
  have hg1 : M1.get M.next = .cells (Segh.cells ⟨1000 + port, 80, seq, ack, flags, 1000, []⟩) true := by rw [hM1]; exact get_put
  have hold : ∀ j, j < M.next → M1.get j = M.get j := fun j hj => by rw [hM1, get_else (by omega), get_old (by omega)]
  clear hM1
  repeat refine at_seq rfl ?_
  refine at_region hS rfl (by kernel_rfl) ?_
  refine s_op (a_mv e0) rfl ?_
  refine s_op (a_bin (by simp (disch := omega) only [Zu, Nat.reduceEqDiff, ↓reduceIte, Zd, reduceCtorEq, abin_eql, abin_aeql, ne_eq, not_false_eq_true] <;> rfl)) rfl ?_
  refine s_end (fun s' hs' => ?_)
  replace e0 := kp 0 hs' e0
  replace e5 := kp 5 hs' e5
  replace e13 := kp 13 hs' e13
  have e21 := congrFun hs' 21
  simp only [Zu, Nat.reduceEqDiff, ↓reduceIte] at e21
  clear hs'
  refine o_norm ?_
  refine t_norm ?_
  rcases hh with rfl | rfl
  · refine at_cond rfl rfl e21 (fun hc => by simp at hc) (fun hc => ?_)
    refine at_skip rfl ?_
    refine t_norm ?_
    exact hfin _ M1 e0 e5 e13 hg1 hold
  · refine at_cond rfl rfl e21 (fun hc => ?_) (fun hc => by simp at hc)
    repeat refine at_seq rfl ?_
    refine at_region hS rfl (by kernel_rfl) ?_
    refine s_op (a_fa (by simp only [Zu, Nat.reduceEqDiff, ↓reduceIte, fa57_1, Nat.zero_add, hg1, Segh.cells, e13] <;> rfl)) rfl ?_
    refine s_op (a_load (by simp only [Zu, Nat.reduceEqDiff, ↓reduceIte, hg1, Segh.cells] <;> rfl) (by simp (disch := first | (refine Zx ?_; simp only [Zn]; done) | ((try simp only [Zn]); omega)) only [Zg, hg1, Segh.cells] <;> rfl) (by simp only [ld3, Zl, hg1, Segh.cells] <;> rfl)) rfl ?_
    refine s_op (a_fa (by simp only [Zu, Nat.reduceEqDiff, ↓reduceIte, fa57_0, Nat.zero_add, hg1, Segh.cells, e13] <;> rfl)) rfl ?_
    refine s_op (a_load (by simp only [Zu, Nat.reduceEqDiff, ↓reduceIte, hg1, Segh.cells] <;> rfl) (by simp (disch := first | (refine Zx ?_; simp only [Zn]; done) | ((try simp only [Zn]); omega)) only [Zg, hg1, Segh.cells] <;> rfl) (by simp only [ld3, Zl, hg1, Segh.cells] <;> rfl)) rfl ?_
    refine s_op (a_fa (by simp only [Zu, Nat.reduceEqDiff, ↓reduceIte, fa57_0, Nat.zero_add, hg1, Segh.cells, e13] <;> rfl)) rfl ?_
    refine s_op (a_store (by simp only [Zu, Nat.reduceEqDiff, ↓reduceIte, hg1, Segh.cells] <;> rfl) (by simp (disch := first | (refine Zx ?_; simp only [Zn]; done) | ((try simp only [Zn]); omega)) only [Zg, hg1, Segh.cells] <;> rfl) (by simp only [Zu, Nat.reduceEqDiff, ↓reduceIte, hg1, Segh.cells] <;> rfl) (by simp (disch := (first | omega | (simp only [List.length_cons, List.length_nil]; omega))) only [st3, List.set_cons_succ, List.set_cons_zero, hg1, Segh.cells] <;> rfl)) rfl ?_
    refine s_op (a_fa (by simp only [Zu, Nat.reduceEqDiff, ↓reduceIte, fa57_1, Nat.zero_add, hg1, Segh.cells, e13] <;> rfl)) rfl ?_
    refine s_op (a_store (by simp only [Zu, Nat.reduceEqDiff, ↓reduceIte, hg1, Segh.cells] <;> rfl) (by simp (disch := first | (refine Zx ?_; simp only [Zn]; done) | ((try simp only [Zn]); omega)) only [Zg, hg1, Segh.cells] <;> rfl) (by simp only [Zu, Nat.reduceEqDiff, ↓reduceIte, hg1, Segh.cells] <;> rfl) (by simp (disch := (first | omega | (simp only [List.length_cons, List.length_nil]; omega))) only [st3, List.set_cons_succ, List.set_cons_zero, hg1, Segh.cells] <;> rfl)) rfl ?_
    refine s_end (fun s' hs' => ?_)
    replace e0 := kp 0 hs' e0
    replace e5 := kp 5 hs' e5
    replace e13 := kp 13 hs' e13
    clear hs'
    refine o_norm ?_
    refine t_norm ?_
    refine at_mem (fun M2 hM2 => ?_)
    exact hfin _ M2 e0 e5 e13 (by rw [hM2, get_put]; rfl) (fun j hj => by rw [hM2, get_else (by omega), get_else (by omega)]; exact hold j hj)
end Go.Proofs.Ytdkdkpiemigfkaa
set_option linter.unusedVariables false
set_option linter.unusedSimpArgs false
set_option maxRecDepth 8000
namespace Go.Proofs.Ytdkdkpiemigfkaa
open Go Go.Proofs
theorem and8_bv {a b : Int} (ha : 0 ≤ a) (ha' : a ≤ 255) (hb : 0 ≤ b) (hb' : b ≤ 255) : abits .and .u8 a b = ((a.toNat &&& b.toNat : Nat) : Int) := by
  show IntKind.u8.wrap (((BitVec.ofInt 8 a &&& BitVec.ofInt 8 b).toNat : Nat) : Int) = _
  rw [and_bv ha (by omega) hb (by omega)]
  have := Nat.and_le_left (n := a.toNat) (m := b.toNat)
  exact wrap_u8 (by omega) (by omega)
theorem and8_15 {a : Int} (ha : 0 ≤ a) (ha' : a ≤ 255) : abits .and .u8 a 15 = a % 16 := by
  rw [and8_bv ha ha' (by omega) (by omega)]
  have : a.toNat &&& (2 ^ 4 - 1) = a.toNat % 2 ^ 4 := Nat.and_two_pow_sub_one_eq_mod _ _
  have e : ((15 : Int).toNat) = 2 ^ 4 - 1 := rfl
  rw [e, this]; omega
theorem numF_bound (l : List UInt8) (h : l.length = 2) : 0 ≤ numF l ∧ numF l ≤ 65535 := by
  unfold numF
  have := numGo_bound (l.drop (l.length - 7)) 0 (by decide)
  rw [show l.length - 7 = 0 from by omega, List.drop_zero] at this ⊢
  rw [h] at this
  exact ⟨this.1, by have := this.2; omega⟩
theorem numF_bound4 (l : List UInt8) (h : l.length = 4) : 0 ≤ numF l ∧ numF l ≤ 4294967295 := by
  unfold numF
  have := numGo_bound (l.drop (l.length - 7)) 0 (by decide)
  rw [show l.length - 7 = 0 from by omega, List.drop_zero] at this ⊢
  rw [h] at this
  exact ⟨this.1, by have := this.2; omega⟩
def part (l : List UInt8) (a b : Nat) : List UInt8 := (l.drop a).take (b - a)
theorem part_length {l : List UInt8} {a b : Nat} (h : b ≤ l.length) : (part l a b).length = b - a := by unfold part; rw [List.length_take, List.length_drop]; omega
def ip0 : IPh := ⟨0, 0, false, false, 0, 0, 0, 0, 0, []⟩
def byteAt (l : List UInt8) (i : Nat) : Int := (l.getD i 0).toNat
theorem byteAt_bound (l : List UInt8) (i : Nat) : 0 ≤ byteAt l i ∧ byteAt l i ≤ 255 := by
  unfold byteAt; have := (l.getD i 0).toNat_lt; omega
theorem byteAt_index {l : List UInt8} {i : Nat} (h : i < l.length) (k : IntKind) : aindex Try.prog 9 (asString l) (.int k (i : Nat)) = some (.int .u8 (byteAt l i)) := by
  rw [aindex_as Try.underlying9 (c := l.getD i 0) (by omega) (by rw [Int.toNat_natCast]; simp [h])]; rfl
def ipHead (l : List UInt8) : IPh :=
  ⟨byteAt l 1, numF (part l 4 6), !decide (abits .and .i64 (numF (part l 6 8)) 8192 = 0), !decide (abits .and .i64 (numF (part l 6 8)) 16384 = 0), numF (part l 6 8) % 8192 * 8, byteAt l 8, byteAt l 9, numF (part l 12 16), numF (part l 16 20), part l 20 (4 * (byteAt l 0 % 16)).toNat⟩
def ipGetF (l : List UInt8) : IPh × List UInt8 × Int :=
  if l.length < 20 then (ip0, [], 2) else
  if byteAt l 0 / 16 ≠ 4 ∨ 4 * (byteAt l 0 % 16) < 20 then (ip0, [], 3) else
  if (l.length : Int) < 4 * (byteAt l 0 % 16) then (ip0, [], 2) else
  if numF (part l 2 4) < 4 * (byteAt l 0 % 16) then (ip0, [], 3) else
  if (l.length : Int) < numF (part l 2 4) then (ip0, [], 2) else
  if 32768 ≤ numF (part l 6 8) then (ip0, [], 3) else
  if 2000 < numF (part l 2 4) - 4 * (byteAt l 0 % 16) then (ip0, [], 5) else
  if ocF (l.take (4 * (byteAt l 0 % 16)).toNat) ≠ 0 then (ip0, [], 4) else
  (ipHead l, part l (4 * (byteAt l 0 % 16)).toNat (numF (part l 2 4)).toNat, 0)
def retIP (r : IPh × List UInt8 × Int) : Value := .tuple #[.agg r.1.cells.toArray, asString r.2.1, .int .i64 r.2.2]
theorem bd64v (a b : Int) (c d : Bool) (e f g h i : Int) (o : List UInt8) : abuild Try.prog 64 [(0, .int .i64 a), (1, .int .i64 b), (2, .bool c), (3, .bool d), (4, .int .i64 e), (5, .int .i64 f), (6, .int .i64 g), (7, .int .u32 h), (8, .int .u32 i), (9, asString o)] = some (IPh.cells ⟨a, b, c, d, e, f, g, h, i, o⟩) :=
  abuild_all (i := _) (z := _) [1, 1, 1, 1, 1, 1, 1, 1, 1, 1] [.int .i64 a, .int .i64 b, .bool c, .bool d, .int .i64 e, .int .i64 f, .int .i64 g, .int .u32 h, .int .u32 i, asString o] Try.underlying64 (by rfl) rfl (by kernel_rfl) (by kernel_rfl) (by kernel_rfl) rfl
theorem aslice_part {l : List UInt8} {s : Slots} {M : AMem} {lo hi : Option Operand} {a b : Int} (hl : abound s 0 lo = some a) (hr : abound s (l.length : Nat) hi = some b) (h0 : 0 ≤ a) (h1 : a ≤ b) (h2 : b ≤ l.length) : aslice Try.prog s M 9 (asString l) lo hi = some (asString (part l a.toNat b.toNat)) := by
  rw [aslice_as Try.underlying9 hl hr h0 h1 h2]
  unfold part
  rw [show (b - a).toNat = b.toNat - a.toNat from by omega]
end Go.Proofs.Ytdkdkpiemigfkaa
set_option linter.unusedVariables false
set_option linter.unusedSimpArgs false
set_option maxRecDepth 8000
namespace Go.Proofs.Ytdkdkpiemigfkaa
open Go Go.Proofs
theorem zeroRow_u8 (n : Nat) : zeroRow (.int .u8 0) n = byteCells (List.replicate n 0) := by
  unfold zeroRow byteCells
  simp only [Array.toList_map, Array.toList_range, List.map_replicate]
  apply List.ext_getElem
  · simp
  · intro i h1 h2
    simp at h1
    simp only [List.getElem_map, List.getElem_range, List.getElem_replicate]
    show (#[Value.int .u8 0])[i % 1]! = _
    rw [Nat.mod_one]; rfl
theorem amks_bytes {n : Int} (h0 : 0 ≤ n) (h1 : n ≤ 1000000) (M : AMem) : amakeSlice Try.prog M 55 (.int .i64 n) (.int .i64 n) = some (.slice (some ⟨M.next, 0, none⟩) n.toNat 1, M.alloc (.cells (byteCells (List.replicate n.toNat 0)) true)) := by
  have hz : zeroRow (.int .u8 0) (n.toNat * 1) = byteCells (List.replicate n.toNat 0) := by rw [Nat.mul_one, zeroRow_u8]
  have hi : ∃ i, Try.prog.info? 5 = some i ∧ i.size = 1 ∧ i.bytes = 1 ∧ i.zero = some (.int .u8 0) := ⟨_, rfl, rfl, rfl, rfl⟩
  obtain ⟨i, hi1, hi2, hi3, hi4⟩ := hi
  unfold amakeSlice
  rw [Try.underlying55]
  simp only [hi1, hi2, hi3, hi4, hz]
  rw [if_pos ⟨trivial, rfl, byteCells_flat _ _, h0, by omega, by rw [show (2:Int)^48 = 281474976710656 from by decide]; omega⟩]
theorem aconv_bytes {l : List UInt8} (M : AMem) : aconv Try.prog M 9 55 (asString l) = some (.slice (some ⟨M.next, 0, none⟩) l.length 1, M.alloc (.cells (byteCells l) true)) := by
  have e : (⟨l.toArray⟩ : ByteArray).size = l.length := by simp [ByteArray.size]
  simp only [aconv, Try.underlying9, Try.underlying55, Try.underlying5, asString, e]
  rfl
theorem aia_u8 {id off len : Nat} {j : Int} {k : IntKind} (h0 : 0 ≤ j) (h1 : j < len) : aindexAddr Try.prog 55 (.slice (some ⟨id, off, none⟩) len 1) (.int k j) = some (.pointer (some ⟨id, off + j.toNat, none⟩)) := by
  have hi : ∃ i, Try.prog.info? 5 = some i ∧ i.size = 1 := ⟨_, rfl, rfl⟩
  obtain ⟨i, hi1, hi2⟩ := hi
  simp only [aindexAddr, Try.underlying55, hi1, hi2, h0, h1, and_self, if_true, Nat.mul_one]
theorem astr_slice {M : AMem} {id n : Nat} {l : List UInt8} {own : Bool} (hg : M.get id = .cells (byteCells l) own) (hl : l.length = n) : aconv Try.prog M 55 9 (.slice (some ⟨id, 0, none⟩) n 1) = some (asString l, M) := by
  subst hl
  have h1 : 0 + l.length ≤ (byteCells l).length := by rw [byteCells_length]; omega
  have h2 : ((byteCells l).drop 0).take l.length = byteCells l := by rw [List.drop_zero, List.take_of_length_le (by rw [byteCells_length]; omega)]
  simp only [aconv, Try.underlying55, Try.underlying9, Try.underlying5, hg, h1, if_true, h2, cellBytes_byteCells]
  rfl
def sp103 : ASpec := fun args M K => ∃ v : Int, args = [.int .i64 v] ∧ (0 ≤ v ∧ v ≤ 4611686018427387904) ∧ K (.ret (.int .i64 (foldF v))) M
theorem f103_ok : Sound Try.prog 103 sp103 := by
 refine Sound.of_awp (c := bodyOf Try.f103) Try.func103 rfl rfl rfl ?_
 rintro args M K ⟨v, rfl, ⟨h0, h1⟩, hK⟩
 refine ⟨Nat.le_of_ble_eq_true rfl, ?_⟩
 have hS := noS_ok Try.prog
 have e0 : entry [.int .i64 v] 0 = .int .i64 v := rfl
 refine at_seq rfl ?_
 refine at_region hS rfl (by kernel_rfl) ?_
 refine s_op (a_as (by simp only [ev_const] <;> rfl)) rfl ?_
 refine s_end (fun s' hs' => ?_)
 replace e0 := kp 0 hs' e0
 clear hs'
 refine o_norm ?_
 refine t_norm ?_
 refine at_seq rfl ?_
 refine at_block rfl ?_
 refine at_loop rfl (fun km s ML ds => ∃ (x : Int), s 0 = .int .i64 x ∧ 0 ≤ x ∧ x ≤ 4611686018427387904 ∧ foldF x = foldF v ∧ km = x.toNat ∧ M.next ≤ ML.next ∧ M.next ≤ ML.next ∧ (∀ j, j < M.next → ML.get j = M.get j) ∧ ds = []) ((v).toNat) ⟨v, (by first | exact e0 | (rw [e0]; rfl) | (simpa using e0)), (by omega), (by omega), rfl, rfl, (Nat.le_refl M.next), by omega, (fun _ _ => rfl), rfl⟩ ?_
 clear e0
 rintro km s M1 ds ⟨x, e0, hx0, hx1, hf, hk, hnxM1, hngM1, holdM1, rfl⟩
 refine at_seq rfl ?_
 refine at_seq rfl ?_
 refine at_region hS rfl (by kernel_rfl) ?_
 refine s_op (a_mv e0) rfl ?_
 refine s_op (a_bin (by simp (disch := omega) only [Zu, Nat.reduceEqDiff, ↓reduceIte, Zd, reduceCtorEq, abin_gtr, ne_eq, not_false_eq_true] <;> rfl)) rfl ?_
 refine s_end (fun s' hs' => ?_)
 replace e0 := kp 0 hs' e0
 have e4 := congrFun hs' 4
 simp only [Zu, Nat.reduceEqDiff, ↓reduceIte, newPtr, AMem.next_alloc] at e4
 clear hs'
 refine o_norm ?_
 refine t_norm ?_
 refine at_cond rfl rfl e4 (fun h1 => ?_) (fun h1 => ?_)
 ·
  try simp only [Zh] at h1
  refine at_skip rfl ?_
  refine t_norm ?_
  refine at_block rfl ?_
  refine at_region hS rfl (by kernel_rfl) ?_
  refine s_op (a_mv e0) rfl ?_
  refine s_op (a_bin (by simp (disch := omega) only [Zu, Nat.reduceEqDiff, ↓reduceIte, Zd, reduceCtorEq, abin_and, and_255, and_15, and_65535, and_8191, ne_eq, not_false_eq_true, shr_16] <;> rfl)) rfl ?_
  refine s_op (a_mv e0) rfl ?_
  refine s_op (a_bin (by simp (disch := omega) only [Zu, Nat.reduceEqDiff, ↓reduceIte, Zd, reduceCtorEq, shr_8, shr_16, shr_4, shr8_4, shr8_7, ne_eq, not_false_eq_true, and_65535] <;> rfl)) rfl ?_
  refine s_op (a_bin (by simp (disch := ((try simp only [List.length_append, List.length_cons, List.length_nil]); omega)) only [Zu, Nat.reduceEqDiff, ↓reduceIte, Zd, reduceCtorEq, abin_add, abin_aadd, wrap_i64, wrap_u32, wrap_u8, wrap_u64, wrap_i32, wrap_u16, ne_eq, not_false_eq_true, and_65535, shr_16] <;> rfl)) rfl ?_
  refine s_as ?_
  refine s_end (fun s' hs' => ?_)
  replace e0 := congrFun hs' 0
  simp only [Zu, Nat.reduceEqDiff, ↓reduceIte, newPtr, AMem.next_alloc] at e0
  clear hs'
  refine o_norm ?_
  refine b_norm ?_
  refine t_norm ?_
  exact ⟨(x % 65536 + x / 65536).toNat, by omega, x % 65536 + x / 65536, (by first | exact e0 | (rw [e0]; rfl) | (rw [e0]; simp; done)), (by omega), (by omega), (by rw [foldF_step (by omega)]; exact hf), rfl, hnxM1, by omega, holdM1, rfl⟩
 ·
  try simp only [Zh] at h1
  have hx : foldF v = x := by rw [← hf]; exact foldF_small hx0 (by omega)
  rw [hx] at hK
  refine at_exit rfl ?_
  refine t_exit ?_
  refine t_exit ?_
  refine b_here ?_
  refine t_norm ?_
  refine at_seq rfl ?_
  refine at_region hS rfl (by kernel_rfl) ?_
  refine s_op (a_mv e0) rfl ?_
  refine s_as ?_
  refine s_end (fun s' hs' => ?_)
  have e2 := congrFun hs' 2
  simp only [Zu, Nat.reduceEqDiff, ↓reduceIte, newPtr, AMem.next_alloc] at e2
  clear hs'
  try clear e0
  refine o_norm ?_
  refine t_norm ?_
  refine at_ret rfl ?_
  refine bq_ret rfl (ars_cons (ar_tmp e2) ars_nil) ?_
  exact ⟨_, _, hK, Canon.forget rfl holdM1⟩
def sp104 : ASpec := fun args M K => ∃ v n : Int, args = [.int .i64 v, .int .i64 n] ∧ (inI64 v ∧ 0 ≤ n ∧ n ≤ 8) ∧ K (.ret (asString (bigF v n.toNat))) M
theorem set_big {v : Int} {n i : Nat} (h : i < n) (x : Value) (hx : x = .int .u8 (UInt8.ofNat ((v / 256 ^ i) % 256).toNat).toNat) : (byteCells (List.replicate (n - i) 0 ++ bigTail v i)).set (n - 1 - i) x = byteCells (List.replicate (n - (i + 1)) 0 ++ bigTail v (i + 1)) := by
  subst hx
  have e : n - i = (n - (i + 1)) + 1 := by omega
  rw [e, List.replicate_succ', byteCells_append, byteCells_append, byteCells_append]
  have hl : (byteCells (List.replicate (n - (i + 1)) 0)).length = n - 1 - i := by rw [byteCells_length, List.length_replicate]; omega
  rw [List.append_assoc, ← hl, List.set_append_right _ _ (Nat.le_refl _), Nat.sub_self]
  simp [byteCells, bigTail]
theorem bigTail_length (v : Int) : ∀ n, (bigTail v n).length = n := by intro n; induction n with | zero => rfl | succ n ih => simp [bigTail, ih]
theorem shr_mul8 {v : Int} {i : Nat} (hi : i < 8) {k' : IntKind} : abin .shr (.int .i64 v) (.int k' (8 * (i : Int))) = some (.int .i64 (v / 256 ^ i)) := by
  have h0 : ¬ (8 * (i : Int) < 0) := by omega
  have hm : min (8 * (i : Int)).toNat IntKind.i64.bits = 8 * i := by show min _ 64 = _; omega
  have hp : (2 : Int) ^ (8 * i) = 256 ^ i := by rw [Int.pow_mul]; rfl
  simp only [abin, h0, if_false, hm, hp]
  rw [Int.fdiv_eq_ediv_of_nonneg]
  have : (0:Int) < 256 ^ i := Int.pow_pos (by decide)
  omega
theorem f104_ok : Sound Try.prog 104 sp104 := by
 refine Sound.of_awp (c := bodyOf Try.f104) Try.func104 rfl rfl rfl ?_
 rintro args M K ⟨v, n, rfl, ⟨⟨hv1, hv2⟩, hn0, hn1⟩, hK⟩
 refine ⟨Nat.le_of_ble_eq_true rfl, ?_⟩
 have hS := noS_ok Try.prog
 have e0 : entry [.int .i64 v, .int .i64 n] 0 = .int .i64 v := rfl
 have e1 : entry [.int .i64 v, .int .i64 n] 1 = .int .i64 n := rfl
 have hmk := amks_bytes hn0 (by omega)
 have hmn : max 0 (min n 8) = n := by omega
 have hnn : n.toNat ≤ 8 := by omega
 refine at_seq rfl ?_
 refine at_region hS rfl (by kernel_rfl) ?_
 refine s_op (a_as (by simp only [ev_const] <;> rfl)) rfl ?_
 refine s_end (fun s' hs' => ?_)
 replace e0 := kp 0 hs' e0
 replace e1 := kp 1 hs' e1
 clear hs'
 refine o_norm ?_
 refine t_norm ?_
 refine at_seq rfl ?_
 refine at_region hS rfl (by kernel_rfl) ?_
 refine s_op (a_mv e1) rfl ?_
 refine s_op (a_min (by simp only [Zu, Nat.reduceEqDiff, ↓reduceIte, newPtr, AMem.next_alloc] <;> rfl) (by simp only [Zu, Nat.reduceEqDiff, ↓reduceIte, newPtr, AMem.next_alloc] <;> rfl) rfl) rfl ?_
 refine s_op (a_max (by simp only [Zu, Nat.reduceEqDiff, ↓reduceIte, newPtr, AMem.next_alloc] <;> rfl) (by simp only [Zu, Nat.reduceEqDiff, ↓reduceIte, newPtr, AMem.next_alloc] <;> rfl) rfl) rfl ?_
 refine s_as ?_
 refine s_end (fun s' hs' => ?_)
 replace e0 := kp 0 hs' e0
 replace e1 := congrFun hs' 1
 simp only [Zu, Nat.reduceEqDiff, ↓reduceIte, newPtr, AMem.next_alloc] at e1
 clear hs'
 refine o_norm ?_
 rw [hmn] at e1
 refine t_norm ?_
 refine at_seq rfl ?_
 refine at_region hS rfl (by kernel_rfl) ?_
 refine s_op (a_mv e1) rfl ?_
 refine s_op (a_mks (by simp (disch := omega) only [Zu, Nat.reduceEqDiff, ↓reduceIte, hmk, newPtr, AMem.next_alloc] <;> rfl)) rfl ?_
 refine s_as ?_
 refine s_end (fun s' hs' => ?_)
 replace e0 := kp 0 hs' e0
 replace e1 := kp 1 hs' e1
 have e5 := congrFun hs' 5
 simp only [Zu, Nat.reduceEqDiff, ↓reduceIte, newPtr, AMem.next_alloc] at e5
 clear hs'
 refine o_norm ?_
 refine q_mem (fun M1 hEM1 => ?_)
 have hnM1 := congrArg AMem.next hEM1; simp only [Zn, Nat.add_assoc, Nat.reduceAdd] at hnM1
 have hnxM1 : M.next ≤ M1.next := by have := (Nat.le_refl M.next); omega
 have holdM1 : ∀ j, j < M.next → M1.get j = M.get j := fun j hj => by have := (Nat.le_refl M.next); rw [hEM1]; simp (disch := first | (refine Zx ?_; simp only [Zn]; done) | ((try simp only [Zn]); omega)) only [Zg]; done
 have gM1_0 := congrArg (fun m => AMem.get m M.next) hEM1; try simp (disch := first | (refine Zx ?_; simp only [Zn]; done) | ((try simp only [Zn]); omega)) only [Zg, Nat.add_assoc, Nat.reduceAdd] at gM1_0
 clear hEM1
 obtain ⟨bv, hbv⟩ : ∃ bv, bv = M.next := ⟨_, rfl⟩
 refine t_norm ?_
 refine at_seq rfl ?_
 refine at_seq rfl ?_
 refine at_region hS rfl (by kernel_rfl) ?_
 refine s_op (a_mv e5) rfl ?_
 refine s_op (a_len (by simp (disch := omega) only [Zu, Nat.reduceEqDiff, ↓reduceIte, alen_str, alen_slice Try.underlying55, newPtr, AMem.next_alloc, gM1_0] <;> rfl)) rfl ?_
 refine s_op (a_mv (by simp only [ev_const] <;> rfl)) rfl ?_
 refine s_end (fun s' hs' => ?_)
 replace e0 := kp 0 hs' e0
 replace e1 := kp 1 hs' e1
 replace e5 := kp 5 hs' e5
 have e13 := congrFun hs' 13
 have e14 := congrFun hs' 14
 simp only [Zu, Nat.reduceEqDiff, ↓reduceIte, newPtr, AMem.next_alloc] at e13 e14
 clear hs'
 refine o_norm ?_
 refine t_norm ?_
 refine at_block rfl ?_
 refine at_loop rfl (fun km s ML ds => ∃ (i : Nat), s 0 = .int .i64 v ∧ s 1 = .int .i64 n ∧ s 5 = .slice (some ⟨M.next, 0, none⟩) n.toNat 1 ∧ s 13 = .int .i64 n.toNat ∧ s 14 = .int .i64 i ∧ i ≤ n.toNat ∧ ML.get M.next = .cells (byteCells (List.replicate (n.toNat - i) 0 ++ bigTail v i)) true ∧ km = n.toNat - i ∧ M.next ≤ ML.next ∧ M1.next ≤ ML.next ∧ (∀ j, j < M.next → ML.get j = M.get j) ∧ ds = []) (n.toNat - (0)) ⟨0, (by first | exact e0 | (rw [e0]; rfl) | (simpa using e0)), (by first | exact e1 | (rw [e1]; rfl) | (simpa using e1)), (by first | exact e5 | (rw [e5]; rfl) | (simpa using e5)), (by first | exact e13 | (rw [e13]; rfl) | (simpa using e13)), (by first | exact e14 | (rw [e14]; rfl) | (simpa using e14)), (by omega), (by simpa [bigTail] using gM1_0), rfl, hnxM1, by omega, holdM1, rfl⟩ ?_
 clear e0 e1 e5 e13 e14
 rintro km s M2 ds ⟨i, e0, e1, e5, e13, e14, hi, gb, hk, hnxM2, hngM2, holdM2, rfl⟩
 refine at_seq rfl ?_
 refine at_region hS rfl (by kernel_rfl) ?_
 refine s_op (a_bin (by simp (disch := omega) only [Zu, Nat.reduceEqDiff, ↓reduceIte, Zd, reduceCtorEq, abin_lss, ne_eq, not_false_eq_true, gb, e13, e14] <;> rfl)) rfl ?_
 refine s_end (fun s' hs' => ?_)
 replace e0 := kp 0 hs' e0
 replace e1 := kp 1 hs' e1
 replace e5 := kp 5 hs' e5
 replace e13 := kp 13 hs' e13
 replace e14 := kp 14 hs' e14
 have e15 := congrFun hs' 15
 simp only [Zu, Nat.reduceEqDiff, ↓reduceIte, newPtr, AMem.next_alloc] at e15
 clear hs'
 refine o_norm ?_
 refine t_norm ?_
 refine at_seq rfl ?_
 refine at_cond rfl rfl e15 (fun h4 => ?_) (fun h4 => ?_)
 ·
  try simp only [Zh] at h4
  refine at_skip rfl ?_
  refine t_norm ?_
  refine at_seq rfl ?_
  refine at_block rfl ?_
  refine at_seq rfl ?_
  refine at_region hS rfl (by kernel_rfl) ?_
  refine s_op (a_mv e14) rfl ?_
  refine s_as ?_
  refine s_end (fun s' hs' => ?_)
  replace e0 := kp 0 hs' e0
  replace e1 := kp 1 hs' e1
  replace e5 := kp 5 hs' e5
  have e6 := congrFun hs' 6
  replace e13 := kp 13 hs' e13
  replace e14 := kp 14 hs' e14
  simp only [Zu, Nat.reduceEqDiff, ↓reduceIte, newPtr, AMem.next_alloc] at e6
  clear hs'
  refine o_norm ?_
  refine t_norm ?_
  have hst : astore Try.prog 5 (byteCells (List.replicate (n.toNat - i) 0 ++ bigTail v i)) (n - 1 - i).toNat (.int .u8 (v / 256 ^ i % 256)) = some (byteCells (List.replicate (n.toNat - (i + 1)) 0 ++ bigTail v (i + 1))) := by
    rw [st5 (by rw [byteCells_length, List.length_append, List.length_replicate, bigTail_length]; omega), show (n - 1 - i).toNat = n.toNat - 1 - i from by omega]
    rw [set_big (by omega) _ ?_]
    simp; omega
  refine at_region hS rfl (by kernel_rfl) ?_
  refine s_op (a_mv e5) rfl ?_
  refine s_op (a_mv e1) rfl ?_
  refine s_op (a_bin (by simp (disch := omega) only [Zu, Nat.reduceEqDiff, ↓reduceIte, Zd, reduceCtorEq, abin_sub, wrap_i64, wrap_u32, wrap_u8, wrap_u64, wrap_i32, wrap_u16, ne_eq, not_false_eq_true, aia_u8, Nat.zero_add, hst, shr_mul8, gb] <;> rfl)) rfl ?_
  refine s_op (a_mv e6) rfl ?_
  refine s_op (a_bin (by simp (disch := omega) only [Zu, Nat.reduceEqDiff, ↓reduceIte, Zd, reduceCtorEq, abin_sub, wrap_i64, wrap_u32, wrap_u8, wrap_u64, wrap_i32, wrap_u16, ne_eq, not_false_eq_true, aia_u8, Nat.zero_add, hst, shr_mul8, gb] <;> rfl)) rfl ?_
  refine s_op (a_mv e0) rfl ?_
  refine s_op (a_mv e6) rfl ?_
  refine s_op (a_bin (by simp (disch := omega) only [Zu, Nat.reduceEqDiff, ↓reduceIte, Zd, reduceCtorEq, abin_mul, wrap_i64, wrap_u32, wrap_u8, wrap_u64, wrap_i32, wrap_u16, ne_eq, not_false_eq_true, aia_u8, Nat.zero_add, hst, shr_mul8, gb] <;> rfl)) rfl ?_
  refine s_op (a_bin (by simp (disch := omega) only [Zu, Nat.reduceEqDiff, ↓reduceIte, Zd, reduceCtorEq, shr_8, shr_16, shr_4, shr8_4, shr8_7, ne_eq, not_false_eq_true, aia_u8, Nat.zero_add, hst, shr_mul8, gb] <;> rfl)) rfl ?_
  refine s_op (a_convi (by simp only [Zu, Nat.reduceEqDiff, ↓reduceIte, aia_u8, Nat.zero_add, hst, shr_mul8, newPtr, AMem.next_alloc, gb] <;> rfl) rfl rfl (by simp (disch := omega) only [wrapm_u8, Int.emod_eq_of_lt]; try rfl)) rfl ?_
  refine s_op (a_ia (by simp (disch := omega) only [Zu, Nat.reduceEqDiff, ↓reduceIte, aia_u8, Nat.zero_add, hst, shr_mul8, newPtr, AMem.next_alloc, gb] <;> rfl)) rfl ?_
  refine s_op (a_store (by simp only [Zu, Nat.reduceEqDiff, ↓reduceIte, aia_u8, Nat.zero_add, hst, shr_mul8, newPtr, AMem.next_alloc, gb] <;> rfl) (by simp (disch := first | (refine Zx ?_; simp only [Zn]; done) | ((try simp only [Zn]); omega)) only [Zg, aia_u8, Nat.zero_add, hst, shr_mul8, newPtr, gb] <;> rfl) (by simp only [Zu, Nat.reduceEqDiff, ↓reduceIte, aia_u8, Nat.zero_add, hst, shr_mul8, newPtr, AMem.next_alloc, gb] <;> rfl) (by simp (disch := (first | omega | (simp only [List.length_cons, List.length_nil]; omega))) only [st5, List.set_cons_succ, List.set_cons_zero, aia_u8, Nat.zero_add, hst, shr_mul8, newPtr, AMem.next_alloc, gb] <;> rfl)) rfl ?_
  refine s_end (fun s' hs' => ?_)
  replace e0 := kp 0 hs' e0
  replace e1 := kp 1 hs' e1
  replace e5 := kp 5 hs' e5
  replace e13 := kp 13 hs' e13
  replace e14 := kp 14 hs' e14
  clear hs'
  try clear e6
  refine o_norm ?_
  refine q_mem (fun M3 hEM3 => ?_)
  have hnM3 := congrArg AMem.next hEM3; simp only [Zn, Nat.add_assoc, Nat.reduceAdd] at hnM3
  have hnxM3 : M.next ≤ M3.next := by have := hnxM2; omega
  have holdM3 : ∀ j, j < M.next → M3.get j = M.get j := fun j hj => by have := hnxM2; rw [hEM3]; simp (disch := first | (refine Zx ?_; simp only [Zn]; done) | ((try simp only [Zn]); omega)) only [Zg]; exact holdM2 j hj
  have gM3_0 := congrArg (fun m => AMem.get m M.next) hEM3; try simp (disch := first | (refine Zx ?_; simp only [Zn]; done) | ((try simp only [Zn]); omega)) only [Zg, Nat.add_assoc, Nat.reduceAdd, gb] at gM3_0
  clear hEM3
  refine b_norm ?_
  refine t_norm ?_
  refine at_region hS rfl (by kernel_rfl) ?_
  refine s_op (a_bin (by simp (disch := ((try simp only [List.length_append, List.length_cons, List.length_nil]); omega)) only [Zu, Nat.reduceEqDiff, ↓reduceIte, Zd, reduceCtorEq, abin_add, abin_aadd, wrap_i64, wrap_u32, wrap_u8, wrap_u64, wrap_i32, wrap_u16, ne_eq, not_false_eq_true, e14] <;> rfl)) rfl ?_
  refine s_mv ?_
  refine s_end (fun s' hs' => ?_)
  replace e0 := kp 0 hs' e0
  replace e1 := kp 1 hs' e1
  replace e5 := kp 5 hs' e5
  replace e13 := kp 13 hs' e13
  replace e14 := congrFun hs' 14
  simp only [Zu, Nat.reduceEqDiff, ↓reduceIte, newPtr, AMem.next_alloc] at e14
  clear hs'
  refine o_norm ?_
  refine t_norm ?_
  exact ⟨n.toNat - (i + 1), by omega, i + 1, (by first | exact e0 | (rw [e0]; rfl) | (rw [e0]; simp; done)), (by first | exact e1 | (rw [e1]; rfl) | (rw [e1]; simp; done)), (by first | exact e5 | (rw [e5]; rfl) | (rw [e5]; simp; done)), (by first | exact e13 | (rw [e13]; rfl) | (rw [e13]; simp; done)), (by first | exact e14 | (rw [e14]; rfl) | (rw [e14]; simp; done)), (by omega), gM3_0, rfl, hnxM3, by omega, holdM3, rfl⟩
 ·
  try simp only [Zh] at h4
  have : i = n.toNat := by omega
  subst this
  rw [Nat.sub_self, List.replicate_zero, List.nil_append, ← bigF_tail] at gb
  refine at_exit rfl ?_
  refine t_exit ?_
  refine t_exit ?_
  refine b_here ?_
  refine t_norm ?_
  refine at_seq rfl ?_
  have hstr := astr_slice (M := M2) (l := bigF v n.toNat) (n := n.toNat) gb (bigF_length _ _)
  refine at_region hS rfl (by kernel_rfl) ?_
  refine s_op (a_mv e5) rfl ?_
  refine s_op (a_conv (by simp (disch := omega) only [Zu, Nat.reduceEqDiff, ↓reduceIte, hstr, newPtr, AMem.next_alloc, gb] <;> rfl)) rfl ?_
  refine s_as ?_
  refine s_end (fun s' hs' => ?_)
  have e4 := congrFun hs' 4
  simp only [Zu, Nat.reduceEqDiff, ↓reduceIte, newPtr, AMem.next_alloc] at e4
  clear hs'
  try clear e5
  refine o_norm ?_
  refine t_norm ?_
  refine at_ret rfl ?_
  refine bq_ret rfl (ars_cons (ar_tmp e4) ars_nil) ?_
  exact ⟨_, _, hK, Canon.forget rfl holdM2⟩
end Go.Proofs.Ytdkdkpiemigfkaa
set_option linter.unusedVariables false
set_option linter.unusedSimpArgs false
set_option maxRecDepth 8000
namespace Go.Proofs.Ytdkdkpiemigfkaa
open Go Go.Proofs
def sp70 : ASpec := fun args M K => ∃ l : List UInt8, args = [asString l] ∧ l.length ≤ 1000000000 ∧ K (.ret (.int .i64 (numF l))) M
theorem shl_num {a c : Int} (h0 : 0 ≤ a) (h1 : a ≤ 18446744073709551) : IntKind.i64.wrap (a * 256) = a * 256 := wrap_i64 (by omega) (by omega)
theorem f70_ok : Sound Try.prog 70 sp70 := by
 refine Sound.of_awp (c := bodyOf Try.f70) Try.func70 rfl rfl rfl ?_
 rintro args M K ⟨l, rfl, hll, hK⟩
 refine ⟨Nat.le_of_ble_eq_true rfl, ?_⟩
 have hS := noS_ok Try.prog
 have e0 : entry [asString l] 0 = asString l := rfl
 have hsl : ∀ (s : Slots) (M : AMem) (t : Nat), s t = .int .i64 (max 0 ((l.length : Int) - 7)) → aslice Try.prog s M 9 (asString l) (some (.tmp t)) none = some (asString (l.drop (l.length - 7))) := by
   intro s M t h
   rw [aslice_part (l := l) (a := max 0 ((l.length : Int) - 7)) (b := l.length) (by simp only [abound, ev_tmp, h]) rfl (by omega) (by omega) (by omega)]
   unfold part
   rw [show (max 0 ((l.length : Int) - 7)).toNat = l.length - 7 from by omega, List.take_of_length_le (by rw [List.length_drop]; omega)]
 have hd7 : (l.drop (l.length - 7)).length ≤ 7 := by rw [List.length_drop]; omega
 have hsl7 : ∀ (s : Slots) (M : AMem), s 10 = .int .i64 (max 0 ((l.length : Int) - 7)) → aslice Try.prog s M 9 (asString l) (some (.tmp 10)) none = some (asString (l.drop (l.length - 7))) := fun s M => hsl s M 10
 unfold numF at hK
 refine at_seq rfl ?_
 refine at_region hS rfl (by kernel_rfl) ?_
 refine s_op (a_as (by simp only [ev_const] <;> rfl)) rfl ?_
 refine s_end (fun s' hs' => ?_)
 replace e0 := kp 0 hs' e0
 clear hs'
 refine o_norm ?_
 refine t_norm ?_
 refine at_seq rfl ?_
 refine at_region hS rfl (by kernel_rfl) ?_
 refine s_op (a_as (by simp only [ev_const] <;> rfl)) rfl ?_
 refine s_end (fun s' hs' => ?_)
 replace e0 := kp 0 hs' e0
 have e3 := congrFun hs' 3
 simp only [Zu, Nat.reduceEqDiff, ↓reduceIte, newPtr, AMem.next_alloc] at e3
 clear hs'
 refine o_norm ?_
 refine t_norm ?_
 refine at_seq rfl ?_
 refine at_seq rfl ?_
 refine at_region hS rfl (by kernel_rfl) ?_
 refine s_op (a_mv e0) rfl ?_
 refine s_op (a_mv e0) rfl ?_
 refine s_op (a_len (by simp (disch := omega) only [Zu, Nat.reduceEqDiff, ↓reduceIte, alen_str, hlenS, aconv_bytes, alen_slice Try.underlying55, newPtr, AMem.next_alloc] <;> rfl)) rfl ?_
 refine s_op (a_bin (by simp (disch := omega) only [Zu, Nat.reduceEqDiff, ↓reduceIte, Zd, reduceCtorEq, abin_sub, wrap_i64, wrap_u32, wrap_u8, wrap_u64, wrap_i32, wrap_u16, ne_eq, not_false_eq_true, aconv_bytes, alen_slice Try.underlying55] <;> rfl)) rfl ?_
 refine s_op (a_max (by simp only [Zu, Nat.reduceEqDiff, ↓reduceIte, hlenS, aconv_bytes, alen_slice Try.underlying55, newPtr, AMem.next_alloc] <;> rfl) (by simp only [Zu, Nat.reduceEqDiff, ↓reduceIte, hlenS, aconv_bytes, alen_slice Try.underlying55, newPtr, AMem.next_alloc] <;> rfl) rfl) rfl ?_
 refine s_op (a_slice (by simp only [Zu, Nat.reduceEqDiff, ↓reduceIte, e0]; exact hsl7 _ _ (by simp only [Zu, Nat.reduceEqDiff, ↓reduceIte]))) rfl ?_
 refine s_op (a_conv (by simp (disch := omega) only [Zu, Nat.reduceEqDiff, ↓reduceIte, aconv_bytes, alen_slice Try.underlying55, newPtr, AMem.next_alloc] <;> rfl)) rfl ?_
 refine s_op (a_len (by simp (disch := omega) only [Zu, Nat.reduceEqDiff, ↓reduceIte, alen_str, hlenS, aconv_bytes, alen_slice Try.underlying55, newPtr, AMem.next_alloc] <;> rfl)) rfl ?_
 refine s_op (a_mv (by simp only [ev_const] <;> rfl)) rfl ?_
 refine s_end (fun s' hs' => ?_)
 replace e3 := kp 3 hs' e3
 have e12 := congrFun hs' 12
 have e13 := congrFun hs' 13
 have e14 := congrFun hs' 14
 simp only [Zu, Nat.reduceEqDiff, ↓reduceIte, newPtr, AMem.next_alloc] at e12 e13 e14
 clear hs'
 try clear e0
 refine o_norm ?_
 refine q_mem (fun M1 hEM1 => ?_)
 have hnM1 := congrArg AMem.next hEM1; simp only [Zn, Nat.add_assoc, Nat.reduceAdd] at hnM1
 have hnxM1 : M.next ≤ M1.next := by have := (Nat.le_refl M.next); omega
 have holdM1 : ∀ j, j < M.next → M1.get j = M.get j := fun j hj => by have := (Nat.le_refl M.next); rw [hEM1]; simp (disch := first | (refine Zx ?_; simp only [Zn]; done) | ((try simp only [Zn]); omega)) only [Zg]; done
 have gM1_0 := congrArg (fun m => AMem.get m M.next) hEM1; try simp (disch := first | (refine Zx ?_; simp only [Zn]; done) | ((try simp only [Zn]); omega)) only [Zg, Nat.add_assoc, Nat.reduceAdd] at gM1_0
 clear hEM1
 generalize l.drop (l.length - 7) = z at *
 refine t_norm ?_
 refine at_block rfl ?_
 refine at_loop rfl (fun km s ML ds => ∃ (i : Nat), s 3 = .int .i64 (numGo 0 (z.take i)) ∧ s 12 = .slice (some ⟨M.next, 0, none⟩) z.length 1 ∧ s 13 = .int .i64 z.length ∧ s 14 = .int .i64 i ∧ i ≤ z.length ∧ ML.get M.next = .cells (byteCells z) true ∧ km = z.length - i ∧ M.next ≤ ML.next ∧ M1.next ≤ ML.next ∧ (∀ j, j < M.next → ML.get j = M.get j) ∧ ds = []) (z.length - (0)) ⟨0, (by first | exact e3 | (rw [e3]; rfl) | (simpa using e3)), (by first | exact e12 | (rw [e12]; rfl) | (simpa using e12)), (by first | exact e13 | (rw [e13]; rfl) | (simpa using e13)), (by first | exact e14 | (rw [e14]; rfl) | (simpa using e14)), (by omega), gM1_0, rfl, hnxM1, by omega, holdM1, rfl⟩ ?_
 clear e3 e12 e13 e14
 rintro km s M2 ds ⟨i, e3, e12, e13, e14, hi, gb, hk, hnxM2, hngM2, holdM2, rfl⟩
 refine at_seq rfl ?_
 refine at_region hS rfl (by kernel_rfl) ?_
 refine s_op (a_bin (by simp (disch := omega) only [Zu, Nat.reduceEqDiff, ↓reduceIte, Zd, reduceCtorEq, abin_lss, ne_eq, not_false_eq_true, gb, e13, e14] <;> rfl)) rfl ?_
 refine s_end (fun s' hs' => ?_)
 replace e3 := kp 3 hs' e3
 replace e12 := kp 12 hs' e12
 replace e13 := kp 13 hs' e13
 replace e14 := kp 14 hs' e14
 have e15 := congrFun hs' 15
 simp only [Zu, Nat.reduceEqDiff, ↓reduceIte, newPtr, AMem.next_alloc] at e15
 clear hs'
 refine o_norm ?_
 refine t_norm ?_
 refine at_seq rfl ?_
 refine at_cond rfl rfl e15 (fun h3 => ?_) (fun h3 => ?_)
 ·
  try simp only [Zh] at h3
  refine at_skip rfl ?_
  refine t_norm ?_
  refine at_seq rfl ?_
  refine at_block rfl ?_
  refine at_seq rfl ?_
  have hil : i < z.length := by omega
  have hb := numGo_bound (z.take i) 0 (by decide)
  have hb3 : numGo 0 (z.take i) < 256 ^ 6 := by
    have hti : (z.take i).length ≤ 6 := by rw [List.length_take]; omega
    refine Int.lt_of_lt_of_le hb.2 ?_
    rw [Int.zero_add, Int.one_mul]
    have := Nat.pow_le_pow_right (n := 256) (by decide) hti
    exact_mod_cast this
  have hb4 : 0 ≤ numGo 0 (z.take i) := hb.1
  have hb5 : numGo 0 (z.take i) ≤ 281474976710656 := by omega
  have hcb : (0 : Int) ≤ z[i].toNat ∧ (z[i].toNat : Int) < 256 := by have := z[i].toNat_lt; omega
  have hcm : (numGo 0 (z.take i) * 256) % 256 = 0 := by omega
  have hget := byteCells_get hil
  have htk : numGo 0 (z.take (i + 1)) = numGo 0 (z.take i) * 256 + z[i].toNat := by rw [take_snoc z i hil, numGo_append]; rfl
  refine at_region hS rfl (by kernel_rfl) ?_
  refine s_op (a_ia (by simp (disch := omega) only [Zu, Nat.reduceEqDiff, ↓reduceIte, aia_u8, Int.toNat_natCast, Nat.zero_add, newPtr, AMem.next_alloc, gb, e12, e14] <;> rfl)) rfl ?_
  refine s_op (a_load (by simp only [Zu, Nat.reduceEqDiff, ↓reduceIte, aia_u8, Nat.zero_add, hget, newPtr, AMem.next_alloc, gb] <;> rfl) (by simp (disch := first | (refine Zx ?_; simp only [Zn]; done) | ((try simp only [Zn]); omega)) only [Zg, aia_u8, Nat.zero_add, hget, newPtr, gb] <;> rfl) (by simp only [ld5, Zl, aia_u8, Nat.zero_add, hget, newPtr, AMem.next_alloc, gb] <;> rfl)) rfl ?_
  refine s_as ?_
  refine s_end (fun s' hs' => ?_)
  replace e3 := kp 3 hs' e3
  have e5 := congrFun hs' 5
  replace e12 := kp 12 hs' e12
  replace e13 := kp 13 hs' e13
  replace e14 := kp 14 hs' e14
  simp only [Zu, Nat.reduceEqDiff, ↓reduceIte, newPtr, AMem.next_alloc] at e5
  clear hs'
  refine o_norm ?_
  refine t_norm ?_
  refine at_region hS rfl (by kernel_rfl) ?_
  refine s_op (a_mv e3) rfl ?_
  refine s_op (a_bin (by simp (disch := omega) only [Zu, Nat.reduceEqDiff, ↓reduceIte, Zd, reduceCtorEq, shl_8, wrap_i64, wrap_u32, wrap_u8, wrap_u64, wrap_i32, wrap_u16, ne_eq, not_false_eq_true, shl_num, gb] <;> rfl)) rfl ?_
  refine s_op (a_mv e5) rfl ?_
  refine s_op (a_convi (by simp only [Zu, Nat.reduceEqDiff, ↓reduceIte, shl_num, newPtr, AMem.next_alloc, gb] <;> rfl) rfl rfl (by simp (disch := omega) only [wrap_i64]; try rfl)) rfl ?_
  refine s_op (a_bin (by simp (disch := omega) only [Zu, Nat.reduceEqDiff, ↓reduceIte, Zd, reduceCtorEq, abin_or, or_256, ne_eq, not_false_eq_true, shl_num, gb] <;> rfl)) rfl ?_
  refine s_as ?_
  refine s_end (fun s' hs' => ?_)
  replace e3 := congrFun hs' 3
  replace e12 := kp 12 hs' e12
  replace e13 := kp 13 hs' e13
  replace e14 := kp 14 hs' e14
  simp only [Zu, Nat.reduceEqDiff, ↓reduceIte, newPtr, AMem.next_alloc] at e3
  clear hs'
  try clear e5
  refine o_norm ?_
  refine b_norm ?_
  refine t_norm ?_
  refine at_region hS rfl (by kernel_rfl) ?_
  refine s_op (a_bin (by simp (disch := ((try simp only [List.length_append, List.length_cons, List.length_nil]); omega)) only [Zu, Nat.reduceEqDiff, ↓reduceIte, Zd, reduceCtorEq, abin_add, abin_aadd, wrap_i64, wrap_u32, wrap_u8, wrap_u64, wrap_i32, wrap_u16, ne_eq, not_false_eq_true, gb, e14] <;> rfl)) rfl ?_
  refine s_mv ?_
  refine s_end (fun s' hs' => ?_)
  replace e3 := kp 3 hs' e3
  replace e12 := kp 12 hs' e12
  replace e13 := kp 13 hs' e13
  replace e14 := congrFun hs' 14
  simp only [Zu, Nat.reduceEqDiff, ↓reduceIte, newPtr, AMem.next_alloc] at e14
  clear hs'
  refine o_norm ?_
  refine t_norm ?_
  exact ⟨z.length - (i + 1), by omega, i + 1, (by rw [e3, htk]), (by first | exact e12 | (rw [e12]; rfl) | (rw [e12]; simp; done)), (by first | exact e13 | (rw [e13]; rfl) | (rw [e13]; simp; done)), (by first | exact e14 | (rw [e14]; rfl) | (rw [e14]; simp; done)), (by omega), gb, rfl, hnxM2, by omega, holdM2, rfl⟩
 ·
  try simp only [Zh] at h3
  have hiz : i = z.length := by omega
  rw [hiz, List.take_length] at e3
  refine at_exit rfl ?_
  refine t_exit ?_
  refine t_exit ?_
  refine b_here ?_
  refine t_norm ?_
  refine at_seq rfl ?_
  refine at_region hS rfl (by kernel_rfl) ?_
  refine s_op (a_mv e3) rfl ?_
  refine s_as ?_
  refine s_end (fun s' hs' => ?_)
  have e2 := congrFun hs' 2
  simp only [Zu, Nat.reduceEqDiff, ↓reduceIte, newPtr, AMem.next_alloc] at e2
  clear hs'
  try clear e3
  refine o_norm ?_
  refine t_norm ?_
  refine at_ret rfl ?_
  refine bq_ret rfl (ars_cons (ar_tmp e2) ars_nil) ?_
  exact ⟨_, _, hK, Canon.forget rfl holdM2⟩
theorem Row.at1 {M : AMem} {len : Nat} {v : Value} {cs : List Value} {t el : TypeId} {i : TypeInfo} (h : Row M 1 v len cs) (ht : Try.prog.underlying t = some (.slice el)) (hi : Try.prog.info? el = some i) (he : i.size = 1) {j : Nat} (hj : j < len) {te : TypeId} (hld : ∀ (cs : List Value) (off : Nat), aload Try.prog te cs off = cs[off]?) (hte : ∃ it, Try.prog.info? te = some it ∧ it.size = 1) (k : IntKind) :
    ∃ id off all own, aindexAddr Try.prog t v (.int k (j : Nat)) = some (.pointer (some ⟨id, off, none⟩)) ∧ id < M.next ∧ M.get id = .cells all own ∧ aload Try.prog te all off = cs[j]? := by
  obtain ⟨id, off, all, own, h1, h2, h3, h4⟩ := h.at (P := Try.prog) ht hi he (j := (j : Int)) (by omega) (by omega) k
  obtain ⟨it, hit, his⟩ := hte
  refine ⟨id, off, all, own, h1, h2, h3, ?_⟩
  have := h4 te it 0 hit (by omega) (by omega)
  rw [Nat.add_zero, Int.toNat_natCast, Nat.mul_one, Nat.add_zero] at this
  rw [this, hld]
def sp95 : ASpec := fun args M K => ∃ (lv : Value) (ps : List (List UInt8)), args = [lv] ∧ Row M 1 lv ps.length (ps.map asString) ∧ (ps.flatten.length ≤ 1000000000 ∧ ps.length ≤ 1000000000) ∧ K (.ret (.int .i64 (ocF ps.flatten))) M
noncomputable def S95 : FuncId → ASpec := tab [(103, sp103)]
theorem S95_103 : S95 103 = sp103 := rfl
theorem S95_ok : ∀ f, Sound Try.prog f (S95 f) := tab_sound _ (by simp [f103_ok])
def parB (m : Nat) (c : Int) : Int := if m % 2 = 0 then c * 256 else c
theorem shl_par {c : Int} {m : Nat} {k' : IntKind} (h0 : 0 ≤ c) (h1 : c < 256) : abin .shl (.int .i64 c) (.int k' (8 * (1 - (m : Int) % 2))) = some (.int .i64 (parB m c)) := by
  unfold parB
  rcases Nat.mod_two_eq_zero_or_one m with h | h
  · have e : 8 * (1 - (m : Int) % 2) = 8 := by omega
    have hw : IntKind.i64.wrap (c * 2 ^ 8) = c * 256 := by rw [show (2:Int)^8 = 256 from by decide]; exact wrap_i64 (by omega) (by omega)
    rw [e, abin_shl (by omega), if_pos h, show min (8 : Int).toNat IntKind.i64.bits = 8 from by decide, hw]
  · have e : 8 * (1 - (m : Int) % 2) = 0 := by omega
    have hw : IntKind.i64.wrap (c * 2 ^ 0) = c := by rw [show (2:Int)^0 = 1 from by decide, Int.mul_one]; exact wrap_i64 (by omega) (by omega)
    rw [e, abin_shl (by omega), if_neg (by omega), show min (0 : Int).toNat IntKind.i64.bits = 0 from by decide, hw]
theorem sumB_snoc (a : List UInt8) (c : UInt8) : sumB 0 (a ++ [c]) = sumB 0 a + parB a.length c.toNat := by
  rw [sumB_append]; simp only [sumB, Nat.zero_add, parB, Int.add_zero]; split <;> simp
theorem parB_bound {m : Nat} {c : Int} (h0 : 0 ≤ c) (h1 : c < 256) : 0 ≤ parB m c ∧ parB m c ≤ 65535 := by unfold parB; split <;> omega
theorem flatten_le {ps : List (List UInt8)} {j : Nat} (h : j < ps.length) : (ps.take j).flatten.length + ps[j].length ≤ ps.flatten.length := by
  have e : ps.flatten = (ps.take j).flatten ++ (ps[j] ++ (ps.drop (j + 1)).flatten) := by
    conv => lhs; rw [← List.take_append_drop j ps]
    rw [List.flatten_append, List.drop_eq_getElem_cons h, List.flatten_cons]
  rw [e, List.length_append, List.length_append]; omega
theorem flatten_snoc {ps : List (List UInt8)} {j : Nat} (h : j < ps.length) : (ps.take (j + 1)).flatten = (ps.take j).flatten ++ ps[j] := by
  rw [take_snoc ps j h, List.flatten_append, List.flatten_cons, List.flatten_nil, List.append_nil]
theorem f95_ok : Sound Try.prog 95 sp95 := by
 refine Sound.of_awp (c := bodyOf Try.f95) Try.func95 rfl rfl rfl ?_
 rintro args M K ⟨lv, ps, rfl, hrow, ⟨hf, hp⟩, hK⟩
 refine ⟨Nat.le_of_ble_eq_true rfl, ?_⟩
 have hS := S95_ok
 have e0 : entry [lv] 0 = lv := rfl
 refine at_seq rfl ?_
 refine at_region hS rfl (by kernel_rfl) ?_
 refine s_op (a_as (by simp only [ev_const] <;> rfl)) rfl ?_
 refine s_end (fun s' hs' => ?_)
 replace e0 := kp 0 hs' e0
 clear hs'
 refine o_norm ?_
 refine t_norm ?_
 refine at_seq rfl ?_
 refine at_region hS rfl (by kernel_rfl) ?_
 refine s_op (a_as (by simp only [ev_const] <;> rfl)) rfl ?_
 refine s_op (a_as (by simp only [ev_const] <;> rfl)) rfl ?_
 refine s_end (fun s' hs' => ?_)
 replace e0 := kp 0 hs' e0
 have e3 := congrFun hs' 3
 have e4 := congrFun hs' 4
 simp only [Zu, Nat.reduceEqDiff, ↓reduceIte, newPtr, AMem.next_alloc] at e3 e4
 clear hs'
 refine o_norm ?_
 refine t_norm ?_
 refine at_seq rfl ?_
 refine at_seq rfl ?_
 refine at_region hS rfl (by kernel_rfl) ?_
 refine s_op (a_mv e0) rfl ?_
 refine s_op (a_len (by simp (disch := omega) only [Zu, Nat.reduceEqDiff, ↓reduceIte, alen_str, Row.len hrow (P := Try.prog) Try.underlying45, newPtr, AMem.next_alloc] <;> rfl)) rfl ?_
 refine s_op (a_mv (by simp only [ev_const] <;> rfl)) rfl ?_
 refine s_end (fun s' hs' => ?_)
 replace e3 := kp 3 hs' e3
 replace e4 := kp 4 hs' e4
 have e8 := congrFun hs' 8
 have e9 := congrFun hs' 9
 have e10 := congrFun hs' 10
 simp only [Zu, Nat.reduceEqDiff, ↓reduceIte, newPtr, AMem.next_alloc] at e8 e9 e10
 clear hs'
 try clear e0
 refine o_norm ?_
 refine t_norm ?_
 refine at_block rfl ?_
 refine at_loop rfl (fun km s ML ds => ∃ (j : Nat), s 3 = .int .i64 (foldF (sumB 0 (ps.take j).flatten)) ∧ s 4 = .int .i64 (ps.take j).flatten.length ∧ s 8 = lv ∧ s 9 = .int .i64 ps.length ∧ s 10 = .int .i64 j ∧ j ≤ ps.length ∧ km = ps.length - j ∧ M.next ≤ ML.next ∧ M.next ≤ ML.next ∧ (∀ j, j < M.next → ML.get j = M.get j) ∧ ds = []) (ps.length - (0)) ⟨0, (by first | exact e3 | (rw [e3]; rfl) | (simpa using e3)), (by first | exact e4 | (rw [e4]; rfl) | (simpa using e4)), (by first | exact e8 | (rw [e8]; rfl) | (simpa using e8)), (by first | exact e9 | (rw [e9]; rfl) | (simpa using e9)), (by first | exact e10 | (rw [e10]; rfl) | (simpa using e10)), (by omega), rfl, (Nat.le_refl M.next), by omega, (fun _ _ => rfl), rfl⟩ ?_
 clear e3 e4 e8 e9 e10
 rintro km s M1 ds ⟨j, e3, e4, e8, e9, e10, hj, hk, hnxM1, hngM1, holdM1, rfl⟩
 refine at_seq rfl ?_
 refine at_region hS rfl (by kernel_rfl) ?_
 refine s_op (a_bin (by simp (disch := omega) only [Zu, Nat.reduceEqDiff, ↓reduceIte, Zd, reduceCtorEq, abin_lss, ne_eq, not_false_eq_true, e9, e10] <;> rfl)) rfl ?_
 refine s_end (fun s' hs' => ?_)
 replace e3 := kp 3 hs' e3
 replace e4 := kp 4 hs' e4
 replace e8 := kp 8 hs' e8
 replace e9 := kp 9 hs' e9
 replace e10 := kp 10 hs' e10
 have e11 := congrFun hs' 11
 simp only [Zu, Nat.reduceEqDiff, ↓reduceIte, newPtr, AMem.next_alloc] at e11
 clear hs'
 refine o_norm ?_
 refine t_norm ?_
 refine at_seq rfl ?_
 refine at_cond rfl rfl e11 (fun h3 => ?_) (fun h3 => ?_)
 ·
  try simp only [Zh] at h3
  refine at_skip rfl ?_
  refine t_norm ?_
  refine at_seq rfl ?_
  refine at_block rfl ?_
  refine at_seq rfl ?_
  have hjl : j < ps.length := by omega
  have hrow' := hrow.keep (M' := M1) hnxM1 holdM1
  obtain ⟨id, off, all, own, hia, hid, hget, hld⟩ := hrow'.at1 Try.underlying45 (i := _) (by rfl) rfl hjl ld9 ⟨_, rfl, rfl⟩ .i64
  rw [show (ps.map asString)[j]? = some (asString ps[j]) from by simp [hjl]] at hld
  have hfl := flatten_le hjl
  refine at_region hS rfl (by kernel_rfl) ?_
  refine s_op (a_ia (by simp (disch := omega) only [Zu, Nat.reduceEqDiff, ↓reduceIte, hia, newPtr, AMem.next_alloc, e8, e10] <;> rfl)) rfl ?_
  refine s_op (a_load (by simp only [Zu, Nat.reduceEqDiff, ↓reduceIte, hget, hld, newPtr, AMem.next_alloc] <;> rfl) (by simp (disch := first | (refine Zx ?_; simp only [Zn]; done) | ((try simp only [Zn]); omega)) only [Zg, hget, hld, newPtr] <;> rfl) (by simp only [ld9, Zl, hget, hld, newPtr, AMem.next_alloc] <;> rfl)) rfl ?_
  refine s_as ?_
  refine s_end (fun s' hs' => ?_)
  replace e3 := kp 3 hs' e3
  replace e4 := kp 4 hs' e4
  have e6 := congrFun hs' 6
  replace e8 := kp 8 hs' e8
  replace e9 := kp 9 hs' e9
  replace e10 := kp 10 hs' e10
  simp only [Zu, Nat.reduceEqDiff, ↓reduceIte, newPtr, AMem.next_alloc] at e6
  clear hs'
  refine o_norm ?_
  refine t_norm ?_
  refine at_seq rfl ?_
  clear hia hget hld hid
  generalize hA : (ps.take j).flatten = A at *
  generalize hP : ps[j] = p at *
  refine at_region hS rfl (by kernel_rfl) ?_
  refine s_op (a_mv e6) rfl ?_
  refine s_op (a_len (by simp (disch := omega) only [Zu, Nat.reduceEqDiff, ↓reduceIte, alen_str, hlenS, newPtr, AMem.next_alloc] <;> rfl)) rfl ?_
  refine s_op (a_mv (by simp only [ev_const] <;> rfl)) rfl ?_
  refine s_end (fun s' hs' => ?_)
  replace e3 := kp 3 hs' e3
  replace e4 := kp 4 hs' e4
  replace e6 := kp 6 hs' e6
  replace e8 := kp 8 hs' e8
  replace e9 := kp 9 hs' e9
  replace e10 := kp 10 hs' e10
  have e15 := congrFun hs' 15
  have e16 := congrFun hs' 16
  simp only [Zu, Nat.reduceEqDiff, ↓reduceIte, newPtr, AMem.next_alloc] at e15 e16
  clear hs'
  refine o_norm ?_
  refine t_norm ?_
  refine at_block rfl ?_
  refine at_loop rfl (fun km s ML ds => ∃ (i : Nat), s 3 = .int .i64 (foldF (sumB 0 (A ++ p.take i))) ∧ s 4 = .int .i64 (A.length + i : Nat) ∧ s 6 = asString p ∧ s 8 = lv ∧ s 9 = .int .i64 ps.length ∧ s 10 = .int .i64 j ∧ s 15 = .int .i64 p.length ∧ s 16 = .int .i64 i ∧ i ≤ p.length ∧ km = p.length - i ∧ M.next ≤ ML.next ∧ M1.next ≤ ML.next ∧ (∀ j, j < M.next → ML.get j = M.get j) ∧ ds = []) (p.length - (0)) ⟨0, (by first | exact e3 | (rw [e3]; rfl) | (simpa using e3)), (by first | exact e4 | (rw [e4]; rfl) | (simpa using e4)), (by first | exact e6 | (rw [e6]; rfl) | (simpa using e6)), (by first | exact e8 | (rw [e8]; rfl) | (simpa using e8)), (by first | exact e9 | (rw [e9]; rfl) | (simpa using e9)), (by first | exact e10 | (rw [e10]; rfl) | (simpa using e10)), (by first | exact e15 | (rw [e15]; rfl) | (simpa using e15)), (by first | exact e16 | (rw [e16]; rfl) | (simpa using e16)), (by omega), rfl, hnxM1, by omega, holdM1, rfl⟩ ?_
  clear e3 e4 e6 e8 e9 e10 e15 e16
  rintro km s M2 ds ⟨i, e3, e4, e6, e8, e9, e10, e15, e16, hi, hk, hnxM2, hngM2, holdM2, rfl⟩
  refine at_seq rfl ?_
  skip
  refine at_region hS rfl (by kernel_rfl) ?_
  refine s_op (a_bin (by simp (disch := omega) only [Zu, Nat.reduceEqDiff, ↓reduceIte, Zd, reduceCtorEq, abin_lss, ne_eq, not_false_eq_true, e15, e16] <;> rfl)) rfl ?_
  refine s_end (fun s' hs' => ?_)
  replace e3 := kp 3 hs' e3
  replace e4 := kp 4 hs' e4
  replace e6 := kp 6 hs' e6
  replace e8 := kp 8 hs' e8
  replace e9 := kp 9 hs' e9
  replace e10 := kp 10 hs' e10
  replace e15 := kp 15 hs' e15
  replace e16 := kp 16 hs' e16
  have e17 := congrFun hs' 17
  simp only [Zu, Nat.reduceEqDiff, ↓reduceIte, newPtr, AMem.next_alloc] at e17
  clear hs'
  refine o_norm ?_
  refine t_norm ?_
  refine at_seq rfl ?_
  refine at_cond rfl rfl e17 (fun h6 => ?_) (fun h6 => ?_)
  ·
   try simp only [Zh] at h6
   refine at_skip rfl ?_
   refine t_norm ?_
   refine at_seq rfl ?_
   refine at_block rfl ?_
   refine at_seq rfl ?_
   have hil : i < p.length := by omega
   have hx : aindex Try.prog 9 (asString p) (.int .i64 i) = some (.int .u8 p[i].toNat) := aindex_as Try.underlying9 (by omega) (by simp [hil])
   have hc : (0:Int) ≤ p[i].toNat ∧ (p[i].toNat : Int) < 256 := by have := p[i].toNat_lt; omega
   have hpb := parB_bound (m := A.length + i) hc.1 hc.2
   have hfb := foldF_bound (sumB_nonneg (A ++ p.take i) 0)
   have htk : foldF (sumB 0 (A ++ p.take (i + 1))) = foldF (foldF (sumB 0 (A ++ p.take i)) + parB (A.length + i) p[i].toNat) := by
     rw [take_snoc p i hil, ← List.append_assoc, sumB_snoc, foldF_add (sumB_nonneg _ 0) hpb.1]
     congr 3; simp; omega
   refine at_region hS rfl (by kernel_rfl) ?_
   refine s_op (a_mv e16) rfl ?_
   refine s_as ?_
   refine s_end (fun s' hs' => ?_)
   replace e3 := kp 3 hs' e3
   replace e4 := kp 4 hs' e4
   replace e6 := kp 6 hs' e6
   have e7 := congrFun hs' 7
   replace e8 := kp 8 hs' e8
   replace e9 := kp 9 hs' e9
   replace e10 := kp 10 hs' e10
   replace e15 := kp 15 hs' e15
   replace e16 := kp 16 hs' e16
   simp only [Zu, Nat.reduceEqDiff, ↓reduceIte, newPtr, AMem.next_alloc] at e7
   clear hs'
   refine o_norm ?_
   refine t_norm ?_
   refine at_seq rfl ?_
   refine at_region hS rfl (by kernel_rfl) ?_
   refine s_op (a_mv e3) rfl ?_
   refine s_op (a_mv e6) rfl ?_
   refine s_op (a_mv e7) rfl ?_
   refine s_op (a_index (by simp (disch := omega) only [Zu, Nat.reduceEqDiff, ↓reduceIte, hx, shl_par] <;> rfl)) rfl ?_
   refine s_op (a_convi (by simp only [Zu, Nat.reduceEqDiff, ↓reduceIte, hx, shl_par, newPtr, AMem.next_alloc] <;> rfl) rfl rfl (by simp (disch := omega) only [wrap_i64]; try rfl)) rfl ?_
   refine s_op (a_mv e4) rfl ?_
   refine s_op (a_bin (by simp (disch := omega) only [Zu, Nat.reduceEqDiff, ↓reduceIte, Zd, reduceCtorEq, abin_rem, Int.tmod_eq_emod_of_nonneg, ne_eq, not_false_eq_true, hx, shl_par] <;> rfl)) rfl ?_
   refine s_op (a_bin (by simp (disch := omega) only [Zu, Nat.reduceEqDiff, ↓reduceIte, Zd, reduceCtorEq, abin_sub, wrap_i64, wrap_u32, wrap_u8, wrap_u64, wrap_i32, wrap_u16, ne_eq, not_false_eq_true, hx, shl_par] <;> rfl)) rfl ?_
   refine s_op (a_bin (by simp (disch := omega) only [Zu, Nat.reduceEqDiff, ↓reduceIte, Zd, reduceCtorEq, abin_mul, wrap_i64, wrap_u32, wrap_u8, wrap_u64, wrap_i32, wrap_u16, ne_eq, not_false_eq_true, hx, shl_par] <;> rfl)) rfl ?_
   refine s_op (a_bin (by simp (disch := omega) only [Zu, Nat.reduceEqDiff, ↓reduceIte, Zd, reduceCtorEq, shl_8, wrap_i64, wrap_u32, wrap_u8, wrap_u64, wrap_i32, wrap_u16, ne_eq, not_false_eq_true, hx, shl_par] <;> rfl)) rfl ?_
   refine s_op (a_bin (by simp (disch := ((try simp only [List.length_append, List.length_cons, List.length_nil]); omega)) only [Zu, Nat.reduceEqDiff, ↓reduceIte, Zd, reduceCtorEq, abin_add, abin_aadd, wrap_i64, wrap_u32, wrap_u8, wrap_u64, wrap_i32, wrap_u16, ne_eq, not_false_eq_true, hx, shl_par] <;> rfl)) rfl ?_
   refine s_call (by simp only [Zu, Nat.reduceEqDiff, ↓reduceIte, hx, shl_par, newPtr, AMem.next_alloc] <;> rfl) (by simp only [Zu, Nat.reduceEqDiff, ↓reduceIte, Zm, hx, shl_par, newPtr, AMem.next_alloc] <;> rfl) ?_
   rw [S95_103]; refine ⟨_, rfl, ⟨by omega, by omega⟩, ?_⟩
   show EA _ _ _ _ _ _
   refine s_as ?_
   refine s_end (fun s' hs' => ?_)
   replace e3 := congrFun hs' 3
   replace e4 := kp 4 hs' e4
   replace e6 := kp 6 hs' e6
   replace e8 := kp 8 hs' e8
   replace e9 := kp 9 hs' e9
   replace e10 := kp 10 hs' e10
   replace e15 := kp 15 hs' e15
   replace e16 := kp 16 hs' e16
   simp only [Zu, Nat.reduceEqDiff, ↓reduceIte, newPtr, AMem.next_alloc] at e3
   clear hs'
   try clear e7
   refine o_norm ?_
   refine t_norm ?_
   refine at_region hS rfl (by kernel_rfl) ?_
   refine s_op (a_mv e4) rfl ?_
   refine s_op (a_bin (by simp (disch := ((try simp only [List.length_append, List.length_cons, List.length_nil]); omega)) only [Zu, Nat.reduceEqDiff, ↓reduceIte, Zd, reduceCtorEq, abin_add, abin_aadd, wrap_i64, wrap_u32, wrap_u8, wrap_u64, wrap_i32, wrap_u16, ne_eq, not_false_eq_true] <;> rfl)) rfl ?_
   refine s_as ?_
   refine s_end (fun s' hs' => ?_)
   replace e3 := kp 3 hs' e3
   replace e4 := congrFun hs' 4
   replace e6 := kp 6 hs' e6
   replace e8 := kp 8 hs' e8
   replace e9 := kp 9 hs' e9
   replace e10 := kp 10 hs' e10
   replace e15 := kp 15 hs' e15
   replace e16 := kp 16 hs' e16
   simp only [Zu, Nat.reduceEqDiff, ↓reduceIte, newPtr, AMem.next_alloc] at e4
   clear hs'
   refine o_norm ?_
   refine b_norm ?_
   refine t_norm ?_
   refine at_region hS rfl (by kernel_rfl) ?_
   refine s_op (a_bin (by simp (disch := ((try simp only [List.length_append, List.length_cons, List.length_nil]); omega)) only [Zu, Nat.reduceEqDiff, ↓reduceIte, Zd, reduceCtorEq, abin_add, abin_aadd, wrap_i64, wrap_u32, wrap_u8, wrap_u64, wrap_i32, wrap_u16, ne_eq, not_false_eq_true, e16] <;> rfl)) rfl ?_
   refine s_mv ?_
   refine s_end (fun s' hs' => ?_)
   replace e3 := kp 3 hs' e3
   replace e4 := kp 4 hs' e4
   replace e6 := kp 6 hs' e6
   replace e8 := kp 8 hs' e8
   replace e9 := kp 9 hs' e9
   replace e10 := kp 10 hs' e10
   replace e15 := kp 15 hs' e15
   replace e16 := congrFun hs' 16
   simp only [Zu, Nat.reduceEqDiff, ↓reduceIte, newPtr, AMem.next_alloc] at e16
   clear hs'
   refine o_norm ?_
   refine t_norm ?_
   exact ⟨p.length - (i + 1), by omega, i + 1, (by rw [e3, htk]), (by first | exact e4 | (rw [e4]; rfl) | (rw [e4]; simp; done)), (by first | exact e6 | (rw [e6]; rfl) | (rw [e6]; simp; done)), (by first | exact e8 | (rw [e8]; rfl) | (rw [e8]; simp; done)), (by first | exact e9 | (rw [e9]; rfl) | (rw [e9]; simp; done)), (by first | exact e10 | (rw [e10]; rfl) | (rw [e10]; simp; done)), (by first | exact e15 | (rw [e15]; rfl) | (rw [e15]; simp; done)), (by first | exact e16 | (rw [e16]; rfl) | (rw [e16]; simp; done)), (by omega), rfl, hnxM2, by omega, holdM2, rfl⟩
  ·
   try simp only [Zh] at h6
   have hiz : i = p.length := by omega
   rw [hiz, List.take_length] at e3
   rw [hiz] at e4
   rw [show ((A.length + p.length : Nat) : Int) = ((A ++ p).length : Nat) from by simp] at e4
   refine at_exit rfl ?_
   refine t_exit ?_
   refine t_exit ?_
   refine b_here ?_
   refine b_norm ?_
   refine t_norm ?_
   refine at_region hS rfl (by kernel_rfl) ?_
   refine s_op (a_bin (by simp (disch := ((try simp only [List.length_append, List.length_cons, List.length_nil]); omega)) only [Zu, Nat.reduceEqDiff, ↓reduceIte, Zd, reduceCtorEq, abin_add, abin_aadd, wrap_i64, wrap_u32, wrap_u8, wrap_u64, wrap_i32, wrap_u16, ne_eq, not_false_eq_true, e10] <;> rfl)) rfl ?_
   refine s_mv ?_
   refine s_end (fun s' hs' => ?_)
   replace e3 := kp 3 hs' e3
   replace e4 := kp 4 hs' e4
   replace e8 := kp 8 hs' e8
   replace e9 := kp 9 hs' e9
   replace e10 := congrFun hs' 10
   simp only [Zu, Nat.reduceEqDiff, ↓reduceIte, newPtr, AMem.next_alloc] at e10
   clear hs'
   refine o_norm ?_
   refine t_norm ?_
   exact ⟨ps.length - (j + 1), by omega, j + 1, (by rw [flatten_snoc hjl, hA, hP]; exact e3), (by rw [flatten_snoc hjl, hA, hP]; exact e4), (by first | exact e8 | (rw [e8]; rfl) | (rw [e8]; simp; done)), (by first | exact e9 | (rw [e9]; rfl) | (rw [e9]; simp; done)), (by first | exact e10 | (rw [e10]; rfl) | (rw [e10]; simp; done)), (by omega), rfl, hnxM2, by omega, holdM2, rfl⟩
 ·
  try simp only [Zh] at h3
  refine at_exit rfl ?_
  refine t_exit ?_
  refine t_exit ?_
  refine b_here ?_
  refine t_norm ?_
  refine at_seq rfl ?_
  have hjz : j = ps.length := by omega
  rw [hjz, List.take_length] at e3
  have hfb := foldF_bound (sumB_nonneg ps.flatten 0)
  refine at_region hS rfl (by kernel_rfl) ?_
  refine s_op (a_mv e3) rfl ?_
  refine s_op (a_un (by simp (disch := omega) only [Zu, Nat.reduceEqDiff, ↓reduceIte, Zd, reduceCtorEq, aun, wrap_i64, IntKind.signed, not_and] <;> rfl)) rfl ?_
  refine s_op (a_bin (by simp (disch := omega) only [Zu, Nat.reduceEqDiff, ↓reduceIte, Zd, reduceCtorEq, abin_and, and_255, and_15, and_65535, and_8191, ne_eq, not_false_eq_true, not_and] <;> rfl)) rfl ?_
  refine s_as ?_
  refine s_end (fun s' hs' => ?_)
  have e2 := congrFun hs' 2
  simp only [Zu, Nat.reduceEqDiff, ↓reduceIte, newPtr, AMem.next_alloc] at e2
  clear hs'
  try clear e3
  refine o_norm ?_
  refine t_norm ?_
  refine at_ret rfl ?_
  refine bq_ret rfl (ars_cons (ar_tmp e2) ars_nil) ?_
  exact ⟨_, _, hK, Canon.forget rfl holdM1⟩
end Go.Proofs.Ytdkdkpiemigfkaa
set_option linter.unusedVariables false
set_option linter.unusedSimpArgs false
set_option maxRecDepth 8000
namespace Go.Proofs.Ytdkdkpiemigfkaa
open Go Go.Proofs
def aint : Value → Option Int
  | .int _ j => some j
  | _ => none
theorem aint_int (k : IntKind) (j : Int) : aint (.int k j) = some j := rfl
theorem ab_none (s : Slots) (d : Int) : abound s d none = some d := rfl
theorem ab_some (s : Slots) (d : Int) (x : Operand) : abound s d (some x) = aint (ev s x) := by
  simp only [abound]
  cases ev s x <;> rfl
def strpart (l : List UInt8) (a b : Int) : Option Value := if 0 ≤ a ∧ a ≤ b ∧ b ≤ l.length then some (asString (part l a.toNat b.toNat)) else none
def asl2 (l : List UInt8) : Option Int → Option Int → Option Value
  | some a, some b => strpart l a b
  | _, _ => none
theorem asl2_some (l : List UInt8) (a b : Int) : asl2 l (some a) (some b) = strpart l a b := rfl
theorem strpart_ok {l : List UInt8} {a b : Int} (h0 : 0 ≤ a) (h1 : a ≤ b) (h2 : b ≤ l.length) : strpart l a b = some (asString (part l a.toNat b.toNat)) := if_pos ⟨h0, h1, h2⟩
theorem asl_str (s : Slots) (M : AMem) (l : List UInt8) (lo hi : Option Operand) : aslice Try.prog s M 9 (asString l) lo hi = asl2 l (abound s 0 lo) (abound s (l.length : Nat) hi) := by
  have e : (⟨l.toArray⟩ : ByteArray).size = l.length := as_size
  simp only [aslice, Try.underlying9, asString, e]
  cases ha : abound s 0 lo with
  | none => rfl
  | some a =>
    cases hb : abound s (l.length : Nat) hi with
    | none => rfl
    | some b =>
      simp only [asl2, strpart]
      by_cases h : 0 ≤ a ∧ a ≤ b ∧ b ≤ l.length
      · rw [if_pos h, if_pos h]
        unfold part
        rw [show (b - a).toNat = b.toNat - a.toNat from by omega]
        rfl
      · rw [if_neg h, if_neg h]
theorem aidx {l : List UInt8} {a : Int} {k : IntKind} (h0 : 0 ≤ a) (h1 : a < l.length) : aindex Try.prog 9 (asString l) (.int k a) = some (.int .u8 (byteAt l a.toNat)) := by
  have := byteAt_index (l := l) (i := a.toNat) (by omega) k
  rw [show ((a.toNat : Nat) : Int) = a from by omega] at this
  exact this
theorem Zs : (∀ (s : Slots) (M : AMem) (l : List UInt8) (lo hi : Option Operand), aslice Try.prog s M 9 (asString l) lo hi = asl2 l (abound s 0 lo) (abound s (l.length : Nat) hi)) ∧ (∀ (l : List UInt8) (a b : Int), asl2 l (some a) (some b) = strpart l a b) ∧
    (∀ (l : List UInt8) (a b : Int), 0 ≤ a → a ≤ b → b ≤ l.length → strpart l a b = some (asString (part l a.toNat b.toNat))) ∧ (∀ (s : Slots) (d : Int), abound s d none = some d) ∧ (∀ (s : Slots) (d : Int) (x : Operand), abound s d (some x) = aint (ev s x)) ∧
    (∀ (k : IntKind) (j : Int), aint (.int k j) = some j) ∧ (∀ n : Nat, ((n : Int)).toNat = n) ∧ (∀ (l : List UInt8) (a : Int) (k : IntKind), 0 ≤ a → a < l.length → aindex Try.prog 9 (asString l) (.int k a) = some (.int .u8 (byteAt l a.toNat))) :=
  ⟨asl_str, asl2_some, fun _ _ _ h0 h1 h2 => strpart_ok h0 h1 h2, ab_none, ab_some, aint_int, Int.toNat_natCast, fun _ _ _ h0 h1 => aidx h0 h1⟩
theorem aslice_arr59 {s : Slots} {M : AMem} {id off : Nat} {cs : List Value} {own : Bool} (hg : M.get id = .cells cs own) (hl : off + 6 ≤ cs.length) : aslice Try.prog s M 59 (.pointer (some ⟨id, off, none⟩)) none none = some (.slice (some ⟨id, off, none⟩) 6 1) := by
  have hi : ∃ i, Try.prog.info? 5 = some i ∧ i.size = 1 := ⟨_, rfl, rfl⟩
  obtain ⟨i, hi1, hi2⟩ := hi
  simp only [aslice, Try.underlying59, hi1, hg, abound, hi2]
  rw [if_pos ⟨by omega, by decide, by decide, by decide⟩]
  rfl
theorem acopy_str {M : AMem} {id off : Nat} {cs : List Value} {l : List UInt8} (hg : M.get id = .cells cs true) (hl : off + 6 ≤ cs.length) (h6 : 6 ≤ l.length) : acopyOp Try.prog M 55 (.slice (some ⟨id, off, none⟩) 6 1) (asString l) = some (.int .i64 6, M.set id (.cells (aput cs off (byteCells (l.take 6))) true)) := by
  have hi : ∃ i, Try.prog.info? 5 = some i ∧ i.size = 1 := ⟨_, rfl, rfl⟩
  obtain ⟨i, hi1, hi2⟩ := hi
  have hs : asrc M 1 (asString l) = some (l.length, byteCells l) := by
    have e : (⟨l.toArray⟩ : ByteArray).size = l.length := as_size
    show (if 1 = 1 then some ((⟨l.toArray⟩ : ByteArray).size, bcells ⟨l.toArray⟩) else none) = _
    rw [if_pos rfl, e]; rfl
  have hm : min l.length 6 = 6 := by omega
  simp only [acopyOp, Try.underlying55, hi1, hg, hi2, hs, hm, byteCells_one]
  rw [if_pos ⟨trivial, by omega, trivial⟩]
  simp [byteCells, List.map_take]
theorem aput_eth1 {d d' s : List UInt8} {t : Int} (hd : d.length = 6) (hd' : d'.length = 6) : aput (ethCells d s t) 0 (byteCells d') = ethCells d' s t := by
  have := aput_mid (byteCells d') [] (byteCells d) (byteCells s ++ [.int .i64 t]) (by simp [byteCells_length, hd, hd'])
  simpa [ethCells] using this
theorem aput_eth2 {d s s' : List UInt8} {t : Int} (hd : d.length = 6) (hs : s.length = 6) (hs' : s'.length = 6) : aput (ethCells d s t) 6 (byteCells s') = ethCells d s' t := by
  have := aput_mid (byteCells s') (byteCells d) (byteCells s) [.int .i64 t] (by simp [byteCells_length, hs, hs'])
  rw [byteCells_length, hd] at this
  simpa [ethCells] using this
theorem st3_eth {d s : List UInt8} {t x : Int} (hd : d.length = 6) (hs : s.length = 6) : astore Try.prog 3 (ethCells d s t) 12 (.int .i64 x) = some (ethCells d s x) := by
  rw [st3 (by rw [ethCells_length hd hs]; omega)]
  have hl : (byteCells d ++ byteCells s).length = 12 := by rw [List.length_append, byteCells_length, byteCells_length]; omega
  unfold ethCells
  rw [← hl, List.set_append_right _ _ (Nat.le_refl _), Nat.sub_self]; rfl
def sp56 : ASpec := fun args M K => ∃ l : List UInt8, args = [asString l] ∧ l.length ≤ 1000000000 ∧ K (.ret (retEth (ethGetF l))) M
noncomputable def S56 : FuncId → ASpec := tab [(70, sp70)]
theorem S56_70 : S56 70 = sp70 := rfl
theorem S56_ok : ∀ f, Sound Try.prog f (S56 f) := tab_sound _ (by simp [f70_ok])
theorem f56_ok : Sound Try.prog 56 sp56 := by
 refine Sound.of_awp (c := bodyOf Try.f56) Try.func56 rfl rfl rfl ?_
 rintro args M K ⟨l, rfl, hll, hK⟩
 refine ⟨Nat.le_of_ble_eq_true rfl, ?_⟩
 have hS := S56_ok
 have e0 : entry [asString l] 0 = asString l := rfl
 have hz : azero Try.prog 61 = some eth0 := z61
 have hb : abuild Try.prog 61 [] = some eth0 := b61
 have hst0 : astore Try.prog 61 eth0 0 (.agg eth0.toArray) = some eth0 := st61 rfl rfl (ethCells_one _ _ _)
 refine at_seq rfl ?_
 refine at_region hS rfl (by kernel_rfl) ?_
 refine s_op (a_alloc hz) rfl ?_
 refine s_op (a_as (by simp only [ev_const] <;> rfl)) rfl ?_
 refine s_op (a_as (by simp only [ev_const] <;> rfl)) rfl ?_
 refine s_end (fun s' hs' => ?_)
 replace e0 := kp 0 hs' e0
 have e2 := congrFun hs' 2
 simp only [Zu, Nat.reduceEqDiff, ↓reduceIte, newPtr, AMem.next_alloc] at e2
 clear hs'
 refine o_norm ?_
 refine q_mem (fun M1 hEM1 => ?_)
 have hnM1 := congrArg AMem.next hEM1; simp only [Zn, Nat.add_assoc, Nat.reduceAdd] at hnM1
 have hnxM1 : M.next ≤ M1.next := by have := (Nat.le_refl M.next); omega
 have holdM1 : ∀ j, j < M.next → M1.get j = M.get j := fun j hj => by have := (Nat.le_refl M.next); rw [hEM1]; simp (disch := first | (refine Zx ?_; simp only [Zn]; done) | ((try simp only [Zn]); omega)) only [Zg]; done
 have gM1_0 := congrArg (fun m => AMem.get m M.next) hEM1; try simp (disch := first | (refine Zx ?_; simp only [Zn]; done) | ((try simp only [Zn]); omega)) only [Zg, Nat.add_assoc, Nat.reduceAdd] at gM1_0
 clear hEM1
 refine t_norm ?_
 refine at_seq rfl ?_
 refine at_block rfl ?_
 refine at_seq rfl ?_
 refine at_region hS rfl (by kernel_rfl) ?_
 refine s_op (a_mv e0) rfl ?_
 refine s_op (a_len (by simp (disch := omega) only [Zu, Nat.reduceEqDiff, ↓reduceIte, alen_str, hlenS, Zs, Int.reduceToNat, newPtr, AMem.next_alloc, gM1_0] <;> rfl)) rfl ?_
 refine s_op (a_bin (by simp (disch := omega) only [Zu, Nat.reduceEqDiff, ↓reduceIte, Zd, reduceCtorEq, abin_lss, ne_eq, not_false_eq_true, Zs, Int.reduceToNat] <;> rfl)) rfl ?_
 refine s_as ?_
 refine s_end (fun s' hs' => ?_)
 replace e0 := kp 0 hs' e0
 replace e2 := kp 2 hs' e2
 have e6 := congrFun hs' 6
 simp only [Zu, Nat.reduceEqDiff, ↓reduceIte, newPtr, AMem.next_alloc] at e6
 clear hs'
 refine o_norm ?_
 refine t_norm ?_
 refine at_cond rfl rfl e6 (fun h1 => ?_) (fun h1 => ?_)
 ·
  try simp only [Zh] at h1
  refine at_seq rfl ?_
  refine at_region hS rfl (by kernel_rfl) ?_
  refine s_op (a_build (by simp only [Zm, Array.toList, Zs, Int.reduceToNat, hb, hst0, newPtr, AMem.next_alloc] <;> rfl)) rfl ?_
  refine s_op (a_store e2 (by simp (disch := first | (refine Zx ?_; simp only [Zn]; done) | ((try simp only [Zn]); omega)) only [Zg, hb, hst0, newPtr, gM1_0, e2] <;> rfl) (by simp only [Zu, Nat.reduceEqDiff, ↓reduceIte, hb, hst0, newPtr, AMem.next_alloc, gM1_0, e2] <;> rfl) (by simp only [hb, hst0, newPtr, AMem.next_alloc, gM1_0, e2] <;> rfl)) rfl ?_
  refine s_op (a_as (by simp only [ev_const] <;> rfl)) rfl ?_
  refine s_op (a_as (by simp only [ev_const] <;> rfl)) rfl ?_
  refine s_end (fun s' hs' => ?_)
  replace e2 := kp 2 hs' e2
  have e3 := congrFun hs' 3
  have e4 := congrFun hs' 4
  simp only [Zu, Nat.reduceEqDiff, ↓reduceIte, newPtr, AMem.next_alloc] at e3 e4
  clear hs'
  refine o_norm ?_
  refine q_mem (fun M2 hEM2 => ?_)
  have hnM2 := congrArg AMem.next hEM2; simp only [Zn, Nat.add_assoc, Nat.reduceAdd] at hnM2
  have hnxM2 : M.next ≤ M2.next := by have := hnxM1; omega
  have holdM2 : ∀ j, j < M.next → M2.get j = M.get j := fun j hj => by have := hnxM1; rw [hEM2]; simp (disch := first | (refine Zx ?_; simp only [Zn]; done) | ((try simp only [Zn]); omega)) only [Zg]; exact holdM1 j hj
  have gM2_0 := congrArg (fun m => AMem.get m M.next) hEM2; try simp (disch := first | (refine Zx ?_; simp only [Zn]; done) | ((try simp only [Zn]); omega)) only [Zg, Nat.add_assoc, Nat.reduceAdd, gM1_0] at gM2_0
  clear hEM2
  refine t_norm ?_
  refine at_ret rfl ?_
  refine b_ret ?_
  refine t_ret ?_
  have hF : ethGetF l = (eth0, [], 2) := by unfold ethGetF; rw [if_pos (by omega)]
  rw [hF] at hK
  refine bq_ret rfl (ars_cons (ar_cell e2 gM2_0 (ld61 rfl)) (ars_cons (ar_tmp e3) (ars_cons (ar_tmp e4) ars_nil))) ?_
  exact ⟨_, _, hK, Canon.forget (retEth_flat [] 2 (ethCells_flat 1 _ _ _)) holdM2⟩
 ·
  try simp only [Zh] at h1
  refine at_seq rfl ?_
  refine at_region hS rfl (by kernel_rfl) ?_
  refine s_op (a_mv e0) rfl ?_
  refine s_op (a_len (by simp (disch := omega) only [Zu, Nat.reduceEqDiff, ↓reduceIte, alen_str, hlenS, Zs, Int.reduceToNat, newPtr, AMem.next_alloc, gM1_0] <;> rfl)) rfl ?_
  refine s_op (a_bin (by simp (disch := omega) only [Zu, Nat.reduceEqDiff, ↓reduceIte, Zd, reduceCtorEq, abin_gtr, ne_eq, not_false_eq_true, Zs, Int.reduceToNat] <;> rfl)) rfl ?_
  refine s_as ?_
  refine s_end (fun s' hs' => ?_)
  replace e0 := kp 0 hs' e0
  replace e2 := kp 2 hs' e2
  have e11 := congrFun hs' 11
  simp only [Zu, Nat.reduceEqDiff, ↓reduceIte, newPtr, AMem.next_alloc] at e11
  clear hs'
  refine o_norm ?_
  refine t_norm ?_
  refine at_cond rfl rfl e11 (fun h3 => ?_) (fun h3 => ?_)
  ·
   try simp only [Zh] at h3
   refine at_seq rfl ?_
   refine at_region hS rfl (by kernel_rfl) ?_
   refine s_op (a_build (by simp only [Zm, Array.toList, Zs, Int.reduceToNat, hb, hst0, newPtr, AMem.next_alloc] <;> rfl)) rfl ?_
   refine s_op (a_store e2 (by simp (disch := first | (refine Zx ?_; simp only [Zn]; done) | ((try simp only [Zn]); omega)) only [Zg, hb, hst0, newPtr, gM1_0, e2] <;> rfl) (by simp only [Zu, Nat.reduceEqDiff, ↓reduceIte, hb, hst0, newPtr, AMem.next_alloc, gM1_0, e2] <;> rfl) (by simp only [hb, hst0, newPtr, AMem.next_alloc, gM1_0, e2] <;> rfl)) rfl ?_
   refine s_op (a_as (by simp only [ev_const] <;> rfl)) rfl ?_
   refine s_op (a_as (by simp only [ev_const] <;> rfl)) rfl ?_
   refine s_end (fun s' hs' => ?_)
   replace e2 := kp 2 hs' e2
   have e3 := congrFun hs' 3
   have e4 := congrFun hs' 4
   simp only [Zu, Nat.reduceEqDiff, ↓reduceIte, newPtr, AMem.next_alloc] at e3 e4
   clear hs'
   refine o_norm ?_
   refine q_mem (fun M3 hEM3 => ?_)
   have hnM3 := congrArg AMem.next hEM3; simp only [Zn, Nat.add_assoc, Nat.reduceAdd] at hnM3
   have hnxM3 : M.next ≤ M3.next := by have := hnxM1; omega
   have holdM3 : ∀ j, j < M.next → M3.get j = M.get j := fun j hj => by have := hnxM1; rw [hEM3]; simp (disch := first | (refine Zx ?_; simp only [Zn]; done) | ((try simp only [Zn]); omega)) only [Zg]; exact holdM1 j hj
   have gM3_0 := congrArg (fun m => AMem.get m M.next) hEM3; try simp (disch := first | (refine Zx ?_; simp only [Zn]; done) | ((try simp only [Zn]); omega)) only [Zg, Nat.add_assoc, Nat.reduceAdd, gM1_0] at gM3_0
   clear hEM3
   refine t_norm ?_
   refine at_ret rfl ?_
   refine b_ret ?_
   refine t_ret ?_
   have hF : ethGetF l = (eth0, [], 5) := by unfold ethGetF; rw [if_neg (by omega), if_pos (by omega)]
   rw [hF] at hK
   refine bq_ret rfl (ars_cons (ar_cell e2 gM3_0 (ld61 rfl)) (ars_cons (ar_tmp e3) (ars_cons (ar_tmp e4) ars_nil))) ?_
   exact ⟨_, _, hK, Canon.forget (retEth_flat [] 5 (ethCells_flat 1 _ _ _)) holdM3⟩
  ·
   try simp only [Zh] at h3
   refine at_skip rfl ?_
   refine b_norm ?_
   refine t_norm ?_
   refine at_seq rfl ?_
   refine at_region hS rfl (by kernel_rfl) ?_
   refine s_op (a_alloc hz) rfl ?_
   refine s_end (fun s' hs' => ?_)
   replace e0 := kp 0 hs' e0
   replace e2 := kp 2 hs' e2
   have e5 := congrFun hs' 5
   simp only [Zu, Nat.reduceEqDiff, ↓reduceIte, newPtr, AMem.next_alloc] at e5
   clear hs'
   refine o_norm ?_
   refine q_mem (fun M4 hEM4 => ?_)
   have hnM4 := congrArg AMem.next hEM4; simp only [Zn, Nat.add_assoc, Nat.reduceAdd] at hnM4
   have hnxM4 : M.next ≤ M4.next := by have := hnxM1; omega
   have holdM4 : ∀ j, j < M.next → M4.get j = M.get j := fun j hj => by have := hnxM1; rw [hEM4]; simp (disch := first | (refine Zx ?_; simp only [Zn]; done) | ((try simp only [Zn]); omega)) only [Zg]; exact holdM1 j hj
   have gM4_0 := congrArg (fun m => AMem.get m M.next) hEM4; try simp (disch := first | (refine Zx ?_; simp only [Zn]; done) | ((try simp only [Zn]); omega)) only [Zg, Nat.add_assoc, Nat.reduceAdd, gM1_0] at gM4_0
   have gM4_1 := congrArg (fun m => AMem.get m M1.next) hEM4; try simp (disch := first | (refine Zx ?_; simp only [Zn]; done) | ((try simp only [Zn]); omega)) only [Zg, Nat.add_assoc, Nat.reduceAdd, gM1_0] at gM4_1
   clear hEM4
   refine t_norm ?_
   refine at_seq rfl ?_
   have h6l : (l.take 6).length = 6 := by rw [List.length_take]; omega
   have hs1 : ∀ s, aslice Try.prog s M4 59 (.pointer (some ⟨M1.next, 0, none⟩)) none none = _ := fun s => aslice_arr59 gM4_1 (by decide)
   have hc1 := acopy_str (M := M4) (id := M1.next) (off := 0) (l := l) gM4_1 (by decide) (by omega)
   refine at_region hS rfl (by kernel_rfl) ?_
   refine s_op (a_fa (by simp only [Zu, Nat.reduceEqDiff, ↓reduceIte, fa61_0, Nat.zero_add, hs1, hc1, newPtr, AMem.next_alloc, e5] <;> rfl)) rfl ?_
   refine s_op (a_slice (by simp (disch := omega) only [Zu, Nat.reduceEqDiff, ↓reduceIte, Zs, Int.reduceToNat, hs1, hc1, gM4_0, gM4_1] <;> rfl)) rfl ?_
   refine s_op (a_mv e0) rfl ?_
   refine s_op (a_copy (by simp (disch := omega) only [Zu, Nat.reduceEqDiff, ↓reduceIte, alen_str, hlenS, Zs, Int.reduceToNat, hs1, hc1, newPtr, AMem.next_alloc, gM4_0, gM4_1] <;> rfl)) rfl ?_
   refine s_end (fun s' hs' => ?_)
   replace e0 := kp 0 hs' e0
   replace e2 := kp 2 hs' e2
   replace e5 := kp 5 hs' e5
   clear hs'
   refine o_norm ?_
   refine q_mem (fun M5 hEM5 => ?_)
   have hnM5 := congrArg AMem.next hEM5; simp only [Zn, Nat.add_assoc, Nat.reduceAdd] at hnM5
   have hnxM5 : M.next ≤ M5.next := by have := hnxM4; omega
   have holdM5 : ∀ j, j < M.next → M5.get j = M.get j := fun j hj => by have := hnxM4; rw [hEM5]; simp (disch := first | (refine Zx ?_; simp only [Zn]; done) | ((try simp only [Zn]); omega)) only [Zg]; exact holdM4 j hj
   have gM5_0 := congrArg (fun m => AMem.get m M.next) hEM5; try simp (disch := first | (refine Zx ?_; simp only [Zn]; done) | ((try simp only [Zn]); omega)) only [Zg, Nat.add_assoc, Nat.reduceAdd, gM4_0, gM4_1] at gM5_0
   have gM5_1 := congrArg (fun m => AMem.get m M1.next) hEM5; try simp (disch := first | (refine Zx ?_; simp only [Zn]; done) | ((try simp only [Zn]); omega)) only [Zg, Nat.add_assoc, Nat.reduceAdd, gM4_0, gM4_1] at gM5_1
   clear hEM5
   have ha1 : aput eth0 0 (byteCells (l.take 6)) = ethCells (l.take 6) (List.replicate 6 0) 0 := aput_eth1 rfl h6l
   rw [ha1] at gM5_1
   refine t_norm ?_
   refine at_seq rfl ?_
   have hq : (part l 6 l.length).take 6 = (l.drop 6).take 6 := by unfold part; rw [List.take_take, Nat.min_eq_left (by omega)]
   have h6q : ((l.drop 6).take 6).length = 6 := by rw [List.length_take, List.length_drop]; omega
   have hq6 : 6 ≤ (part l 6 l.length).length := by rw [part_length (Nat.le_refl _)]; omega
   have hs2 : ∀ s, aslice Try.prog s M5 59 (.pointer (some ⟨M1.next, 6, none⟩)) none none = _ := fun s => aslice_arr59 gM5_1 (by rw [ethCells_length h6l (by simp)]; omega)
   have hc2 := acopy_str (M := M5) (id := M1.next) (off := 6) (l := part l 6 l.length) gM5_1 (by rw [ethCells_length h6l (by simp)]; omega) hq6
   refine at_draw ⟨[[], [0], [], [2], [0, 1, 2, 3]], [0, 1, 2, 3], [(4, [])]⟩ hS rfl rfl (by kernel_rfl) (by kernel_rfl) ?_
   refine d_start ?_
   refine l_op rfl rfl (a_fa (by simp only [Zu, Nat.reduceEqDiff, ↓reduceIte, fa61_1, Nat.zero_add, hs2, hc2, newPtr, AMem.next_alloc, e5] <;> rfl)) rfl ?_ rfl
   refine l_op rfl rfl (a_slice (by simp (disch := omega) only [Zu, Nat.reduceEqDiff, ↓reduceIte, Zs, Int.reduceToNat, hs2, hc2, Nat.zero_add, gM5_0, gM5_1] <;> rfl)) rfl ?_ rfl
   refine l_op rfl rfl (a_mv e0) rfl ?_ rfl
   refine l_op rfl rfl (a_slice (by simp (disch := omega) only [Zu, Nat.reduceEqDiff, ↓reduceIte, Zs, Int.reduceToNat, hs2, hc2, Nat.zero_add, gM5_0, gM5_1] <;> rfl)) rfl ?_ rfl
   refine l_nil ?_
   refine h_op ?_ rfl rfl rfl ?_
   · refine again_l rfl rfl (a_slice (by simp (disch := omega) only [Zu, Nat.reduceEqDiff, ↓reduceIte, Zs, Int.reduceToNat, hs2, hc2, Nat.zero_add, gM5_0, gM5_1] <;> rfl)) ?_
     refine again_r rfl ?_
     refine again_l rfl rfl (a_slice (by simp (disch := omega) only [Zu, Nat.reduceEqDiff, ↓reduceIte, Zs, Int.reduceToNat, hs2, hc2, Nat.zero_add, gM5_0, gM5_1] <;> rfl)) ?_
     refine again_r rfl ?_
     exact again_nil
   refine s_op (a_copy (by simp (disch := omega) only [Zu, Nat.reduceEqDiff, ↓reduceIte, alen_str, hlenS, Zs, Int.reduceToNat, hs2, hc2, Nat.zero_add, newPtr, AMem.next_alloc, gM5_0, gM5_1] <;> rfl)) rfl ?_
   refine s_end (fun s' hs' => ?_); subst hs'
   refine l_nil ?_
   refine h_end ?_ (fun s' hs' => ?_)
   · exact again_nil
   replace e0 := kp 0 hs' e0
   replace e2 := kp 2 hs' e2
   replace e5 := kp 5 hs' e5
   clear hs'
   refine o_norm ?_
   refine q_mem (fun M6 hEM6 => ?_)
   have hnM6 := congrArg AMem.next hEM6; simp only [Zn, Nat.add_assoc, Nat.reduceAdd] at hnM6
   have hnxM6 : M.next ≤ M6.next := by have := hnxM5; omega
   have holdM6 : ∀ j, j < M.next → M6.get j = M.get j := fun j hj => by have := hnxM5; rw [hEM6]; simp (disch := first | (refine Zx ?_; simp only [Zn]; done) | ((try simp only [Zn]); omega)) only [Zg]; exact holdM5 j hj
   have gM6_0 := congrArg (fun m => AMem.get m M.next) hEM6; try simp (disch := first | (refine Zx ?_; simp only [Zn]; done) | ((try simp only [Zn]); omega)) only [Zg, Nat.add_assoc, Nat.reduceAdd, gM5_0, gM5_1] at gM6_0
   have gM6_1 := congrArg (fun m => AMem.get m M1.next) hEM6; try simp (disch := first | (refine Zx ?_; simp only [Zn]; done) | ((try simp only [Zn]); omega)) only [Zg, Nat.add_assoc, Nat.reduceAdd, gM5_0, gM5_1] at gM6_1
   clear hEM6
   rw [hq, aput_eth2 h6l (by simp) h6q] at gM6_1
   have p12 : part l 12 14 = (l.drop 12).take 2 := rfl
   have hst8 : ∀ x, astore Try.prog 3 (ethCells (l.take 6) ((l.drop 6).take 6) 0) 12 (.int .i64 x) = some (ethCells (l.take 6) ((l.drop 6).take 6) x) := fun x => st3_eth h6l h6q
   refine t_norm ?_
   refine at_seq rfl ?_
   refine at_region hS rfl (by kernel_rfl) ?_
   refine s_op (a_mv e0) rfl ?_
   refine s_op (a_slice (by simp (disch := omega) only [Zu, Nat.reduceEqDiff, ↓reduceIte, Zs, Int.reduceToNat, hst8, Nat.zero_add, gM6_0, gM6_1] <;> rfl)) rfl ?_
   refine s_call (by simp only [Zu, Nat.reduceEqDiff, ↓reduceIte, hlenS, Zs, Int.reduceToNat, hst8, Nat.zero_add, newPtr, AMem.next_alloc, gM6_0, gM6_1] <;> rfl) (by simp only [Zu, Nat.reduceEqDiff, ↓reduceIte, Zm, hlenS, Zs, Int.reduceToNat, hst8, Nat.zero_add, newPtr, AMem.next_alloc, gM6_0, gM6_1] <;> rfl) ?_
   rw [S56_70]; refine ⟨_, rfl, by rw [part_length (by omega)]; omega, ?_⟩
   show EA _ _ _ _ _ _
   refine s_op (a_fa (by simp only [Zu, Nat.reduceEqDiff, ↓reduceIte, fa61_2, Nat.zero_add, hst8, newPtr, AMem.next_alloc, e5] <;> rfl)) rfl ?_
   refine s_op (a_store (by simp only [Zu, Nat.reduceEqDiff, ↓reduceIte, hst8, Nat.zero_add, newPtr, AMem.next_alloc, gM6_0, gM6_1] <;> rfl) (by simp (disch := first | (refine Zx ?_; simp only [Zn]; done) | ((try simp only [Zn]); omega)) only [Zg, hst8, Nat.zero_add, newPtr, gM6_0, gM6_1] <;> rfl) (by simp only [Zu, Nat.reduceEqDiff, ↓reduceIte, hst8, Nat.zero_add, newPtr, AMem.next_alloc, gM6_0, gM6_1] <;> rfl) (by simp (disch := (first | omega | (simp only [List.length_cons, List.length_nil]; omega))) only [st3, List.set_cons_succ, List.set_cons_zero, hst8, Nat.zero_add, newPtr, AMem.next_alloc, gM6_0, gM6_1] <;> rfl)) rfl ?_
   refine s_end (fun s' hs' => ?_)
   replace e0 := kp 0 hs' e0
   replace e2 := kp 2 hs' e2
   replace e5 := kp 5 hs' e5
   clear hs'
   refine o_norm ?_
   refine q_mem (fun M7 hEM7 => ?_)
   have hnM7 := congrArg AMem.next hEM7; simp only [Zn, Nat.add_assoc, Nat.reduceAdd] at hnM7
   have hnxM7 : M.next ≤ M7.next := by have := hnxM6; omega
   have holdM7 : ∀ j, j < M.next → M7.get j = M.get j := fun j hj => by have := hnxM6; rw [hEM7]; simp (disch := first | (refine Zx ?_; simp only [Zn]; done) | ((try simp only [Zn]); omega)) only [Zg]; exact holdM6 j hj
   have gM7_0 := congrArg (fun m => AMem.get m M.next) hEM7; try simp (disch := first | (refine Zx ?_; simp only [Zn]; done) | ((try simp only [Zn]); omega)) only [Zg, Nat.add_assoc, Nat.reduceAdd, gM6_0, gM6_1] at gM7_0
   have gM7_1 := congrArg (fun m => AMem.get m M1.next) hEM7; try simp (disch := first | (refine Zx ?_; simp only [Zn]; done) | ((try simp only [Zn]); omega)) only [Zg, Nat.add_assoc, Nat.reduceAdd, gM6_0, gM6_1] at gM7_1
   clear hEM7
   rw [p12] at gM7_1
   have h13 : (ethCells (l.take 6) ((l.drop 6).take 6) (numF ((l.drop 12).take 2))).length = 13 := ethCells_length h6l h6q
   have hst9 : astore Try.prog 61 eth0 0 (.agg (ethCells (l.take 6) ((l.drop 6).take 6) (numF ((l.drop 12).take 2))).toArray) = some _ := st61 rfl h13 (ethCells_one _ _ _)
   have hld9 := ld61 h13
   have p14 : part l 14 l.length = l.drop 14 := by unfold part; rw [List.take_of_length_le (by rw [List.length_drop]; omega)]
   refine t_norm ?_
   refine at_seq rfl ?_
   refine at_draw ⟨[[], [], [1], [0], [0, 1, 2, 3], [0, 1, 2, 3, 4]], [0, 1, 2], [(3, [4, 5])]⟩ hS rfl rfl (by kernel_rfl) (by kernel_rfl) ?_
   refine d_start ?_
   refine l_op rfl rfl (a_load e5 (by simp (disch := first | (refine Zx ?_; simp only [Zn]; done) | ((try simp only [Zn]); omega)) only [Zg, hld9, hst9, p14, newPtr, gM7_0, gM7_1, e5] <;> rfl) (by simp only [hld9, hst9, p14, newPtr, AMem.next_alloc, gM7_0, gM7_1, e5] <;> rfl)) rfl ?_ rfl
   refine l_op rfl rfl (a_mv e0) rfl ?_ rfl
   refine l_op rfl rfl (a_slice (by simp (disch := omega) only [Zu, Nat.reduceEqDiff, ↓reduceIte, Zs, Int.reduceToNat, hst9, p14, gM7_0, gM7_1] <;> rfl)) rfl ?_ rfl
   refine l_nil ?_
   refine h_op ?_ rfl rfl rfl ?_
   · refine again_l rfl rfl (a_slice (by simp (disch := omega) only [Zu, Nat.reduceEqDiff, ↓reduceIte, Zs, Int.reduceToNat, hst9, p14, gM7_0, gM7_1] <;> rfl)) ?_
     refine again_r rfl ?_
     refine again_l rfl rfl (a_load e5 (by simp (disch := first | (refine Zx ?_; simp only [Zn]; done) | ((try simp only [Zn]); omega)) only [Zg, hld9, hst9, p14, newPtr, gM7_0, gM7_1, e5] <;> rfl) (by simp only [hld9, hst9, p14, newPtr, AMem.next_alloc, gM7_0, gM7_1, e5] <;> rfl)) ?_
     exact again_nil
   refine s_op (a_store e2 (by simp (disch := first | (refine Zx ?_; simp only [Zn]; done) | ((try simp only [Zn]); omega)) only [Zg, hst9, p14, newPtr, gM7_0, gM7_1, e2] <;> rfl) (by simp only [Zu, Nat.reduceEqDiff, ↓reduceIte, hst9, p14, newPtr, AMem.next_alloc, gM7_0, gM7_1, e2] <;> rfl) (by simp only [hst9, p14, newPtr, AMem.next_alloc, gM7_0, gM7_1, e2] <;> rfl)) rfl ?_
   refine s_end (fun s' hs' => ?_); subst hs'
   refine l_op rfl rfl (a_as (by simp only [Zu, Nat.reduceEqDiff, ↓reduceIte] <;> rfl)) rfl ?_ rfl
   refine l_op rfl rfl (a_as (by simp only [ev_const] <;> rfl)) rfl ?_ rfl
   refine l_nil ?_
   refine h_end ?_ (fun s' hs' => ?_)
   · refine again_r rfl ?_
     refine again_r rfl ?_
     refine again_l rfl rfl (a_slice (by simp (disch := omega) only [Zu, Nat.reduceEqDiff, ↓reduceIte, Zs, Int.reduceToNat, hst9, p14, gM7_0, gM7_1] <;> rfl)) ?_
     refine again_r rfl ?_
     exact again_nil
   replace e2 := kp 2 hs' e2
   have e3 := congrFun hs' 3
   have e4 := congrFun hs' 4
   simp only [Zu, Nat.reduceEqDiff, ↓reduceIte, newPtr, AMem.next_alloc] at e3 e4
   clear hs'
   try clear e0 e5
   refine o_norm ?_
   refine q_mem (fun M8 hEM8 => ?_)
   have hnM8 := congrArg AMem.next hEM8; simp only [Zn, Nat.add_assoc, Nat.reduceAdd] at hnM8
   have hnxM8 : M.next ≤ M8.next := by have := hnxM7; omega
   have holdM8 : ∀ j, j < M.next → M8.get j = M.get j := fun j hj => by have := hnxM7; rw [hEM8]; simp (disch := first | (refine Zx ?_; simp only [Zn]; done) | ((try simp only [Zn]); omega)) only [Zg]; exact holdM7 j hj
   have gM8_0 := congrArg (fun m => AMem.get m M.next) hEM8; try simp (disch := first | (refine Zx ?_; simp only [Zn]; done) | ((try simp only [Zn]); omega)) only [Zg, Nat.add_assoc, Nat.reduceAdd, gM7_0, gM7_1] at gM8_0
   have gM8_1 := congrArg (fun m => AMem.get m M1.next) hEM8; try simp (disch := first | (refine Zx ?_; simp only [Zn]; done) | ((try simp only [Zn]); omega)) only [Zg, Nat.add_assoc, Nat.reduceAdd, gM7_0, gM7_1] at gM8_1
   clear hEM8
   refine t_norm ?_
   refine at_ret rfl ?_
   have hF : ethGetF l = (ethCells (l.take 6) ((l.drop 6).take 6) (numF ((l.drop 12).take 2)), l.drop 14, 0) := by unfold ethGetF; rw [if_neg (by omega), if_neg (by omega)]
   rw [hF] at hK
   refine bq_ret rfl (ars_cons (ar_cell e2 gM8_0 (ld61 h13)) (ars_cons (ar_tmp e3) (ars_cons (ar_tmp e4) ars_nil))) ?_
   exact ⟨_, _, hK, Canon.forget (retEth_flat _ 0 (ethCells_flat 1 _ _ _)) holdM8⟩
end Go.Proofs.Ytdkdkpiemigfkaa
