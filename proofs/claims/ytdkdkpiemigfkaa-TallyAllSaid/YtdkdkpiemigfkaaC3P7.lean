/- Part 7 of the proof of the given statement (theorem tallyAll_holds, in the last part): for every input the law returns true, and each argument reads behind the call as it read before. No condition beyond the statement's own. -/
import Derived.Test.YtdkdkpiemigfkaaC3P6
import Derived.Carry
import Derived.Deep.Slices
import Derived.Lib.SmallJoins
import Derived.OpenShut
import Derived.ProofKit
import Derived.Test.YtdkdkpiemigfkaaRows
import Derived.WalkKit
set_option linter.unusedVariables false
set_option linter.unusedSimpArgs false
set_option maxRecDepth 8000
namespace Go.Proofs.Ytdkdkpiemigfkaa
open Go Go.Proofs
def Dj (v w : Value) : Prop := ∀ k o n q, v = .slice (some ⟨k, o, none⟩) n q → ∀ o' n' q', w ≠ .slice (some ⟨k, o', none⟩) n' q'
theorem Dj.nil (w : Value) : Dj (.slice none 0 0) w := fun k o n q h => by cases h
theorem Own.keepD {M M' : AMem} {lo e len : Nat} {v w : Value} {cs : List Value} (h : Own M lo e w len cs) (hd : Dj v w) (hn : M.next ≤ M'.next) (hf : ∀ k, k < M.next → (∀ o n q, v ≠ .slice (some ⟨k, o, none⟩) n q) → M'.get k = M.get k) : Own M' lo e w len cs := by
  refine ⟨h.1, ?_⟩
  rcases h.2 with h1 | ⟨id, h1, h2, h3, h4⟩
  · exact .inl h1
  · exact .inr ⟨id, h1, h2, by omega, by rw [hf id h3 (fun o n q hv => hd id o n q hv 0 len e h1)]; exact h4⟩
theorem aapp_new {t : TypeId} {M M' : AMem} {e m : Nat} {v y w : Value} {cs2 : List Value} (hs : SlT t e) (h : aappendOp Try.prog M t t v y = some (w, M')) (hsrc : asrc M e y = some (m, cs2)) (hm : 0 < m) : ∃ n q, w = .slice (some ⟨M.next, 0, none⟩) n q := by
  obtain ⟨el, i, z, d, h1, h2, h3, h4, h5, h6, h7, _⟩ := hs
  subst h3
  unfold aappendOp at h
  simp only [h1, h2, h4, hsrc] at h
  have hm0 : ¬ m = 0 := by omega
  cases v with
  | slice a n q =>
    simp only [h5, Zd, aappend, hm0] at h
    split at h
    · split at h
      · cases h; exact ⟨_, _, rfl⟩
      · cases h
    · split at h
      · split at h
        · cases h; exact ⟨_, _, rfl⟩
        · cases h
      · cases h
    · cases h
  | _ => cases h
theorem app_two {t1 t2 : TypeId} {M : AMem} {lo e1 e2 len1 len2 : Nat} {v1 v2 : Value} {cs1 cs2 c1 c2 : List Value} (hs1 : SlT t1 e1) (hs2 : SlT t2 e2) (h1 : Own M lo e1 v1 len1 cs1) (h2 : Own M lo e2 v2 len2 cs2) (hd : Dj v1 v2) (hlo : lo ≤ M.next)
    (hle1 : len1 ≤ 10000000000) (hle2 : len2 ≤ 10000000000) (ho1 : c1.all (·.oneCell') = true) (ho2 : c2.all (·.oneCell') = true) (hl1 : c1.length = e1) (hl2 : c2.length = e2) (he1 : 0 < e1) (he2 : 0 < e2) :
    ∃ w1 Ma w2 Mb, aappendOp Try.prog ((M.alloc (.cells c1 true)).alloc (.cells c2 true)) t1 t1 v1 (.slice (some ⟨M.next, 0, none⟩) 1 e1) = some (w1, Ma) ∧ aappendOp Try.prog Ma t2 t2 v2 (.slice (some ⟨M.next + 1, 0, none⟩) 1 e2) = some (w2, Mb) ∧
      Own Mb lo e1 w1 (len1 + 1) (cs1 ++ c1) ∧ Own Mb lo e2 w2 (len2 + 1) (cs2 ++ c2) ∧ Dj w1 w2 ∧ M.next ≤ Mb.next ∧ (∀ k, k < lo → Mb.get k = M.get k) ∧ Ma.get (M.next + 1) = .cells c2 true := by
  have k1 : Own ((M.alloc (.cells c1 true)).alloc (.cells c2 true)) lo e1 v1 len1 cs1 := h1.keep (by simp; omega) (fun j _ hj => by rw [get_old (by simp; omega), get_old (by omega)])
  have k2 : Own ((M.alloc (.cells c1 true)).alloc (.cells c2 true)) lo e2 v2 len2 cs2 := h2.keep (by simp; omega) (fun j _ hj => by rw [get_old (by simp; omega), get_old (by omega)])
  have s1 : asrc ((M.alloc (.cells c1 true)).alloc (.cells c2 true)) e1 (.slice (some ⟨M.next, 0, none⟩) 1 e1) = some (1, c1) := by
    have hr : Row ((M.alloc (.cells c1 true)).alloc (.cells c2 true)) e1 (.slice (some ⟨M.next, 0, none⟩) 1 e1) 1 c1 := ⟨by omega, .inr ⟨M.next, 0, c1, true, rfl, by simp; omega, by rw [get_old (by simp)]; exact get_new, by omega, by rw [List.drop_zero, List.take_of_length_le (by omega)]⟩⟩
    exact hr.src
  have s2 : Row ((M.alloc (.cells c1 true)).alloc (.cells c2 true)) e2 (.slice (some ⟨M.next + 1, 0, none⟩) 1 e2) 1 c2 := ⟨by omega, .inr ⟨M.next + 1, 0, c2, true, rfl, by simp, get_new (M := M.alloc (.cells c1 true)), by omega, by rw [List.drop_zero, List.take_of_length_le (by omega)]⟩⟩
  have hne1 : ∀ o n q, v1 ≠ .slice (some ⟨M.next + 1, o, none⟩) n q := by
    intro o n q h
    rcases h1.2 with ⟨rfl, _⟩ | ⟨id, rfl, _, h3, _⟩
    · cases h
    · cases h; omega
  obtain ⟨w1, Ma, a1, b1, n1, f1, g1⟩ := app_many hs1 k1 (by simp; omega) s1 (by omega) ho1 (by omega)
  obtain ⟨n, q, hw1⟩ := aapp_new hs1 a1 s1 (by omega)
  have n1' : M.next + 2 ≤ Ma.next := by simpa using n1
  have k2' : Own Ma lo e2 v2 len2 cs2 := k2.keepD hd n1 g1
  have s2' : asrc Ma e2 (.slice (some ⟨M.next + 1, 0, none⟩) 1 e2) = some (1, c2) := by
    have hr : Row Ma e2 (.slice (some ⟨M.next + 1, 0, none⟩) 1 e2) 1 c2 := ⟨by omega, .inr ⟨M.next + 1, 0, c2, true, rfl, by omega, by rw [g1 (M.next + 1) (by simp) hne1]; exact get_new (M := M.alloc (.cells c1 true)), by omega, by rw [List.drop_zero, List.take_of_length_le (by omega)]⟩⟩
    exact hr.src
  obtain ⟨w2, Mb, a2, b2, n2, f2, g2⟩ := app_many hs2 k2' (by omega) s2' (by omega) ho2 (by omega)
  obtain ⟨n', q', hw2⟩ := aapp_new hs2 a2 s2' (by omega)
  have hd2 : Dj v2 w1 := by
    intro k o n' q' h o' n'' q'' h'
    rw [hw1] at h'; cases h'
    rcases h2.2 with ⟨rfl, _⟩ | ⟨id, rfl, _, h3, _⟩
    · cases h
    · cases h; simp at h3; omega
  refine ⟨w1, Ma, w2, Mb, a1, a2, b1.keepD hd2 n2 g2, b2, ?_, by omega, fun k hk => ?_, ?_⟩
  · intro k o n3 q3 h o' n4 q4 h'
    rw [hw1] at h
    rw [hw2] at h'
    injection h with h5
    injection h5 with h6
    injection h6 with h7
    injection h' with h5'
    injection h5' with h6'
    injection h6' with h7'
    rcases b1.2 with ⟨hz, _⟩ | ⟨id, hz, _, h3, _⟩
    · rw [hw1] at hz; cases hz
    · rw [hw1] at hz
      injection hz with hz5
      injection hz5 with hz6
      injection hz6 with hz7
      omega
  · rw [f2 k hk, f1 k hk, get_old (by simp; omega), get_old (by omega)]
  · rw [g1 (M.next + 1) (by simp) hne1]; exact get_new (M := M.alloc (.cells c1 true))
theorem find_both : ∀ (pl : PL) (n : Nat), (n : Int) ∈ pl.map Prod.fst → ∃ k p, (pl.map Prod.fst).findIdx? (fun x => decide (x = (n : Int))) = some k ∧ pl[k]? = some p ∧ p.2 = valP pl n := by
  intro pl n
  induction pl with
  | nil => intro h; simp at h
  | cons p pl ih =>
    intro h
    by_cases hp : p.1 = (n : Int)
    · exact ⟨0, p, by simp [List.findIdx?_cons, hp], rfl, by simp [valP, List.find?_cons, hp]⟩
    · rw [List.map_cons, List.mem_cons] at h
      rcases h with h | h
      · exact absurd h.symm hp
      · obtain ⟨k, q, h1, h2, h3⟩ := ih h
        exact ⟨k + 1, q, by simp [List.findIdx?_cons, hp, h1], h2, by rw [h3]; simp [valP, List.find?_cons, hp]⟩
theorem findF_neg {l : List Int} {n : Int} (h : n ∉ l) : findF l n = -1 := findF_none (fun j hj he => h (by rw [← he]; exact List.getElem_mem hj))
theorem findF_pos {pl : PL} {n : Nat} (h : (n : Int) ∈ pl.map Prod.fst) : ∃ (k : Nat) (hk : k < (pl.map Prod.snd).length), findF (pl.map Prod.fst) n = k ∧ (pl.map Prod.snd)[k] = valP pl n := by
  obtain ⟨k, p, h1, h2, h3⟩ := find_both pl n h
  have hlt := (List.getElem?_eq_some_iff.1 h2).1
  refine ⟨k, by rw [List.length_map]; exact hlt, by unfold findF; rw [h1], ?_⟩
  rw [List.getElem_map, (List.getElem?_eq_some_iff.1 h2).2, h3]
theorem findF_ge {l : List Int} {n : Int} (h : n ∈ l) : 0 ≤ findF l n := by
  unfold findF
  cases hf : l.findIdx? (fun x => decide (x = n)) with
  | some i => exact Int.natCast_nonneg i
  | none => rw [List.findIdx?_eq_none_iff] at hf; have := hf n h; simp at this
theorem findF_iff {l : List Int} {n : Int} : findF l n < 0 ↔ n ∉ l := by
  by_cases h : n ∈ l
  · have := findF_ge h; simp only [h, not_true_eq_false, iff_false]; omega
  · rw [findF_neg h]; simp [h]
theorem byte_part {M : AMem} {v : Value} {bs : List UInt8} {k : Nat} (h : Row M 1 v bs.length (byteCells bs)) (hk : k < bs.length) :
    ∃ v1, (∀ (s : Slots) (M' : AMem) (t u : Nat), s t = .int .i64 k → s u = .int .i64 ((k : Int) + 1) → aslice Try.prog s M' 55 v (some (.tmp t)) (some (.tmp u)) = some v1) ∧ Row M 1 v1 1 (byteCells [bs[k]]) := by
  obtain ⟨v1, h1, h2⟩ := h.slice (P := Try.prog) (s := fun i => if i = 0 then .int .i64 k else .int .i64 ((k : Int) + 1)) (lo := some (.tmp 0)) (hi := some (.tmp 1)) (l := k) (r := (k : Int) + 1) Try.underlying55 (i := _) (by rfl) rfl rfl rfl (by omega) (by omega) (by omega)
  refine ⟨v1, fun s M' t u hs hu => ?_, ?_⟩
  · rw [← h1]; exact aslice_ab Try.underlying55 (by simp only [abound, ev_tmp, hs, if_true]) (fun d => by simp only [abound, ev_tmp, hu]; rfl)
  · have e : ((k : Int) + 1 - k).toNat = 1 := by omega
    rw [e, Nat.mul_one, Nat.mul_one, Int.toNat_natCast] at h2
    have e2 : ((byteCells bs).drop k).take 1 = byteCells [bs[k]] := by
      unfold byteCells
      rw [← List.map_drop, ← List.map_take, List.drop_eq_getElem_cons hk]
      rfl
    rw [e2] at h2
    exact h2
theorem sgh_2 (h : Segh) : h.cells[2]? = some (.int .u32 h.seq) := rfl
theorem tc_0 (t : Tup) : t.cells[0]? = some (.int .i64 t.proto) := rfl
theorem tc_1 (t : Tup) : t.cells[1]? = some (.int .u32 t.src) := rfl
theorem tc_2 (t : Tup) : t.cells[2]? = some (.int .u32 t.dst) := rfl
theorem tc_3 (t : Tup) : t.cells[3]? = some (.int .i64 t.sp) := rfl
theorem tc_4 (t : Tup) : t.cells[4]? = some (.int .i64 t.dp) := rfl
theorem seg_proto {l : List UInt8} {t : Tup} {h : Segh} {b : List UInt8} (hs : segGet l = some (t, h, b)) : t.proto = 6 := by
  unfold segGet at hs
  split at hs
  · cases hs
  split at hs
  · cases hs
  split at hs
  · cases hs
  · cases hs; rfl
theorem tup_cases (a b : Tup) (h : a.proto = 6) : (¬ a.src = b.src ∧ tupEq a b ≠ true) ∨ (a.src = b.src ∧ ¬ a.dst = b.dst ∧ tupEq a b ≠ true) ∨ (a.src = b.src ∧ a.dst = b.dst ∧ ¬ a.sp = b.sp ∧ tupEq a b ≠ true) ∨ (a.src = b.src ∧ a.dst = b.dst ∧ a.sp = b.sp ∧ ¬ a.dp = b.dp ∧ tupEq a b ≠ true) ∨ (a.src = b.src ∧ a.dst = b.dst ∧ a.sp = b.sp ∧ a.dp = b.dp ∧ ¬ b.proto = 6 ∧ tupEq a b ≠ true) ∨ (a.src = b.src ∧ a.dst = b.dst ∧ a.sp = b.sp ∧ a.dp = b.dp ∧ b.proto = 6 ∧ tupEq a b = true) := by
  rw [Ne, tupEq_iff]
  obtain ⟨p1, s1, d1, x1, y1⟩ := a
  obtain ⟨p2, s2, d2, x2, y2⟩ := b
  simp only at h
  subst h
  simp only [Tup.mk.injEq]
  by_cases h1 : s1 = s2
  · by_cases h2 : d1 = d2
    · by_cases h3 : x1 = x2
      · by_cases h4 : y1 = y2
        · by_cases h5 : p2 = 6
          · simp [h1, h2, h3, h4, h5]
          · have : ¬ 6 = p2 := fun e => h5 e.symm
            simp [h1, h2, h3, h4, h5, this]
        · simp [h1, h2, h3, h4]
      · simp [h1, h2, h3]
    · simp [h1, h2]
  · simp [h1]
theorem payL_seg {t : Tup} {start : Int} {fs : List Fr} {i : Nat} {f : Fr} (h : fs[i]? = some f) : payL t start (segsL (fs.take (i + 1))) = (match segGet f.data with | some r => payStep t start (payL t start (segsL (fs.take i))) r | none => payL t start (segsL (fs.take i))) := by
  rw [take_snocO h, segsL_app, segsL_one]
  cases segGet f.data with
  | none => simp
  | some r => rw [Option.toList_some, payL_app]
theorem bodyN_le (fs : List Fr) (i : Nat) : bodyN (segsL (fs.take i)) ≤ bodyN (segsL fs) := by
  conv => rhs; rw [← List.take_append_drop i fs, segsL_app]
  simp only [bodyN, List.map_append, List.sum_append]; omega
def sp23 : ASpec := fun args M K => ∃ (lv : Value) (t : Tup) (start : Int) (os : List Ou), args = [lv, .agg t.cells.toArray, .int .u32 start] ∧ OusR M lv os ∧ fewO os ∧ dataN (os.flatMap Ou.frames) ≤ 1000000 ∧ u32 start ∧ K (.ret (asString (payF t start (segsF os)))) M
noncomputable def S23 : FuncId → ASpec := tab [(31, sp31), (34, sp34), (35, sp35), (36, sp36)]
theorem S23_31 : S23 31 = sp31 := rfl
theorem S23_34 : S23 34 = sp34 := rfl
theorem S23_35 : S23 35 = sp35 := rfl
theorem S23_36 : S23 36 = sp36 := rfl
theorem S23_ok : ∀ f, Sound Try.prog f (S23 f) := tab_sound _ (by simp [f31_ok, f34_ok, f35_ok, f36_ok])
set_option maxHeartbeats 4000000 in
theorem f23_ok : Sound Try.prog 23 sp23 := by
 refine Sound.of_awp (c := bodyOf Try.f23) Try.func23 rfl rfl rfl ?_
 rintro args M K ⟨lv, t, start, os, rfl, hos, hb, hdn, hstart, hK⟩
 refine ⟨Nat.le_of_ble_eq_true rfl, ?_⟩
 have hS := S23_ok
 have e0 : entry [lv, .agg t.cells.toArray, .int .u32 start] 0 = lv := rfl
 have e1 : entry [lv, .agg t.cells.toArray, .int .u32 start] 1 = .agg t.cells.toArray := rfl
 have e2 : entry [lv, .agg t.cells.toArray, .int .u32 start] 2 = .int .u32 start := rfl
 have hst57 : ∀ h k : Segh, astore Try.prog 57 h.cells 0 (.agg k.cells.toArray) = some k.cells := st57
 have hst39 : ∀ h k : Tup, astore Try.prog 39 h.cells 0 (.agg k.cells.toArray) = some k.cells := st39
 have hz57 : azero Try.prog 57 = some seg0.cells := z57
 have hz39 : azero Try.prog 39 = some tup0.cells := z39
 have htl : (Value.agg t.cells.toArray).cells.toList = t.cells := rfl
 unfold segsF at hK
 refine at_seq rfl ?_
 refine at_region hS rfl (by kernel_rfl) ?_
 refine s_op (a_box (by simp only [Zu, Nat.reduceEqDiff, ↓reduceIte, htl, newPtr, AMem.next_alloc, e1] <;> rfl)) rfl ?_
 refine s_op (a_as (by simp only [ev_const] <;> rfl)) rfl ?_
 refine s_end (fun s' hs' => ?_)
 replace e0 := kp 0 hs' e0
 replace e2 := kp 2 hs' e2
 have e4 := congrFun hs' 4
 simp only [Zu, Nat.reduceEqDiff, ↓reduceIte, newPtr, AMem.next_alloc] at e4
 clear hs'
 try clear e1
 refine o_norm ?_
 refine q_mem (fun M1 hEM1 => ?_)
 have hnM1 := congrArg AMem.next hEM1; simp only [Zn, Nat.add_assoc, Nat.reduceAdd] at hnM1
 have hnxM1 : M.next ≤ M1.next := by have := (Nat.le_refl M.next); omega
 have holdM1 : ∀ j, j < M.next → M1.get j = M.get j := fun j hj => by have := (Nat.le_refl M.next); rw [hEM1]; simp (disch := first | (refine Zx ?_; simp only [Zn]; done) | ((try simp only [Zn]); omega)) only [Zg]; done
 have gM1_0 := congrArg (fun m => AMem.get m M.next) hEM1; try simp (disch := first | (refine Zx ?_; simp only [Zn]; done) | ((try simp only [Zn]); omega)) only [Zg, Nat.add_assoc, Nat.reduceAdd] at gM1_0
 clear hEM1
 refine t_norm ?_
 refine at_seq rfl ?_
 refine at_region hS rfl (by kernel_rfl) ?_
 refine s_op (a_as (by simp only [ev_const] <;> rfl)) rfl ?_
 refine s_end (fun s' hs' => ?_)
 replace e0 := kp 0 hs' e0
 replace e2 := kp 2 hs' e2
 replace e4 := kp 4 hs' e4
 have e7 := congrFun hs' 7
 simp only [Zu, Nat.reduceEqDiff, ↓reduceIte, newPtr, AMem.next_alloc] at e7
 clear hs'
 refine o_norm ?_
 refine t_norm ?_
 refine at_seq rfl ?_
 refine at_region hS rfl (by kernel_rfl) ?_
 refine s_op (a_as (by simp only [ev_const] <;> rfl)) rfl ?_
 refine s_end (fun s' hs' => ?_)
 replace e0 := kp 0 hs' e0
 replace e2 := kp 2 hs' e2
 replace e4 := kp 4 hs' e4
 replace e7 := kp 7 hs' e7
 have e8 := congrFun hs' 8
 simp only [Zu, Nat.reduceEqDiff, ↓reduceIte, newPtr, AMem.next_alloc] at e8
 clear hs'
 refine o_norm ?_
 refine t_norm ?_
 refine at_seq rfl ?_
 refine at_region hS rfl (by kernel_rfl) ?_
 refine s_op (a_as (by simp only [ev_const] <;> rfl)) rfl ?_
 refine s_end (fun s' hs' => ?_)
 replace e0 := kp 0 hs' e0
 replace e2 := kp 2 hs' e2
 replace e4 := kp 4 hs' e4
 replace e7 := kp 7 hs' e7
 replace e8 := kp 8 hs' e8
 have e9 := congrFun hs' 9
 simp only [Zu, Nat.reduceEqDiff, ↓reduceIte, newPtr, AMem.next_alloc] at e9
 clear hs'
 refine o_norm ?_
 refine t_norm ?_
 refine at_seq rfl ?_
 refine at_region hS rfl (by kernel_rfl) ?_
 refine s_op (a_mv e0) rfl ?_
 refine s_call (by simp only [Zu, Nat.reduceEqDiff, ↓reduceIte, newPtr, AMem.next_alloc, gM1_0] <;> rfl) (by simp only [Zu, Nat.reduceEqDiff, ↓reduceIte, Zm, newPtr, AMem.next_alloc, gM1_0] <;> rfl) ?_
 rw [S23_31]; refine ⟨lv, os, rfl, hos.keep hnxM1 holdM1, hb, ?_⟩; intro fv MF hn2 ho2 hown2
 show EA _ _ _ _ _ _
 refine s_as ?_
 refine s_end (fun s' hs' => ?_)
 replace e2 := kp 2 hs' e2
 replace e4 := kp 4 hs' e4
 replace e7 := kp 7 hs' e7
 replace e8 := kp 8 hs' e8
 replace e9 := kp 9 hs' e9
 have e10 := congrFun hs' 10
 simp only [Zu, Nat.reduceEqDiff, ↓reduceIte, newPtr, AMem.next_alloc] at e10
 clear hs'
 try clear e0
 refine o_norm ?_
 have hfs : FrsR MF fv (os.flatMap Ou.frames) := hown2.row
 have hb2 := hb.2.1
 have hoF : ∀ j, j < M.next → MF.get j = M.get j := fun j hj => by rw [ho2 j (by omega)]; exact holdM1 j hj
 have hnxF : M.next ≤ MF.next := by omega
 have hF0 : MF.get M.next = .cells t.cells true := by rw [ho2 M.next (by omega)]; exact gM1_0
 generalize os.flatMap Ou.frames = fs at *
 have hbn := bodyN_segs fs
 refine t_norm ?_
 refine at_seq rfl ?_
 refine at_seq rfl ?_
 refine at_region hS rfl (by kernel_rfl) ?_
 refine s_op (a_as (by simp only [ev_const] <;> rfl)) rfl ?_
 refine s_end (fun s' hs' => ?_)
 replace e2 := kp 2 hs' e2
 replace e4 := kp 4 hs' e4
 replace e7 := kp 7 hs' e7
 replace e8 := kp 8 hs' e8
 replace e9 := kp 9 hs' e9
 replace e10 := kp 10 hs' e10
 have e11 := congrFun hs' 11
 simp only [Zu, Nat.reduceEqDiff, ↓reduceIte, newPtr, AMem.next_alloc] at e11
 clear hs'
 refine o_norm ?_
 refine t_norm ?_
 refine at_block rfl ?_
 refine at_loop rfl (fun km s ML ds => ∃ (i : Nat), ∃ (pv : Value), ∃ (bv : Value), s 2 = .int .u32 start ∧ s 4 = .pointer (some ⟨M.next, 0, none⟩) ∧ s 7 = pv ∧ s 8 = bv ∧ s 9 = .int .i64 (payL t start (segsL (fs.take i))).length ∧ s 10 = fv ∧ s 11 = .int .i64 i ∧ i ≤ fs.length ∧ (∀ j, j < MF.next → ML.get j = MF.get j) ∧ Own ML MF.next 1 pv ((payL t start (segsL (fs.take i))).map Prod.fst).length (((payL t start (segsL (fs.take i))).map Prod.fst).map (.int .i64)) ∧ Own ML MF.next 1 bv ((payL t start (segsL (fs.take i))).map Prod.snd).length (byteCells ((payL t start (segsL (fs.take i))).map Prod.snd)) ∧ Dj pv bv ∧ km = fs.length - i ∧ M.next ≤ ML.next ∧ MF.next ≤ ML.next ∧ (∀ j, j < M.next → ML.get j = M.get j) ∧ ds = []) (fs.length - (0)) ⟨0, .slice none 0 0, .slice none 0 0, (by first | exact e2 | (rw [e2]; rfl) | (simpa using e2)), (by first | exact e4 | (rw [e4]; rfl) | (simpa using e4)), (by first | exact e7 | (rw [e7]; rfl) | (simpa using e7)), (by first | exact e8 | (rw [e8]; rfl) | (simpa using e8)), (by first | exact e9 | (rw [e9]; rfl) | (simpa using e9)), (by first | exact e10 | (rw [e10]; rfl) | (simpa using e10)), (by first | exact e11 | (rw [e11]; rfl) | (simpa using e11)), (by omega), (fun _ _ => rfl), (Own.nil _ _ _), (Own.nil _ _ _), (Dj.nil _), rfl, hnxF, by omega, hoF, rfl⟩ ?_
 clear e2 e4 e7 e8 e9 e10 e11
 rintro km s M2 ds ⟨i, pv, bv, e2, e4, e7, e8, e9, e10, e11, hi, hkF, hpv, hbv, hdj, hk, hnxM2, hngM2, holdM2, rfl⟩
 refine at_seq rfl ?_
 refine at_seq rfl ?_
 have hfs' := hfs.keep (M' := M2) (by omega) hkF
 refine at_region hS rfl (by kernel_rfl) ?_
 refine s_op (a_mv e11) rfl ?_
 refine s_op (a_mv e10) rfl ?_
 refine s_op (a_len (by simp (disch := omega) only [Zu, Nat.reduceEqDiff, ↓reduceIte, alen_str, FrsR.len hfs', newPtr, AMem.next_alloc] <;> rfl)) rfl ?_
 refine s_op (a_bin (by simp (disch := omega) only [Zu, Nat.reduceEqDiff, ↓reduceIte, Zd, reduceCtorEq, abin_lss, ne_eq, not_false_eq_true] <;> rfl)) rfl ?_
 refine s_end (fun s' hs' => ?_)
 replace e2 := kp 2 hs' e2
 replace e4 := kp 4 hs' e4
 replace e7 := kp 7 hs' e7
 replace e8 := kp 8 hs' e8
 replace e9 := kp 9 hs' e9
 replace e10 := kp 10 hs' e10
 replace e11 := kp 11 hs' e11
 have e25 := congrFun hs' 25
 simp only [Zu, Nat.reduceEqDiff, ↓reduceIte, newPtr, AMem.next_alloc] at e25
 clear hs'
 refine o_norm ?_
 refine t_norm ?_
 refine at_cond rfl rfl e25 (fun h6 => ?_) (fun h6 => ?_)
 ·
  try simp only [Zh] at h6
  refine at_skip rfl ?_
  refine t_norm ?_
  refine at_seq rfl ?_
  refine t_join (I := fun s MJ ds => ∃ (pv' : Value), ∃ (bv' : Value), s 2 = .int .u32 start ∧ s 4 = .pointer (some ⟨M.next, 0, none⟩) ∧ s 7 = pv' ∧ s 8 = bv' ∧ s 9 = .int .i64 (payL t start (segsL (fs.take (i + 1)))).length ∧ s 10 = fv ∧ s 11 = .int .i64 i ∧ (∀ j, j < MF.next → MJ.get j = MF.get j) ∧ Own MJ MF.next 1 pv' ((payL t start (segsL (fs.take (i + 1)))).map Prod.fst).length (((payL t start (segsL (fs.take (i + 1)))).map Prod.fst).map (.int .i64)) ∧ Own MJ MF.next 1 bv' ((payL t start (segsL (fs.take (i + 1)))).map Prod.snd).length (byteCells ((payL t start (segsL (fs.take (i + 1)))).map Prod.snd)) ∧ Dj pv' bv' ∧ M.next ≤ MJ.next ∧ M2.next ≤ MJ.next ∧ (∀ j, j < M.next → MJ.get j = M.get j) ∧ ds = []) ?_ ?_
  ·
   refine at_block rfl ?_
   refine at_seq rfl ?_
   have hil : i < fs.length := by omega
   obtain ⟨f, hfi⟩ : ∃ f, fs[i]? = some f := ⟨_, List.getElem?_eq_getElem hil⟩
   have hfd : f.data.length ≤ 100000000 := by have := dataN_mem (List.mem_of_getElem? hfi); omega
   obtain ⟨id, off, all, own, hia, hid, hget, hl1, hl2, hl3⟩ := hfs'.at hfi .i64
   have hsn := payL_seg (t := t) (start := start) hfi
   have hpl := payL_len t start (segsL (fs.take i))
   have hbl := bodyN_le fs i
   have hbl2 := bodyN_le fs (i + 1)
   have hpl2 := payL_len t start (segsL (fs.take (i + 1)))
   generalize payL t start (segsL (fs.take i)) = pl at *
   by_cases hsr : ∃ r, segGet f.data = some r
   ·
    obtain ⟨⟨tt, h, b⟩, hr⟩ := hsr
    rw [hr] at hsn
    simp only at hsn
    have hsq := seg_u32 hr
    have htp := seg_proto hr
    have hbN := segGet_len hr
    refine at_region hS rfl (by kernel_rfl) ?_
    refine s_op (a_mv e10) rfl ?_
    refine s_op (a_mv e11) rfl ?_
    refine s_op (a_ia (by simp (disch := omega) only [Zu, Nat.reduceEqDiff, ↓reduceIte, hia, retSG, hst57, hst39, newPtr, AMem.next_alloc] <;> rfl)) rfl ?_
    refine s_op (a_fa (by simp only [Zu, Nat.reduceEqDiff, ↓reduceIte, fa34_1, Nat.zero_add, retSG, hst57, hst39, newPtr, AMem.next_alloc] <;> rfl)) rfl ?_
    refine s_op (a_load (by simp only [Zu, Nat.reduceEqDiff, ↓reduceIte, hget, hl2, retSG, hst57, hst39, newPtr, AMem.next_alloc] <;> rfl) (by simp (disch := first | (refine Zx ?_; simp only [Zn]; done) | ((try simp only [Zn]); omega)) only [Zg, hget, hl2, retSG, hst57, hst39, newPtr] <;> rfl) (by simp only [ld9, Zl, hget, hl2, retSG, hst57, hst39, newPtr, AMem.next_alloc] <;> rfl)) rfl ?_
    refine s_call (by simp only [Zu, Nat.reduceEqDiff, ↓reduceIte, retSG, hst57, hst39, newPtr, AMem.next_alloc] <;> rfl) (by simp only [Zu, Nat.reduceEqDiff, ↓reduceIte, Zm, retSG, hst57, hst39, newPtr, AMem.next_alloc] <;> rfl) ?_
    rw [S23_34]; refine ⟨_, rfl, hfd, ?_⟩; rw [hr]
    show EA _ _ _ _ _ _
    refine s_mv ?_
    refine s_op (a_ext (by simp only [Zu, Nat.reduceEqDiff, ↓reduceIte, retSG, hst57, hst39, newPtr, AMem.next_alloc] <;> rfl) (by first | exact ext4_0 | exact ext3_0 | exact ext2_0 | rfl)) rfl ?_
    refine s_op (a_ext (by simp only [Zu, Nat.reduceEqDiff, ↓reduceIte, retSG, hst57, hst39, newPtr, AMem.next_alloc] <;> rfl) (by first | exact ext4_1 | exact ext3_1 | exact ext2_1 | rfl)) rfl ?_
    refine s_op (a_ext (by simp only [Zu, Nat.reduceEqDiff, ↓reduceIte, retSG, hst57, hst39, newPtr, AMem.next_alloc] <;> rfl) (by first | exact ext4_2 | exact ext3_2 | exact ext2_2 | rfl)) rfl ?_
    refine s_op (a_ext (by simp only [Zu, Nat.reduceEqDiff, ↓reduceIte, retSG, hst57, hst39, newPtr, AMem.next_alloc] <;> rfl) (by first | exact ext4_3 | exact ext3_3 | exact ext2_3 | rfl)) rfl ?_
    refine s_op (a_alloc hz39) rfl ?_
    refine s_op (a_alloc hz57) rfl ?_
    refine s_op (a_store (by simp only [Zu, Nat.reduceEqDiff, ↓reduceIte, hget, retSG, hst57, hst39, newPtr, AMem.next_alloc] <;> rfl) (by simp (disch := first | (refine Zx ?_; simp only [Zn]; done) | ((try simp only [Zn]); omega)) only [Zg, hget, retSG, hst57, hst39, newPtr] <;> rfl) (by simp only [Zu, Nat.reduceEqDiff, ↓reduceIte, hget, retSG, hst57, hst39, newPtr, AMem.next_alloc] <;> rfl) (by simp only [hget, retSG, hst57, hst39, newPtr, AMem.next_alloc] <;> rfl)) rfl ?_
    refine s_op (a_store (by simp only [Zu, Nat.reduceEqDiff, ↓reduceIte, hget, retSG, hst57, hst39, newPtr, AMem.next_alloc] <;> rfl) (by simp (disch := first | (refine Zx ?_; simp only [Zn]; done) | ((try simp only [Zn]); omega)) only [Zg, hget, retSG, hst57, hst39, newPtr] <;> rfl) (by simp only [Zu, Nat.reduceEqDiff, ↓reduceIte, hget, retSG, hst57, hst39, newPtr, AMem.next_alloc] <;> rfl) (by simp only [hget, retSG, hst57, hst39, newPtr, AMem.next_alloc] <;> rfl)) rfl ?_
    refine s_as ?_
    refine s_as ?_
    refine s_end (fun s' hs' => ?_)
    replace e2 := kp 2 hs' e2
    replace e4 := kp 4 hs' e4
    replace e7 := kp 7 hs' e7
    replace e8 := kp 8 hs' e8
    replace e9 := kp 9 hs' e9
    replace e10 := kp 10 hs' e10
    replace e11 := kp 11 hs' e11
    have e12 := congrFun hs' 12
    have e13 := congrFun hs' 13
    have e14 := congrFun hs' 14
    have e15 := congrFun hs' 15
    simp only [Zu, Nat.reduceEqDiff, ↓reduceIte, newPtr, AMem.next_alloc] at e12 e13 e14 e15
    clear hs'
    refine o_norm ?_
    refine q_mem (fun M3 hEM3 => ?_)
    have hnM3 := congrArg AMem.next hEM3; simp only [Zn, Nat.add_assoc, Nat.reduceAdd] at hnM3
    have hnxM3 : M.next ≤ M3.next := by have := hnxM2; omega
    have holdM3 : ∀ j, j < M.next → M3.get j = M.get j := fun j hj => by have := hnxM2; rw [hEM3]; simp (disch := first | (refine Zx ?_; simp only [Zn]; done) | ((try simp only [Zn]); omega)) only [Zg]; exact holdM2 j hj
    have hcM3 : ∀ j, j < M2.next → M3.get j = M2.get j := fun j hj => by rw [hEM3]; simp (disch := first | (refine Zx ?_; simp only [Zn]; done) | ((try simp only [Zn]); omega)) only [Zg]
    have gM3_0 := congrArg (fun m => AMem.get m M2.next) hEM3; try simp (disch := first | (refine Zx ?_; simp only [Zn]; done) | ((try simp only [Zn]); omega)) only [Zg, Nat.add_assoc, Nat.reduceAdd] at gM3_0
    have gM3_1 := congrArg (fun m => AMem.get m (M2.next + 1)) hEM3; try simp (disch := first | (refine Zx ?_; simp only [Zn]; done) | ((try simp only [Zn]); omega)) only [Zg, Nat.add_assoc, Nat.reduceAdd] at gM3_1
    clear hEM3
    have hkF8 : ∀ j, j < MF.next → M3.get j = MF.get j := fun j hj => by rw [hcM3 j (by omega), hkF j hj]
    have hpv8 := hpv.keep (M' := M3) (by omega) (fun j _ hj => hcM3 j hj)
    have hbv8 := hbv.keep (M' := M3) (by omega) (fun j _ hj => hcM3 j hj)
    have hF8 := (hkF8 M.next (by omega)).trans hF0
    refine t_norm ?_
    refine at_seq rfl ?_
    refine at_seq rfl ?_
    rcases tup_cases tt t htp with ⟨u1, ue⟩ | ⟨u1, u2, ue⟩ | ⟨u1, u2, u3, ue⟩ | ⟨u1, u2, u3, u4, ue⟩ | ⟨u1, u2, u3, u4, u5, ue⟩ | ⟨u1, u2, u3, u4, u5, ue⟩
    ·
     refine at_region hS rfl (by kernel_rfl) ?_
     refine s_op (a_mv e15) rfl ?_
     refine s_op (a_un (by simp (disch := omega) only [Zu, Nat.reduceEqDiff, ↓reduceIte, Zd, reduceCtorEq, aun, wrap_i64, IntKind.signed, hF8, Nat.zero_add, u1] <;> rfl)) rfl ?_
     refine s_mv ?_
     refine s_tk ?_
     refine s_op (a_fa (by simp only [Zu, Nat.reduceEqDiff, ↓reduceIte, fa39_1, Nat.zero_add, hF8, fa39_0, fa39_2, fa39_3, fa39_4, u1, newPtr, AMem.next_alloc, e12] <;> rfl)) rfl ?_
     refine s_tk ?_
     refine s_op (a_load (by simp only [Zu, Nat.reduceEqDiff, ↓reduceIte, hF8, Nat.zero_add, ld3, ld23, tc_0, tc_1, tc_2, tc_3, tc_4, u1, newPtr, AMem.next_alloc, gM3_0, gM3_1] <;> rfl) (by simp (disch := first | (refine Zx ?_; simp only [Zn]; done) | ((try simp only [Zn]); omega)) only [Zg, hF8, Nat.zero_add, ld3, ld23, tc_0, tc_1, tc_2, tc_3, tc_4, u1, newPtr, gM3_0, gM3_1] <;> rfl) (by simp only [ld23, Zl, hF8, Nat.zero_add, ld3, tc_0, tc_1, tc_2, tc_3, tc_4, u1, newPtr, AMem.next_alloc, gM3_0, gM3_1] <;> rfl)) rfl ?_
     refine s_tk ?_
     refine s_op (a_fa (by simp only [Zu, Nat.reduceEqDiff, ↓reduceIte, fa39_1, Nat.zero_add, hF8, fa39_0, fa39_2, fa39_3, fa39_4, u1, newPtr, AMem.next_alloc, e4] <;> rfl)) rfl ?_
     refine s_tk ?_
     refine s_op (a_load (by simp only [Zu, Nat.reduceEqDiff, ↓reduceIte, hF8, Nat.zero_add, ld3, ld23, tc_0, tc_1, tc_2, tc_3, tc_4, u1, newPtr, AMem.next_alloc, gM3_0, gM3_1] <;> rfl) (by simp (disch := first | (refine Zx ?_; simp only [Zn]; done) | ((try simp only [Zn]); omega)) only [Zg, hF8, Nat.zero_add, ld3, ld23, tc_0, tc_1, tc_2, tc_3, tc_4, u1, newPtr, gM3_0, gM3_1] <;> rfl) (by simp only [ld23, Zl, hF8, Nat.zero_add, ld3, tc_0, tc_1, tc_2, tc_3, tc_4, u1, newPtr, AMem.next_alloc, gM3_0, gM3_1] <;> rfl)) rfl ?_
     refine s_tk ?_
     refine s_op (a_bin (by simp (disch := omega) only [Zu, Nat.reduceEqDiff, ↓reduceIte, Zd, reduceCtorEq, abin_neq, abin_aneq, ne_eq, not_false_eq_true, hF8, Nat.zero_add, u1] <;> rfl)) rfl ?_
     refine s_op (a_pick (by simp only [Zu, Nat.reduceEqDiff, ↓reduceIte, Zd, reduceCtorEq, hF8, Nat.zero_add, u1] <;> rfl) (by simp only [Zu, Nat.reduceEqDiff, ↓reduceIte, Zd, reduceCtorEq, hF8, Nat.zero_add, u1] <;> rfl)) rfl ?_
     refine s_mv ?_
     refine s_lv ?_
     refine s_lv ?_
     refine s_lv ?_
     refine s_lv ?_
     refine s_lv ?_
     refine s_op (a_pick (by simp only [Zu, Nat.reduceEqDiff, ↓reduceIte, Zd, reduceCtorEq, hF8, Nat.zero_add, u1] <;> rfl) (by simp only [Zu, Nat.reduceEqDiff, ↓reduceIte, Zd, reduceCtorEq, hF8, Nat.zero_add, u1] <;> rfl)) rfl ?_
     refine s_mv ?_
     refine s_lv ?_
     refine s_lv ?_
     refine s_lv ?_
     refine s_lv ?_
     refine s_lv ?_
     refine s_op (a_pick (by simp only [Zu, Nat.reduceEqDiff, ↓reduceIte, Zd, reduceCtorEq, hF8, Nat.zero_add, u1] <;> rfl) (by simp only [Zu, Nat.reduceEqDiff, ↓reduceIte, Zd, reduceCtorEq, hF8, Nat.zero_add, u1] <;> rfl)) rfl ?_
     refine s_mv ?_
     refine s_lv ?_
     refine s_lv ?_
     refine s_lv ?_
     refine s_lv ?_
     refine s_lv ?_
     refine s_op (a_pick (by simp only [Zu, Nat.reduceEqDiff, ↓reduceIte, Zd, reduceCtorEq, hF8, Nat.zero_add, u1] <;> rfl) (by simp only [Zu, Nat.reduceEqDiff, ↓reduceIte, Zd, reduceCtorEq, hF8, Nat.zero_add, u1] <;> rfl)) rfl ?_
     refine s_mv ?_
     refine s_lv ?_
     refine s_lv ?_
     refine s_lv ?_
     refine s_op (a_pick (by simp only [Zu, Nat.reduceEqDiff, ↓reduceIte, Zd, reduceCtorEq, hF8, Nat.zero_add, u1] <;> rfl) (by simp only [Zu, Nat.reduceEqDiff, ↓reduceIte, Zd, reduceCtorEq, hF8, Nat.zero_add, u1] <;> rfl)) rfl ?_
     refine s_end (fun s' hs' => ?_)
     replace e2 := kp 2 hs' e2
     replace e4 := kp 4 hs' e4
     replace e7 := kp 7 hs' e7
     replace e8 := kp 8 hs' e8
     replace e9 := kp 9 hs' e9
     replace e10 := kp 10 hs' e10
     replace e11 := kp 11 hs' e11
     replace e13 := kp 13 hs' e13
     replace e14 := kp 14 hs' e14
     have e73 := congrFun hs' 73
     simp only [Zu, Nat.reduceEqDiff, ↓reduceIte, newPtr, AMem.next_alloc] at e73
     clear hs'
     try clear e12 e15
     refine o_norm ?_
     refine t_norm ?_
     refine at_cond rfl rfl e73 (fun h9 => ?_) (fun hc => by simp at hc)
     try simp only [Zh] at h9
     refine at_exit rfl ?_
     refine t_exit ?_
     refine b_here ?_
     refine t_norm ?_
     exact ⟨pv, bv, (by first | exact e2 | (rw [e2]; rfl) | (rw [e2]; simp; done)), (by first | exact e4 | (rw [e4]; rfl) | (rw [e4]; simp; done)), (by first | exact e7 | (rw [e7]; rfl) | (rw [e7]; simp; done)), (by first | exact e8 | (rw [e8]; rfl) | (rw [e8]; simp; done)), (by first | exact e9 | (rw [hsn]; exact e9) | (rw [hsn, payStep, if_neg ue]; exact e9)), (by first | exact e10 | (rw [e10]; rfl) | (rw [e10]; simp; done)), (by first | exact e11 | (rw [e11]; rfl) | (rw [e11]; simp; done)), (by first | exact hkF2 | exact hkF8), (by first | exact hpw | (rw [hsn]; exact hpv8) | (rw [hsn, payStep, if_neg ue]; exact hpv8)), (by first | exact hbw | (rw [hsn]; exact hbv8) | (rw [hsn, payStep, if_neg ue]; exact hbv8)), (by first | exact hdw | exact hdj), hnxM3, by omega, holdM3, rfl⟩
    ·
     refine at_region hS rfl (by kernel_rfl) ?_
     refine s_op (a_mv e15) rfl ?_
     refine s_op (a_un (by simp (disch := omega) only [Zu, Nat.reduceEqDiff, ↓reduceIte, Zd, reduceCtorEq, aun, wrap_i64, IntKind.signed, hF8, Nat.zero_add, u1, u2] <;> rfl)) rfl ?_
     refine s_mv ?_
     refine s_tk ?_
     refine s_op (a_fa (by simp only [Zu, Nat.reduceEqDiff, ↓reduceIte, fa39_1, Nat.zero_add, hF8, fa39_0, fa39_2, fa39_3, fa39_4, u1, u2, newPtr, AMem.next_alloc, e12] <;> rfl)) rfl ?_
     refine s_tk ?_
     refine s_op (a_load (by simp only [Zu, Nat.reduceEqDiff, ↓reduceIte, hF8, Nat.zero_add, ld3, ld23, tc_0, tc_1, tc_2, tc_3, tc_4, u1, u2, newPtr, AMem.next_alloc, gM3_0, gM3_1] <;> rfl) (by simp (disch := first | (refine Zx ?_; simp only [Zn]; done) | ((try simp only [Zn]); omega)) only [Zg, hF8, Nat.zero_add, ld3, ld23, tc_0, tc_1, tc_2, tc_3, tc_4, u1, u2, newPtr, gM3_0, gM3_1] <;> rfl) (by simp only [ld23, Zl, hF8, Nat.zero_add, ld3, tc_0, tc_1, tc_2, tc_3, tc_4, u1, u2, newPtr, AMem.next_alloc, gM3_0, gM3_1] <;> rfl)) rfl ?_
     refine s_tk ?_
     refine s_op (a_fa (by simp only [Zu, Nat.reduceEqDiff, ↓reduceIte, fa39_1, Nat.zero_add, hF8, fa39_0, fa39_2, fa39_3, fa39_4, u1, u2, newPtr, AMem.next_alloc, e4] <;> rfl)) rfl ?_
     refine s_tk ?_
     refine s_op (a_load (by simp only [Zu, Nat.reduceEqDiff, ↓reduceIte, hF8, Nat.zero_add, ld3, ld23, tc_0, tc_1, tc_2, tc_3, tc_4, u1, u2, newPtr, AMem.next_alloc, gM3_0, gM3_1] <;> rfl) (by simp (disch := first | (refine Zx ?_; simp only [Zn]; done) | ((try simp only [Zn]); omega)) only [Zg, hF8, Nat.zero_add, ld3, ld23, tc_0, tc_1, tc_2, tc_3, tc_4, u1, u2, newPtr, gM3_0, gM3_1] <;> rfl) (by simp only [ld23, Zl, hF8, Nat.zero_add, ld3, tc_0, tc_1, tc_2, tc_3, tc_4, u1, u2, newPtr, AMem.next_alloc, gM3_0, gM3_1] <;> rfl)) rfl ?_
     refine s_tk ?_
     refine s_op (a_bin (by simp (disch := omega) only [Zu, Nat.reduceEqDiff, ↓reduceIte, Zd, reduceCtorEq, abin_neq, abin_aneq, ne_eq, not_false_eq_true, hF8, Nat.zero_add, u1, u2] <;> rfl)) rfl ?_
     refine s_op (a_pick (by simp only [Zu, Nat.reduceEqDiff, ↓reduceIte, Zd, reduceCtorEq, hF8, Nat.zero_add, u1, u2] <;> rfl) (by simp only [Zu, Nat.reduceEqDiff, ↓reduceIte, Zd, reduceCtorEq, hF8, Nat.zero_add, u1, u2] <;> rfl)) rfl ?_
     refine s_mv ?_
     refine s_tk ?_
     refine s_op (a_fa (by simp only [Zu, Nat.reduceEqDiff, ↓reduceIte, fa39_2, Nat.zero_add, hF8, fa39_0, fa39_1, fa39_3, fa39_4, u1, u2, newPtr, AMem.next_alloc, e12] <;> rfl)) rfl ?_
     refine s_tk ?_
     refine s_op (a_load (by simp only [Zu, Nat.reduceEqDiff, ↓reduceIte, hF8, Nat.zero_add, ld3, ld23, tc_0, tc_1, tc_2, tc_3, tc_4, u1, u2, newPtr, AMem.next_alloc, gM3_0, gM3_1] <;> rfl) (by simp (disch := first | (refine Zx ?_; simp only [Zn]; done) | ((try simp only [Zn]); omega)) only [Zg, hF8, Nat.zero_add, ld3, ld23, tc_0, tc_1, tc_2, tc_3, tc_4, u1, u2, newPtr, gM3_0, gM3_1] <;> rfl) (by simp only [ld23, Zl, hF8, Nat.zero_add, ld3, tc_0, tc_1, tc_2, tc_3, tc_4, u1, u2, newPtr, AMem.next_alloc, gM3_0, gM3_1] <;> rfl)) rfl ?_
     refine s_tk ?_
     refine s_op (a_fa (by simp only [Zu, Nat.reduceEqDiff, ↓reduceIte, fa39_2, Nat.zero_add, hF8, fa39_0, fa39_1, fa39_3, fa39_4, u1, u2, newPtr, AMem.next_alloc, e4] <;> rfl)) rfl ?_
     refine s_tk ?_
     refine s_op (a_load (by simp only [Zu, Nat.reduceEqDiff, ↓reduceIte, hF8, Nat.zero_add, ld3, ld23, tc_0, tc_1, tc_2, tc_3, tc_4, u1, u2, newPtr, AMem.next_alloc, gM3_0, gM3_1] <;> rfl) (by simp (disch := first | (refine Zx ?_; simp only [Zn]; done) | ((try simp only [Zn]); omega)) only [Zg, hF8, Nat.zero_add, ld3, ld23, tc_0, tc_1, tc_2, tc_3, tc_4, u1, u2, newPtr, gM3_0, gM3_1] <;> rfl) (by simp only [ld23, Zl, hF8, Nat.zero_add, ld3, tc_0, tc_1, tc_2, tc_3, tc_4, u1, u2, newPtr, AMem.next_alloc, gM3_0, gM3_1] <;> rfl)) rfl ?_
     refine s_tk ?_
     refine s_op (a_bin (by simp (disch := omega) only [Zu, Nat.reduceEqDiff, ↓reduceIte, Zd, reduceCtorEq, abin_neq, abin_aneq, ne_eq, not_false_eq_true, hF8, Nat.zero_add, u1, u2] <;> rfl)) rfl ?_
     refine s_op (a_pick (by simp only [Zu, Nat.reduceEqDiff, ↓reduceIte, Zd, reduceCtorEq, hF8, Nat.zero_add, u1, u2] <;> rfl) (by simp only [Zu, Nat.reduceEqDiff, ↓reduceIte, Zd, reduceCtorEq, hF8, Nat.zero_add, u1, u2] <;> rfl)) rfl ?_
     refine s_mv ?_
     refine s_lv ?_
     refine s_lv ?_
     refine s_lv ?_
     refine s_lv ?_
     refine s_lv ?_
     refine s_op (a_pick (by simp only [Zu, Nat.reduceEqDiff, ↓reduceIte, Zd, reduceCtorEq, hF8, Nat.zero_add, u1, u2] <;> rfl) (by simp only [Zu, Nat.reduceEqDiff, ↓reduceIte, Zd, reduceCtorEq, hF8, Nat.zero_add, u1, u2] <;> rfl)) rfl ?_
     refine s_mv ?_
     refine s_lv ?_
     refine s_lv ?_
     refine s_lv ?_
     refine s_lv ?_
     refine s_lv ?_
     refine s_op (a_pick (by simp only [Zu, Nat.reduceEqDiff, ↓reduceIte, Zd, reduceCtorEq, hF8, Nat.zero_add, u1, u2] <;> rfl) (by simp only [Zu, Nat.reduceEqDiff, ↓reduceIte, Zd, reduceCtorEq, hF8, Nat.zero_add, u1, u2] <;> rfl)) rfl ?_
     refine s_mv ?_
     refine s_lv ?_
     refine s_lv ?_
     refine s_lv ?_
     refine s_op (a_pick (by simp only [Zu, Nat.reduceEqDiff, ↓reduceIte, Zd, reduceCtorEq, hF8, Nat.zero_add, u1, u2] <;> rfl) (by simp only [Zu, Nat.reduceEqDiff, ↓reduceIte, Zd, reduceCtorEq, hF8, Nat.zero_add, u1, u2] <;> rfl)) rfl ?_
     refine s_end (fun s' hs' => ?_)
     replace e2 := kp 2 hs' e2
     replace e4 := kp 4 hs' e4
     replace e7 := kp 7 hs' e7
     replace e8 := kp 8 hs' e8
     replace e9 := kp 9 hs' e9
     replace e10 := kp 10 hs' e10
     replace e11 := kp 11 hs' e11
     replace e13 := kp 13 hs' e13
     replace e14 := kp 14 hs' e14
     have e73 := congrFun hs' 73
     simp only [Zu, Nat.reduceEqDiff, ↓reduceIte, newPtr, AMem.next_alloc] at e73
     clear hs'
     try clear e12 e15
     refine o_norm ?_
     refine t_norm ?_
     refine at_cond rfl rfl e73 (fun h9 => ?_) (fun hc => by simp at hc)
     try simp only [Zh] at h9
     refine at_exit rfl ?_
     refine t_exit ?_
     refine b_here ?_
     refine t_norm ?_
     exact ⟨pv, bv, (by first | exact e2 | (rw [e2]; rfl) | (rw [e2]; simp; done)), (by first | exact e4 | (rw [e4]; rfl) | (rw [e4]; simp; done)), (by first | exact e7 | (rw [e7]; rfl) | (rw [e7]; simp; done)), (by first | exact e8 | (rw [e8]; rfl) | (rw [e8]; simp; done)), (by first | exact e9 | (rw [hsn]; exact e9) | (rw [hsn, payStep, if_neg ue]; exact e9)), (by first | exact e10 | (rw [e10]; rfl) | (rw [e10]; simp; done)), (by first | exact e11 | (rw [e11]; rfl) | (rw [e11]; simp; done)), (by first | exact hkF2 | exact hkF8), (by first | exact hpw | (rw [hsn]; exact hpv8) | (rw [hsn, payStep, if_neg ue]; exact hpv8)), (by first | exact hbw | (rw [hsn]; exact hbv8) | (rw [hsn, payStep, if_neg ue]; exact hbv8)), (by first | exact hdw | exact hdj), hnxM3, by omega, holdM3, rfl⟩
    ·
     refine at_region hS rfl (by kernel_rfl) ?_
     refine s_op (a_mv e15) rfl ?_
     refine s_op (a_un (by simp (disch := omega) only [Zu, Nat.reduceEqDiff, ↓reduceIte, Zd, reduceCtorEq, aun, wrap_i64, IntKind.signed, hF8, Nat.zero_add, u1, u2, u3] <;> rfl)) rfl ?_
     refine s_mv ?_
     refine s_tk ?_
     refine s_op (a_fa (by simp only [Zu, Nat.reduceEqDiff, ↓reduceIte, fa39_1, Nat.zero_add, hF8, fa39_0, fa39_2, fa39_3, fa39_4, u1, u2, u3, newPtr, AMem.next_alloc, e12] <;> rfl)) rfl ?_
     refine s_tk ?_
     refine s_op (a_load (by simp only [Zu, Nat.reduceEqDiff, ↓reduceIte, hF8, Nat.zero_add, ld3, ld23, tc_0, tc_1, tc_2, tc_3, tc_4, u1, u2, u3, newPtr, AMem.next_alloc, gM3_0, gM3_1] <;> rfl) (by simp (disch := first | (refine Zx ?_; simp only [Zn]; done) | ((try simp only [Zn]); omega)) only [Zg, hF8, Nat.zero_add, ld3, ld23, tc_0, tc_1, tc_2, tc_3, tc_4, u1, u2, u3, newPtr, gM3_0, gM3_1] <;> rfl) (by simp only [ld23, Zl, hF8, Nat.zero_add, ld3, tc_0, tc_1, tc_2, tc_3, tc_4, u1, u2, u3, newPtr, AMem.next_alloc, gM3_0, gM3_1] <;> rfl)) rfl ?_
     refine s_tk ?_
     refine s_op (a_fa (by simp only [Zu, Nat.reduceEqDiff, ↓reduceIte, fa39_1, Nat.zero_add, hF8, fa39_0, fa39_2, fa39_3, fa39_4, u1, u2, u3, newPtr, AMem.next_alloc, e4] <;> rfl)) rfl ?_
     refine s_tk ?_
     refine s_op (a_load (by simp only [Zu, Nat.reduceEqDiff, ↓reduceIte, hF8, Nat.zero_add, ld3, ld23, tc_0, tc_1, tc_2, tc_3, tc_4, u1, u2, u3, newPtr, AMem.next_alloc, gM3_0, gM3_1] <;> rfl) (by simp (disch := first | (refine Zx ?_; simp only [Zn]; done) | ((try simp only [Zn]); omega)) only [Zg, hF8, Nat.zero_add, ld3, ld23, tc_0, tc_1, tc_2, tc_3, tc_4, u1, u2, u3, newPtr, gM3_0, gM3_1] <;> rfl) (by simp only [ld23, Zl, hF8, Nat.zero_add, ld3, tc_0, tc_1, tc_2, tc_3, tc_4, u1, u2, u3, newPtr, AMem.next_alloc, gM3_0, gM3_1] <;> rfl)) rfl ?_
     refine s_tk ?_
     refine s_op (a_bin (by simp (disch := omega) only [Zu, Nat.reduceEqDiff, ↓reduceIte, Zd, reduceCtorEq, abin_neq, abin_aneq, ne_eq, not_false_eq_true, hF8, Nat.zero_add, u1, u2, u3] <;> rfl)) rfl ?_
     refine s_op (a_pick (by simp only [Zu, Nat.reduceEqDiff, ↓reduceIte, Zd, reduceCtorEq, hF8, Nat.zero_add, u1, u2, u3] <;> rfl) (by simp only [Zu, Nat.reduceEqDiff, ↓reduceIte, Zd, reduceCtorEq, hF8, Nat.zero_add, u1, u2, u3] <;> rfl)) rfl ?_
     refine s_mv ?_
     refine s_tk ?_
     refine s_op (a_fa (by simp only [Zu, Nat.reduceEqDiff, ↓reduceIte, fa39_2, Nat.zero_add, hF8, fa39_0, fa39_1, fa39_3, fa39_4, u1, u2, u3, newPtr, AMem.next_alloc, e12] <;> rfl)) rfl ?_
     refine s_tk ?_
     refine s_op (a_load (by simp only [Zu, Nat.reduceEqDiff, ↓reduceIte, hF8, Nat.zero_add, ld3, ld23, tc_0, tc_1, tc_2, tc_3, tc_4, u1, u2, u3, newPtr, AMem.next_alloc, gM3_0, gM3_1] <;> rfl) (by simp (disch := first | (refine Zx ?_; simp only [Zn]; done) | ((try simp only [Zn]); omega)) only [Zg, hF8, Nat.zero_add, ld3, ld23, tc_0, tc_1, tc_2, tc_3, tc_4, u1, u2, u3, newPtr, gM3_0, gM3_1] <;> rfl) (by simp only [ld23, Zl, hF8, Nat.zero_add, ld3, tc_0, tc_1, tc_2, tc_3, tc_4, u1, u2, u3, newPtr, AMem.next_alloc, gM3_0, gM3_1] <;> rfl)) rfl ?_
     refine s_tk ?_
     refine s_op (a_fa (by simp only [Zu, Nat.reduceEqDiff, ↓reduceIte, fa39_2, Nat.zero_add, hF8, fa39_0, fa39_1, fa39_3, fa39_4, u1, u2, u3, newPtr, AMem.next_alloc, e4] <;> rfl)) rfl ?_
     refine s_tk ?_
     refine s_op (a_load (by simp only [Zu, Nat.reduceEqDiff, ↓reduceIte, hF8, Nat.zero_add, ld3, ld23, tc_0, tc_1, tc_2, tc_3, tc_4, u1, u2, u3, newPtr, AMem.next_alloc, gM3_0, gM3_1] <;> rfl) (by simp (disch := first | (refine Zx ?_; simp only [Zn]; done) | ((try simp only [Zn]); omega)) only [Zg, hF8, Nat.zero_add, ld3, ld23, tc_0, tc_1, tc_2, tc_3, tc_4, u1, u2, u3, newPtr, gM3_0, gM3_1] <;> rfl) (by simp only [ld23, Zl, hF8, Nat.zero_add, ld3, tc_0, tc_1, tc_2, tc_3, tc_4, u1, u2, u3, newPtr, AMem.next_alloc, gM3_0, gM3_1] <;> rfl)) rfl ?_
     refine s_tk ?_
     refine s_op (a_bin (by simp (disch := omega) only [Zu, Nat.reduceEqDiff, ↓reduceIte, Zd, reduceCtorEq, abin_neq, abin_aneq, ne_eq, not_false_eq_true, hF8, Nat.zero_add, u1, u2, u3] <;> rfl)) rfl ?_
     refine s_op (a_pick (by simp only [Zu, Nat.reduceEqDiff, ↓reduceIte, Zd, reduceCtorEq, hF8, Nat.zero_add, u1, u2, u3] <;> rfl) (by simp only [Zu, Nat.reduceEqDiff, ↓reduceIte, Zd, reduceCtorEq, hF8, Nat.zero_add, u1, u2, u3] <;> rfl)) rfl ?_
     refine s_mv ?_
     refine s_tk ?_
     refine s_op (a_fa (by simp only [Zu, Nat.reduceEqDiff, ↓reduceIte, fa39_3, Nat.zero_add, hF8, fa39_0, fa39_1, fa39_2, fa39_4, u1, u2, u3, newPtr, AMem.next_alloc, e12] <;> rfl)) rfl ?_
     refine s_tk ?_
     refine s_op (a_load (by simp only [Zu, Nat.reduceEqDiff, ↓reduceIte, hF8, Nat.zero_add, ld3, ld23, tc_0, tc_1, tc_2, tc_3, tc_4, u1, u2, u3, newPtr, AMem.next_alloc, gM3_0, gM3_1] <;> rfl) (by simp (disch := first | (refine Zx ?_; simp only [Zn]; done) | ((try simp only [Zn]); omega)) only [Zg, hF8, Nat.zero_add, ld3, ld23, tc_0, tc_1, tc_2, tc_3, tc_4, u1, u2, u3, newPtr, gM3_0, gM3_1] <;> rfl) (by simp only [ld3, Zl, hF8, Nat.zero_add, ld23, tc_0, tc_1, tc_2, tc_3, tc_4, u1, u2, u3, newPtr, AMem.next_alloc, gM3_0, gM3_1] <;> rfl)) rfl ?_
     refine s_tk ?_
     refine s_op (a_fa (by simp only [Zu, Nat.reduceEqDiff, ↓reduceIte, fa39_3, Nat.zero_add, hF8, fa39_0, fa39_1, fa39_2, fa39_4, u1, u2, u3, newPtr, AMem.next_alloc, e4] <;> rfl)) rfl ?_
     refine s_tk ?_
     refine s_op (a_load (by simp only [Zu, Nat.reduceEqDiff, ↓reduceIte, hF8, Nat.zero_add, ld3, ld23, tc_0, tc_1, tc_2, tc_3, tc_4, u1, u2, u3, newPtr, AMem.next_alloc, gM3_0, gM3_1] <;> rfl) (by simp (disch := first | (refine Zx ?_; simp only [Zn]; done) | ((try simp only [Zn]); omega)) only [Zg, hF8, Nat.zero_add, ld3, ld23, tc_0, tc_1, tc_2, tc_3, tc_4, u1, u2, u3, newPtr, gM3_0, gM3_1] <;> rfl) (by simp only [ld3, Zl, hF8, Nat.zero_add, ld23, tc_0, tc_1, tc_2, tc_3, tc_4, u1, u2, u3, newPtr, AMem.next_alloc, gM3_0, gM3_1] <;> rfl)) rfl ?_
     refine s_tk ?_
     refine s_op (a_bin (by simp (disch := omega) only [Zu, Nat.reduceEqDiff, ↓reduceIte, Zd, reduceCtorEq, abin_neq, abin_aneq, ne_eq, not_false_eq_true, hF8, Nat.zero_add, u1, u2, u3] <;> rfl)) rfl ?_
     refine s_op (a_pick (by simp only [Zu, Nat.reduceEqDiff, ↓reduceIte, Zd, reduceCtorEq, hF8, Nat.zero_add, u1, u2, u3] <;> rfl) (by simp only [Zu, Nat.reduceEqDiff, ↓reduceIte, Zd, reduceCtorEq, hF8, Nat.zero_add, u1, u2, u3] <;> rfl)) rfl ?_
     refine s_mv ?_
     refine s_lv ?_
     refine s_lv ?_
     refine s_lv ?_
     refine s_lv ?_
     refine s_lv ?_
     refine s_op (a_pick (by simp only [Zu, Nat.reduceEqDiff, ↓reduceIte, Zd, reduceCtorEq, hF8, Nat.zero_add, u1, u2, u3] <;> rfl) (by simp only [Zu, Nat.reduceEqDiff, ↓reduceIte, Zd, reduceCtorEq, hF8, Nat.zero_add, u1, u2, u3] <;> rfl)) rfl ?_
     refine s_mv ?_
     refine s_lv ?_
     refine s_lv ?_
     refine s_lv ?_
     refine s_op (a_pick (by simp only [Zu, Nat.reduceEqDiff, ↓reduceIte, Zd, reduceCtorEq, hF8, Nat.zero_add, u1, u2, u3] <;> rfl) (by simp only [Zu, Nat.reduceEqDiff, ↓reduceIte, Zd, reduceCtorEq, hF8, Nat.zero_add, u1, u2, u3] <;> rfl)) rfl ?_
     refine s_end (fun s' hs' => ?_)
     replace e2 := kp 2 hs' e2
     replace e4 := kp 4 hs' e4
     replace e7 := kp 7 hs' e7
     replace e8 := kp 8 hs' e8
     replace e9 := kp 9 hs' e9
     replace e10 := kp 10 hs' e10
     replace e11 := kp 11 hs' e11
     replace e13 := kp 13 hs' e13
     replace e14 := kp 14 hs' e14
     have e73 := congrFun hs' 73
     simp only [Zu, Nat.reduceEqDiff, ↓reduceIte, newPtr, AMem.next_alloc] at e73
     clear hs'
     try clear e12 e15
     refine o_norm ?_
     refine t_norm ?_
     refine at_cond rfl rfl e73 (fun h9 => ?_) (fun hc => by simp at hc)
     try simp only [Zh] at h9
     refine at_exit rfl ?_
     refine t_exit ?_
     refine b_here ?_
     refine t_norm ?_
     exact ⟨pv, bv, (by first | exact e2 | (rw [e2]; rfl) | (rw [e2]; simp; done)), (by first | exact e4 | (rw [e4]; rfl) | (rw [e4]; simp; done)), (by first | exact e7 | (rw [e7]; rfl) | (rw [e7]; simp; done)), (by first | exact e8 | (rw [e8]; rfl) | (rw [e8]; simp; done)), (by first | exact e9 | (rw [hsn]; exact e9) | (rw [hsn, payStep, if_neg ue]; exact e9)), (by first | exact e10 | (rw [e10]; rfl) | (rw [e10]; simp; done)), (by first | exact e11 | (rw [e11]; rfl) | (rw [e11]; simp; done)), (by first | exact hkF2 | exact hkF8), (by first | exact hpw | (rw [hsn]; exact hpv8) | (rw [hsn, payStep, if_neg ue]; exact hpv8)), (by first | exact hbw | (rw [hsn]; exact hbv8) | (rw [hsn, payStep, if_neg ue]; exact hbv8)), (by first | exact hdw | exact hdj), hnxM3, by omega, holdM3, rfl⟩
    ·
     refine at_region hS rfl (by kernel_rfl) ?_
     refine s_op (a_mv e15) rfl ?_
     refine s_op (a_un (by simp (disch := omega) only [Zu, Nat.reduceEqDiff, ↓reduceIte, Zd, reduceCtorEq, aun, wrap_i64, IntKind.signed, hF8, Nat.zero_add, u1, u2, u3, u4] <;> rfl)) rfl ?_
     refine s_mv ?_
     refine s_tk ?_
     refine s_op (a_fa (by simp only [Zu, Nat.reduceEqDiff, ↓reduceIte, fa39_1, Nat.zero_add, hF8, fa39_0, fa39_2, fa39_3, fa39_4, u1, u2, u3, u4, newPtr, AMem.next_alloc, e12] <;> rfl)) rfl ?_
     refine s_tk ?_
     refine s_op (a_load (by simp only [Zu, Nat.reduceEqDiff, ↓reduceIte, hF8, Nat.zero_add, ld3, ld23, tc_0, tc_1, tc_2, tc_3, tc_4, u1, u2, u3, u4, newPtr, AMem.next_alloc, gM3_0, gM3_1] <;> rfl) (by simp (disch := first | (refine Zx ?_; simp only [Zn]; done) | ((try simp only [Zn]); omega)) only [Zg, hF8, Nat.zero_add, ld3, ld23, tc_0, tc_1, tc_2, tc_3, tc_4, u1, u2, u3, u4, newPtr, gM3_0, gM3_1] <;> rfl) (by simp only [ld23, Zl, hF8, Nat.zero_add, ld3, tc_0, tc_1, tc_2, tc_3, tc_4, u1, u2, u3, u4, newPtr, AMem.next_alloc, gM3_0, gM3_1] <;> rfl)) rfl ?_
     refine s_tk ?_
     refine s_op (a_fa (by simp only [Zu, Nat.reduceEqDiff, ↓reduceIte, fa39_1, Nat.zero_add, hF8, fa39_0, fa39_2, fa39_3, fa39_4, u1, u2, u3, u4, newPtr, AMem.next_alloc, e4] <;> rfl)) rfl ?_
     refine s_tk ?_
     refine s_op (a_load (by simp only [Zu, Nat.reduceEqDiff, ↓reduceIte, hF8, Nat.zero_add, ld3, ld23, tc_0, tc_1, tc_2, tc_3, tc_4, u1, u2, u3, u4, newPtr, AMem.next_alloc, gM3_0, gM3_1] <;> rfl) (by simp (disch := first | (refine Zx ?_; simp only [Zn]; done) | ((try simp only [Zn]); omega)) only [Zg, hF8, Nat.zero_add, ld3, ld23, tc_0, tc_1, tc_2, tc_3, tc_4, u1, u2, u3, u4, newPtr, gM3_0, gM3_1] <;> rfl) (by simp only [ld23, Zl, hF8, Nat.zero_add, ld3, tc_0, tc_1, tc_2, tc_3, tc_4, u1, u2, u3, u4, newPtr, AMem.next_alloc, gM3_0, gM3_1] <;> rfl)) rfl ?_
     refine s_tk ?_
     refine s_op (a_bin (by simp (disch := omega) only [Zu, Nat.reduceEqDiff, ↓reduceIte, Zd, reduceCtorEq, abin_neq, abin_aneq, ne_eq, not_false_eq_true, hF8, Nat.zero_add, u1, u2, u3, u4] <;> rfl)) rfl ?_
     refine s_op (a_pick (by simp only [Zu, Nat.reduceEqDiff, ↓reduceIte, Zd, reduceCtorEq, hF8, Nat.zero_add, u1, u2, u3, u4] <;> rfl) (by simp only [Zu, Nat.reduceEqDiff, ↓reduceIte, Zd, reduceCtorEq, hF8, Nat.zero_add, u1, u2, u3, u4] <;> rfl)) rfl ?_
     refine s_mv ?_
     refine s_tk ?_
     refine s_op (a_fa (by simp only [Zu, Nat.reduceEqDiff, ↓reduceIte, fa39_2, Nat.zero_add, hF8, fa39_0, fa39_1, fa39_3, fa39_4, u1, u2, u3, u4, newPtr, AMem.next_alloc, e12] <;> rfl)) rfl ?_
     refine s_tk ?_
     refine s_op (a_load (by simp only [Zu, Nat.reduceEqDiff, ↓reduceIte, hF8, Nat.zero_add, ld3, ld23, tc_0, tc_1, tc_2, tc_3, tc_4, u1, u2, u3, u4, newPtr, AMem.next_alloc, gM3_0, gM3_1] <;> rfl) (by simp (disch := first | (refine Zx ?_; simp only [Zn]; done) | ((try simp only [Zn]); omega)) only [Zg, hF8, Nat.zero_add, ld3, ld23, tc_0, tc_1, tc_2, tc_3, tc_4, u1, u2, u3, u4, newPtr, gM3_0, gM3_1] <;> rfl) (by simp only [ld23, Zl, hF8, Nat.zero_add, ld3, tc_0, tc_1, tc_2, tc_3, tc_4, u1, u2, u3, u4, newPtr, AMem.next_alloc, gM3_0, gM3_1] <;> rfl)) rfl ?_
     refine s_tk ?_
     refine s_op (a_fa (by simp only [Zu, Nat.reduceEqDiff, ↓reduceIte, fa39_2, Nat.zero_add, hF8, fa39_0, fa39_1, fa39_3, fa39_4, u1, u2, u3, u4, newPtr, AMem.next_alloc, e4] <;> rfl)) rfl ?_
     refine s_tk ?_
     refine s_op (a_load (by simp only [Zu, Nat.reduceEqDiff, ↓reduceIte, hF8, Nat.zero_add, ld3, ld23, tc_0, tc_1, tc_2, tc_3, tc_4, u1, u2, u3, u4, newPtr, AMem.next_alloc, gM3_0, gM3_1] <;> rfl) (by simp (disch := first | (refine Zx ?_; simp only [Zn]; done) | ((try simp only [Zn]); omega)) only [Zg, hF8, Nat.zero_add, ld3, ld23, tc_0, tc_1, tc_2, tc_3, tc_4, u1, u2, u3, u4, newPtr, gM3_0, gM3_1] <;> rfl) (by simp only [ld23, Zl, hF8, Nat.zero_add, ld3, tc_0, tc_1, tc_2, tc_3, tc_4, u1, u2, u3, u4, newPtr, AMem.next_alloc, gM3_0, gM3_1] <;> rfl)) rfl ?_
     refine s_tk ?_
     refine s_op (a_bin (by simp (disch := omega) only [Zu, Nat.reduceEqDiff, ↓reduceIte, Zd, reduceCtorEq, abin_neq, abin_aneq, ne_eq, not_false_eq_true, hF8, Nat.zero_add, u1, u2, u3, u4] <;> rfl)) rfl ?_
     refine s_op (a_pick (by simp only [Zu, Nat.reduceEqDiff, ↓reduceIte, Zd, reduceCtorEq, hF8, Nat.zero_add, u1, u2, u3, u4] <;> rfl) (by simp only [Zu, Nat.reduceEqDiff, ↓reduceIte, Zd, reduceCtorEq, hF8, Nat.zero_add, u1, u2, u3, u4] <;> rfl)) rfl ?_
     refine s_mv ?_
     refine s_tk ?_
     refine s_op (a_fa (by simp only [Zu, Nat.reduceEqDiff, ↓reduceIte, fa39_3, Nat.zero_add, hF8, fa39_0, fa39_1, fa39_2, fa39_4, u1, u2, u3, u4, newPtr, AMem.next_alloc, e12] <;> rfl)) rfl ?_
     refine s_tk ?_
     refine s_op (a_load (by simp only [Zu, Nat.reduceEqDiff, ↓reduceIte, hF8, Nat.zero_add, ld3, ld23, tc_0, tc_1, tc_2, tc_3, tc_4, u1, u2, u3, u4, newPtr, AMem.next_alloc, gM3_0, gM3_1] <;> rfl) (by simp (disch := first | (refine Zx ?_; simp only [Zn]; done) | ((try simp only [Zn]); omega)) only [Zg, hF8, Nat.zero_add, ld3, ld23, tc_0, tc_1, tc_2, tc_3, tc_4, u1, u2, u3, u4, newPtr, gM3_0, gM3_1] <;> rfl) (by simp only [ld3, Zl, hF8, Nat.zero_add, ld23, tc_0, tc_1, tc_2, tc_3, tc_4, u1, u2, u3, u4, newPtr, AMem.next_alloc, gM3_0, gM3_1] <;> rfl)) rfl ?_
     refine s_tk ?_
     refine s_op (a_fa (by simp only [Zu, Nat.reduceEqDiff, ↓reduceIte, fa39_3, Nat.zero_add, hF8, fa39_0, fa39_1, fa39_2, fa39_4, u1, u2, u3, u4, newPtr, AMem.next_alloc, e4] <;> rfl)) rfl ?_
     refine s_tk ?_
     refine s_op (a_load (by simp only [Zu, Nat.reduceEqDiff, ↓reduceIte, hF8, Nat.zero_add, ld3, ld23, tc_0, tc_1, tc_2, tc_3, tc_4, u1, u2, u3, u4, newPtr, AMem.next_alloc, gM3_0, gM3_1] <;> rfl) (by simp (disch := first | (refine Zx ?_; simp only [Zn]; done) | ((try simp only [Zn]); omega)) only [Zg, hF8, Nat.zero_add, ld3, ld23, tc_0, tc_1, tc_2, tc_3, tc_4, u1, u2, u3, u4, newPtr, gM3_0, gM3_1] <;> rfl) (by simp only [ld3, Zl, hF8, Nat.zero_add, ld23, tc_0, tc_1, tc_2, tc_3, tc_4, u1, u2, u3, u4, newPtr, AMem.next_alloc, gM3_0, gM3_1] <;> rfl)) rfl ?_
     refine s_tk ?_
     refine s_op (a_bin (by simp (disch := omega) only [Zu, Nat.reduceEqDiff, ↓reduceIte, Zd, reduceCtorEq, abin_neq, abin_aneq, ne_eq, not_false_eq_true, hF8, Nat.zero_add, u1, u2, u3, u4] <;> rfl)) rfl ?_
     refine s_op (a_pick (by simp only [Zu, Nat.reduceEqDiff, ↓reduceIte, Zd, reduceCtorEq, hF8, Nat.zero_add, u1, u2, u3, u4] <;> rfl) (by simp only [Zu, Nat.reduceEqDiff, ↓reduceIte, Zd, reduceCtorEq, hF8, Nat.zero_add, u1, u2, u3, u4] <;> rfl)) rfl ?_
     refine s_mv ?_
     refine s_tk ?_
     refine s_op (a_fa (by simp only [Zu, Nat.reduceEqDiff, ↓reduceIte, fa39_4, Nat.zero_add, hF8, fa39_0, fa39_1, fa39_2, fa39_3, u1, u2, u3, u4, newPtr, AMem.next_alloc, e12] <;> rfl)) rfl ?_
     refine s_tk ?_
     refine s_op (a_load (by simp only [Zu, Nat.reduceEqDiff, ↓reduceIte, hF8, Nat.zero_add, ld3, ld23, tc_0, tc_1, tc_2, tc_3, tc_4, u1, u2, u3, u4, newPtr, AMem.next_alloc, gM3_0, gM3_1] <;> rfl) (by simp (disch := first | (refine Zx ?_; simp only [Zn]; done) | ((try simp only [Zn]); omega)) only [Zg, hF8, Nat.zero_add, ld3, ld23, tc_0, tc_1, tc_2, tc_3, tc_4, u1, u2, u3, u4, newPtr, gM3_0, gM3_1] <;> rfl) (by simp only [ld3, Zl, hF8, Nat.zero_add, ld23, tc_0, tc_1, tc_2, tc_3, tc_4, u1, u2, u3, u4, newPtr, AMem.next_alloc, gM3_0, gM3_1] <;> rfl)) rfl ?_
     refine s_tk ?_
     refine s_op (a_fa (by simp only [Zu, Nat.reduceEqDiff, ↓reduceIte, fa39_4, Nat.zero_add, hF8, fa39_0, fa39_1, fa39_2, fa39_3, u1, u2, u3, u4, newPtr, AMem.next_alloc, e4] <;> rfl)) rfl ?_
     refine s_tk ?_
     refine s_op (a_load (by simp only [Zu, Nat.reduceEqDiff, ↓reduceIte, hF8, Nat.zero_add, ld3, ld23, tc_0, tc_1, tc_2, tc_3, tc_4, u1, u2, u3, u4, newPtr, AMem.next_alloc, gM3_0, gM3_1] <;> rfl) (by simp (disch := first | (refine Zx ?_; simp only [Zn]; done) | ((try simp only [Zn]); omega)) only [Zg, hF8, Nat.zero_add, ld3, ld23, tc_0, tc_1, tc_2, tc_3, tc_4, u1, u2, u3, u4, newPtr, gM3_0, gM3_1] <;> rfl) (by simp only [ld3, Zl, hF8, Nat.zero_add, ld23, tc_0, tc_1, tc_2, tc_3, tc_4, u1, u2, u3, u4, newPtr, AMem.next_alloc, gM3_0, gM3_1] <;> rfl)) rfl ?_
     refine s_tk ?_
     refine s_op (a_bin (by simp (disch := omega) only [Zu, Nat.reduceEqDiff, ↓reduceIte, Zd, reduceCtorEq, abin_neq, abin_aneq, ne_eq, not_false_eq_true, hF8, Nat.zero_add, u1, u2, u3, u4] <;> rfl)) rfl ?_
     refine s_op (a_pick (by simp only [Zu, Nat.reduceEqDiff, ↓reduceIte, Zd, reduceCtorEq, hF8, Nat.zero_add, u1, u2, u3, u4] <;> rfl) (by simp only [Zu, Nat.reduceEqDiff, ↓reduceIte, Zd, reduceCtorEq, hF8, Nat.zero_add, u1, u2, u3, u4] <;> rfl)) rfl ?_
     refine s_mv ?_
     refine s_lv ?_
     refine s_lv ?_
     refine s_lv ?_
     refine s_op (a_pick (by simp only [Zu, Nat.reduceEqDiff, ↓reduceIte, Zd, reduceCtorEq, hF8, Nat.zero_add, u1, u2, u3, u4] <;> rfl) (by simp only [Zu, Nat.reduceEqDiff, ↓reduceIte, Zd, reduceCtorEq, hF8, Nat.zero_add, u1, u2, u3, u4] <;> rfl)) rfl ?_
     refine s_end (fun s' hs' => ?_)
     replace e2 := kp 2 hs' e2
     replace e4 := kp 4 hs' e4
     replace e7 := kp 7 hs' e7
     replace e8 := kp 8 hs' e8
     replace e9 := kp 9 hs' e9
     replace e10 := kp 10 hs' e10
     replace e11 := kp 11 hs' e11
     replace e13 := kp 13 hs' e13
     replace e14 := kp 14 hs' e14
     have e73 := congrFun hs' 73
     simp only [Zu, Nat.reduceEqDiff, ↓reduceIte, newPtr, AMem.next_alloc] at e73
     clear hs'
     try clear e12 e15
     refine o_norm ?_
     refine t_norm ?_
     refine at_cond rfl rfl e73 (fun h9 => ?_) (fun hc => by simp at hc)
     try simp only [Zh] at h9
     refine at_exit rfl ?_
     refine t_exit ?_
     refine b_here ?_
     refine t_norm ?_
     exact ⟨pv, bv, (by first | exact e2 | (rw [e2]; rfl) | (rw [e2]; simp; done)), (by first | exact e4 | (rw [e4]; rfl) | (rw [e4]; simp; done)), (by first | exact e7 | (rw [e7]; rfl) | (rw [e7]; simp; done)), (by first | exact e8 | (rw [e8]; rfl) | (rw [e8]; simp; done)), (by first | exact e9 | (rw [hsn]; exact e9) | (rw [hsn, payStep, if_neg ue]; exact e9)), (by first | exact e10 | (rw [e10]; rfl) | (rw [e10]; simp; done)), (by first | exact e11 | (rw [e11]; rfl) | (rw [e11]; simp; done)), (by first | exact hkF2 | exact hkF8), (by first | exact hpw | (rw [hsn]; exact hpv8) | (rw [hsn, payStep, if_neg ue]; exact hpv8)), (by first | exact hbw | (rw [hsn]; exact hbv8) | (rw [hsn, payStep, if_neg ue]; exact hbv8)), (by first | exact hdw | exact hdj), hnxM3, by omega, holdM3, rfl⟩
    ·
     refine at_region hS rfl (by kernel_rfl) ?_
     refine s_op (a_mv e15) rfl ?_
     refine s_op (a_un (by simp (disch := omega) only [Zu, Nat.reduceEqDiff, ↓reduceIte, Zd, reduceCtorEq, aun, wrap_i64, IntKind.signed, hF8, Nat.zero_add, u1, u2, u3, u4, u5] <;> rfl)) rfl ?_
     refine s_mv ?_
     refine s_tk ?_
     refine s_op (a_fa (by simp only [Zu, Nat.reduceEqDiff, ↓reduceIte, fa39_1, Nat.zero_add, hF8, fa39_0, fa39_2, fa39_3, fa39_4, u1, u2, u3, u4, u5, newPtr, AMem.next_alloc, e12] <;> rfl)) rfl ?_
     refine s_tk ?_
     refine s_op (a_load (by simp only [Zu, Nat.reduceEqDiff, ↓reduceIte, hF8, Nat.zero_add, ld3, ld23, tc_0, tc_1, tc_2, tc_3, tc_4, u1, u2, u3, u4, u5, newPtr, AMem.next_alloc, gM3_0, gM3_1] <;> rfl) (by simp (disch := first | (refine Zx ?_; simp only [Zn]; done) | ((try simp only [Zn]); omega)) only [Zg, hF8, Nat.zero_add, ld3, ld23, tc_0, tc_1, tc_2, tc_3, tc_4, u1, u2, u3, u4, u5, newPtr, gM3_0, gM3_1] <;> rfl) (by simp only [ld23, Zl, hF8, Nat.zero_add, ld3, tc_0, tc_1, tc_2, tc_3, tc_4, u1, u2, u3, u4, u5, newPtr, AMem.next_alloc, gM3_0, gM3_1] <;> rfl)) rfl ?_
     refine s_tk ?_
     refine s_op (a_fa (by simp only [Zu, Nat.reduceEqDiff, ↓reduceIte, fa39_1, Nat.zero_add, hF8, fa39_0, fa39_2, fa39_3, fa39_4, u1, u2, u3, u4, u5, newPtr, AMem.next_alloc, e4] <;> rfl)) rfl ?_
     refine s_tk ?_
     refine s_op (a_load (by simp only [Zu, Nat.reduceEqDiff, ↓reduceIte, hF8, Nat.zero_add, ld3, ld23, tc_0, tc_1, tc_2, tc_3, tc_4, u1, u2, u3, u4, u5, newPtr, AMem.next_alloc, gM3_0, gM3_1] <;> rfl) (by simp (disch := first | (refine Zx ?_; simp only [Zn]; done) | ((try simp only [Zn]); omega)) only [Zg, hF8, Nat.zero_add, ld3, ld23, tc_0, tc_1, tc_2, tc_3, tc_4, u1, u2, u3, u4, u5, newPtr, gM3_0, gM3_1] <;> rfl) (by simp only [ld23, Zl, hF8, Nat.zero_add, ld3, tc_0, tc_1, tc_2, tc_3, tc_4, u1, u2, u3, u4, u5, newPtr, AMem.next_alloc, gM3_0, gM3_1] <;> rfl)) rfl ?_
     refine s_tk ?_
     refine s_op (a_bin (by simp (disch := omega) only [Zu, Nat.reduceEqDiff, ↓reduceIte, Zd, reduceCtorEq, abin_neq, abin_aneq, ne_eq, not_false_eq_true, hF8, Nat.zero_add, u1, u2, u3, u4, u5] <;> rfl)) rfl ?_
     refine s_op (a_pick (by simp only [Zu, Nat.reduceEqDiff, ↓reduceIte, Zd, reduceCtorEq, hF8, Nat.zero_add, u1, u2, u3, u4, u5] <;> rfl) (by simp only [Zu, Nat.reduceEqDiff, ↓reduceIte, Zd, reduceCtorEq, hF8, Nat.zero_add, u1, u2, u3, u4, u5] <;> rfl)) rfl ?_
     refine s_mv ?_
     refine s_tk ?_
     refine s_op (a_fa (by simp only [Zu, Nat.reduceEqDiff, ↓reduceIte, fa39_2, Nat.zero_add, hF8, fa39_0, fa39_1, fa39_3, fa39_4, u1, u2, u3, u4, u5, newPtr, AMem.next_alloc, e12] <;> rfl)) rfl ?_
     refine s_tk ?_
     refine s_op (a_load (by simp only [Zu, Nat.reduceEqDiff, ↓reduceIte, hF8, Nat.zero_add, ld3, ld23, tc_0, tc_1, tc_2, tc_3, tc_4, u1, u2, u3, u4, u5, newPtr, AMem.next_alloc, gM3_0, gM3_1] <;> rfl) (by simp (disch := first | (refine Zx ?_; simp only [Zn]; done) | ((try simp only [Zn]); omega)) only [Zg, hF8, Nat.zero_add, ld3, ld23, tc_0, tc_1, tc_2, tc_3, tc_4, u1, u2, u3, u4, u5, newPtr, gM3_0, gM3_1] <;> rfl) (by simp only [ld23, Zl, hF8, Nat.zero_add, ld3, tc_0, tc_1, tc_2, tc_3, tc_4, u1, u2, u3, u4, u5, newPtr, AMem.next_alloc, gM3_0, gM3_1] <;> rfl)) rfl ?_
     refine s_tk ?_
     refine s_op (a_fa (by simp only [Zu, Nat.reduceEqDiff, ↓reduceIte, fa39_2, Nat.zero_add, hF8, fa39_0, fa39_1, fa39_3, fa39_4, u1, u2, u3, u4, u5, newPtr, AMem.next_alloc, e4] <;> rfl)) rfl ?_
     refine s_tk ?_
     refine s_op (a_load (by simp only [Zu, Nat.reduceEqDiff, ↓reduceIte, hF8, Nat.zero_add, ld3, ld23, tc_0, tc_1, tc_2, tc_3, tc_4, u1, u2, u3, u4, u5, newPtr, AMem.next_alloc, gM3_0, gM3_1] <;> rfl) (by simp (disch := first | (refine Zx ?_; simp only [Zn]; done) | ((try simp only [Zn]); omega)) only [Zg, hF8, Nat.zero_add, ld3, ld23, tc_0, tc_1, tc_2, tc_3, tc_4, u1, u2, u3, u4, u5, newPtr, gM3_0, gM3_1] <;> rfl) (by simp only [ld23, Zl, hF8, Nat.zero_add, ld3, tc_0, tc_1, tc_2, tc_3, tc_4, u1, u2, u3, u4, u5, newPtr, AMem.next_alloc, gM3_0, gM3_1] <;> rfl)) rfl ?_
     refine s_tk ?_
     refine s_op (a_bin (by simp (disch := omega) only [Zu, Nat.reduceEqDiff, ↓reduceIte, Zd, reduceCtorEq, abin_neq, abin_aneq, ne_eq, not_false_eq_true, hF8, Nat.zero_add, u1, u2, u3, u4, u5] <;> rfl)) rfl ?_
     refine s_op (a_pick (by simp only [Zu, Nat.reduceEqDiff, ↓reduceIte, Zd, reduceCtorEq, hF8, Nat.zero_add, u1, u2, u3, u4, u5] <;> rfl) (by simp only [Zu, Nat.reduceEqDiff, ↓reduceIte, Zd, reduceCtorEq, hF8, Nat.zero_add, u1, u2, u3, u4, u5] <;> rfl)) rfl ?_
     refine s_mv ?_
     refine s_tk ?_
     refine s_op (a_fa (by simp only [Zu, Nat.reduceEqDiff, ↓reduceIte, fa39_3, Nat.zero_add, hF8, fa39_0, fa39_1, fa39_2, fa39_4, u1, u2, u3, u4, u5, newPtr, AMem.next_alloc, e12] <;> rfl)) rfl ?_
     refine s_tk ?_
     refine s_op (a_load (by simp only [Zu, Nat.reduceEqDiff, ↓reduceIte, hF8, Nat.zero_add, ld3, ld23, tc_0, tc_1, tc_2, tc_3, tc_4, u1, u2, u3, u4, u5, newPtr, AMem.next_alloc, gM3_0, gM3_1] <;> rfl) (by simp (disch := first | (refine Zx ?_; simp only [Zn]; done) | ((try simp only [Zn]); omega)) only [Zg, hF8, Nat.zero_add, ld3, ld23, tc_0, tc_1, tc_2, tc_3, tc_4, u1, u2, u3, u4, u5, newPtr, gM3_0, gM3_1] <;> rfl) (by simp only [ld3, Zl, hF8, Nat.zero_add, ld23, tc_0, tc_1, tc_2, tc_3, tc_4, u1, u2, u3, u4, u5, newPtr, AMem.next_alloc, gM3_0, gM3_1] <;> rfl)) rfl ?_
     refine s_tk ?_
     refine s_op (a_fa (by simp only [Zu, Nat.reduceEqDiff, ↓reduceIte, fa39_3, Nat.zero_add, hF8, fa39_0, fa39_1, fa39_2, fa39_4, u1, u2, u3, u4, u5, newPtr, AMem.next_alloc, e4] <;> rfl)) rfl ?_
     refine s_tk ?_
     refine s_op (a_load (by simp only [Zu, Nat.reduceEqDiff, ↓reduceIte, hF8, Nat.zero_add, ld3, ld23, tc_0, tc_1, tc_2, tc_3, tc_4, u1, u2, u3, u4, u5, newPtr, AMem.next_alloc, gM3_0, gM3_1] <;> rfl) (by simp (disch := first | (refine Zx ?_; simp only [Zn]; done) | ((try simp only [Zn]); omega)) only [Zg, hF8, Nat.zero_add, ld3, ld23, tc_0, tc_1, tc_2, tc_3, tc_4, u1, u2, u3, u4, u5, newPtr, gM3_0, gM3_1] <;> rfl) (by simp only [ld3, Zl, hF8, Nat.zero_add, ld23, tc_0, tc_1, tc_2, tc_3, tc_4, u1, u2, u3, u4, u5, newPtr, AMem.next_alloc, gM3_0, gM3_1] <;> rfl)) rfl ?_
     refine s_tk ?_
     refine s_op (a_bin (by simp (disch := omega) only [Zu, Nat.reduceEqDiff, ↓reduceIte, Zd, reduceCtorEq, abin_neq, abin_aneq, ne_eq, not_false_eq_true, hF8, Nat.zero_add, u1, u2, u3, u4, u5] <;> rfl)) rfl ?_
     refine s_op (a_pick (by simp only [Zu, Nat.reduceEqDiff, ↓reduceIte, Zd, reduceCtorEq, hF8, Nat.zero_add, u1, u2, u3, u4, u5] <;> rfl) (by simp only [Zu, Nat.reduceEqDiff, ↓reduceIte, Zd, reduceCtorEq, hF8, Nat.zero_add, u1, u2, u3, u4, u5] <;> rfl)) rfl ?_
     refine s_mv ?_
     refine s_tk ?_
     refine s_op (a_fa (by simp only [Zu, Nat.reduceEqDiff, ↓reduceIte, fa39_4, Nat.zero_add, hF8, fa39_0, fa39_1, fa39_2, fa39_3, u1, u2, u3, u4, u5, newPtr, AMem.next_alloc, e12] <;> rfl)) rfl ?_
     refine s_tk ?_
     refine s_op (a_load (by simp only [Zu, Nat.reduceEqDiff, ↓reduceIte, hF8, Nat.zero_add, ld3, ld23, tc_0, tc_1, tc_2, tc_3, tc_4, u1, u2, u3, u4, u5, newPtr, AMem.next_alloc, gM3_0, gM3_1] <;> rfl) (by simp (disch := first | (refine Zx ?_; simp only [Zn]; done) | ((try simp only [Zn]); omega)) only [Zg, hF8, Nat.zero_add, ld3, ld23, tc_0, tc_1, tc_2, tc_3, tc_4, u1, u2, u3, u4, u5, newPtr, gM3_0, gM3_1] <;> rfl) (by simp only [ld3, Zl, hF8, Nat.zero_add, ld23, tc_0, tc_1, tc_2, tc_3, tc_4, u1, u2, u3, u4, u5, newPtr, AMem.next_alloc, gM3_0, gM3_1] <;> rfl)) rfl ?_
     refine s_tk ?_
     refine s_op (a_fa (by simp only [Zu, Nat.reduceEqDiff, ↓reduceIte, fa39_4, Nat.zero_add, hF8, fa39_0, fa39_1, fa39_2, fa39_3, u1, u2, u3, u4, u5, newPtr, AMem.next_alloc, e4] <;> rfl)) rfl ?_
     refine s_tk ?_
     refine s_op (a_load (by simp only [Zu, Nat.reduceEqDiff, ↓reduceIte, hF8, Nat.zero_add, ld3, ld23, tc_0, tc_1, tc_2, tc_3, tc_4, u1, u2, u3, u4, u5, newPtr, AMem.next_alloc, gM3_0, gM3_1] <;> rfl) (by simp (disch := first | (refine Zx ?_; simp only [Zn]; done) | ((try simp only [Zn]); omega)) only [Zg, hF8, Nat.zero_add, ld3, ld23, tc_0, tc_1, tc_2, tc_3, tc_4, u1, u2, u3, u4, u5, newPtr, gM3_0, gM3_1] <;> rfl) (by simp only [ld3, Zl, hF8, Nat.zero_add, ld23, tc_0, tc_1, tc_2, tc_3, tc_4, u1, u2, u3, u4, u5, newPtr, AMem.next_alloc, gM3_0, gM3_1] <;> rfl)) rfl ?_
     refine s_tk ?_
     refine s_op (a_bin (by simp (disch := omega) only [Zu, Nat.reduceEqDiff, ↓reduceIte, Zd, reduceCtorEq, abin_neq, abin_aneq, ne_eq, not_false_eq_true, hF8, Nat.zero_add, u1, u2, u3, u4, u5] <;> rfl)) rfl ?_
     refine s_op (a_pick (by simp only [Zu, Nat.reduceEqDiff, ↓reduceIte, Zd, reduceCtorEq, hF8, Nat.zero_add, u1, u2, u3, u4, u5] <;> rfl) (by simp only [Zu, Nat.reduceEqDiff, ↓reduceIte, Zd, reduceCtorEq, hF8, Nat.zero_add, u1, u2, u3, u4, u5] <;> rfl)) rfl ?_
     refine s_mv ?_
     refine s_tk ?_
     refine s_op (a_fa (by simp only [Zu, Nat.reduceEqDiff, ↓reduceIte, fa39_0, Nat.zero_add, hF8, fa39_1, fa39_2, fa39_3, fa39_4, u1, u2, u3, u4, u5, newPtr, AMem.next_alloc, e4] <;> rfl)) rfl ?_
     refine s_tk ?_
     refine s_op (a_load (by simp only [Zu, Nat.reduceEqDiff, ↓reduceIte, hF8, Nat.zero_add, ld3, ld23, tc_0, tc_1, tc_2, tc_3, tc_4, u1, u2, u3, u4, u5, newPtr, AMem.next_alloc, gM3_0, gM3_1] <;> rfl) (by simp (disch := first | (refine Zx ?_; simp only [Zn]; done) | ((try simp only [Zn]); omega)) only [Zg, hF8, Nat.zero_add, ld3, ld23, tc_0, tc_1, tc_2, tc_3, tc_4, u1, u2, u3, u4, u5, newPtr, gM3_0, gM3_1] <;> rfl) (by simp only [ld3, Zl, hF8, Nat.zero_add, ld23, tc_0, tc_1, tc_2, tc_3, tc_4, u1, u2, u3, u4, u5, newPtr, AMem.next_alloc, gM3_0, gM3_1] <;> rfl)) rfl ?_
     refine s_tk ?_
     refine s_op (a_bin (by simp (disch := omega) only [Zu, Nat.reduceEqDiff, ↓reduceIte, Zd, reduceCtorEq, abin_neq, abin_aneq, ne_eq, not_false_eq_true, hF8, Nat.zero_add, u1, u2, u3, u4, u5] <;> rfl)) rfl ?_
     refine s_op (a_pick (by simp only [Zu, Nat.reduceEqDiff, ↓reduceIte, Zd, reduceCtorEq, hF8, Nat.zero_add, u1, u2, u3, u4, u5] <;> rfl) (by simp only [Zu, Nat.reduceEqDiff, ↓reduceIte, Zd, reduceCtorEq, hF8, Nat.zero_add, u1, u2, u3, u4, u5] <;> rfl)) rfl ?_
     refine s_end (fun s' hs' => ?_)
     replace e2 := kp 2 hs' e2
     replace e4 := kp 4 hs' e4
     replace e7 := kp 7 hs' e7
     replace e8 := kp 8 hs' e8
     replace e9 := kp 9 hs' e9
     replace e10 := kp 10 hs' e10
     replace e11 := kp 11 hs' e11
     replace e13 := kp 13 hs' e13
     replace e14 := kp 14 hs' e14
     have e73 := congrFun hs' 73
     simp only [Zu, Nat.reduceEqDiff, ↓reduceIte, newPtr, AMem.next_alloc] at e73
     clear hs'
     try clear e12 e15
     refine o_norm ?_
     refine t_norm ?_
     refine at_cond rfl rfl e73 (fun h9 => ?_) (fun hc => by simp at hc)
     try simp only [Zh] at h9
     refine at_exit rfl ?_
     refine t_exit ?_
     refine b_here ?_
     refine t_norm ?_
     exact ⟨pv, bv, (by first | exact e2 | (rw [e2]; rfl) | (rw [e2]; simp; done)), (by first | exact e4 | (rw [e4]; rfl) | (rw [e4]; simp; done)), (by first | exact e7 | (rw [e7]; rfl) | (rw [e7]; simp; done)), (by first | exact e8 | (rw [e8]; rfl) | (rw [e8]; simp; done)), (by first | exact e9 | (rw [hsn]; exact e9) | (rw [hsn, payStep, if_neg ue]; exact e9)), (by first | exact e10 | (rw [e10]; rfl) | (rw [e10]; simp; done)), (by first | exact e11 | (rw [e11]; rfl) | (rw [e11]; simp; done)), (by first | exact hkF2 | exact hkF8), (by first | exact hpw | (rw [hsn]; exact hpv8) | (rw [hsn, payStep, if_neg ue]; exact hpv8)), (by first | exact hbw | (rw [hsn]; exact hbv8) | (rw [hsn, payStep, if_neg ue]; exact hbv8)), (by first | exact hdw | exact hdj), hnxM3, by omega, holdM3, rfl⟩
    ·
     refine at_region hS rfl (by kernel_rfl) ?_
     refine s_op (a_mv e15) rfl ?_
     refine s_op (a_un (by simp (disch := omega) only [Zu, Nat.reduceEqDiff, ↓reduceIte, Zd, reduceCtorEq, aun, wrap_i64, IntKind.signed, hF8, Nat.zero_add, u1, u2, u3, u4, u5] <;> rfl)) rfl ?_
     refine s_mv ?_
     refine s_tk ?_
     refine s_op (a_fa (by simp only [Zu, Nat.reduceEqDiff, ↓reduceIte, fa39_1, Nat.zero_add, hF8, fa39_0, fa39_2, fa39_3, fa39_4, u1, u2, u3, u4, u5, newPtr, AMem.next_alloc, e12] <;> rfl)) rfl ?_
     refine s_tk ?_
     refine s_op (a_load (by simp only [Zu, Nat.reduceEqDiff, ↓reduceIte, hF8, Nat.zero_add, ld3, ld23, tc_0, tc_1, tc_2, tc_3, tc_4, u1, u2, u3, u4, u5, newPtr, AMem.next_alloc, gM3_0, gM3_1] <;> rfl) (by simp (disch := first | (refine Zx ?_; simp only [Zn]; done) | ((try simp only [Zn]); omega)) only [Zg, hF8, Nat.zero_add, ld3, ld23, tc_0, tc_1, tc_2, tc_3, tc_4, u1, u2, u3, u4, u5, newPtr, gM3_0, gM3_1] <;> rfl) (by simp only [ld23, Zl, hF8, Nat.zero_add, ld3, tc_0, tc_1, tc_2, tc_3, tc_4, u1, u2, u3, u4, u5, newPtr, AMem.next_alloc, gM3_0, gM3_1] <;> rfl)) rfl ?_
     refine s_tk ?_
     refine s_op (a_fa (by simp only [Zu, Nat.reduceEqDiff, ↓reduceIte, fa39_1, Nat.zero_add, hF8, fa39_0, fa39_2, fa39_3, fa39_4, u1, u2, u3, u4, u5, newPtr, AMem.next_alloc, e4] <;> rfl)) rfl ?_
     refine s_tk ?_
     refine s_op (a_load (by simp only [Zu, Nat.reduceEqDiff, ↓reduceIte, hF8, Nat.zero_add, ld3, ld23, tc_0, tc_1, tc_2, tc_3, tc_4, u1, u2, u3, u4, u5, newPtr, AMem.next_alloc, gM3_0, gM3_1] <;> rfl) (by simp (disch := first | (refine Zx ?_; simp only [Zn]; done) | ((try simp only [Zn]); omega)) only [Zg, hF8, Nat.zero_add, ld3, ld23, tc_0, tc_1, tc_2, tc_3, tc_4, u1, u2, u3, u4, u5, newPtr, gM3_0, gM3_1] <;> rfl) (by simp only [ld23, Zl, hF8, Nat.zero_add, ld3, tc_0, tc_1, tc_2, tc_3, tc_4, u1, u2, u3, u4, u5, newPtr, AMem.next_alloc, gM3_0, gM3_1] <;> rfl)) rfl ?_
     refine s_tk ?_
     refine s_op (a_bin (by simp (disch := omega) only [Zu, Nat.reduceEqDiff, ↓reduceIte, Zd, reduceCtorEq, abin_neq, abin_aneq, ne_eq, not_false_eq_true, hF8, Nat.zero_add, u1, u2, u3, u4, u5] <;> rfl)) rfl ?_
     refine s_op (a_pick (by simp only [Zu, Nat.reduceEqDiff, ↓reduceIte, Zd, reduceCtorEq, hF8, Nat.zero_add, u1, u2, u3, u4, u5] <;> rfl) (by simp only [Zu, Nat.reduceEqDiff, ↓reduceIte, Zd, reduceCtorEq, hF8, Nat.zero_add, u1, u2, u3, u4, u5] <;> rfl)) rfl ?_
     refine s_mv ?_
     refine s_tk ?_
     refine s_op (a_fa (by simp only [Zu, Nat.reduceEqDiff, ↓reduceIte, fa39_2, Nat.zero_add, hF8, fa39_0, fa39_1, fa39_3, fa39_4, u1, u2, u3, u4, u5, newPtr, AMem.next_alloc, e12] <;> rfl)) rfl ?_
     refine s_tk ?_
     refine s_op (a_load (by simp only [Zu, Nat.reduceEqDiff, ↓reduceIte, hF8, Nat.zero_add, ld3, ld23, tc_0, tc_1, tc_2, tc_3, tc_4, u1, u2, u3, u4, u5, newPtr, AMem.next_alloc, gM3_0, gM3_1] <;> rfl) (by simp (disch := first | (refine Zx ?_; simp only [Zn]; done) | ((try simp only [Zn]); omega)) only [Zg, hF8, Nat.zero_add, ld3, ld23, tc_0, tc_1, tc_2, tc_3, tc_4, u1, u2, u3, u4, u5, newPtr, gM3_0, gM3_1] <;> rfl) (by simp only [ld23, Zl, hF8, Nat.zero_add, ld3, tc_0, tc_1, tc_2, tc_3, tc_4, u1, u2, u3, u4, u5, newPtr, AMem.next_alloc, gM3_0, gM3_1] <;> rfl)) rfl ?_
     refine s_tk ?_
     refine s_op (a_fa (by simp only [Zu, Nat.reduceEqDiff, ↓reduceIte, fa39_2, Nat.zero_add, hF8, fa39_0, fa39_1, fa39_3, fa39_4, u1, u2, u3, u4, u5, newPtr, AMem.next_alloc, e4] <;> rfl)) rfl ?_
     refine s_tk ?_
     refine s_op (a_load (by simp only [Zu, Nat.reduceEqDiff, ↓reduceIte, hF8, Nat.zero_add, ld3, ld23, tc_0, tc_1, tc_2, tc_3, tc_4, u1, u2, u3, u4, u5, newPtr, AMem.next_alloc, gM3_0, gM3_1] <;> rfl) (by simp (disch := first | (refine Zx ?_; simp only [Zn]; done) | ((try simp only [Zn]); omega)) only [Zg, hF8, Nat.zero_add, ld3, ld23, tc_0, tc_1, tc_2, tc_3, tc_4, u1, u2, u3, u4, u5, newPtr, gM3_0, gM3_1] <;> rfl) (by simp only [ld23, Zl, hF8, Nat.zero_add, ld3, tc_0, tc_1, tc_2, tc_3, tc_4, u1, u2, u3, u4, u5, newPtr, AMem.next_alloc, gM3_0, gM3_1] <;> rfl)) rfl ?_
     refine s_tk ?_
     refine s_op (a_bin (by simp (disch := omega) only [Zu, Nat.reduceEqDiff, ↓reduceIte, Zd, reduceCtorEq, abin_neq, abin_aneq, ne_eq, not_false_eq_true, hF8, Nat.zero_add, u1, u2, u3, u4, u5] <;> rfl)) rfl ?_
     refine s_op (a_pick (by simp only [Zu, Nat.reduceEqDiff, ↓reduceIte, Zd, reduceCtorEq, hF8, Nat.zero_add, u1, u2, u3, u4, u5] <;> rfl) (by simp only [Zu, Nat.reduceEqDiff, ↓reduceIte, Zd, reduceCtorEq, hF8, Nat.zero_add, u1, u2, u3, u4, u5] <;> rfl)) rfl ?_
     refine s_mv ?_
     refine s_tk ?_
     refine s_op (a_fa (by simp only [Zu, Nat.reduceEqDiff, ↓reduceIte, fa39_3, Nat.zero_add, hF8, fa39_0, fa39_1, fa39_2, fa39_4, u1, u2, u3, u4, u5, newPtr, AMem.next_alloc, e12] <;> rfl)) rfl ?_
     refine s_tk ?_
     refine s_op (a_load (by simp only [Zu, Nat.reduceEqDiff, ↓reduceIte, hF8, Nat.zero_add, ld3, ld23, tc_0, tc_1, tc_2, tc_3, tc_4, u1, u2, u3, u4, u5, newPtr, AMem.next_alloc, gM3_0, gM3_1] <;> rfl) (by simp (disch := first | (refine Zx ?_; simp only [Zn]; done) | ((try simp only [Zn]); omega)) only [Zg, hF8, Nat.zero_add, ld3, ld23, tc_0, tc_1, tc_2, tc_3, tc_4, u1, u2, u3, u4, u5, newPtr, gM3_0, gM3_1] <;> rfl) (by simp only [ld3, Zl, hF8, Nat.zero_add, ld23, tc_0, tc_1, tc_2, tc_3, tc_4, u1, u2, u3, u4, u5, newPtr, AMem.next_alloc, gM3_0, gM3_1] <;> rfl)) rfl ?_
     refine s_tk ?_
     refine s_op (a_fa (by simp only [Zu, Nat.reduceEqDiff, ↓reduceIte, fa39_3, Nat.zero_add, hF8, fa39_0, fa39_1, fa39_2, fa39_4, u1, u2, u3, u4, u5, newPtr, AMem.next_alloc, e4] <;> rfl)) rfl ?_
     refine s_tk ?_
     refine s_op (a_load (by simp only [Zu, Nat.reduceEqDiff, ↓reduceIte, hF8, Nat.zero_add, ld3, ld23, tc_0, tc_1, tc_2, tc_3, tc_4, u1, u2, u3, u4, u5, newPtr, AMem.next_alloc, gM3_0, gM3_1] <;> rfl) (by simp (disch := first | (refine Zx ?_; simp only [Zn]; done) | ((try simp only [Zn]); omega)) only [Zg, hF8, Nat.zero_add, ld3, ld23, tc_0, tc_1, tc_2, tc_3, tc_4, u1, u2, u3, u4, u5, newPtr, gM3_0, gM3_1] <;> rfl) (by simp only [ld3, Zl, hF8, Nat.zero_add, ld23, tc_0, tc_1, tc_2, tc_3, tc_4, u1, u2, u3, u4, u5, newPtr, AMem.next_alloc, gM3_0, gM3_1] <;> rfl)) rfl ?_
     refine s_tk ?_
     refine s_op (a_bin (by simp (disch := omega) only [Zu, Nat.reduceEqDiff, ↓reduceIte, Zd, reduceCtorEq, abin_neq, abin_aneq, ne_eq, not_false_eq_true, hF8, Nat.zero_add, u1, u2, u3, u4, u5] <;> rfl)) rfl ?_
     refine s_op (a_pick (by simp only [Zu, Nat.reduceEqDiff, ↓reduceIte, Zd, reduceCtorEq, hF8, Nat.zero_add, u1, u2, u3, u4, u5] <;> rfl) (by simp only [Zu, Nat.reduceEqDiff, ↓reduceIte, Zd, reduceCtorEq, hF8, Nat.zero_add, u1, u2, u3, u4, u5] <;> rfl)) rfl ?_
     refine s_mv ?_
     refine s_tk ?_
     refine s_op (a_fa (by simp only [Zu, Nat.reduceEqDiff, ↓reduceIte, fa39_4, Nat.zero_add, hF8, fa39_0, fa39_1, fa39_2, fa39_3, u1, u2, u3, u4, u5, newPtr, AMem.next_alloc, e12] <;> rfl)) rfl ?_
     refine s_tk ?_
     refine s_op (a_load (by simp only [Zu, Nat.reduceEqDiff, ↓reduceIte, hF8, Nat.zero_add, ld3, ld23, tc_0, tc_1, tc_2, tc_3, tc_4, u1, u2, u3, u4, u5, newPtr, AMem.next_alloc, gM3_0, gM3_1] <;> rfl) (by simp (disch := first | (refine Zx ?_; simp only [Zn]; done) | ((try simp only [Zn]); omega)) only [Zg, hF8, Nat.zero_add, ld3, ld23, tc_0, tc_1, tc_2, tc_3, tc_4, u1, u2, u3, u4, u5, newPtr, gM3_0, gM3_1] <;> rfl) (by simp only [ld3, Zl, hF8, Nat.zero_add, ld23, tc_0, tc_1, tc_2, tc_3, tc_4, u1, u2, u3, u4, u5, newPtr, AMem.next_alloc, gM3_0, gM3_1] <;> rfl)) rfl ?_
     refine s_tk ?_
     refine s_op (a_fa (by simp only [Zu, Nat.reduceEqDiff, ↓reduceIte, fa39_4, Nat.zero_add, hF8, fa39_0, fa39_1, fa39_2, fa39_3, u1, u2, u3, u4, u5, newPtr, AMem.next_alloc, e4] <;> rfl)) rfl ?_
     refine s_tk ?_
     refine s_op (a_load (by simp only [Zu, Nat.reduceEqDiff, ↓reduceIte, hF8, Nat.zero_add, ld3, ld23, tc_0, tc_1, tc_2, tc_3, tc_4, u1, u2, u3, u4, u5, newPtr, AMem.next_alloc, gM3_0, gM3_1] <;> rfl) (by simp (disch := first | (refine Zx ?_; simp only [Zn]; done) | ((try simp only [Zn]); omega)) only [Zg, hF8, Nat.zero_add, ld3, ld23, tc_0, tc_1, tc_2, tc_3, tc_4, u1, u2, u3, u4, u5, newPtr, gM3_0, gM3_1] <;> rfl) (by simp only [ld3, Zl, hF8, Nat.zero_add, ld23, tc_0, tc_1, tc_2, tc_3, tc_4, u1, u2, u3, u4, u5, newPtr, AMem.next_alloc, gM3_0, gM3_1] <;> rfl)) rfl ?_
     refine s_tk ?_
     refine s_op (a_bin (by simp (disch := omega) only [Zu, Nat.reduceEqDiff, ↓reduceIte, Zd, reduceCtorEq, abin_neq, abin_aneq, ne_eq, not_false_eq_true, hF8, Nat.zero_add, u1, u2, u3, u4, u5] <;> rfl)) rfl ?_
     refine s_op (a_pick (by simp only [Zu, Nat.reduceEqDiff, ↓reduceIte, Zd, reduceCtorEq, hF8, Nat.zero_add, u1, u2, u3, u4, u5] <;> rfl) (by simp only [Zu, Nat.reduceEqDiff, ↓reduceIte, Zd, reduceCtorEq, hF8, Nat.zero_add, u1, u2, u3, u4, u5] <;> rfl)) rfl ?_
     refine s_mv ?_
     refine s_tk ?_
     refine s_op (a_fa (by simp only [Zu, Nat.reduceEqDiff, ↓reduceIte, fa39_0, Nat.zero_add, hF8, fa39_1, fa39_2, fa39_3, fa39_4, u1, u2, u3, u4, u5, newPtr, AMem.next_alloc, e4] <;> rfl)) rfl ?_
     refine s_tk ?_
     refine s_op (a_load (by simp only [Zu, Nat.reduceEqDiff, ↓reduceIte, hF8, Nat.zero_add, ld3, ld23, tc_0, tc_1, tc_2, tc_3, tc_4, u1, u2, u3, u4, u5, newPtr, AMem.next_alloc, gM3_0, gM3_1] <;> rfl) (by simp (disch := first | (refine Zx ?_; simp only [Zn]; done) | ((try simp only [Zn]); omega)) only [Zg, hF8, Nat.zero_add, ld3, ld23, tc_0, tc_1, tc_2, tc_3, tc_4, u1, u2, u3, u4, u5, newPtr, gM3_0, gM3_1] <;> rfl) (by simp only [ld3, Zl, hF8, Nat.zero_add, ld23, tc_0, tc_1, tc_2, tc_3, tc_4, u1, u2, u3, u4, u5, newPtr, AMem.next_alloc, gM3_0, gM3_1] <;> rfl)) rfl ?_
     refine s_tk ?_
     refine s_op (a_bin (by simp (disch := omega) only [Zu, Nat.reduceEqDiff, ↓reduceIte, Zd, reduceCtorEq, abin_neq, abin_aneq, ne_eq, not_false_eq_true, hF8, Nat.zero_add, u1, u2, u3, u4, u5] <;> rfl)) rfl ?_
     refine s_op (a_pick (by simp only [Zu, Nat.reduceEqDiff, ↓reduceIte, Zd, reduceCtorEq, hF8, Nat.zero_add, u1, u2, u3, u4, u5] <;> rfl) (by simp only [Zu, Nat.reduceEqDiff, ↓reduceIte, Zd, reduceCtorEq, hF8, Nat.zero_add, u1, u2, u3, u4, u5] <;> rfl)) rfl ?_
     refine s_end (fun s' hs' => ?_)
     replace e2 := kp 2 hs' e2
     replace e4 := kp 4 hs' e4
     replace e7 := kp 7 hs' e7
     replace e8 := kp 8 hs' e8
     replace e9 := kp 9 hs' e9
     replace e10 := kp 10 hs' e10
     replace e11 := kp 11 hs' e11
     replace e13 := kp 13 hs' e13
     replace e14 := kp 14 hs' e14
     have e73 := congrFun hs' 73
     simp only [Zu, Nat.reduceEqDiff, ↓reduceIte, newPtr, AMem.next_alloc] at e73
     clear hs'
     try clear e12 e15
     refine o_norm ?_
     refine t_norm ?_
     refine at_cond rfl rfl e73 (fun hc => by simp at hc) (fun h9 => ?_)
     try simp only [Zh] at h9
     refine at_skip rfl ?_
     refine t_norm ?_
     refine at_seq rfl ?_
     refine at_region hS rfl (by kernel_rfl) ?_
     refine s_op (a_mv e2) rfl ?_
     refine s_op (a_fa (by simp only [Zu, Nat.reduceEqDiff, ↓reduceIte, fa57_2, Nat.zero_add, newPtr, AMem.next_alloc, e13] <;> rfl)) rfl ?_
     refine s_op (a_load (by simp only [Zu, Nat.reduceEqDiff, ↓reduceIte, Nat.zero_add, ld23, sgh_2, newPtr, AMem.next_alloc, gM3_0, gM3_1] <;> rfl) (by simp (disch := first | (refine Zx ?_; simp only [Zn]; done) | ((try simp only [Zn]); omega)) only [Zg, Nat.zero_add, ld23, sgh_2, newPtr, gM3_0, gM3_1] <;> rfl) (by simp only [ld23, Zl, Nat.zero_add, sgh_2, newPtr, AMem.next_alloc, gM3_0, gM3_1] <;> rfl)) rfl ?_
     refine s_op (a_mv e9) rfl ?_
     refine s_call (by simp only [Zu, Nat.reduceEqDiff, ↓reduceIte, Nat.zero_add, newPtr, AMem.next_alloc, gM3_0, gM3_1] <;> rfl) (by simp only [Zu, Nat.reduceEqDiff, ↓reduceIte, Zm, Nat.zero_add, newPtr, AMem.next_alloc, gM3_0, gM3_1] <;> rfl) ?_
     rw [S23_35]; refine ⟨_, _, _, rfl, ⟨hstart, hsq⟩, ?_⟩
     show EA _ _ _ _ _ _
     refine s_as ?_
     refine s_end (fun s' hs' => ?_)
     replace e2 := kp 2 hs' e2
     replace e4 := kp 4 hs' e4
     replace e7 := kp 7 hs' e7
     replace e8 := kp 8 hs' e8
     replace e9 := kp 9 hs' e9
     replace e10 := kp 10 hs' e10
     replace e11 := kp 11 hs' e11
     replace e14 := kp 14 hs' e14
     have e16 := congrFun hs' 16
     simp only [Zu, Nat.reduceEqDiff, ↓reduceIte, newPtr, AMem.next_alloc] at e16
     clear hs'
     try clear e13
     refine o_norm ?_
     have hstep : (payL t start (segsL (fs.take (i + 1)))) = putS (placeF start h.seq pl.length) pl b := by rw [hsn]; unfold payStep; rw [if_pos ue]
     have hdf := diffF_bound h.seq (plusF start (max 0 (min (pl.length : Int) 1099511627776)))
     have hoff : -4398046511104 ≤ placeF start h.seq pl.length ∧ placeF start h.seq pl.length ≤ 4398046511104 := by unfold placeF; omega
     generalize placeF start h.seq pl.length = off at *
     have hbL : b.length ≤ 100000000 := by omega
     refine t_norm ?_
     refine at_seq rfl ?_
     refine at_region hS rfl (by kernel_rfl) ?_
     refine s_op (a_as (by simp only [ev_const] <;> rfl)) rfl ?_
     refine s_end (fun s' hs' => ?_)
     replace e2 := kp 2 hs' e2
     replace e4 := kp 4 hs' e4
     replace e7 := kp 7 hs' e7
     replace e8 := kp 8 hs' e8
     replace e9 := kp 9 hs' e9
     replace e10 := kp 10 hs' e10
     replace e11 := kp 11 hs' e11
     replace e14 := kp 14 hs' e14
     replace e16 := kp 16 hs' e16
     have e17 := congrFun hs' 17
     simp only [Zu, Nat.reduceEqDiff, ↓reduceIte, newPtr, AMem.next_alloc] at e17
     clear hs'
     refine o_norm ?_
     refine t_norm ?_
     refine at_block rfl ?_
     refine at_loop rfl (fun km s ML ds => ∃ (q : Nat), ∃ (pw : Value), ∃ (bw : Value), s 2 = .int .u32 start ∧ s 4 = .pointer (some ⟨M.next, 0, none⟩) ∧ s 7 = pw ∧ s 8 = bw ∧ s 9 = .int .i64 (putS off pl (b.take q)).length ∧ s 10 = fv ∧ s 11 = .int .i64 i ∧ s 14 = asString b ∧ s 16 = .int .i64 off ∧ s 17 = .int .i64 q ∧ q ≤ b.length ∧ (∀ j, j < MF.next → ML.get j = MF.get j) ∧ Own ML MF.next 1 pw ((putS off pl (b.take q)).map Prod.fst).length (((putS off pl (b.take q)).map Prod.fst).map (.int .i64)) ∧ Own ML MF.next 1 bw ((putS off pl (b.take q)).map Prod.snd).length (byteCells ((putS off pl (b.take q)).map Prod.snd)) ∧ Dj pw bw ∧ km = b.length - q ∧ M.next ≤ ML.next ∧ M3.next ≤ ML.next ∧ (∀ j, j < M.next → ML.get j = M.get j) ∧ ds = []) (b.length - (0)) ⟨0, pv, bv, (by first | exact e2 | (rw [e2]; rfl) | (simpa using e2)), (by first | exact e4 | (rw [e4]; rfl) | (simpa using e4)), (by first | exact e7 | (rw [e7]; rfl) | (simpa using e7)), (by first | exact e8 | (rw [e8]; rfl) | (simpa using e8)), (by first | exact e9 | (rw [e9]; rfl) | (simpa using e9)), (by first | exact e10 | (rw [e10]; rfl) | (simpa using e10)), (by first | exact e11 | (rw [e11]; rfl) | (simpa using e11)), (by first | exact e14 | (rw [e14]; rfl) | (simpa using e14)), (by first | exact e16 | (rw [e16]; rfl) | (simpa using e16)), (by first | exact e17 | (rw [e17]; rfl) | (simpa using e17)), (by omega), hkF8, (by simpa [putS_nil] using hpv8), (by simpa [putS_nil] using hbv8), hdj, rfl, hnxM3, by omega, holdM3, rfl⟩ ?_
     clear e2 e4 e7 e8 e9 e10 e11 e14 e16 e17
     rintro km s M4 ds ⟨q, pw, bw, e2, e4, e7, e8, e9, e10, e11, e14, e16, e17, hq, hkF2, hpw, hbw, hdw, hk, hnxM4, hngM4, holdM4, rfl⟩
     refine at_seq rfl ?_
     refine at_seq rfl ?_
     refine at_region hS rfl (by kernel_rfl) ?_
     refine s_op (a_mv e17) rfl ?_
     refine s_op (a_mv e14) rfl ?_
     refine s_op (a_len (by simp (disch := omega) only [Zu, Nat.reduceEqDiff, ↓reduceIte, alen_str, hlenS, newPtr, AMem.next_alloc] <;> rfl)) rfl ?_
     refine s_op (a_bin (by simp (disch := omega) only [Zu, Nat.reduceEqDiff, ↓reduceIte, Zd, reduceCtorEq, abin_lss, ne_eq, not_false_eq_true] <;> rfl)) rfl ?_
     refine s_end (fun s' hs' => ?_)
     replace e2 := kp 2 hs' e2
     replace e4 := kp 4 hs' e4
     replace e7 := kp 7 hs' e7
     replace e8 := kp 8 hs' e8
     replace e9 := kp 9 hs' e9
     replace e10 := kp 10 hs' e10
     replace e11 := kp 11 hs' e11
     replace e14 := kp 14 hs' e14
     replace e16 := kp 16 hs' e16
     replace e17 := kp 17 hs' e17
     have e82 := congrFun hs' 82
     simp only [Zu, Nat.reduceEqDiff, ↓reduceIte, newPtr, AMem.next_alloc] at e82
     clear hs'
     refine o_norm ?_
     refine t_norm ?_
     refine at_cond rfl rfl e82 (fun h12 => ?_) (fun h12 => ?_)
     ·
      try simp only [Zh] at h12
      refine at_skip rfl ?_
      refine t_norm ?_
      refine at_seq rfl ?_
      refine t_join (I := fun s MJ ds => ∃ (pw' : Value), ∃ (bw' : Value), s 2 = .int .u32 start ∧ s 4 = .pointer (some ⟨M.next, 0, none⟩) ∧ s 7 = pw' ∧ s 8 = bw' ∧ s 9 = .int .i64 (putS off pl (b.take (q + 1))).length ∧ s 10 = fv ∧ s 11 = .int .i64 i ∧ s 14 = asString b ∧ s 16 = .int .i64 off ∧ s 17 = .int .i64 q ∧ (∀ j, j < MF.next → MJ.get j = MF.get j) ∧ Own MJ MF.next 1 pw' ((putS off pl (b.take (q + 1))).map Prod.fst).length (((putS off pl (b.take (q + 1))).map Prod.fst).map (.int .i64)) ∧ Own MJ MF.next 1 bw' ((putS off pl (b.take (q + 1))).map Prod.snd).length (byteCells ((putS off pl (b.take (q + 1))).map Prod.snd)) ∧ Dj pw' bw' ∧ M.next ≤ MJ.next ∧ M4.next ≤ MJ.next ∧ (∀ j, j < M.next → MJ.get j = M.get j) ∧ ds = []) ?_ ?_
      ·
       refine at_block rfl ?_
       refine at_seq rfl ?_
       have hql : q < b.length := by omega
       have htk : b.take (q + 1) = b.take q ++ [b[q]] := take_snoc b q hql
       have htl2 : (b.take q).length = q := by rw [List.length_take]; omega
       have hps := putS_snoc off pl (b.take q) b[q]
       rw [htl2, ← htk] at hps
       have hpql := putS_len off b q pl (by omega)
       generalize putS off pl (b.take q) = pq at *
       have hp1 : (pq.map Prod.fst).length = pq.length := List.length_map _
       have hp2 : (pq.map Prod.snd).length = pq.length := List.length_map _
       by_cases hge : 0 ≤ off + (q : Int)
       ·
        refine at_region hS rfl (by kernel_rfl) ?_
        refine s_op (a_mv e16) rfl ?_
        refine s_op (a_mv e17) rfl ?_
        refine s_op (a_bin (by simp (disch := ((try simp only [List.length_append, List.length_cons, List.length_nil]); omega)) only [Zu, Nat.reduceEqDiff, ↓reduceIte, Zd, reduceCtorEq, abin_add, abin_aadd, wrap_i64, wrap_u32, wrap_u8, wrap_u64, wrap_i32, wrap_u16, ne_eq, not_false_eq_true, hge] <;> rfl)) rfl ?_
        refine s_op (a_bin (by simp (disch := omega) only [Zu, Nat.reduceEqDiff, ↓reduceIte, Zd, reduceCtorEq, abin_geq, ne_eq, not_false_eq_true, hge] <;> rfl)) rfl ?_
        refine s_mv ?_
        refine s_tk ?_
        refine s_op (a_mv e7) rfl ?_
        refine s_tk ?_
        refine s_op (a_mv e16) rfl ?_
        refine s_tk ?_
        refine s_op (a_mv e17) rfl ?_
        refine s_tk ?_
        refine s_op (a_bin (by simp (disch := ((try simp only [List.length_append, List.length_cons, List.length_nil]); omega)) only [Zu, Nat.reduceEqDiff, ↓reduceIte, Zd, reduceCtorEq, abin_add, abin_aadd, wrap_i64, wrap_u32, wrap_u8, wrap_u64, wrap_i32, wrap_u16, ne_eq, not_false_eq_true, hge] <;> rfl)) rfl ?_
        refine s_tk ?_
        refine s_call (by simp only [Zu, Nat.reduceEqDiff, ↓reduceIte, hge, newPtr, AMem.next_alloc] <;> rfl) (by simp only [Zu, Nat.reduceEqDiff, ↓reduceIte, Zm, hge, newPtr, AMem.next_alloc] <;> rfl) ?_
        rw [S23_36]; refine ⟨_, _, _, rfl, hpw.row, by omega, ?_⟩
        show EA _ _ _ _ _ _
        refine s_tk ?_
        refine s_op (a_bin (by simp (disch := omega) only [Zu, Nat.reduceEqDiff, ↓reduceIte, Zd, reduceCtorEq, abin_lss, ne_eq, not_false_eq_true, hge] <;> rfl)) rfl ?_
        refine s_op (a_pick (by simp only [Zu, Nat.reduceEqDiff, ↓reduceIte, Zd, reduceCtorEq, hge] <;> rfl) (by simp only [Zu, Nat.reduceEqDiff, ↓reduceIte, Zd, reduceCtorEq, hge] <;> rfl)) rfl ?_
        refine s_end (fun s' hs' => ?_)
        replace e2 := kp 2 hs' e2
        replace e4 := kp 4 hs' e4
        replace e7 := kp 7 hs' e7
        replace e8 := kp 8 hs' e8
        replace e9 := kp 9 hs' e9
        replace e10 := kp 10 hs' e10
        replace e11 := kp 11 hs' e11
        replace e14 := kp 14 hs' e14
        replace e16 := kp 16 hs' e16
        replace e17 := kp 17 hs' e17
        have e96 := congrFun hs' 96
        simp only [Zu, Nat.reduceEqDiff, ↓reduceIte, newPtr, AMem.next_alloc] at e96
        clear hs'
        refine o_norm ?_
        refine t_norm ?_
        refine at_cond rfl rfl e96 (fun h14 => ?_) (fun h14 => ?_)
        ·
         try simp only [Zh] at h14
         refine at_seq rfl ?_
         have hni : off + (q : Int) ∉ pq.map Prod.fst := findF_iff.1 h14
         have hx : aindex Try.prog 9 (asString b) (.int .i64 q) = some (.int .u8 b[q].toNat) := aindex_as Try.underlying9 (by omega) (by simp [hql])
         have hpq : (putS off pl (b.take (q + 1))) = pq ++ [(off + (q : Int), b[q])] := by rw [hps, putB, if_pos ⟨hge, hni⟩]
         obtain ⟨pw1, MA, bw1, MB, ha1, ha2, ow1, ow2, od, on, of, oMA⟩ := app_two (c1 := [.int .i64 (off + (q : Int))]) (c2 := [.int .u8 b[q].toNat]) sl22 sl55 hpw hbw hdw (by omega) (by omega) (by omega) rfl rfl rfl rfl (by decide) (by decide)
         refine at_draw ⟨[[], [], [], [1, 2], [1, 2, 3], [0, 1, 2, 3, 4], [], [], [], [7, 8], [7, 8, 9], [0, 1, 2, 3, 4, 5, 6, 7, 8, 9, 10], [0, 1, 2, 3, 4, 5, 6, 7, 8, 9, 10, 11], [0, 1, 2, 3, 4, 5, 6, 7, 8, 9, 10, 11, 12]], [0, 1, 2, 3, 4, 6, 7, 8, 9, 10], [(5, []), (11, [12, 13])]⟩ hS rfl rfl (by kernel_rfl) (by kernel_rfl) ?_
         refine d_start ?_
         refine l_op rfl rfl (a_mv e7) rfl ?_ rfl
         refine l_op rfl rfl (a_mv e16) rfl ?_ rfl
         refine l_op rfl rfl (a_mv e17) rfl ?_ rfl
         refine l_op rfl rfl (a_bin (by simp (disch := ((try simp only [List.length_append, List.length_cons, List.length_nil]); omega)) only [Zu, Nat.reduceEqDiff, ↓reduceIte, Zd, reduceCtorEq, abin_add, abin_aadd, wrap_i64, wrap_u32, wrap_u8, wrap_u64, wrap_i32, wrap_u16, ne_eq, not_false_eq_true, hx, oMA] <;> rfl)) rfl ?_ rfl
         refine l_new rfl rfl (a_bslice (by simp only [Zu, Nat.reduceEqDiff, ↓reduceIte, Zm, Array.toList, hx, oMA, newPtr, AMem.next_alloc]; exact abuildSlice_all [_] rfl rfl rfl rfl rfl (by decide) (by decide) rfl (by simp only [List.mem_cons, List.not_mem_nil, or_false, forall_eq_or_imp, forall_eq]; repeat' (first | rfl | apply And.intro)))) rfl ?_ rfl
         refine l_op rfl rfl (a_mv e8) rfl ?_ rfl
         refine l_op rfl rfl (a_mv e14) rfl ?_ rfl
         refine l_op rfl rfl (a_mv e17) rfl ?_ rfl
         refine l_op rfl rfl (a_index (by simp (disch := omega) only [Zu, Nat.reduceEqDiff, ↓reduceIte, hx, oMA] <;> rfl)) rfl ?_ rfl
         refine l_new rfl rfl (a_bslice (by simp only [Zu, Nat.reduceEqDiff, ↓reduceIte, Zm, Array.toList, hx, oMA, newPtr, AMem.next_alloc]; exact abuildSlice_all [_] rfl rfl rfl rfl rfl (by decide) (by decide) rfl (by simp only [List.mem_cons, List.not_mem_nil, or_false, forall_eq_or_imp, forall_eq]; repeat' (first | rfl | apply And.intro)))) rfl ?_ rfl
         refine l_nil ?_
         refine h_op ?_ rfl rfl rfl ?_
         · refine again_f rfl rfl rfl (a_bslice (by simp only [Zu, Nat.reduceEqDiff, ↓reduceIte, Zm, Array.toList, hx, oMA, newPtr, AMem.next_alloc]; exact abuildSlice_all [_] rfl rfl rfl rfl rfl (by decide) (by decide) rfl (by simp only [List.mem_cons, List.not_mem_nil, or_false, forall_eq_or_imp, forall_eq]; repeat' (first | rfl | apply And.intro)))) (by simp (disch := first | (refine Zx ?_; simp only [Zn]; done) | ((try simp only [Zn]); omega)) only [Zu, Nat.reduceEqDiff, ↓reduceIte, Zg, hx, oMA, newPtr] <;> rfl) ?_
           refine again_r rfl ?_
           refine again_r rfl ?_
           refine again_r rfl ?_
           refine again_r rfl ?_
           refine again_f rfl rfl rfl (a_bslice (by simp only [Zu, Nat.reduceEqDiff, ↓reduceIte, Zm, Array.toList, hx, oMA, newPtr, AMem.next_alloc]; exact abuildSlice_all [_] rfl rfl rfl rfl rfl (by decide) (by decide) rfl (by simp only [List.mem_cons, List.not_mem_nil, or_false, forall_eq_or_imp, forall_eq]; repeat' (first | rfl | apply And.intro)))) (by simp (disch := first | (refine Zx ?_; simp only [Zn]; done) | ((try simp only [Zn]); omega)) only [Zu, Nat.reduceEqDiff, ↓reduceIte, Zg, hx, oMA, newPtr] <;> rfl) ?_
           refine again_r rfl ?_
           refine again_r rfl ?_
           refine again_r rfl ?_
           refine again_r rfl ?_
           exact again_nil
         refine s_op (a_append (by simp only [Zu, Nat.reduceEqDiff, ↓reduceIte, e7]; exact ha1)) rfl ?_
         refine s_end (fun s' hs' => ?_); subst hs'
         refine l_nil ?_
         refine h_op ?_ rfl rfl rfl ?_
         · refine again_f rfl rfl rfl (a_bslice (by simp only [Zu, Nat.reduceEqDiff, ↓reduceIte, Zm, Array.toList, hx, oMA, newPtr, AMem.next_alloc]; exact abuildSlice_all [_] rfl rfl rfl rfl rfl (by decide) (by decide) rfl (by simp only [List.mem_cons, List.not_mem_nil, or_false, forall_eq_or_imp, forall_eq]; repeat' (first | rfl | apply And.intro)))) (by simp (disch := first | (refine Zx ?_; simp only [Zn]; done) | ((try simp only [Zn]); omega)) only [Zu, Nat.reduceEqDiff, ↓reduceIte, Zg, hx, oMA, newPtr] <;> rfl) ?_
           refine again_r rfl ?_
           refine again_r rfl ?_
           refine again_r rfl ?_
           refine again_r rfl ?_
           exact again_nil
         refine s_op (a_append (by simp only [Zu, Nat.reduceEqDiff, ↓reduceIte, e8]; exact ha2)) rfl ?_
         refine s_end (fun s' hs' => ?_); subst hs'
         refine l_op rfl rfl (a_as (by simp only [Zu, Nat.reduceEqDiff, ↓reduceIte] <;> rfl)) rfl ?_ rfl
         refine l_op rfl rfl (a_as (by simp only [Zu, Nat.reduceEqDiff, ↓reduceIte] <;> rfl)) rfl ?_ rfl
         refine l_nil ?_
         refine h_end ?_ (fun s' hs' => ?_)
         · refine again_r rfl ?_
           refine again_r rfl ?_
           exact again_nil
         replace e2 := kp 2 hs' e2
         replace e4 := kp 4 hs' e4
         replace e7 := congrFun hs' 7
         replace e8 := congrFun hs' 8
         replace e9 := kp 9 hs' e9
         replace e10 := kp 10 hs' e10
         replace e11 := kp 11 hs' e11
         replace e14 := kp 14 hs' e14
         replace e16 := kp 16 hs' e16
         replace e17 := kp 17 hs' e17
         simp only [Zu, Nat.reduceEqDiff, ↓reduceIte, newPtr, AMem.next_alloc] at e7 e8
         clear hs'
         refine o_norm ?_
         have hnxB : M.next ≤ MB.next := by omega
         have holdB : ∀ j, j < M.next → MB.get j = M.get j := fun j hj => by rw [of j (by omega)]; exact holdM4 j hj
         have hkB : ∀ j, j < MF.next → MB.get j = MF.get j := fun j hj => by rw [of j hj]; exact hkF2 j hj
         have ow1' : Own MB MF.next 1 pw1 ((putS off pl (b.take (q + 1))).map Prod.fst).length (((putS off pl (b.take (q + 1))).map Prod.fst).map (.int .i64)) := by rw [hpq]; simpa using ow1
         have ow2' : Own MB MF.next 1 bw1 ((putS off pl (b.take (q + 1))).map Prod.snd).length (byteCells ((putS off pl (b.take (q + 1))).map Prod.snd)) := by rw [hpq]; simpa [byteCells] using ow2
         have hln : (pq.length : Int) + 1 = ((putS off pl (b.take (q + 1))).length : Nat) := by rw [hpq]; simp
         refine t_norm ?_
         refine at_region hS rfl (by kernel_rfl) ?_
         refine s_op (a_mv e9) rfl ?_
         refine s_op (a_bin (by simp (disch := ((try simp only [List.length_append, List.length_cons, List.length_nil]); omega)) only [Zu, Nat.reduceEqDiff, ↓reduceIte, Zd, reduceCtorEq, abin_add, abin_aadd, wrap_i64, wrap_u32, wrap_u8, wrap_u64, wrap_i32, wrap_u16, ne_eq, not_false_eq_true, hln] <;> rfl)) rfl ?_
         refine s_as ?_
         refine s_end (fun s' hs' => ?_)
         replace e2 := kp 2 hs' e2
         replace e4 := kp 4 hs' e4
         replace e7 := kp 7 hs' e7
         replace e8 := kp 8 hs' e8
         replace e9 := congrFun hs' 9
         replace e10 := kp 10 hs' e10
         replace e11 := kp 11 hs' e11
         replace e14 := kp 14 hs' e14
         replace e16 := kp 16 hs' e16
         replace e17 := kp 17 hs' e17
         simp only [Zu, Nat.reduceEqDiff, ↓reduceIte, newPtr, AMem.next_alloc] at e9
         clear hs'
         refine o_norm ?_
         refine b_norm ?_
         refine t_norm ?_
         exact ⟨pw1, bw1, (by first | exact e2 | (rw [e2]; rfl) | (rw [e2]; simp; done)), (by first | exact e4 | (rw [e4]; rfl) | (rw [e4]; simp; done)), (by first | exact e7 | (rw [e7]; rfl) | (rw [e7]; simp; done)), (by first | exact e8 | (rw [e8]; rfl) | (rw [e8]; simp; done)), (by first | exact e9 | (rw [hps, putB, if_neg (by first | exact fun h => hge h.1 | exact fun h => h14 (findF_iff.2 h.2))]; exact e9)), (by first | exact e10 | (rw [e10]; rfl) | (rw [e10]; simp; done)), (by first | exact e11 | (rw [e11]; rfl) | (rw [e11]; simp; done)), (by first | exact e14 | (rw [e14]; rfl) | (rw [e14]; simp; done)), (by first | exact e16 | (rw [e16]; rfl) | (rw [e16]; simp; done)), (by first | exact e17 | (rw [e17]; rfl) | (rw [e17]; simp; done)), (by first | exact hkB | exact hkF2), (by first | exact ow1' | (rw [hps, putB, if_neg (by first | exact fun h => hge h.1 | exact fun h => h14 (findF_iff.2 h.2))]; exact hpw)), (by first | exact ow2' | (rw [hps, putB, if_neg (by first | exact fun h => hge h.1 | exact fun h => h14 (findF_iff.2 h.2))]; exact hbw)), (by first | exact od | exact hdw), hnxB, by omega, holdB, rfl⟩
        ·
         try simp only [Zh] at h14
         refine at_skip rfl ?_
         refine b_norm ?_
         refine t_norm ?_
         exact ⟨pw, bw, (by first | exact e2 | (rw [e2]; rfl) | (rw [e2]; simp; done)), (by first | exact e4 | (rw [e4]; rfl) | (rw [e4]; simp; done)), (by first | exact e7 | (rw [e7]; rfl) | (rw [e7]; simp; done)), (by first | exact e8 | (rw [e8]; rfl) | (rw [e8]; simp; done)), (by first | exact e9 | (rw [hps, putB, if_neg (by first | exact fun h => hge h.1 | exact fun h => h14 (findF_iff.2 h.2))]; exact e9)), (by first | exact e10 | (rw [e10]; rfl) | (rw [e10]; simp; done)), (by first | exact e11 | (rw [e11]; rfl) | (rw [e11]; simp; done)), (by first | exact e14 | (rw [e14]; rfl) | (rw [e14]; simp; done)), (by first | exact e16 | (rw [e16]; rfl) | (rw [e16]; simp; done)), (by first | exact e17 | (rw [e17]; rfl) | (rw [e17]; simp; done)), (by first | exact hkB | exact hkF2), (by first | exact ow1' | (rw [hps, putB, if_neg (by first | exact fun h => hge h.1 | exact fun h => h14 (findF_iff.2 h.2))]; exact hpw)), (by first | exact ow2' | (rw [hps, putB, if_neg (by first | exact fun h => hge h.1 | exact fun h => h14 (findF_iff.2 h.2))]; exact hbw)), (by first | exact od | exact hdw), hnxM4, by omega, holdM4, rfl⟩
       ·
        refine at_region hS rfl (by kernel_rfl) ?_
        refine s_op (a_mv e16) rfl ?_
        refine s_op (a_mv e17) rfl ?_
        refine s_op (a_bin (by simp (disch := ((try simp only [List.length_append, List.length_cons, List.length_nil]); omega)) only [Zu, Nat.reduceEqDiff, ↓reduceIte, Zd, reduceCtorEq, abin_add, abin_aadd, wrap_i64, wrap_u32, wrap_u8, wrap_u64, wrap_i32, wrap_u16, ne_eq, not_false_eq_true, hge] <;> rfl)) rfl ?_
        refine s_op (a_bin (by simp (disch := omega) only [Zu, Nat.reduceEqDiff, ↓reduceIte, Zd, reduceCtorEq, abin_geq, ne_eq, not_false_eq_true, hge] <;> rfl)) rfl ?_
        refine s_mv ?_
        refine s_lv ?_
        refine s_lv ?_
        refine s_lv ?_
        refine s_lv ?_
        refine s_lv ?_
        refine s_lv ?_
        refine s_op (a_pick (by simp only [Zu, Nat.reduceEqDiff, ↓reduceIte, Zd, reduceCtorEq, hge] <;> rfl) (by simp only [Zu, Nat.reduceEqDiff, ↓reduceIte, Zd, reduceCtorEq, hge] <;> rfl)) rfl ?_
        refine s_end (fun s' hs' => ?_)
        replace e2 := kp 2 hs' e2
        replace e4 := kp 4 hs' e4
        replace e7 := kp 7 hs' e7
        replace e8 := kp 8 hs' e8
        replace e9 := kp 9 hs' e9
        replace e10 := kp 10 hs' e10
        replace e11 := kp 11 hs' e11
        replace e14 := kp 14 hs' e14
        replace e16 := kp 16 hs' e16
        replace e17 := kp 17 hs' e17
        have e96 := congrFun hs' 96
        simp only [Zu, Nat.reduceEqDiff, ↓reduceIte, newPtr, AMem.next_alloc] at e96
        clear hs'
        refine o_norm ?_
        refine t_norm ?_
        refine at_cond rfl rfl e96 (fun hc => by cases hc) (fun h14 => ?_)
        try simp only [Zh] at h14
        refine at_skip rfl ?_
        refine b_norm ?_
        refine t_norm ?_
        exact ⟨pw, bw, (by first | exact e2 | (rw [e2]; rfl) | (rw [e2]; simp; done)), (by first | exact e4 | (rw [e4]; rfl) | (rw [e4]; simp; done)), (by first | exact e7 | (rw [e7]; rfl) | (rw [e7]; simp; done)), (by first | exact e8 | (rw [e8]; rfl) | (rw [e8]; simp; done)), (by first | exact e9 | (rw [hps, putB, if_neg (by first | exact fun h => hge h.1 | exact fun h => h14 (findF_iff.2 h.2))]; exact e9)), (by first | exact e10 | (rw [e10]; rfl) | (rw [e10]; simp; done)), (by first | exact e11 | (rw [e11]; rfl) | (rw [e11]; simp; done)), (by first | exact e14 | (rw [e14]; rfl) | (rw [e14]; simp; done)), (by first | exact e16 | (rw [e16]; rfl) | (rw [e16]; simp; done)), (by first | exact e17 | (rw [e17]; rfl) | (rw [e17]; simp; done)), (by first | exact hkB | exact hkF2), (by first | exact ow1' | (rw [hps, putB, if_neg (by first | exact fun h => hge h.1 | exact fun h => h14 (findF_iff.2 h.2))]; exact hpw)), (by first | exact ow2' | (rw [hps, putB, if_neg (by first | exact fun h => hge h.1 | exact fun h => h14 (findF_iff.2 h.2))]; exact hbw)), (by first | exact od | exact hdw), hnxM4, by omega, holdM4, rfl⟩
      ·
       rintro s M5 ds ⟨pw', bw', e2, e4, e7, e8, e9, e10, e11, e14, e16, e17, hkF3, hpw', hbw', hdw', hnxM5, hngM5, holdM5, rfl⟩
       refine at_region hS rfl (by kernel_rfl) ?_
       refine s_op (a_mv e17) rfl ?_
       refine s_op (a_bin (by simp (disch := ((try simp only [List.length_append, List.length_cons, List.length_nil]); omega)) only [Zu, Nat.reduceEqDiff, ↓reduceIte, Zd, reduceCtorEq, abin_add, abin_aadd, wrap_i64, wrap_u32, wrap_u8, wrap_u64, wrap_i32, wrap_u16, ne_eq, not_false_eq_true] <;> rfl)) rfl ?_
       refine s_as ?_
       refine s_end (fun s' hs' => ?_)
       replace e2 := kp 2 hs' e2
       replace e4 := kp 4 hs' e4
       replace e7 := kp 7 hs' e7
       replace e8 := kp 8 hs' e8
       replace e9 := kp 9 hs' e9
       replace e10 := kp 10 hs' e10
       replace e11 := kp 11 hs' e11
       replace e14 := kp 14 hs' e14
       replace e16 := kp 16 hs' e16
       replace e17 := congrFun hs' 17
       simp only [Zu, Nat.reduceEqDiff, ↓reduceIte, newPtr, AMem.next_alloc] at e17
       clear hs'
       refine o_norm ?_
       refine t_norm ?_
       exact ⟨b.length - (q + 1), by omega, q + 1, pw', bw', (by first | exact e2 | (rw [e2]; rfl) | (rw [e2]; simp; done)), (by first | exact e4 | (rw [e4]; rfl) | (rw [e4]; simp; done)), (by first | exact e7 | (rw [e7]; rfl) | (rw [e7]; simp; done)), (by first | exact e8 | (rw [e8]; rfl) | (rw [e8]; simp; done)), (by first | exact e9 | (rw [e9]; rfl) | (rw [e9]; simp; done)), (by first | exact e10 | (rw [e10]; rfl) | (rw [e10]; simp; done)), (by first | exact e11 | (rw [e11]; rfl) | (rw [e11]; simp; done)), (by first | exact e14 | (rw [e14]; rfl) | (rw [e14]; simp; done)), (by first | exact e16 | (rw [e16]; rfl) | (rw [e16]; simp; done)), (by first | exact e17 | (rw [e17]; rfl) | (rw [e17]; simp; done)), (by omega), hkF3, hpw', hbw', hdw', rfl, hnxM5, by omega, holdM5, rfl⟩
     ·
      try simp only [Zh] at h12
      have hqe : q = b.length := by omega
      rw [hqe, List.take_length, ← hstep] at hpw hbw e9
      refine at_exit rfl ?_
      refine t_exit ?_
      refine t_exit ?_
      refine b_here ?_
      refine b_norm ?_
      refine t_norm ?_
      exact ⟨pw, bw, (by first | exact e2 | (rw [e2]; rfl) | (rw [e2]; simp; done)), (by first | exact e4 | (rw [e4]; rfl) | (rw [e4]; simp; done)), (by first | exact e7 | (rw [e7]; rfl) | (rw [e7]; simp; done)), (by first | exact e8 | (rw [e8]; rfl) | (rw [e8]; simp; done)), (by first | exact e9 | (rw [hsn]; exact e9) | (rw [hsn, payStep, if_neg ue]; exact e9)), (by first | exact e10 | (rw [e10]; rfl) | (rw [e10]; simp; done)), (by first | exact e11 | (rw [e11]; rfl) | (rw [e11]; simp; done)), (by first | exact hkF2 | exact hkF8), (by first | exact hpw | (rw [hsn]; exact hpv8) | (rw [hsn, payStep, if_neg ue]; exact hpv8)), (by first | exact hbw | (rw [hsn]; exact hbv8) | (rw [hsn, payStep, if_neg ue]; exact hbv8)), (by first | exact hdw | exact hdj), hnxM4, by omega, holdM4, rfl⟩
   ·
    have hr : segGet f.data = none := by cases hq : segGet f.data with | none => rfl | some r => exact absurd ⟨r, hq⟩ hsr
    rw [hr] at hsn
    simp only at hsn
    refine at_region hS rfl (by kernel_rfl) ?_
    refine s_op (a_mv e10) rfl ?_
    refine s_op (a_mv e11) rfl ?_
    refine s_op (a_ia (by simp (disch := omega) only [Zu, Nat.reduceEqDiff, ↓reduceIte, hia, retSG, hst57, hst39, newPtr, AMem.next_alloc] <;> rfl)) rfl ?_
    refine s_op (a_fa (by simp only [Zu, Nat.reduceEqDiff, ↓reduceIte, fa34_1, Nat.zero_add, retSG, hst57, hst39, newPtr, AMem.next_alloc] <;> rfl)) rfl ?_
    refine s_op (a_load (by simp only [Zu, Nat.reduceEqDiff, ↓reduceIte, hget, hl2, retSG, hst57, hst39, newPtr, AMem.next_alloc] <;> rfl) (by simp (disch := first | (refine Zx ?_; simp only [Zn]; done) | ((try simp only [Zn]); omega)) only [Zg, hget, hl2, retSG, hst57, hst39, newPtr] <;> rfl) (by simp only [ld9, Zl, hget, hl2, retSG, hst57, hst39, newPtr, AMem.next_alloc] <;> rfl)) rfl ?_
    refine s_call (by simp only [Zu, Nat.reduceEqDiff, ↓reduceIte, retSG, hst57, hst39, newPtr, AMem.next_alloc] <;> rfl) (by simp only [Zu, Nat.reduceEqDiff, ↓reduceIte, Zm, retSG, hst57, hst39, newPtr, AMem.next_alloc] <;> rfl) ?_
    rw [S23_34]; refine ⟨_, rfl, hfd, ?_⟩; rw [hr]
    show EA _ _ _ _ _ _
    refine s_mv ?_
    refine s_op (a_ext (by simp only [Zu, Nat.reduceEqDiff, ↓reduceIte, retSG, hst57, hst39, newPtr, AMem.next_alloc] <;> rfl) (by first | exact ext4_0 | exact ext3_0 | exact ext2_0 | rfl)) rfl ?_
    refine s_op (a_ext (by simp only [Zu, Nat.reduceEqDiff, ↓reduceIte, retSG, hst57, hst39, newPtr, AMem.next_alloc] <;> rfl) (by first | exact ext4_1 | exact ext3_1 | exact ext2_1 | rfl)) rfl ?_
    refine s_op (a_ext (by simp only [Zu, Nat.reduceEqDiff, ↓reduceIte, retSG, hst57, hst39, newPtr, AMem.next_alloc] <;> rfl) (by first | exact ext4_2 | exact ext3_2 | exact ext2_2 | rfl)) rfl ?_
    refine s_op (a_ext (by simp only [Zu, Nat.reduceEqDiff, ↓reduceIte, retSG, hst57, hst39, newPtr, AMem.next_alloc] <;> rfl) (by first | exact ext4_3 | exact ext3_3 | exact ext2_3 | rfl)) rfl ?_
    refine s_op (a_alloc hz39) rfl ?_
    refine s_op (a_alloc hz57) rfl ?_
    refine s_op (a_store (by simp only [Zu, Nat.reduceEqDiff, ↓reduceIte, hget, retSG, hst57, hst39, newPtr, AMem.next_alloc] <;> rfl) (by simp (disch := first | (refine Zx ?_; simp only [Zn]; done) | ((try simp only [Zn]); omega)) only [Zg, hget, retSG, hst57, hst39, newPtr] <;> rfl) (by simp only [Zu, Nat.reduceEqDiff, ↓reduceIte, hget, retSG, hst57, hst39, newPtr, AMem.next_alloc] <;> rfl) (by simp only [hget, retSG, hst57, hst39, newPtr, AMem.next_alloc] <;> rfl)) rfl ?_
    refine s_op (a_store (by simp only [Zu, Nat.reduceEqDiff, ↓reduceIte, hget, retSG, hst57, hst39, newPtr, AMem.next_alloc] <;> rfl) (by simp (disch := first | (refine Zx ?_; simp only [Zn]; done) | ((try simp only [Zn]); omega)) only [Zg, hget, retSG, hst57, hst39, newPtr] <;> rfl) (by simp only [Zu, Nat.reduceEqDiff, ↓reduceIte, hget, retSG, hst57, hst39, newPtr, AMem.next_alloc] <;> rfl) (by simp only [hget, retSG, hst57, hst39, newPtr, AMem.next_alloc] <;> rfl)) rfl ?_
    refine s_as ?_
    refine s_as ?_
    refine s_end (fun s' hs' => ?_)
    replace e2 := kp 2 hs' e2
    replace e4 := kp 4 hs' e4
    replace e7 := kp 7 hs' e7
    replace e8 := kp 8 hs' e8
    replace e9 := kp 9 hs' e9
    replace e10 := kp 10 hs' e10
    replace e11 := kp 11 hs' e11
    have e12 := congrFun hs' 12
    have e13 := congrFun hs' 13
    have e14 := congrFun hs' 14
    have e15 := congrFun hs' 15
    simp only [Zu, Nat.reduceEqDiff, ↓reduceIte, newPtr, AMem.next_alloc] at e12 e13 e14 e15
    clear hs'
    refine o_norm ?_
    refine q_mem (fun M6 hEM6 => ?_)
    have hnM6 := congrArg AMem.next hEM6; simp only [Zn, Nat.add_assoc, Nat.reduceAdd] at hnM6
    have hnxM6 : M.next ≤ M6.next := by have := hnxM2; omega
    have holdM6 : ∀ j, j < M.next → M6.get j = M.get j := fun j hj => by have := hnxM2; rw [hEM6]; simp (disch := first | (refine Zx ?_; simp only [Zn]; done) | ((try simp only [Zn]); omega)) only [Zg]; exact holdM2 j hj
    have hcM6 : ∀ j, j < M2.next → M6.get j = M2.get j := fun j hj => by rw [hEM6]; simp (disch := first | (refine Zx ?_; simp only [Zn]; done) | ((try simp only [Zn]); omega)) only [Zg]
    have gM6_0 := congrArg (fun m => AMem.get m M2.next) hEM6; try simp (disch := first | (refine Zx ?_; simp only [Zn]; done) | ((try simp only [Zn]); omega)) only [Zg, Nat.add_assoc, Nat.reduceAdd] at gM6_0
    have gM6_1 := congrArg (fun m => AMem.get m (M2.next + 1)) hEM6; try simp (disch := first | (refine Zx ?_; simp only [Zn]; done) | ((try simp only [Zn]); omega)) only [Zg, Nat.add_assoc, Nat.reduceAdd] at gM6_1
    clear hEM6
    have hkF8 : ∀ j, j < MF.next → M6.get j = MF.get j := fun j hj => by rw [hcM6 j (by omega), hkF j hj]
    have hpv8 := hpv.keep (M' := M6) (by omega) (fun j _ hj => hcM6 j hj)
    have hbv8 := hbv.keep (M' := M6) (by omega) (fun j _ hj => hcM6 j hj)
    have hF8 := (hkF8 M.next (by omega)).trans hF0
    refine t_norm ?_
    refine at_seq rfl ?_
    refine at_seq rfl ?_
    refine at_region hS rfl (by kernel_rfl) ?_
    refine s_op (a_mv e15) rfl ?_
    refine s_op (a_un (by simp (disch := omega) only [Zu, Nat.reduceEqDiff, ↓reduceIte, Zd, reduceCtorEq, aun, wrap_i64, IntKind.signed, hF8, Nat.zero_add] <;> rfl)) rfl ?_
    refine s_mv ?_
    refine s_lv ?_
    refine s_lv ?_
    refine s_lv ?_
    refine s_lv ?_
    refine s_lv ?_
    refine s_op (a_pick (by simp only [Zu, Nat.reduceEqDiff, ↓reduceIte, Zd, reduceCtorEq, hF8, Nat.zero_add] <;> rfl) (by simp only [Zu, Nat.reduceEqDiff, ↓reduceIte, Zd, reduceCtorEq, hF8, Nat.zero_add] <;> rfl)) rfl ?_
    refine s_mv ?_
    refine s_lv ?_
    refine s_lv ?_
    refine s_lv ?_
    refine s_lv ?_
    refine s_lv ?_
    refine s_op (a_pick (by simp only [Zu, Nat.reduceEqDiff, ↓reduceIte, Zd, reduceCtorEq, hF8, Nat.zero_add] <;> rfl) (by simp only [Zu, Nat.reduceEqDiff, ↓reduceIte, Zd, reduceCtorEq, hF8, Nat.zero_add] <;> rfl)) rfl ?_
    refine s_mv ?_
    refine s_lv ?_
    refine s_lv ?_
    refine s_lv ?_
    refine s_lv ?_
    refine s_lv ?_
    refine s_op (a_pick (by simp only [Zu, Nat.reduceEqDiff, ↓reduceIte, Zd, reduceCtorEq, hF8, Nat.zero_add] <;> rfl) (by simp only [Zu, Nat.reduceEqDiff, ↓reduceIte, Zd, reduceCtorEq, hF8, Nat.zero_add] <;> rfl)) rfl ?_
    refine s_mv ?_
    refine s_lv ?_
    refine s_lv ?_
    refine s_lv ?_
    refine s_lv ?_
    refine s_lv ?_
    refine s_op (a_pick (by simp only [Zu, Nat.reduceEqDiff, ↓reduceIte, Zd, reduceCtorEq, hF8, Nat.zero_add] <;> rfl) (by simp only [Zu, Nat.reduceEqDiff, ↓reduceIte, Zd, reduceCtorEq, hF8, Nat.zero_add] <;> rfl)) rfl ?_
    refine s_mv ?_
    refine s_lv ?_
    refine s_lv ?_
    refine s_lv ?_
    refine s_op (a_pick (by simp only [Zu, Nat.reduceEqDiff, ↓reduceIte, Zd, reduceCtorEq, hF8, Nat.zero_add] <;> rfl) (by simp only [Zu, Nat.reduceEqDiff, ↓reduceIte, Zd, reduceCtorEq, hF8, Nat.zero_add] <;> rfl)) rfl ?_
    refine s_end (fun s' hs' => ?_)
    replace e2 := kp 2 hs' e2
    replace e4 := kp 4 hs' e4
    replace e7 := kp 7 hs' e7
    replace e8 := kp 8 hs' e8
    replace e9 := kp 9 hs' e9
    replace e10 := kp 10 hs' e10
    replace e11 := kp 11 hs' e11
    replace e13 := kp 13 hs' e13
    replace e14 := kp 14 hs' e14
    have e73 := congrFun hs' 73
    simp only [Zu, Nat.reduceEqDiff, ↓reduceIte, newPtr, AMem.next_alloc] at e73
    clear hs'
    try clear e12 e15
    refine o_norm ?_
    refine t_norm ?_
    refine at_cond rfl rfl e73 (fun h9 => ?_) (fun hc => by simp at hc)
    try simp only [Zh] at h9
    refine at_exit rfl ?_
    refine t_exit ?_
    refine b_here ?_
    refine t_norm ?_
    exact ⟨pv, bv, (by first | exact e2 | (rw [e2]; rfl) | (rw [e2]; simp; done)), (by first | exact e4 | (rw [e4]; rfl) | (rw [e4]; simp; done)), (by first | exact e7 | (rw [e7]; rfl) | (rw [e7]; simp; done)), (by first | exact e8 | (rw [e8]; rfl) | (rw [e8]; simp; done)), (by first | exact e9 | (rw [hsn]; exact e9) | (rw [hsn, payStep, if_neg ue]; exact e9)), (by first | exact e10 | (rw [e10]; rfl) | (rw [e10]; simp; done)), (by first | exact e11 | (rw [e11]; rfl) | (rw [e11]; simp; done)), (by first | exact hkF2 | exact hkF8), (by first | exact hpw | (rw [hsn]; exact hpv8) | (rw [hsn, payStep, if_neg ue]; exact hpv8)), (by first | exact hbw | (rw [hsn]; exact hbv8) | (rw [hsn, payStep, if_neg ue]; exact hbv8)), (by first | exact hdw | exact hdj), hnxM6, by omega, holdM6, rfl⟩
  ·
   rintro s M7 ds ⟨pv', bv', e2, e4, e7, e8, e9, e10, e11, hkF', hpv', hbv', hdj', hnxM7, hngM7, holdM7, rfl⟩
   refine at_region hS rfl (by kernel_rfl) ?_
   refine s_op (a_mv e11) rfl ?_
   refine s_op (a_bin (by simp (disch := ((try simp only [List.length_append, List.length_cons, List.length_nil]); omega)) only [Zu, Nat.reduceEqDiff, ↓reduceIte, Zd, reduceCtorEq, abin_add, abin_aadd, wrap_i64, wrap_u32, wrap_u8, wrap_u64, wrap_i32, wrap_u16, ne_eq, not_false_eq_true] <;> rfl)) rfl ?_
   refine s_as ?_
   refine s_end (fun s' hs' => ?_)
   replace e2 := kp 2 hs' e2
   replace e4 := kp 4 hs' e4
   replace e7 := kp 7 hs' e7
   replace e8 := kp 8 hs' e8
   replace e9 := kp 9 hs' e9
   replace e10 := kp 10 hs' e10
   replace e11 := congrFun hs' 11
   simp only [Zu, Nat.reduceEqDiff, ↓reduceIte, newPtr, AMem.next_alloc] at e11
   clear hs'
   refine o_norm ?_
   refine t_norm ?_
   exact ⟨fs.length - (i + 1), by omega, i + 1, pv', bv', (by first | exact e2 | (rw [e2]; rfl) | (rw [e2]; simp; done)), (by first | exact e4 | (rw [e4]; rfl) | (rw [e4]; simp; done)), (by first | exact e7 | (rw [e7]; rfl) | (rw [e7]; simp; done)), (by first | exact e8 | (rw [e8]; rfl) | (rw [e8]; simp; done)), (by first | exact e9 | (rw [e9]; rfl) | (rw [e9]; simp; done)), (by first | exact e10 | (rw [e10]; rfl) | (rw [e10]; simp; done)), (by first | exact e11 | (rw [e11]; rfl) | (rw [e11]; simp; done)), (by omega), hkF', hpv', hbv', hdj', rfl, hnxM7, by omega, holdM7, rfl⟩
 ·
  try simp only [Zh] at h6
  have hie : i = fs.length := by omega
  rw [hie, List.take_length] at hpv hbv
  unfold payF at hK
  have hpl := payL_len t start (segsL fs)
  generalize payL t start (segsL fs) = pl at *
  refine at_exit rfl ?_
  refine t_exit ?_
  refine t_exit ?_
  refine b_here ?_
  refine t_norm ?_
  refine at_seq rfl ?_
  refine at_region hS rfl (by kernel_rfl) ?_
  refine s_op (a_as (by simp only [ev_const] <;> rfl)) rfl ?_
  refine s_end (fun s' hs' => ?_)
  replace e7 := kp 7 hs' e7
  replace e8 := kp 8 hs' e8
  have e18 := congrFun hs' 18
  simp only [Zu, Nat.reduceEqDiff, ↓reduceIte, newPtr, AMem.next_alloc] at e18
  clear hs'
  refine o_norm ?_
  refine t_norm ?_
  refine at_block rfl ?_
  refine at_loop rfl (fun km s ML ds => ∃ (n : Nat), s 7 = pv ∧ s 8 = bv ∧ s 18 = asString ((List.range n).map (valP pl)) ∧ (∀ j, j < M2.next → ML.get j = M2.get j) ∧ (∀ j, j < n → (j : Int) ∈ pl.map Prod.fst) ∧ km = pl.length + 1 - n ∧ M.next ≤ ML.next ∧ M2.next ≤ ML.next ∧ (∀ j, j < M.next → ML.get j = M.get j) ∧ ds = []) (pl.length + 1 - (0)) ⟨0, (by first | exact e7 | (rw [e7]; rfl) | (simpa using e7)), (by first | exact e8 | (rw [e8]; rfl) | (simpa using e8)), (by first | exact e18 | (rw [e18]; rfl) | (simpa using e18)), (fun _ _ => rfl), (fun j h => by omega), rfl, hnxM2, by omega, holdM2, rfl⟩ ?_
  clear e7 e8 e18
  rintro km s M8 ds ⟨n, e7, e8, e18, hkM, hall, hk, hnxM8, hngM8, holdM8, rfl⟩
  refine at_block rfl ?_
  refine at_seq rfl ?_
  have hpv18 := hpv.keep (M' := M8) (by omega) (fun j _ hj => hkM j hj)
  have hbv18 := hbv.keep (M' := M8) (by omega) (fun j _ hj => hkM j hj)
  have hpg := pig n _ hall
  have hp1 : (pl.map Prod.fst).length = pl.length := List.length_map _
  rw [hp1] at hpg
  have hln : ((List.range n).map (valP pl)).length = n := by rw [List.length_map, List.length_range]
  refine at_region hS rfl (by kernel_rfl) ?_
  refine s_op (a_mv e7) rfl ?_
  refine s_op (a_mv e18) rfl ?_
  refine s_op (a_len (by simp (disch := omega) only [Zu, Nat.reduceEqDiff, ↓reduceIte, alen_str, hlenS, hln, newPtr, AMem.next_alloc] <;> rfl)) rfl ?_
  refine s_call (by simp only [Zu, Nat.reduceEqDiff, ↓reduceIte, hlenS, hln, newPtr, AMem.next_alloc] <;> rfl) (by simp only [Zu, Nat.reduceEqDiff, ↓reduceIte, Zm, hlenS, hln, newPtr, AMem.next_alloc] <;> rfl) ?_
  rw [S23_36]; refine ⟨_, _, _, rfl, hpv18.row, by omega, ?_⟩
  show EA _ _ _ _ _ _
  refine s_as ?_
  refine s_end (fun s' hs' => ?_)
  replace e7 := kp 7 hs' e7
  replace e8 := kp 8 hs' e8
  replace e18 := kp 18 hs' e18
  have e19 := congrFun hs' 19
  simp only [Zu, Nat.reduceEqDiff, ↓reduceIte, newPtr, AMem.next_alloc] at e19
  clear hs'
  refine o_norm ?_
  refine t_norm ?_
  refine at_seq rfl ?_
  refine at_seq rfl ?_
  refine at_region hS rfl (by kernel_rfl) ?_
  refine s_op (a_mv e19) rfl ?_
  refine s_op (a_bin (by simp (disch := omega) only [Zu, Nat.reduceEqDiff, ↓reduceIte, Zd, reduceCtorEq, abin_lss, ne_eq, not_false_eq_true] <;> rfl)) rfl ?_
  refine s_end (fun s' hs' => ?_)
  replace e7 := kp 7 hs' e7
  replace e8 := kp 8 hs' e8
  replace e18 := kp 18 hs' e18
  replace e19 := kp 19 hs' e19
  have e116 := congrFun hs' 116
  simp only [Zu, Nat.reduceEqDiff, ↓reduceIte, newPtr, AMem.next_alloc] at e116
  clear hs'
  refine o_norm ?_
  refine t_norm ?_
  refine at_cond rfl rfl e116 (fun h19 => ?_) (fun h19 => ?_)
  ·
   try simp only [Zh] at h19
   have hni : (n : Int) ∉ pl.map Prod.fst := findF_iff.1 h19
   rw [payOut_eq hall hni] at hK
   refine at_seq rfl ?_
   refine at_region hS rfl (by kernel_rfl) ?_
   refine s_op (a_mv e18) rfl ?_
   refine s_as ?_
   refine s_end (fun s' hs' => ?_)
   have e6 := congrFun hs' 6
   simp only [Zu, Nat.reduceEqDiff, ↓reduceIte, newPtr, AMem.next_alloc] at e6
   clear hs'
   try clear e18
   refine o_norm ?_
   refine t_norm ?_
   refine at_ret rfl ?_
   refine t_ret ?_
   refine b_ret ?_
   refine t_ret ?_
   refine b_ret ?_
   refine bq_ret rfl (ars_cons (ar_tmp e6) ars_nil) ?_
   exact ⟨_, _, hK, Canon.forget rfl holdM8⟩
  ·
   try simp only [Zh] at h19
   have hin : (n : Int) ∈ pl.map Prod.fst := Decidable.not_not.1 (fun h => h19 (findF_iff.2 h))
   obtain ⟨k, hk, hfk, hvk⟩ := findF_pos hin
   have hpg2 := pig (n + 1) (pl.map Prod.fst) (fun j h => by rcases (by omega : j < n ∨ j = n) with h' | h'; exact hall j h'; subst h'; exact hin)
   rw [hp1] at hpg2
   rw [hfk] at e19
   have hp2 : (pl.map Prod.snd).length = pl.length := List.length_map _
   obtain ⟨v1, hs1, hr1⟩ := byte_part hbv18.row hk
   rw [hvk] at hr1
   refine at_skip rfl ?_
   refine t_norm ?_
   refine at_region hS rfl (by kernel_rfl) ?_
   refine s_op (a_mv e18) rfl ?_
   refine s_op (a_mv e8) rfl ?_
   refine s_op (a_mv e19) rfl ?_
   refine s_op (a_mv e19) rfl ?_
   refine s_op (a_bin (by simp (disch := ((try simp only [List.length_append, List.length_cons, List.length_nil]); omega)) only [Zu, Nat.reduceEqDiff, ↓reduceIte, Zd, reduceCtorEq, abin_add, abin_aadd, wrap_i64, wrap_u32, wrap_u8, wrap_u64, wrap_i32, wrap_u16, ne_eq, not_false_eq_true, hln] <;> rfl)) rfl ?_
   refine s_op (a_slice (by simp only [Zu, Nat.reduceEqDiff, ↓reduceIte, e8]; exact hs1 _ _ 120 122 (by simp only [Zu, Nat.reduceEqDiff, ↓reduceIte, e19]) (by simp only [Zu, Nat.reduceEqDiff, ↓reduceIte, e19]))) rfl ?_
   refine s_op (a_conv (by simp (disch := omega) only [Zu, Nat.reduceEqDiff, ↓reduceIte, Row.str (P := Try.prog) hr1 Try.underlying55 Try.underlying5 Try.underlying9, hln, newPtr, AMem.next_alloc] <;> rfl)) rfl ?_
   refine s_op (a_bin (by simp (disch := ((try simp only [List.length_append, List.length_cons, List.length_nil]); omega)) only [Zu, Nat.reduceEqDiff, ↓reduceIte, Zd, reduceCtorEq, abin_add, abin_aadd, wrap_i64, wrap_u32, wrap_u8, wrap_u64, wrap_i32, wrap_u16, ne_eq, not_false_eq_true, hln] <;> rfl)) rfl ?_
   refine s_as ?_
   refine s_end (fun s' hs' => ?_)
   replace e7 := kp 7 hs' e7
   replace e8 := kp 8 hs' e8
   replace e18 := congrFun hs' 18
   simp only [Zu, Nat.reduceEqDiff, ↓reduceIte, newPtr, AMem.next_alloc] at e18
   clear hs'
   try clear e19
   refine o_norm ?_
   refine b_norm ?_
   refine t_norm ?_
   exact ⟨pl.length + 1 - (n + 1), by omega, n + 1, (by first | exact e7 | (rw [e7]; rfl) | (rw [e7]; simp; done)), (by first | exact e8 | (rw [e8]; rfl) | (rw [e8]; simp; done)), (by first | exact e18 | (rw [e18, range_snoc]; done) | (rw [range_snoc]; exact e18)), hkM, (fun j h => by rcases (by omega : j < n ∨ j = n) with h' | h'; exact hall j h'; subst h'; exact hin), rfl, hnxM8, by omega, holdM8, rfl⟩
end Go.Proofs.Ytdkdkpiemigfkaa
set_option linter.unusedVariables false
set_option linter.unusedSimpArgs false
set_option maxRecDepth 8000
namespace Go.Proofs.Ytdkdkpiemigfkaa
open Go Go.Proofs
theorem flatMap_bound {α β : Type} (f : α → List β) (c : Nat) : ∀ (os : List α), (∀ o ∈ os, (f o).length ≤ c) → (os.flatMap f).length ≤ os.length * c := by
  intro os
  induction os with
  | nil => intro _; simp
  | cons o os ih =>
    intro h
    have h1 := h o (by simp)
    have h2 := ih (fun x hx => h x (by simp [hx]))
    rw [List.flatMap_cons, List.length_append, List.length_cons, Nat.succ_mul]; omega
theorem dataN_bound (c : Nat) : ∀ (fs : List Fr), (∀ f ∈ fs, f.data.length ≤ c) → dataN fs ≤ fs.length * c := by
  intro fs
  induction fs with
  | nil => intro _; simp [dataN]
  | cons f fs ih =>
    intro h
    have h1 := h f (by simp)
    have h2 := ih (fun x hx => h x (by simp [hx]))
    simp only [dataN, List.map_cons, List.sum_cons, List.length_cons, Nat.succ_mul] at h2 ⊢; omega
theorem fewP_fewO {os : List Ou} (h : fewP os) : fewO os ∧ datO os ∧ dataN (os.flatMap Ou.frames) ≤ 1000000 := by
  obtain ⟨h0, h1⟩ := h
  have hm : ∀ o ∈ os, o.frames.length ≤ 3 ∧ o.notes.length ≤ 30 ∧ ∀ (q : Nat) (f : Fr), o.frames[q]? = some f → f.data.length ≤ 200 := by
    intro o ho
    obtain ⟨i, hi⟩ := List.mem_iff_getElem?.1 ho
    exact h1 i o hi
  have a1 := flatMap_bound Ou.frames 3 os (fun o ho => (hm o ho).1)
  have a2 := flatMap_bound Ou.notes 30 os (fun o ho => (hm o ho).2.1)
  have hd : ∀ f ∈ os.flatMap Ou.frames, f.data.length ≤ 200 := by
    intro f hf
    rw [List.mem_flatMap] at hf
    obtain ⟨o, ho, hf⟩ := hf
    obtain ⟨q, hq⟩ := List.mem_iff_getElem?.1 hf
    exact (hm o ho).2.2 q f hq
  have a3 := dataN_bound 200 _ hd
  exact ⟨⟨by omega, by omega, by omega⟩, fun f hf => by have := hd f hf; omega, by omega⟩
theorem b53_0 (a : Int) : abuild Try.prog 53 [(0, .int .i64 a)] = some (Nt.cells ⟨a, 0, 0, 0⟩) := by kernel_rfl
theorem sids353 : sidS [5, 3, 5] = [3, 5] := asc_unique (sidS_asc _) (by simp) (fun x => by rw [sidS_mem]; simp; omega)
theorem OusR_nil (M : AMem) : OusR M (.slice none 0 0) [] := ⟨[], rfl, ⟨rfl, .inl ⟨rfl, rfl⟩⟩, fun i c o h => by simp at h⟩
theorem b39 : abuild Try.prog 39 [] = some tup0.cells := by kernel_rfl
theorem pay_nil (t : Tup) (start : Int) : payF t start (segsF []) = [] := rfl
theorem rst_nil : resetsF [] = 0 := rfl
def sidO (os : List Ou) : Prop := ∀ n ∈ os.flatMap Ou.notes, inI64 n.sid
def sp6 : ASpec := fun args M K => args = [] ∧ K (.ret (.bool true)) M
noncomputable def S6 : FuncId → ASpec := tab [(21, sp21), (11, sp11), (24, sp24)]
theorem S6_21 : S6 21 = sp21 := rfl
theorem S6_11 : S6 11 = sp11 := rfl
theorem S6_24 : S6 24 = sp24 := rfl
theorem S6_ok : ∀ f, Sound Try.prog f (S6 f) := tab_sound _ (by simp [f21_ok, f11_ok, f24_ok])
set_option maxHeartbeats 1000000 in
theorem f6_ok : Sound Try.prog 6 sp6 := by
 refine Sound.of_awp (c := bodyOf Try.f6) Try.func6 rfl rfl rfl ?_
 rintro args M K ⟨rfl, hK⟩
 refine ⟨Nat.le_of_ble_eq_true rfl, ?_⟩
 have hS := S6_ok
 refine at_seq rfl ?_
 refine at_region hS rfl (by kernel_rfl) ?_
 refine s_op (a_as (by simp only [ev_const] <;> rfl)) rfl ?_
 refine s_end (fun s' hs' => ?_)
 clear hs'
 refine o_norm ?_
 refine t_norm ?_
 refine at_seq rfl ?_
 refine at_region hS rfl (by kernel_rfl) ?_
 refine s_op (a_build (by simp only [ev_const, Zm, Array.toList, b53_0, newPtr, AMem.next_alloc] <;> rfl)) rfl ?_
 refine s_op (a_build (by simp only [ev_const, Zm, Array.toList, b53_0, newPtr, AMem.next_alloc] <;> rfl)) rfl ?_
 refine s_op (a_build (by simp only [ev_const, Zm, Array.toList, b53_0, newPtr, AMem.next_alloc] <;> rfl)) rfl ?_
 refine s_op (a_bslice (by simp only [Zu, Nat.reduceEqDiff, ↓reduceIte, Zm, Array.toList, b53_0, newPtr, AMem.next_alloc]; exact abuildSlice_all [_, _, _] rfl rfl rfl rfl rfl (by decide) (by decide) rfl (by simp only [List.mem_cons, List.not_mem_nil, or_false, forall_eq_or_imp, forall_eq]; repeat' (first | rfl | apply And.intro)))) rfl ?_
 refine s_call (by simp only [Zu, Nat.reduceEqDiff, ↓reduceIte, b53_0, newPtr, AMem.next_alloc] <;> rfl) (by simp only [Zu, Nat.reduceEqDiff, ↓reduceIte, Zm, b53_0, newPtr, AMem.next_alloc] <;> rfl) ?_
 rw [S6_21]; refine ⟨_, [⟨5, 0, 0, 0⟩, ⟨3, 0, 0, 0⟩, ⟨5, 0, 0, 0⟩], rfl, ⟨rfl, .inr ⟨M.next, 0, _, true, rfl, by simp, get_new, by decide, rfl⟩⟩, by intro n hn; simp only [List.mem_cons, List.not_mem_nil, or_false] at hn; rcases hn with rfl | rfl | rfl <;> exact ⟨by decide, by decide⟩, by simp, ?_⟩; rw [show (List.map Nt.sid [⟨5, 0, 0, 0⟩, ⟨3, 0, 0, 0⟩, ⟨5, 0, 0, 0⟩]) = [5, 3, 5] from rfl, sids353]; intro v1 MS hnS hoS hwS
 show EA _ _ _ _ _ _
 refine s_as ?_
 refine s_end (fun s' hs' => ?_)
 have e1 := congrFun hs' 1
 simp only [Zu, Nat.reduceEqDiff, ↓reduceIte, newPtr, AMem.next_alloc] at e1
 clear hs'
 refine o_norm ?_
 have hnxS : M.next ≤ MS.next := by simp at hnS; omega
 have holdS : ∀ j, j < M.next → MS.get j = M.get j := fun j hj => by rw [hoS j (by simp; omega), get_old (by omega)]
 obtain ⟨i0, o0, all0, w0, hia0, hid0, hget0, hld0⟩ := hwS.row.at1 Try.underlying22 (i := _) (by rfl) rfl (j := 0) (by decide) ld3 ⟨_, rfl, rfl⟩ .i64
 obtain ⟨i1, o1, all1, w1, hia1, hid1, hget1, hld1⟩ := hwS.row.at1 Try.underlying22 (i := _) (by rfl) rfl (j := 1) (by decide) ld3 ⟨_, rfl, rfl⟩ .i64
 have hia0' : aindexAddr Try.prog 22 v1 (.int .i64 0) = some (.pointer (some ⟨i0, o0, none⟩)) := hia0
 have hia1' : aindexAddr Try.prog 22 v1 (.int .i64 1) = some (.pointer (some ⟨i1, o1, none⟩)) := hia1
 have hld0' : aload Try.prog 3 all0 o0 = some (.int .i64 3) := hld0
 have hld1' : aload Try.prog 3 all1 o1 = some (.int .i64 5) := hld1
 have hlen2 : ∀ MX : AMem, alen Try.prog MX 22 v1 = some (.int .i64 2) := fun MX => Row.len hwS.row (P := Try.prog) Try.underlying22 MX
 refine t_norm ?_
 refine at_seq rfl ?_
 refine at_region hS rfl (by kernel_rfl) ?_
 refine s_op (a_mv e1) rfl ?_
 refine s_op (a_len (by simp (disch := omega) only [Zu, Nat.reduceEqDiff, ↓reduceIte, alen_str, hlen2, b39, pay_nil, rst_nil, newPtr, AMem.next_alloc] <;> rfl)) rfl ?_
 refine s_op (a_bin (by simp (disch := omega) only [Zu, Nat.reduceEqDiff, ↓reduceIte, Zd, reduceCtorEq, abin_eql, abin_aeql, ne_eq, not_false_eq_true, b39, pay_nil, rst_nil] <;> rfl)) rfl ?_
 refine s_mv ?_
 refine s_tk ?_
 refine s_op (a_mv e1) rfl ?_
 refine s_tk ?_
 refine s_op (a_ia (by simp (disch := omega) only [Zu, Nat.reduceEqDiff, ↓reduceIte, hia0', hia1', b39, pay_nil, rst_nil, newPtr, AMem.next_alloc] <;> rfl)) rfl ?_
 refine s_tk ?_
 refine s_op (a_load (by simp only [Zu, Nat.reduceEqDiff, ↓reduceIte, hld0', hld1', hget0, hget1, b39, pay_nil, rst_nil, newPtr, AMem.next_alloc] <;> rfl) (by simp (disch := first | (refine Zx ?_; simp only [Zn]; done) | ((try simp only [Zn]); omega)) only [Zg, hld0', hld1', hget0, hget1, b39, pay_nil, rst_nil, newPtr] <;> rfl) (by simp only [ld3, Zl, hld0', hld1', hget0, hget1, b39, pay_nil, rst_nil, newPtr, AMem.next_alloc] <;> rfl)) rfl ?_
 refine s_tk ?_
 refine s_op (a_bin (by simp (disch := omega) only [Zu, Nat.reduceEqDiff, ↓reduceIte, Zd, reduceCtorEq, abin_eql, abin_aeql, ne_eq, not_false_eq_true, b39, pay_nil, rst_nil] <;> rfl)) rfl ?_
 refine s_op (a_pick (by simp only [Zu, Nat.reduceEqDiff, ↓reduceIte, Zd, reduceCtorEq, b39, pay_nil, rst_nil] <;> rfl) (by simp only [Zu, Nat.reduceEqDiff, ↓reduceIte, Zd, reduceCtorEq, b39, pay_nil, rst_nil] <;> rfl)) rfl ?_
 refine s_mv ?_
 refine s_tk ?_
 refine s_op (a_mv e1) rfl ?_
 refine s_tk ?_
 refine s_op (a_ia (by simp (disch := omega) only [Zu, Nat.reduceEqDiff, ↓reduceIte, hia0', hia1', b39, pay_nil, rst_nil, newPtr, AMem.next_alloc] <;> rfl)) rfl ?_
 refine s_tk ?_
 refine s_op (a_load (by simp only [Zu, Nat.reduceEqDiff, ↓reduceIte, hld0', hld1', hget0, hget1, b39, pay_nil, rst_nil, newPtr, AMem.next_alloc] <;> rfl) (by simp (disch := first | (refine Zx ?_; simp only [Zn]; done) | ((try simp only [Zn]); omega)) only [Zg, hld0', hld1', hget0, hget1, b39, pay_nil, rst_nil, newPtr] <;> rfl) (by simp only [ld3, Zl, hld0', hld1', hget0, hget1, b39, pay_nil, rst_nil, newPtr, AMem.next_alloc] <;> rfl)) rfl ?_
 refine s_tk ?_
 refine s_op (a_bin (by simp (disch := omega) only [Zu, Nat.reduceEqDiff, ↓reduceIte, Zd, reduceCtorEq, abin_eql, abin_aeql, ne_eq, not_false_eq_true, b39, pay_nil, rst_nil] <;> rfl)) rfl ?_
 refine s_op (a_pick (by simp only [Zu, Nat.reduceEqDiff, ↓reduceIte, Zd, reduceCtorEq, b39, pay_nil, rst_nil] <;> rfl) (by simp only [Zu, Nat.reduceEqDiff, ↓reduceIte, Zd, reduceCtorEq, b39, pay_nil, rst_nil] <;> rfl)) rfl ?_
 refine s_mv ?_
 refine s_tk ?_
 refine s_op (a_build (by simp only [Zu, Nat.reduceEqDiff, ↓reduceIte, Zm, Array.toList, b39, pay_nil, rst_nil, newPtr, AMem.next_alloc] <;> rfl)) rfl ?_
 refine s_tk ?_
 refine s_call (by simp only [Zu, Nat.reduceEqDiff, ↓reduceIte, hlen2, b39, pay_nil, rst_nil, newPtr, AMem.next_alloc] <;> rfl) (by simp only [Zu, Nat.reduceEqDiff, ↓reduceIte, Zm, hlen2, b39, pay_nil, rst_nil, newPtr, AMem.next_alloc] <;> rfl) ?_
 rw [S6_11]; refine ⟨_, tup0, _, [], rfl, OusR_nil _, ⟨by simp, by simp, by simp⟩, by simp [dataN], ⟨by decide, by decide⟩, ?_⟩
 show EA _ _ _ _ _ _
 refine s_tk ?_
 refine s_op (a_bin (by simp (disch := omega) only [Zu, Nat.reduceEqDiff, ↓reduceIte, Zd, reduceCtorEq, abin_eql, abin_aeql, ne_eq, not_false_eq_true, b39, pay_nil, rst_nil] <;> rfl)) rfl ?_
 refine s_op (a_pick (by simp only [Zu, Nat.reduceEqDiff, ↓reduceIte, Zd, reduceCtorEq, b39, pay_nil, rst_nil] <;> rfl) (by simp only [Zu, Nat.reduceEqDiff, ↓reduceIte, Zd, reduceCtorEq, b39, pay_nil, rst_nil] <;> rfl)) rfl ?_
 refine s_mv ?_
 refine s_tk ?_
 refine s_call (by simp only [Zu, Nat.reduceEqDiff, ↓reduceIte, hlen2, b39, pay_nil, rst_nil, newPtr, AMem.next_alloc] <;> rfl) (by simp only [Zu, Nat.reduceEqDiff, ↓reduceIte, Zm, hlen2, b39, pay_nil, rst_nil, newPtr, AMem.next_alloc] <;> rfl) ?_
 rw [S6_24]; refine ⟨_, [], rfl, OusR_nil _, ⟨by simp, by simp, by simp⟩, fun f hf => by simp at hf, ?_⟩
 show EA _ _ _ _ _ _
 refine s_tk ?_
 refine s_op (a_bin (by simp (disch := omega) only [Zu, Nat.reduceEqDiff, ↓reduceIte, Zd, reduceCtorEq, abin_eql, abin_aeql, ne_eq, not_false_eq_true, b39, pay_nil, rst_nil] <;> rfl)) rfl ?_
 refine s_op (a_pick (by simp only [Zu, Nat.reduceEqDiff, ↓reduceIte, Zd, reduceCtorEq, b39, pay_nil, rst_nil] <;> rfl) (by simp only [Zu, Nat.reduceEqDiff, ↓reduceIte, Zd, reduceCtorEq, b39, pay_nil, rst_nil] <;> rfl)) rfl ?_
 refine s_as ?_
 refine s_end (fun s' hs' => ?_)
 have e0 := congrFun hs' 0
 simp only [Zu, Nat.reduceEqDiff, ↓reduceIte, newPtr, AMem.next_alloc] at e0
 clear hs'
 try clear e1
 refine o_norm ?_
 refine t_norm ?_
 refine at_ret rfl ?_
 refine bq_ret rfl (ars_cons (ar_tmp e0) ars_nil) ?_
 exact ⟨_, _, hK, Canon.forget rfl holdS⟩
def sp4 : ASpec := fun args M K => ∃ (lv : Value) (t : Tup) (start side : Int) (os : List Ou), args = [lv, .agg t.cells.toArray, .int .u32 start, .int .i64 side] ∧ OusR M lv os ∧ sidO os ∧ u32 start ∧ K (.ret (.bool true)) M
noncomputable def S4 : FuncId → ASpec := tab [(13, sp13), (6, sp6), (14, sp14), (16, sp16), (17, sp17), (15, sp15), (19, sp19), (18, sp18), (21, sp21), (22, sp22), (20, sp20), (11, sp11), (23, sp23), (24, sp24), (25, sp25)]
theorem S4_13 : S4 13 = sp13 := rfl
theorem S4_6 : S4 6 = sp6 := rfl
theorem S4_14 : S4 14 = sp14 := rfl
theorem S4_16 : S4 16 = sp16 := rfl
theorem S4_17 : S4 17 = sp17 := rfl
theorem S4_15 : S4 15 = sp15 := rfl
theorem S4_19 : S4 19 = sp19 := rfl
theorem S4_18 : S4 18 = sp18 := rfl
theorem S4_21 : S4 21 = sp21 := rfl
theorem S4_22 : S4 22 = sp22 := rfl
theorem S4_20 : S4 20 = sp20 := rfl
theorem S4_11 : S4 11 = sp11 := rfl
theorem S4_23 : S4 23 = sp23 := rfl
theorem S4_24 : S4 24 = sp24 := rfl
theorem S4_25 : S4 25 = sp25 := rfl
theorem S4_ok : ∀ f, Sound Try.prog f (S4 f) := tab_sound _ (by simp [f13_ok, f6_ok, f14_ok, f16_ok, f17_ok, f15_ok, f19_ok, f18_ok, f21_ok, f22_ok, f20_ok, f11_ok, f23_ok, f24_ok, f25_ok])
set_option maxHeartbeats 2000000 in
theorem f4_ok : Sound Try.prog 4 sp4 := by
 refine Sound.of_awp (c := bodyOf Try.f4) Try.func4 rfl rfl rfl ?_
 rintro args M K ⟨lv, t, start, side, os, rfl, hos, hsid, hstart, hK⟩
 refine ⟨Nat.le_of_ble_eq_true rfl, ?_⟩
 have hS := S4_ok
 have e0 : entry [lv, .agg t.cells.toArray, .int .u32 start, .int .i64 side] 0 = lv := rfl
 have e1 : entry [lv, .agg t.cells.toArray, .int .u32 start, .int .i64 side] 1 = .agg t.cells.toArray := rfl
 have e2 : entry [lv, .agg t.cells.toArray, .int .u32 start, .int .i64 side] 2 = .int .u32 start := rfl
 have e3 : entry [lv, .agg t.cells.toArray, .int .u32 start, .int .i64 side] 3 = .int .i64 side := rfl
 have htl : (Value.agg t.cells.toArray).cells.toList = t.cells := rfl
 refine at_seq rfl ?_
 refine at_region hS rfl (by kernel_rfl) ?_
 refine s_op (a_box (by simp only [Zu, Nat.reduceEqDiff, ↓reduceIte, htl, newPtr, AMem.next_alloc, e1] <;> rfl)) rfl ?_
 refine s_op (a_as (by simp only [ev_const] <;> rfl)) rfl ?_
 refine s_end (fun s' hs' => ?_)
 replace e0 := kp 0 hs' e0
 replace e2 := kp 2 hs' e2
 replace e3 := kp 3 hs' e3
 have e5 := congrFun hs' 5
 simp only [Zu, Nat.reduceEqDiff, ↓reduceIte, newPtr, AMem.next_alloc] at e5
 clear hs'
 try clear e1
 refine o_norm ?_
 refine q_mem (fun M1 hEM1 => ?_)
 have hnM1 := congrArg AMem.next hEM1; simp only [Zn, Nat.add_assoc, Nat.reduceAdd] at hnM1
 have hnxM1 : M.next ≤ M1.next := by have := (Nat.le_refl M.next); omega
 have holdM1 : ∀ j, j < M.next → M1.get j = M.get j := fun j hj => by have := (Nat.le_refl M.next); rw [hEM1]; simp (disch := first | (refine Zx ?_; simp only [Zn]; done) | ((try simp only [Zn]); omega)) only [Zg]; done
 have gM1_0 := congrArg (fun m => AMem.get m M.next) hEM1; try simp (disch := first | (refine Zx ?_; simp only [Zn]; done) | ((try simp only [Zn]); omega)) only [Zg, Nat.add_assoc, Nat.reduceAdd] at gM1_0
 clear hEM1
 refine t_norm ?_
 refine at_seq rfl ?_
 refine at_seq rfl ?_
 refine at_region hS rfl (by kernel_rfl) ?_
 refine s_op (a_mv e0) rfl ?_
 refine s_call (by simp only [Zu, Nat.reduceEqDiff, ↓reduceIte, newPtr, AMem.next_alloc, gM1_0] <;> rfl) (by simp only [Zu, Nat.reduceEqDiff, ↓reduceIte, Zm, newPtr, AMem.next_alloc, gM1_0] <;> rfl) ?_
 rw [S4_13]; refine ⟨lv, os, rfl, hos.keep hnxM1 holdM1, ?_⟩; intro bf hbf
 show EA _ _ _ _ _ _
 refine s_op (a_un (by simp (disch := omega) only [Zu, Nat.reduceEqDiff, ↓reduceIte, Zd, reduceCtorEq, aun, wrap_i64, IntKind.signed] <;> rfl)) rfl ?_
 refine s_end (fun s' hs' => ?_)
 replace e0 := kp 0 hs' e0
 replace e2 := kp 2 hs' e2
 replace e3 := kp 3 hs' e3
 replace e5 := kp 5 hs' e5
 have e12 := congrFun hs' 12
 simp only [Zu, Nat.reduceEqDiff, ↓reduceIte, newPtr, AMem.next_alloc] at e12
 clear hs'
 refine o_norm ?_
 refine t_norm ?_
 refine at_cond rfl rfl e12 (fun h1 => ?_) (fun h1 => ?_)
 ·
  try simp only [Zh] at h1
  refine at_seq rfl ?_
  refine at_region hS rfl (by kernel_rfl) ?_
  refine s_call (by simp only [ev_func, newPtr, AMem.next_alloc, gM1_0] <;> rfl) (by simp only [ev_func, Zm, newPtr, AMem.next_alloc, gM1_0] <;> rfl) ?_
  rw [S4_6]; refine ⟨rfl, ?_⟩
  show EA _ _ _ _ _ _
  refine s_as ?_
  refine s_end (fun s' hs' => ?_)
  have e8 := congrFun hs' 8
  simp only [Zu, Nat.reduceEqDiff, ↓reduceIte, newPtr, AMem.next_alloc] at e8
  clear hs'
  refine o_norm ?_
  refine t_norm ?_
  refine at_ret rfl ?_
  refine t_ret ?_
  refine bq_ret rfl (ars_cons (ar_tmp e8) ars_nil) ?_
  exact ⟨_, _, hK, Canon.forget rfl holdM1⟩
 ·
  try simp only [Zh] at h1
  refine at_skip rfl ?_
  refine t_norm ?_
  refine at_seq rfl ?_
  obtain ⟨hb, hdat, hdn⟩ := fewP_fewO (hbf h1)
  have hosM := hos.keep (M' := M1) hnxM1 holdM1
  have hbx := gM1_0
  have hb2 := hb.2.1
  have hb3 := hb.2.2
  have hsl := selF_le side (os.flatMap Ou.frames)
  have hsS := sidS_len ((os.flatMap Ou.notes).map Nt.sid)
  rw [List.length_map] at hsS
  refine at_region hS rfl (by kernel_rfl) ?_
  refine s_op (a_mv e0) rfl ?_
  refine s_call (by simp only [Zu, Nat.reduceEqDiff, ↓reduceIte, newPtr, AMem.next_alloc, gM1_0] <;> rfl) (by simp only [Zu, Nat.reduceEqDiff, ↓reduceIte, Zm, newPtr, AMem.next_alloc, gM1_0] <;> rfl) ?_
  rw [S4_14]; refine ⟨lv, os, rfl, hosM, hb, ?_⟩; intro nv MN hnN hoN hwN
  show EA _ _ _ _ _ _
  refine s_as ?_
  refine s_end (fun s' hs' => ?_)
  replace e0 := kp 0 hs' e0
  replace e2 := kp 2 hs' e2
  replace e3 := kp 3 hs' e3
  replace e5 := kp 5 hs' e5
  have e9 := congrFun hs' 9
  simp only [Zu, Nat.reduceEqDiff, ↓reduceIte, newPtr, AMem.next_alloc] at e9
  clear hs'
  refine o_norm ?_
  have hnxN : M.next ≤ MN.next := by omega
  have holdN : ∀ j, j < M.next → MN.get j = M.get j := fun j hj => by rw [hoN j (by omega)]; exact holdM1 j hj
  have hosN := hosM.keep hnN hoN
  have hbxN := (hoN M.next (by omega)).trans hbx
  refine t_norm ?_
  refine at_seq rfl ?_
  refine at_draw ⟨[[], [], [0, 1], [], [], [0, 1, 2, 3, 4], [0, 1, 2, 3, 4, 5], [0, 1, 2, 3, 4, 5, 6], [0, 1, 2, 3, 4, 5, 6, 7], [0, 1, 2, 3, 4, 5, 6, 7], [0, 1, 2, 3, 4, 5, 6, 7, 9], [0, 1, 2, 3, 4, 5, 6, 7, 8, 9, 10], [0, 1, 2, 3, 4, 5, 6, 7, 8, 9, 10, 11], [0, 1, 2, 3, 4, 5, 6, 7, 8, 9, 10, 11, 12], [0, 1, 2, 3, 4, 5, 6, 7, 8, 9, 10, 11, 12, 13], [0, 1, 2, 3, 4, 5, 6, 7, 8, 9, 10, 11, 12, 13, 14], [0, 1, 2, 3, 4, 5, 6, 7, 8, 9, 10, 11, 12, 13], [0, 1, 2, 3, 4, 5, 6, 7, 8, 9, 10, 11, 12, 13, 14, 15, 16], [0, 1, 2, 3, 4, 5, 6, 7, 8, 9, 10, 11, 12, 13, 14, 15, 16, 17], [0, 1, 2, 3, 4, 5, 6, 7, 8, 9, 10, 11, 12, 13, 14, 15, 16, 17, 18], [0, 1, 2, 3, 4, 5, 6, 7, 8, 9, 10, 11, 12, 13, 14, 15, 16, 17, 18, 19], [0, 1, 2, 3, 4, 5, 6, 7, 8, 9, 10, 11, 12, 13, 14, 15, 16, 17, 18, 19, 20], [0, 1, 2, 3, 4, 5, 6, 7, 8, 9, 10, 11, 12, 13, 14, 15, 16, 17, 18, 19, 20], [0, 1, 2, 3, 4, 5, 6, 7, 8, 9, 10, 11, 12, 13, 14, 15, 16, 17, 18, 19, 20], [0, 1, 2, 3, 4, 5, 6, 7, 8, 9, 10, 11, 12, 13, 14, 15, 16, 17, 18, 19, 20, 21, 22, 23], [0, 1, 2, 3, 4, 5, 6, 7, 8, 9, 10, 11, 12, 13, 14, 15, 16, 17, 18, 19, 20], [0, 1, 2, 3, 4, 5, 6, 7, 8, 9, 10, 11, 12, 13, 14, 15, 16, 17, 18, 19, 20], [0, 1, 2, 3, 4, 5, 6, 7, 8, 9, 10, 11, 12, 13, 14, 15, 16, 17, 18, 19, 20], [0, 1, 2, 3, 4, 5, 6, 7, 8, 9, 10, 11, 12, 13, 14, 15, 16, 17, 18, 19, 20, 21, 22, 23, 24, 25, 26, 27], [0, 1, 2, 3, 4, 5, 6, 7, 8, 9, 10, 11, 12, 13, 14, 15, 16, 17, 18, 19, 20, 21, 22, 23, 24, 25, 26, 27, 28], [0, 1, 2, 3, 4, 5, 6, 7, 8, 9, 10, 11, 12, 13, 14, 15, 16, 17, 18, 19, 20, 21, 22, 23, 24, 25, 26, 27, 28, 29], [0, 1, 2, 3, 4, 5, 6, 7, 8, 9, 10, 11, 12, 13, 14, 15, 16, 17, 18, 19, 20, 21, 22, 23, 24, 25, 26, 27, 28, 29, 30], [0, 1, 2, 3, 4, 5, 6, 7, 8, 9, 10, 11, 12, 13, 14, 15, 16, 17, 18, 19, 20, 21, 22, 23, 24, 25, 26, 27, 28, 29, 30, 31], [0, 1, 2, 3, 4, 5, 6, 7, 8, 9, 10, 11, 12, 13, 14, 15, 16, 17, 18, 19, 20, 21, 22, 23, 24, 25, 26, 27, 28, 29, 30, 31, 32], [0, 1, 2, 3, 4, 5, 6, 7, 8, 9, 10, 11, 12, 13, 14, 15, 16, 17, 18, 19, 20, 21, 22, 23, 24, 25, 26, 27, 28, 29, 30, 31], [0, 1, 2, 3, 4, 5, 6, 7, 8, 9, 10, 11, 12, 13, 14, 15, 16, 17, 18, 19, 20, 21, 22, 23, 24, 25, 26, 27, 28, 29, 30, 31, 32, 33, 34], [0, 1, 2, 3, 4, 5, 6, 7, 8, 9, 10, 11, 12, 13, 14, 15, 16, 17, 18, 19, 20, 21, 22, 23, 24, 25, 26, 27, 28, 29, 30, 31, 32, 33, 34, 35], [0, 1, 2, 3, 4, 5, 6, 7, 8, 9, 10, 11, 12, 13, 14, 15, 16, 17, 18, 19, 20, 21, 22, 23, 24, 25, 26, 27, 28, 29, 30, 31, 32, 33, 34, 35, 36], [0, 1, 2, 3, 4, 5, 6, 7, 8, 9, 10, 11, 12, 13, 14, 15, 16, 17, 18, 19, 20, 21, 22, 23, 24, 25, 26, 27, 28, 29, 30, 31, 32, 33, 34, 35, 36, 37], [0, 1, 2, 3, 4, 5, 6, 7, 8, 9, 10, 11, 12, 13, 14, 15, 16, 17, 18, 19, 20, 21, 22, 23, 24, 25, 26, 27, 28, 29, 30, 31, 32, 33, 34, 35, 36, 37, 38], [0, 1, 2, 3, 4, 5, 6, 7, 8, 9, 10, 11, 12, 13, 14, 15, 16, 17, 18, 19, 20, 21, 22, 23, 24, 25, 26, 27, 28, 29, 30, 31, 32, 33, 34, 35, 36, 37, 38, 39], [0, 1, 2, 3, 4, 5, 6, 7, 8, 9, 10, 11, 12, 13, 14, 15, 16, 17, 18, 19, 20, 21, 22, 23, 24, 25, 26, 27, 28, 29, 30, 31, 32, 33, 34, 35, 36, 37, 38, 39, 40]], [0, 1, 3, 4], [(2, []), (5, []), (6, [7, 8, 9]), (10, []), (11, [12, 13, 14, 16]), (15, []), (17, []), (18, [19, 20, 21, 22, 23, 25, 26, 27]), (24, []), (28, [29, 30, 31, 32, 34]), (33, []), (35, [36, 37, 38]), (39, [40, 41])]⟩ hS rfl rfl (by kernel_rfl) (by kernel_rfl) ?_
  refine d_start ?_
  refine l_op rfl rfl (a_mv e0) rfl ?_ rfl
  refine l_op rfl rfl (a_mv e3) rfl ?_ rfl
  refine l_op rfl rfl (a_mv e0) rfl ?_ rfl
  refine l_op rfl rfl (a_mv e3) rfl ?_ rfl
  refine l_nil ?_
  refine h_op ?_ rfl rfl rfl ?_
  · refine again_r rfl ?_
    refine again_r rfl ?_
    refine again_r rfl ?_
    refine again_r rfl ?_
    exact again_nil
  refine s_call (by simp only [Zu, Nat.reduceEqDiff, ↓reduceIte, newPtr, AMem.next_alloc] <;> rfl) (by simp only [Zu, Nat.reduceEqDiff, ↓reduceIte, Zm, newPtr, AMem.next_alloc] <;> rfl) ?_
  rw [S4_16]; refine ⟨lv, side, os, rfl, hosN, hb, ?_⟩; intro vA MA hnA hoA hwA; have hosA := hosN.keep hnA hoA; have hbxA := (hoA M.next (by omega)).trans hbxN; have hwN1 := hwN.row.keep hnA hoA
  show EA _ _ _ _ _ _
  refine s_end (fun s' hs' => ?_); subst hs'
  refine l_nil ?_
  refine h_op ?_ rfl rfl rfl ?_
  · refine again_r rfl ?_
    refine again_r rfl ?_
    exact again_nil
  refine s_call (by simp only [Zu, Nat.reduceEqDiff, ↓reduceIte, newPtr, AMem.next_alloc] <;> rfl) (by simp only [Zu, Nat.reduceEqDiff, ↓reduceIte, Zm, newPtr, AMem.next_alloc] <;> rfl) ?_
  rw [S4_17]; refine ⟨lv, side, os, rfl, hosA, hb, ?_⟩; intro vB MB hnB hoB hwB; have hosB := hosA.keep hnB hoB; have hbxB := (hoB M.next (by omega)).trans hbxA; have hwN2 := hwN1.keep hnB hoB
  show EA _ _ _ _ _ _
  refine s_end (fun s' hs' => ?_); subst hs'
  refine l_nil ?_
  refine h_op ?_ rfl rfl rfl ?_
  · exact again_nil
  refine s_call (by simp only [Zu, Nat.reduceEqDiff, ↓reduceIte, newPtr, AMem.next_alloc] <;> rfl) (by simp only [Zu, Nat.reduceEqDiff, ↓reduceIte, Zm, newPtr, AMem.next_alloc] <;> rfl) ?_
  rw [S4_15]; refine ⟨vA, vB, _, rfl, hwA.row.keep hnB hoB, hwB.row, by omega, ?_⟩
  show EA _ _ _ _ _ _
  refine s_end (fun s' hs' => ?_); subst hs'
  refine l_op rfl rfl (a_mv (by simp only [Zu, Nat.reduceEqDiff, ↓reduceIte] <;> rfl)) rfl ?_ rfl
  refine l_op rfl (w_true (by simp only [Zu, Nat.reduceEqDiff, ↓reduceIte] <;> rfl) (by first | rfl | assumption)) (a_mv e9) rfl ?_ rfl
  refine l_op rfl (w_true (by simp only [Zu, Nat.reduceEqDiff, ↓reduceIte] <;> rfl) (by first | rfl | assumption)) (a_mv e0) rfl ?_ rfl
  refine l_nil ?_
  refine h_op ?_ rfl rfl rfl ?_
  · refine again_r rfl ?_
    refine again_r rfl ?_
    refine again_r rfl ?_
    exact again_nil
  refine s_tk ?_
  refine s_call (by simp only [Zu, Nat.reduceEqDiff, ↓reduceIte, newPtr, AMem.next_alloc] <;> rfl) (by simp only [Zu, Nat.reduceEqDiff, ↓reduceIte, Zm, newPtr, AMem.next_alloc] <;> rfl) ?_
  rw [S4_19]; refine ⟨lv, os, rfl, hosB, hb, ?_⟩; intro vC MC hnC hoC hwC; have hosC := hosB.keep hnC hoC; have hbxC := (hoC M.next (by omega)).trans hbxB; have hwN3 := hwN2.keep hnC hoC
  show EA _ _ _ _ _ _
  refine s_end (fun s' hs' => ?_); subst hs'
  refine l_nil ?_
  refine h_op ?_ rfl rfl rfl ?_
  · refine again_r rfl ?_
    exact again_nil
  refine s_tk ?_
  refine s_call (by simp only [Zu, Nat.reduceEqDiff, ↓reduceIte, newPtr, AMem.next_alloc] <;> rfl) (by simp only [Zu, Nat.reduceEqDiff, ↓reduceIte, Zm, newPtr, AMem.next_alloc] <;> rfl) ?_
  rw [S4_18]; refine ⟨nv, vC, _, rfl, hwN3, hwC.row, by omega, ?_⟩
  show EA _ _ _ _ _ _
  refine s_end (fun s' hs' => ?_); subst hs'
  refine l_op rfl rfl (a_pick (by simp only [Zu, Nat.reduceEqDiff, ↓reduceIte, Zd, reduceCtorEq] <;> rfl) (by simp only [Zu, Nat.reduceEqDiff, ↓reduceIte, Zd, reduceCtorEq] <;> rfl)) rfl ?_ rfl
  refine l_op rfl rfl (a_mv (by simp only [Zu, Nat.reduceEqDiff, ↓reduceIte] <;> rfl)) rfl ?_ rfl
  refine l_op rfl (w_true (by simp only [Zu, Nat.reduceEqDiff, ↓reduceIte] <;> rfl) (by first | rfl | assumption)) (a_mv e9) rfl ?_ rfl
  refine l_op rfl (w_true (by simp only [Zu, Nat.reduceEqDiff, ↓reduceIte] <;> rfl) (by first | rfl | assumption)) (a_mv e9) rfl ?_ rfl
  refine l_nil ?_
  refine h_op ?_ rfl rfl rfl ?_
  · refine again_r rfl ?_
    refine again_r rfl ?_
    refine again_r rfl ?_
    refine again_r rfl ?_
    exact again_nil
  refine s_tk ?_
  refine s_call (by simp only [Zu, Nat.reduceEqDiff, ↓reduceIte, newPtr, AMem.next_alloc] <;> rfl) (by simp only [Zu, Nat.reduceEqDiff, ↓reduceIte, Zm, newPtr, AMem.next_alloc] <;> rfl) ?_
  rw [S4_21]; refine ⟨nv, _, rfl, hwN3, hsid, hb3, ?_⟩; intro vD MD hnD hoD hwD; have hosD := hosC.keep hnD hoD; have hbxD := (hoD M.next (by omega)).trans hbxC; have hwN4 := hwN3.keep hnD hoD
  show EA _ _ _ _ _ _
  refine s_end (fun s' hs' => ?_); subst hs'
  refine l_nil ?_
  refine h_op ?_ rfl rfl rfl ?_
  · refine again_r rfl ?_
    exact again_nil
  refine s_tk ?_
  refine s_call (by simp only [Zu, Nat.reduceEqDiff, ↓reduceIte, newPtr, AMem.next_alloc] <;> rfl) (by simp only [Zu, Nat.reduceEqDiff, ↓reduceIte, Zm, newPtr, AMem.next_alloc] <;> rfl) ?_
  rw [S4_22]; refine ⟨nv, _, rfl, hwN4, hsid, hb3, ?_⟩; intro vE ME hnE hoE hwE; have hosE := hosD.keep hnE hoE; have hbxE := (hoE M.next (by omega)).trans hbxD
  show EA _ _ _ _ _ _
  refine s_end (fun s' hs' => ?_); subst hs'
  refine l_nil ?_
  refine h_op ?_ rfl rfl rfl ?_
  · exact again_nil
  refine s_tk ?_
  refine s_call (by simp only [Zu, Nat.reduceEqDiff, ↓reduceIte, newPtr, AMem.next_alloc] <;> rfl) (by simp only [Zu, Nat.reduceEqDiff, ↓reduceIte, Zm, newPtr, AMem.next_alloc] <;> rfl) ?_
  rw [S4_20]; refine ⟨vD, vE, _, rfl, hwD.row.keep hnE hoE, hwE.row, by omega, ?_⟩
  show EA _ _ _ _ _ _
  refine s_end (fun s' hs' => ?_); subst hs'
  refine l_op rfl rfl (a_pick (by simp only [Zu, Nat.reduceEqDiff, ↓reduceIte, Zd, reduceCtorEq] <;> rfl) (by simp only [Zu, Nat.reduceEqDiff, ↓reduceIte, Zd, reduceCtorEq] <;> rfl)) rfl ?_ rfl
  refine l_op rfl rfl (a_mv (by simp only [Zu, Nat.reduceEqDiff, ↓reduceIte] <;> rfl)) rfl ?_ rfl
  refine l_op rfl (w_true (by simp only [Zu, Nat.reduceEqDiff, ↓reduceIte] <;> rfl) (by first | rfl | assumption)) (a_mv e0) rfl ?_ rfl
  refine l_op rfl (w_true (by simp only [Zu, Nat.reduceEqDiff, ↓reduceIte] <;> rfl) (by first | rfl | assumption)) (a_load (by simp only [Zu, Nat.reduceEqDiff, ↓reduceIte, e5] <;> rfl) hbxE (ld39 t)) rfl ?_ rfl
  refine l_op rfl (w_true (by simp only [Zu, Nat.reduceEqDiff, ↓reduceIte] <;> rfl) (by first | rfl | assumption)) (a_mv e2) rfl ?_ rfl
  refine l_op rfl (w_true (by simp only [Zu, Nat.reduceEqDiff, ↓reduceIte] <;> rfl) (by first | rfl | assumption)) (a_mv e0) rfl ?_ rfl
  refine l_op rfl (w_true (by simp only [Zu, Nat.reduceEqDiff, ↓reduceIte] <;> rfl) (by first | rfl | assumption)) (a_load (by simp only [Zu, Nat.reduceEqDiff, ↓reduceIte, e5] <;> rfl) hbxE (ld39 t)) rfl ?_ rfl
  refine l_op rfl (w_true (by simp only [Zu, Nat.reduceEqDiff, ↓reduceIte] <;> rfl) (by first | rfl | assumption)) (a_mv e2) rfl ?_ rfl
  refine l_nil ?_
  refine h_op ?_ rfl rfl rfl ?_
  · refine again_r rfl ?_
    refine again_l rfl rfl (a_load (by simp only [Zu, Nat.reduceEqDiff, ↓reduceIte, e5] <;> rfl) hbxE (ld39 t)) ?_
    refine again_r rfl ?_
    refine again_r rfl ?_
    refine again_l rfl rfl (a_load (by simp only [Zu, Nat.reduceEqDiff, ↓reduceIte, e5] <;> rfl) hbxE (ld39 t)) ?_
    refine again_r rfl ?_
    refine again_r rfl ?_
    refine again_r rfl ?_
    exact again_nil
  refine s_tk ?_
  refine s_call (by simp only [Zu, Nat.reduceEqDiff, ↓reduceIte, newPtr, AMem.next_alloc] <;> rfl) (by simp only [Zu, Nat.reduceEqDiff, ↓reduceIte, Zm, newPtr, AMem.next_alloc] <;> rfl) ?_
  rw [S4_11]; refine ⟨lv, t, start, os, rfl, hosE, hb, hdn, hstart, ?_⟩
  show EA _ _ _ _ _ _
  refine s_end (fun s' hs' => ?_); subst hs'
  refine l_nil ?_
  refine h_op ?_ rfl rfl rfl ?_
  · refine again_r rfl ?_
    refine again_l rfl rfl (a_load (by simp only [Zu, Nat.reduceEqDiff, ↓reduceIte, e5] <;> rfl) hbxE (ld39 t)) ?_
    refine again_r rfl ?_
    exact again_nil
  refine s_tk ?_
  refine s_call (by simp only [Zu, Nat.reduceEqDiff, ↓reduceIte, newPtr, AMem.next_alloc] <;> rfl) (by simp only [Zu, Nat.reduceEqDiff, ↓reduceIte, Zm, newPtr, AMem.next_alloc] <;> rfl) ?_
  rw [S4_23]; refine ⟨lv, t, start, os, rfl, hosE, hb, hdn, hstart, ?_⟩
  show EA _ _ _ _ _ _
  refine s_end (fun s' hs' => ?_); subst hs'
  refine l_op rfl (w_true (by simp only [Zu, Nat.reduceEqDiff, ↓reduceIte, Zd, reduceCtorEq] <;> rfl) (by first | rfl | assumption)) (a_bin (by simp (disch := omega) only [Zu, Nat.reduceEqDiff, ↓reduceIte, Zd, reduceCtorEq, abin_eql, abin_aeql, ne_eq, not_false_eq_true] <;> rfl)) rfl ?_ rfl
  refine l_op rfl rfl (a_pick (by simp only [Zu, Nat.reduceEqDiff, ↓reduceIte, Zd, reduceCtorEq] <;> rfl) (by simp only [Zu, Nat.reduceEqDiff, ↓reduceIte, Zd, reduceCtorEq] <;> rfl)) rfl ?_ rfl
  refine l_op rfl rfl (a_mv (by simp only [Zu, Nat.reduceEqDiff, ↓reduceIte] <;> rfl)) rfl ?_ rfl
  refine l_op rfl (w_true (by simp only [Zu, Nat.reduceEqDiff, ↓reduceIte] <;> rfl) (by first | rfl | assumption)) (a_mv e0) rfl ?_ rfl
  refine l_op rfl (w_true (by simp only [Zu, Nat.reduceEqDiff, ↓reduceIte] <;> rfl) (by first | rfl | assumption)) (a_mv e0) rfl ?_ rfl
  refine l_nil ?_
  refine h_op ?_ rfl rfl rfl ?_
  · refine again_r rfl ?_
    refine again_r rfl ?_
    refine again_r rfl ?_
    refine again_r rfl ?_
    refine again_r rfl ?_
    exact again_nil
  refine s_tk ?_
  refine s_call (by simp only [Zu, Nat.reduceEqDiff, ↓reduceIte, newPtr, AMem.next_alloc] <;> rfl) (by simp only [Zu, Nat.reduceEqDiff, ↓reduceIte, Zm, newPtr, AMem.next_alloc] <;> rfl) ?_
  rw [S4_24]; refine ⟨lv, os, rfl, hosE, hb, hdat, ?_⟩
  show EA _ _ _ _ _ _
  refine s_end (fun s' hs' => ?_); subst hs'
  refine l_nil ?_
  refine h_op ?_ rfl rfl rfl ?_
  · refine again_r rfl ?_
    exact again_nil
  refine s_tk ?_
  refine s_call (by simp only [Zu, Nat.reduceEqDiff, ↓reduceIte, newPtr, AMem.next_alloc] <;> rfl) (by simp only [Zu, Nat.reduceEqDiff, ↓reduceIte, Zm, newPtr, AMem.next_alloc] <;> rfl) ?_
  rw [S4_25]; refine ⟨lv, os, rfl, hosE, hb, hdat, ?_⟩
  show EA _ _ _ _ _ _
  refine s_end (fun s' hs' => ?_); subst hs'
  refine l_op rfl (w_true (by simp only [Zu, Nat.reduceEqDiff, ↓reduceIte, Zd, reduceCtorEq] <;> rfl) (by first | rfl | assumption)) (a_bin (by simp (disch := omega) only [Zu, Nat.reduceEqDiff, ↓reduceIte, Zd, reduceCtorEq, abin_eql, abin_aeql, ne_eq, not_false_eq_true] <;> rfl)) rfl ?_ rfl
  refine l_op rfl rfl (a_pick (by simp only [Zu, Nat.reduceEqDiff, ↓reduceIte, Zd, reduceCtorEq] <;> rfl) (by simp only [Zu, Nat.reduceEqDiff, ↓reduceIte, Zd, reduceCtorEq] <;> rfl)) rfl ?_ rfl
  refine l_op rfl rfl (a_mv (by simp only [Zu, Nat.reduceEqDiff, ↓reduceIte] <;> rfl)) rfl ?_ rfl
  refine l_nil ?_
  refine h_op ?_ rfl rfl rfl ?_
  · refine again_r rfl ?_
    refine again_r rfl ?_
    refine again_r rfl ?_
    exact again_nil
  refine s_tk ?_
  refine s_call (by simp only [Zu, Nat.reduceEqDiff, ↓reduceIte, newPtr, AMem.next_alloc] <;> rfl) (by simp only [Zu, Nat.reduceEqDiff, ↓reduceIte, Zm, newPtr, AMem.next_alloc] <;> rfl) ?_
  rw [S4_6]; refine ⟨rfl, ?_⟩
  show EA _ _ _ _ _ _
  refine s_end (fun s' hs' => ?_); subst hs'
  refine l_op rfl rfl (a_pick (by simp only [Zu, Nat.reduceEqDiff, ↓reduceIte, Zd, reduceCtorEq] <;> rfl) (by simp only [Zu, Nat.reduceEqDiff, ↓reduceIte, Zd, reduceCtorEq] <;> rfl)) rfl ?_ rfl
  refine l_op rfl rfl (a_as (by simp only [Zu, Nat.reduceEqDiff, ↓reduceIte] <;> rfl)) rfl ?_ rfl
  refine l_nil ?_
  refine h_end ?_ (fun s' hs' => ?_)
  · refine again_r rfl ?_
    refine again_r rfl ?_
    exact again_nil
  have e8 := congrFun hs' 8
  simp only [Zu, Nat.reduceEqDiff, ↓reduceIte, newPtr, AMem.next_alloc] at e8
  clear hs'
  try clear e0 e2 e3 e5 e9
  refine o_norm ?_
  have hnxE : M.next ≤ ME.next := by omega
  have holdE : ∀ j, j < M.next → ME.get j = M.get j := fun j hj => by rw [hoE j (by omega), hoD j (by omega), hoC j (by omega), hoB j (by omega), hoA j (by omega)]; exact holdN j hj
  refine t_norm ?_
  refine at_ret rfl ?_
  refine bq_ret rfl (ars_cons (ar_tmp e8) ars_nil) ?_
  exact ⟨_, _, hK, Canon.forget rfl holdE⟩
end Go.Proofs.Ytdkdkpiemigfkaa
set_option linter.unusedVariables false
set_option linter.unusedSimpArgs false
set_option maxRecDepth 8000
namespace Go.Proofs.Ytdkdkpiemigfkaa
open Go Go.Proofs
def HasCells (w : World) : Prop := ∃ (b : Nat) (C : Array Value) (el : TypeId) (lo hi : Nat), w.heap[b]? = some (Obj.cells C el (lo, hi))
structure Vw (ρ : Rho) (M : AMem) (w : World) : Prop where
  sim : Sim (fun b => w.heap.size ≤ b) ρ M w
  ro : ∀ i, (M.get i).own = false
structure VwLe (ρ : Rho) (M : AMem) (ρ' : Rho) (M' : AMem) : Prop where
  up : ∀ i pl, ρ i = some pl → ρ' i = some pl
  next : M.next ≤ M'.next
  get : ∀ i, i < M.next → M'.get i = M.get i
theorem VwLe.refl (ρ : Rho) (M : AMem) : VwLe ρ M ρ M := ⟨fun _ _ h => h, Nat.le_refl _, fun _ _ => rfl⟩
theorem VwLe.trans {ρ ρ' ρ2 : Rho} {M M' M2 : AMem} (h : VwLe ρ M ρ' M') (k : VwLe ρ' M' ρ2 M2) : VwLe ρ M ρ2 M2 :=
  ⟨fun i pl hi => k.up i pl (h.up i pl hi), Nat.le_trans h.next k.next, fun i hi => (k.get i (Nat.lt_of_lt_of_le hi h.next)).trans (h.get i hi)⟩
def mem0 : AMem := ⟨0, fun _ => .dead⟩
theorem Vw.start (w : World) : Vw (fun _ => none) mem0 w := ⟨⟨fun _ h => h, fun i pl h => (by cases h), fun i pl h => (by cases h), fun i j pi pj h => (by cases h)⟩, fun _ => rfl⟩
theorem Vw.add {ρ : Rho} {M : AMem} {w : World} (h : Vw ρ M w) {b base ext : Nat} {C : Array Value} {e : TypeId} {lo hi' : Nat} {cs : List Value} (hb : w.heap[b]? = some (.cells C e (lo, hi'))) (h1 : cs.length ≤ ext) (h2 : base + ext ≤ C.size)
    (h3 : ∀ (i : Nat) (v : Value), cs[i]? = some v → ∃ c, C[base + i]? = some c ∧ VR ρ v c) :
    Vw (ρ.put M.next ⟨b, base, ext⟩) (M.alloc (.cells cs false)) w ∧ VwLe ρ M (ρ.put M.next ⟨b, base, ext⟩) (M.alloc (.cells cs false)) := by
  have hnone : ρ M.next = none := by
    cases hn : ρ M.next with
    | none => rfl
    | some pl => exact absurd (h.sim.dom _ _ hn) (Nat.lt_irrefl _)
  have hup := Rho.put_up (pl := ⟨b, base, ext⟩) hnone
  have hro : ∀ i, ((M.alloc (.cells cs false)).get i).own = false := by
    intro i
    rw [AMem.get_alloc]
    split
    · rfl
    · exact h.ro i
  refine ⟨⟨⟨h.sim.top, fun i pl hi => ?_, fun i pl hi => ?_, fun i j pi pj _ _ _ ho => ?_⟩, hro⟩, ⟨hup, by simp, fun i hi => get_old (by omega)⟩⟩
  · simp only [Rho.put] at hi
    split at hi
    · subst_vars; simp
    · have := h.sim.dom i pl hi; simp; omega
  · simp only [Rho.put] at hi
    split at hi
    · subst_vars
      cases hi
      rw [AMem.get_alloc, if_pos rfl]
      exact ⟨C, e, lo, hi', hb, h1, h2, fun i v hv => let ⟨c, hc, hr⟩ := h3 i v hv; ⟨c, hc, hr.mono hup⟩, fun ho => by cases ho⟩
    · rename_i hne
      rw [AMem.get_alloc, if_neg hne]
      exact (h.sim.obj i pl hi).carry (fun _ => rfl) hup
  · rw [hro i] at ho; cases ho
theorem cell_form {w : World} {a : Addr} {c : Value} (h : w.cell? a = some c) : ∃ C e lo hi, w.heap[a.block]? = some (.cells C e (lo, hi)) ∧ a.spot = none ∧ C[a.off]? = some c := by
  unfold World.cell? at h
  split at h
  · rename_i C e fr hh
    split at h
    · cases h
    · rename_i hs
      exact ⟨C, e, fr.1, fr.2, hh, by cases hq : a.spot with | none => rfl | some _ => rw [hq] at hs; simp at hs, h⟩
  · cases h
theorem view_slice {ρ : Rho} {M : AMem} {w : World} (h : Vw ρ M w) {a : Addr} {len cap e : Nat} {cs : List Value} (hz : HasCells w) (hl : len ≤ cap) (hlen : cs.length = len * e) (he : 0 < e)
    (hall : ∀ i, i < cap * e → ∃ c, w.cell? (a.add i) = some c) (hcs : ∀ (i : Nat) (v : Value), cs[i]? = some v → ∃ c, w.cell? (a.add i) = some c ∧ VR ρ v c) :
    ∃ ρ' M', Vw ρ' M' w ∧ VwLe ρ M ρ' M' ∧ VR ρ' (.slice (some ⟨M.next, 0, none⟩) len e) (.slice (some a) len cap) ∧ Row M' e (.slice (some ⟨M.next, 0, none⟩) len e) len cs := by
  have hrow : Row (M.alloc (.cells cs false)) e (.slice (some ⟨M.next, 0, none⟩) len e) len cs := ⟨hlen, .inr ⟨M.next, 0, cs, false, rfl, by simp, get_new, by omega, by rw [List.drop_zero, List.take_of_length_le (by omega)]⟩⟩
  by_cases hc : cap = 0
  · subst hc
    have hl0 : len = 0 := by omega
    subst hl0
    have hcs0 : cs = [] := List.eq_nil_of_length_eq_zero (by rw [hlen]; simp)
    subst hcs0
    obtain ⟨b, C, el, lo, hi, hb⟩ := hz
    obtain ⟨k1, k2⟩ := h.add (base := 0) (ext := 0) (cs := []) hb (by simp) (by simp) (fun i v hv => by simp at hv)
    exact ⟨_, _, k1, k2, .sliceE (pl := ⟨b, 0, 0⟩) (by simp [Rho.put]), hrow⟩
  · have hpos : 0 < cap * e := Nat.mul_pos (by omega) he
    obtain ⟨c0, hc0⟩ := hall 0 hpos
    have ha0 : a.add 0 = a := rfl
    rw [ha0] at hc0
    obtain ⟨C, el, lo, hi, hb, hs, _⟩ := cell_form hc0
    obtain ⟨bk, off, sp⟩ := a
    simp only at hb hs
    subst hs
    have hcell : ∀ i c, w.cell? ((⟨bk, off, none⟩ : Addr).add i) = some c → C[off + i]? = some c := by
      intro i c hic
      rw [Addr.add_off] at hic
      simp only [World.cell?, hb] at hic
      simpa using hic
    obtain ⟨cl, hcl⟩ := hall (cap * e - 1) (by omega)
    have hlt := (Array.getElem?_eq_some_iff.1 (hcell _ _ hcl)).1
    have hle : len * e ≤ cap * e := Nat.mul_le_mul_right _ hl
    obtain ⟨k1, k2⟩ := h.add (base := off) (ext := cap * e) (cs := cs) hb (by omega) (by omega) (fun i v hv => by
      obtain ⟨c, h1, h2⟩ := hcs i v hv
      exact ⟨c, hcell i c h1, h2⟩)
    refine ⟨_, _, k1, k2, ?_, hrow⟩
    have := VR.slice (ρ := ρ.put M.next ⟨bk, off, cap * e⟩) (id := M.next) (off := 0) (len := len) (e := e) (cap := cap) (pl := ⟨bk, off, cap * e⟩) (by simp [Rho.put]) hl (by simp)
    simpa using this
theorem rows_cells {n e : Nat} {g : Nat → List Value} (he : 0 < e) (hg : ∀ i, i < n → (g i).length = e) (i : Nat) (v : Value) (h : (((List.range n).map g).flatten)[i]? = some v) : ∃ j q, j < n ∧ q < e ∧ i = j * e + q ∧ (g j)[q]? = some v := by
  have hlen : ∀ c ∈ (List.range n).map g, c.length = e := by
    intro c hc
    rw [List.mem_map] at hc
    obtain ⟨j, hj, rfl⟩ := hc
    exact hg j (List.mem_range.1 hj)
  have hfl := flatten_len _ hlen
  rw [List.length_map, List.length_range] at hfl
  have hi : i < n * e := by rw [← hfl]; exact (List.getElem?_eq_some_iff.1 h).1
  have hj : i / e < n := Nat.div_lt_of_lt_mul (by rw [Nat.mul_comm]; exact hi)
  have hq : i % e < e := Nat.mod_lt _ he
  have hdm : i = i / e * e + i % e := by rw [Nat.mul_comm]; exact (Nat.div_add_mod i e).symm
  refine ⟨i / e, i % e, hj, hq, hdm, ?_⟩
  obtain ⟨rest, hr⟩ := flatten_part (css := (List.range n).map g) (j := i / e) hlen (c := g (i / e)) (by simp [hj])
  have : (((List.range n).map g).flatten.drop (i / e * e))[i % e]? = some v := by rw [List.getElem?_drop, ← hdm]; exact h
  rw [hr, List.getElem?_append_left (by rw [hg _ hj]; exact hq)] at this
  exact this
theorem view_rows {ρ : Rho} {M : AMem} {w : World} (h : Vw ρ M w) {a : Addr} {len cap e : Nat} {g k : Nat → List Value} (hz : HasCells w) (hl : len ≤ cap) (he : 0 < e)
    (hk : ∀ i, i < cap → w.cells? 0 (a.add (i * e)) e = some (k i)) (hg : ∀ i, i < len → (g i).length = e ∧ ∀ (q : Nat) (v : Value), (g i)[q]? = some v → ∃ c, (k i)[q]? = some c ∧ VR ρ v c) :
    ∃ ρ' M', Vw ρ' M' w ∧ VwLe ρ M ρ' M' ∧ VR ρ' (.slice (some ⟨M.next, 0, none⟩) len e) (.slice (some a) len cap) ∧ Row M' e (.slice (some ⟨M.next, 0, none⟩) len e) len ((List.range len).map g).flatten := by
  have hcell : ∀ j q, j < cap → q < e → w.cell? (a.add (j * e + q)) = (k j)[q]? := by
    intro j q hj hq
    have := (World.cells?_some (hk j hj)).2.2 q hq
    rw [Deep.add_add] at this
    exact this
  refine view_slice h hz hl ?_ he ?_ ?_
  · have := flatten_len (e := e) ((List.range len).map g) (fun c hc => by
      rw [List.mem_map] at hc
      obtain ⟨j, hj, rfl⟩ := hc
      exact (hg j (List.mem_range.1 hj)).1)
    rw [List.length_map, List.length_range] at this
    exact this
  · intro i hi
    have hj : i / e < cap := Nat.div_lt_of_lt_mul (by rw [Nat.mul_comm]; exact hi)
    have hq : i % e < e := Nat.mod_lt _ he
    have hdm : i / e * e + i % e = i := by rw [Nat.mul_comm]; exact Nat.div_add_mod i e
    have h1 := hcell _ _ hj hq
    rw [hdm] at h1
    have h2 := (World.cells?_some (hk _ hj)).2.1
    rw [h1]
    exact ⟨_, List.getElem?_eq_getElem (by rw [h2]; exact hq)⟩
  · intro i v hv
    obtain ⟨j, q, hj, hq, hi, hv2⟩ := rows_cells he (fun i hi => (hg i hi).1) i v hv
    subst hi
    obtain ⟨c, h1, h2⟩ := (hg j hj).2 q v hv2
    exact ⟨c, by rw [hcell j q (by omega) hq]; exact h1, h2⟩
theorem wf_i64 {x : Int} (h : (Lit.int .i64 x).wf = true) : inI64 x := by
  simp only [Lit.wf, Bool.and_eq_true, decide_eq_true_eq] at h
  have h1 : IntKind.i64.min = -9223372036854775808 := by decide
  have h2 : IntKind.i64.max = 9223372036854775807 := by decide
  rw [h1, h2] at h
  exact h
theorem wf_u32 {x : Int} (h : (Lit.int .u32 x).wf = true) : u32 x := by
  simp only [Lit.wf, Bool.and_eq_true, decide_eq_true_eq] at h
  have h1 : IntKind.u32.min = 0 := by decide
  have h2 : IntKind.u32.max = 4294967295 := by decide
  rw [h1, h2] at h
  exact ⟨h.1, by omega⟩
instance : Inhabited Fr := ⟨⟨0, []⟩⟩
instance : Inhabited Nt := ⟨⟨0, 0, 0, 0⟩⟩
theorem asString_str (s : ByteArray) : asString s.data.toList = .string s := by cases s; simp [asString]
theorem c3 : Try.prog.cellsOf 3 = 1 := by kernel_rfl
theorem c9 : Try.prog.cellsOf 9 = 1 := by kernel_rfl
theorem c23 : Try.prog.cellsOf 23 = 1 := by kernel_rfl
theorem c27 : Try.prog.cellsOf 27 = 1 := by kernel_rfl
theorem c28 : Try.prog.cellsOf 28 = 1 := by kernel_rfl
theorem c29 : Try.prog.cellsOf 29 = 1 := by kernel_rfl
theorem c31 : Try.prog.cellsOf 31 = 4 := by kernel_rfl
theorem c34 : Try.prog.cellsOf 34 = 2 := by kernel_rfl
theorem c53 : Try.prog.cellsOf 53 = 4 := by kernel_rfl
section
variable {H : Type} {enc : TypeId × Value → H} {w : World}
theorem rd_frame {n : Nat} {cs : List Value} {y : DataW H × List MemPlace} (h : DataW.trod enc Try.prog w 0 (fun _ => true) true n 34 cs = some y) : ∃ f : Fr, cs = f.cells := by
  obtain ⟨y0, y1, k, _, hl, h0, h1⟩ := ChangeShapes.trod_struct2 Try.underlying34 h
  rw [c34] at hl
  match cs, hl with
  | [c0, c1], _ =>
    simp [c3, c9] at h0 h1
    obtain ⟨x, e0, _, _⟩ := DataW.trod_int Try.underlying3 h0
    obtain ⟨s, e1, _, _⟩ := DataW.trod_string Try.underlying9 h1
    simp at e0 e1
    subst e0 e1
    exact ⟨⟨x, s.data.toList⟩, by simp only [Fr.cells, asString_str]⟩
theorem rd_note {n : Nat} {cs : List Value} {y : DataW H × List MemPlace} (h : DataW.trod enc Try.prog w 0 (fun _ => true) true n 53 cs = some y) : ∃ f : Nt, cs = f.cells ∧ inI64 f.sid := by
  obtain ⟨y0, y1, y2, y3, k, _, hl, h0, h1, h2, h3⟩ := Joins.trod_struct4 Try.underlying53 h
  rw [c53] at hl
  match cs, hl with
  | [d0, d1, d2, d3], _ =>
    simp [c3] at h0 h1 h2 h3
    obtain ⟨x0, e0, _, w0⟩ := DataW.trod_int Try.underlying3 h0
    obtain ⟨x1, e1, _, _⟩ := DataW.trod_int Try.underlying3 h1
    obtain ⟨x2, e2, _, _⟩ := DataW.trod_int Try.underlying3 h2
    obtain ⟨x3, e3, _, _⟩ := DataW.trod_int Try.underlying3 h3
    simp at e0 e1 e2 e3
    subst e0 e1 e2 e3
    refine ⟨⟨x0, x1, x2, x3⟩, rfl, ?_⟩
    exact wf_i64 w0
theorem fr_scalar {ρ : Rho} {f : Fr} {q : Nat} {v : Value} (hv : f.cells[q]? = some v) : VR ρ v v := by
  have := List.mem_of_getElem? hv
  simp only [Fr.cells, List.mem_cons, List.not_mem_nil, or_false] at this
  rcases this with rfl | rfl <;> exact .scalar rfl
theorem nt_scalar {ρ : Rho} {f : Nt} {q : Nat} {v : Value} (hv : f.cells[q]? = some v) : VR ρ v v := by
  have := List.mem_of_getElem? hv
  simp only [Nt.cells, List.mem_cons, List.not_mem_nil, or_false] at this
  rcases this with rfl | rfl | rfl | rfl <;> exact .scalar rfl
theorem view_frames {ρ : Rho} {M : AMem} (h : Vw ρ M w) (hz : HasCells w) {fuel : Nat} {v : Value} {x : DataW H × List MemPlace} (ht : DataW.trod enc Try.prog w 0 (fun _ => true) true fuel 27 [v] = some x) :
    ∃ ρ' M' av fs, Vw ρ' M' w ∧ VwLe ρ M ρ' M' ∧ VR ρ' av v ∧ FrsR M' av fs := by
  rcases Deep.open_slice Try.underlying27 ht with ⟨hcs, _⟩ | ⟨a, len, cap, m, n, D, Pl, hcs, _, hl, _, hm, _, hx⟩
  · simp at hcs
    subst hcs
    exact ⟨ρ, M, .slice none 0 0, [], h, VwLe.refl _ _, .scalar rfl, ⟨rfl, .inl ⟨rfl, rfl⟩⟩⟩
  · simp at hcs
    subst hcs
    simp only [if_true] at hm
    subst hm
    rw [c34] at hx
    obtain ⟨f, hf⟩ := Deep.choose_lt (α := Fr) (n := m) (p := fun i f => w.cells? 0 (a.add (i * 2)) 2 = some f.cells) (fun i hi => by
      obtain ⟨cs', h1, h2⟩ := hx i hi
      obtain ⟨f, rfl⟩ := rd_frame h2
      exact ⟨f, h1⟩)
    obtain ⟨ρ', M', k1, k2, k3, k4⟩ := view_rows (e := 2) (g := fun i => (f i).cells) (k := fun i => (f i).cells) h hz hl (by decide) hf (fun i hi => ⟨rfl, fun q v hv => ⟨v, hv, fr_scalar hv⟩⟩)
    refine ⟨ρ', M', _, (List.range len).map f, k1, k2, k3, ?_⟩
    unfold FrsR frsC
    rw [List.length_map, List.length_range, List.map_map]
    exact k4
theorem view_notes {ρ : Rho} {M : AMem} (h : Vw ρ M w) (hz : HasCells w) {fuel : Nat} {v : Value} {x : DataW H × List MemPlace} (ht : DataW.trod enc Try.prog w 0 (fun _ => true) true fuel 28 [v] = some x) :
    ∃ ρ' M' av ns, Vw ρ' M' w ∧ VwLe ρ M ρ' M' ∧ VR ρ' av v ∧ NtsR M' av ns ∧ ∀ n ∈ ns, inI64 n.sid := by
  rcases Deep.open_slice Try.underlying28 ht with ⟨hcs, _⟩ | ⟨a, len, cap, m, n, D, Pl, hcs, _, hl, _, hm, _, hx⟩
  · simp at hcs
    subst hcs
    exact ⟨ρ, M, .slice none 0 0, [], h, VwLe.refl _ _, .scalar rfl, ⟨rfl, .inl ⟨rfl, rfl⟩⟩, fun n hn => by simp at hn⟩
  · simp at hcs
    subst hcs
    simp only [if_true] at hm
    subst hm
    rw [c53] at hx
    obtain ⟨f, hf⟩ := Deep.choose_lt (α := Nt) (n := m) (p := fun i f => w.cells? 0 (a.add (i * 4)) 4 = some f.cells ∧ inI64 f.sid) (fun i hi => by
      obtain ⟨cs', h1, h2⟩ := hx i hi
      obtain ⟨f, rfl, hs⟩ := rd_note h2
      exact ⟨f, h1, hs⟩)
    obtain ⟨ρ', M', k1, k2, k3, k4⟩ := view_rows (e := 4) (g := fun i => (f i).cells) (k := fun i => (f i).cells) h hz hl (by decide) (fun i hi => (hf i hi).1) (fun i hi => ⟨rfl, fun q v hv => ⟨v, hv, nt_scalar hv⟩⟩)
    · refine ⟨ρ', M', _, (List.range len).map f, k1, k2, k3, ?_, ?_⟩
      · unfold NtsR ntsC
        rw [List.length_map, List.length_range, List.map_map]
        exact k4
      · intro n hn
        rw [List.mem_map] at hn
        obtain ⟨i, hi, rfl⟩ := hn
        exact (hf i (by have := List.mem_range.1 hi; omega)).2
theorem rd_out {n : Nat} {cs : List Value} {y : DataW H × List MemPlace} (h : DataW.trod enc Try.prog w 0 (fun _ => true) true n 31 cs = some y) : ∃ fv nv e l n' yf yn, cs = [fv, nv, .int .i64 e, .int .i64 l] ∧ DataW.trod enc Try.prog w 0 (fun _ => true) true n' 27 [fv] = some yf ∧ DataW.trod enc Try.prog w 0 (fun _ => true) true n' 28 [nv] = some yn := by
  obtain ⟨y0, y1, y2, y3, k, _, hl, h0, h1, h2, h3⟩ := Joins.trod_struct4 Try.underlying31 h
  rw [c31] at hl
  match cs, hl with
  | [d0, d1, d2, d3], _ =>
    simp [c27, c28, c29, c3] at h0 h1 h2 h3
    obtain ⟨x2, e2, _, _⟩ := DataW.trod_int Try.underlying29 h2
    obtain ⟨x3, e3, _, _⟩ := DataW.trod_int Try.underlying3 h3
    simp at e2 e3
    subst e2 e3
    exact ⟨d0, d1, x2, x3, k, _, _, rfl, h0, h1⟩
theorem view_outs_aux {ρ : Rho} {M : AMem} (h : Vw ρ M w) (hz : HasCells w) {len n : Nat} {k : Nat → List Value} {D : Nat → DataW H × List MemPlace} (hk : ∀ i, i < len → DataW.trod enc Try.prog w 0 (fun _ => true) true n 31 (k i) = some (D i)) :
    ∀ m, m ≤ len → ∃ (ρ' : Rho) (M' : AMem) (css : List (List Value)) (os : List Ou), Vw ρ' M' w ∧ VwLe ρ M ρ' M' ∧ css.length = m ∧ os.length = m ∧ (∀ n ∈ os.flatMap Ou.notes, inI64 n.sid) ∧
      ∀ (i : Nat) (c : List Value) (o : Ou), css[i]? = some c → os[i]? = some o → OuR M' c o ∧ c.length = 4 ∧ ∀ (q : Nat) (v : Value), c[q]? = some v → ∃ cc, (k i)[q]? = some cc ∧ VR ρ' v cc := by
  intro m
  induction m with
  | zero => intro _; exact ⟨ρ, M, [], [], h, VwLe.refl _ _, rfl, rfl, by simp, fun i c o hc => by simp at hc⟩
  | succ m ih =>
    intro hm
    obtain ⟨ρ1, M1, css, os, v1, l1, hc, ho, hs, hall⟩ := ih (by omega)
    obtain ⟨fv, nv, er, li, n', yf, yn, hkm, hf, hn⟩ := rd_out (hk m (by omega))
    obtain ⟨ρ2, M2, af, fs, v2, l2, r2, f2⟩ := view_frames v1 hz hf
    obtain ⟨ρ3, M3, an, ns, v3, l3, r3, n3, s3⟩ := view_notes v2 hz hn
    refine ⟨ρ3, M3, css ++ [[af, an, .int .i64 er, .int .i64 li]], os ++ [⟨fs, ns, er, li⟩], v3, l1.trans (l2.trans l3), by simp [hc], by simp [ho], ?_, ?_⟩
    · intro x hx
      rw [List.flatMap_append, List.mem_append] at hx
      rcases hx with hx | hx
      · exact hs x hx
      · simp at hx; exact s3 x hx
    · intro i c o hci hoi
      have l23 := l2.trans l3
      by_cases him : i < m
      · rw [List.getElem?_append_left (by omega)] at hci hoi
        obtain ⟨k1, k2, k3⟩ := hall i c o hci hoi
        exact ⟨k1.keep l23.next l23.get, k2, fun q v hv => let ⟨cc, a1, a2⟩ := k3 q v hv; ⟨cc, a1, a2.mono l23.up⟩⟩
      · have hie : i = m := by
          have := (List.getElem?_eq_some_iff.1 hci).1
          simp at this; omega
        subst hie
        rw [List.getElem?_append_right (by omega), hc, Nat.sub_self] at hci
        rw [List.getElem?_append_right (by omega), ho, Nat.sub_self] at hoi
        simp at hci hoi
        subst hci hoi
        refine ⟨⟨af, an, rfl, f2.keep l3.next l3.get, n3⟩, rfl, fun q v hv => ?_⟩
        rw [hkm]
        match q, hv with
        | 0, hv => simp at hv; subst hv; exact ⟨fv, rfl, r2.mono l3.up⟩
        | 1, hv => simp at hv; subst hv; exact ⟨nv, rfl, r3⟩
        | 2, hv => simp at hv; subst hv; exact ⟨_, rfl, .scalar rfl⟩
        | 3, hv => simp at hv; subst hv; exact ⟨_, rfl, .scalar rfl⟩
theorem view_outs {ρ : Rho} {M : AMem} (h : Vw ρ M w) {fuel : Nat} {v : Value} {x : DataW H × List MemPlace} (hz : ∀ a len cap, v = .slice (some a) len cap → HasCells w) (ht : DataW.trod enc Try.prog w 0 (fun _ => true) true fuel 36 [v] = some x) :
    ∃ ρ' M' av os, Vw ρ' M' w ∧ VwLe ρ M ρ' M' ∧ VR ρ' av v ∧ OusR M' av os ∧ sidO os := by
  rcases Deep.open_slice Try.underlying36 ht with ⟨hcs, _⟩ | ⟨a, len, cap, m, n, D, Pl, hcs, _, hl, _, hm, _, hx⟩
  · simp at hcs
    subst hcs
    exact ⟨ρ, M, .slice none 0 0, [], h, VwLe.refl _ _, .scalar rfl, OusR_nil _, fun n hn => by simp at hn⟩
  · simp at hcs
    subst hcs
    have hz' := hz _ _ _ rfl
    simp only [if_true] at hm
    subst hm
    rw [c31] at hx
    obtain ⟨k, hk⟩ := Deep.choose_lt (α := List Value) (n := m) (p := fun i k => w.cells? 0 (a.add (i * 4)) 4 = some k ∧ DataW.trod enc Try.prog w 0 (fun _ => true) true n 31 k = some (D i, Pl i)) (fun i hi => hx i hi)
    obtain ⟨ρ1, M1, css, os, v1, l1, hc, ho, hs, hall⟩ := view_outs_aux h hz' (len := len) (k := k) (D := fun i => (D i, Pl i)) (fun i hi => (hk i (by omega)).2) len (Nat.le_refl _)
    obtain ⟨ρ', M', k1, k2, k3, k4⟩ := view_rows (e := 4) (g := fun i => css.getD i []) (k := k) v1 hz' hl (by decide) (fun i hi => (hk i hi).1) (fun i hi => by
      have e1 : css[i]? = some css[i] := List.getElem?_eq_getElem (by omega)
      have e2 : os[i]? = some os[i] := List.getElem?_eq_getElem (by omega)
      obtain ⟨_, q2, q3⟩ := hall i _ _ e1 e2
      have e3 : css.getD i [] = css[i] := by simp [List.getD, e1]
      rw [e3]
      exact ⟨q2, q3⟩)
    refine ⟨ρ', M', _, os, k1, l1.trans k2, k3, ⟨css, by rw [hc, ho], ?_, fun i c o hci hoi => (hall i c o hci hoi).1.keep k2.next k2.get⟩, hs⟩
    have e : (List.range len).map (fun i => css.getD i []) = css := by
      apply List.ext_getElem?
      intro i
      by_cases hi : i < len
      · simp [hi, List.getD, List.getElem?_eq_getElem (show i < css.length by omega)]
      · simp [hi, List.getElem?_eq_none (show css.length ≤ i by omega)]
    rw [e] at k4
    rw [ho]
    exact k4
end
end Go.Proofs.Ytdkdkpiemigfkaa
set_option linter.unusedVariables false
set_option linter.unusedSimpArgs false
set_option maxRecDepth 8000
namespace Go.Proofs.Ytdkdkpiemigfkaa
open Go Go.Proofs Go.ChangeShapes Go.WideShapes Go.ChangeAt Go.RowKit
theorem rowOwn : ownKnob Try.prog.godebug = none := by kernel_rfl
theorem laidOut : laidOutB Try.prog = true := by kernel_rfl
theorem c39 : Try.prog.cellsOf 39 = 5 := by kernel_rfl
theorem open_tup {H : Type} {enc : TypeId × Value → H} {w : World} {r : Reach} {b : Nat} {v : Value} {d : DataW H} {p : List MemPlace} (hv : Value.okWide Try.prog w r b 39 v) (h : DataW.Trod enc Try.prog w 0 (fun _ => true) true 39 v d p) : ∃ t : Tup, v = .agg t.cells.toArray := by
  obtain ⟨cs, rfl, hcs⟩ := okWide_struct Try.underlying39 hv
  obtain ⟨fuel, hf⟩ := h
  rw [c39] at hcs
  obtain ⟨l⟩ := cs
  obtain ⟨xs, n, _, _, hl, hlen, hf⟩ := DataW.trod_struct Try.underlying39 hf
  match l, hcs with
  | [a0, a1, a2, a3, a4], _ =>
    match xs, hlen with
    | [y0, y1, y2, y3, y4], _ =>
      have f0 := hf 0 _ rfl
      have f1 := hf 1 _ rfl
      have f2 := hf 2 _ rfl
      have f3 := hf 3 _ rfl
      have f4 := hf 4 _ rfl
      simp [Value.cells, c3, c23] at f0 f1 f2 f3 f4
      obtain ⟨x0, e0, _, _⟩ := DataW.trod_int Try.underlying3 f0
      obtain ⟨x1, e1, _, _⟩ := DataW.trod_int Try.underlying23 f1
      obtain ⟨x2, e2, _, _⟩ := DataW.trod_int Try.underlying23 f2
      obtain ⟨x3, e3, _, _⟩ := DataW.trod_int Try.underlying3 f3
      obtain ⟨x4, e4, _, _⟩ := DataW.trod_int Try.underlying3 f4
      simp at e0 e1 e2 e3 e4
      subst e0 e1 e2 e3 e4
      exact ⟨⟨x0, x1, x2, x3, x4⟩, rfl⟩
theorem ok_block {w : World} {b : Nat} {v : Value} (t e : TypeId) (ht : Try.prog.underlying t = some (.slice e)) (hv : Value.okWide Try.prog w .any b t v) : ∀ a len cap, v = .slice (some a) len cap → HasCells w := by
  rintro a len cap rfl
  simp only [Value.okWide, ht, Cell.okWide, Cell.ok, World.has] at hv
  obtain ⟨_, _, _, _, row, cells, hs, _⟩ := hv
  unfold World.shape? at hs
  split at hs
  · rename_i C el fr hh
    exact ⟨a.block, C, el, fr.1, fr.2, hh⟩
  · cases hs
theorem kept_below {w w' : World} (h : Kept (fun b => w.heap.size ≤ b) w w') : Below w.heap.size w w' := ⟨h.os, h.tape, h.output, h.size, fun k hk => h.block k (by omega)⟩
theorem VRl.cons {ρ : Rho} {x y : Value} {xs ys : List Value} (h : VR ρ x y) (h' : VRl ρ xs ys) : VRl ρ (x :: xs) (y :: ys) := by
  refine ⟨by simp [h'.1], fun i a b ha hb => ?_⟩
  cases i with
  | zero => simp at ha hb; subst ha hb; exact h
  | succ i => exact h'.2 i a b (by simpa using ha) (by simpa using hb)
theorem law_true {P : Program} {f : FuncId} {sp : ASpec} {ρ : Rho} {M : AMem} {w : World} {args : List Value} {cargs : Array Value} (hS : Sound P f sp) (hv : Vw ρ M w) (ha : VRl ρ args cargs.toList) (hsp : sp args M (fun r _ => r = .ret (.bool true))) :
    Calls P f cargs w (fun e w' => e = .returned (.bool true) ∧ Below w.heap.size w w') := by
  obtain ⟨_, h⟩ := hS args M _ hsp
  refine (h _ ρ w cargs ha hv.sim).mono fun e w' hp => ?_
  obtain ⟨ρ', c, res, M', hK, he, _, _, hr, _, hk⟩ := hp
  subst hK
  have hc : c = .bool true := hr.bool_inv
  subst hc
  exact ⟨he, kept_below hk⟩
set_option maxRecDepth 100000 in
theorem tallyAll_lifted (os : Os) (started : os.Started) (H : Type) (enc : TypeId × Value → H) :
    ReturnsInHanded {} Try.checked os 4 .any (Rows.tallyAllSpec.pre6 enc Try.prog Try.f4 Rows.tallyAllRow.domain false) (Rows.tallyAllSpec.post enc Try.prog Try.f4 false true false false) := by
  refine returnsInHanded_of_change (C := Try.checked) rowOwn started (by kernel_rfl) Try.func4
    (ChangeSpec.witness6 (enc := enc) (C := Try.checked) false ⟨#[], #[.slice none 0 0, .agg #[.int .i64 0, .int .u32 0, .int .u32 0, .int .i64 0, .int .i64 0], .int .u32 0, .int .i64 0], []⟩ 8 (by kernel_rfl) (by kernel_rfl) (by kernel_rfl) (by kernel_rfl)) ?_
  intro W base args ds gs before hval0 hW hcnd _
  have hval : ∀ (j : Nat) t v, Try.f4.params[j]? = some t → args[j]? = some v → Value.okWide Try.prog W .any base t v := hval0
  have hW' := hW
  obtain ⟨p, q, hA0, hV, rfl, hfz, hnd⟩ := hW
  have hA : DataW.TrodAll enc Try.prog W 0 (fun _ => true) true Try.f4.params.toList args.toList ds p := hA0
  rw [Try.params4] at hA hval
  obtain ⟨v0, v1, v2, v3, d0, d1, d2, d3, p0, p1, p2, p3, rfl, rfl, rfl, h0, h1, h2, h3⟩ := trodAll_four hA
  obtain ⟨rfl, rfl⟩ := trodVars_none hV
  have k0 := h0
  have k1 := h1
  have k2 := h2
  have k3 := h3
  clear hA0 hval0
  simp only [List.append_nil] at hW'
  have hlt : ∀ x ∈ p0 ++ p1 ++ p2 ++ p3, x.block < W.heap.size := fun x hx => by simpa using hW'.lt x hx
  obtain ⟨t, rfl⟩ := open_tup (hval 1 39 v1 rfl rfl) h1
  obtain ⟨x2, rfl, _, _, w2⟩ := open_int Try.underlying23 (hval 2 23 v2 rfl rfl) h2
  obtain ⟨x3, rfl, _, _, w3⟩ := open_int Try.underlying3 (hval 3 3 v3 rfl rfl) h3
  have hblk := ok_block 36 31 Try.underlying36 (hval 0 36 v0 rfl rfl)
  obtain ⟨a0, len, cap, rfl⟩ := okWide_slice Try.underlying36 (hval 0 36 v0 rfl rfl)
  obtain ⟨fuel, hf⟩ := h0
  obtain ⟨ρ, M, av, os', hv, _, hr, hos, hsid⟩ := view_outs (Vw.start W) hblk (by simpa [Value.cells] using hf)
  have hu : u32 x2 := wf_u32 w2
  refine (law_true f4_ok hv (args := [av, .agg t.cells.toArray, .int .u32 x2, .int .i64 x3]) (.cons hr (.cons (flat_refl rfl) (.cons (.scalar rfl) (.cons (.scalar rfl) (.nil ρ))))) ⟨av, t, x2, x3, os', rfl, hos, hsid, hu, rfl⟩).mono fun e W' ⟨he, hb⟩ => ?_
  subst he
  have e1 : ∀ x ∈ p0, x.block < W.heap.size := fun x hx => hlt x (by simp [hx])
  have e2 : ∀ x ∈ p1, x.block < W.heap.size := fun x hx => hlt x (by simp [hx])
  have e3 : ∀ x ∈ p2, x.block < W.heap.size := fun x hx => hlt x (by simp [hx])
  have e4 : ∀ x ∈ p3, x.block < W.heap.size := fun x hx => hlt x (by simp [hx])
  refine ⟨_, rfl, [d0, d1, d2, d3], [], p0 ++ p1 ++ p2 ++ p3, [], p0 ++ (p1 ++ (p2 ++ p3)), [], hW', trodAll_mk1 (shut_bool Try.underlying4 true), ?_, rfl, hb.frame _, fun h => by cases h⟩
  exact trodAll_mk4 (Below.trod laidOut (by kernel_rfl) (of_decide_eq_true (by kernel_rfl)) k0 hb e1) (Below.trod laidOut (by kernel_rfl) (of_decide_eq_true (by kernel_rfl)) k1 hb e2) (Below.trod laidOut (by kernel_rfl) (of_decide_eq_true (by kernel_rfl)) k2 hb e3) (Below.trod laidOut (by kernel_rfl) (of_decide_eq_true (by kernel_rfl)) k3 hb e4)
theorem tallyAll_holds : Rows.TallyAllSaid :=
  OpenClaim.holds_of_wide 4 Try.f4 rfl rfl rfl rfl rfl rfl rfl ⟨rfl, rfl, rfl, rfl, rfl⟩ rfl rfl rfl rfl rfl (by kernel_rfl) Try.func4 (by kernel_rfl)
    (of_decide_eq_true (by kernel_rfl)) (by unfold Func.isWrapper; first | (rw [if_pos (by decide +kernel)]; kernel_rfl) | (rw [if_neg (by decide +kernel)]; exact ⟨rfl, rfl⟩))
    (fun os started H enc _ => tallyAll_lifted os started H enc)
end Go.Proofs.Ytdkdkpiemigfkaa
