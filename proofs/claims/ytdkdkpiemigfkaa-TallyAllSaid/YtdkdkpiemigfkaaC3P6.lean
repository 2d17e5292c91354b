/- Part 6 of the proof of the given statement (theorem tallyAll_holds, in the last part): for every input the law returns true, and each argument reads behind the call as it read before. No condition beyond the statement's own. -/
import Derived.Test.YtdkdkpiemigfkaaC3P5
set_option linter.unusedVariables false
set_option linter.unusedSimpArgs false
set_option maxRecDepth 8000
namespace Go.Proofs.Ytdkdkpiemigfkaa
open Go Go.Proofs
def mE (m : List (Int × Value)) : List (Value × Value) := m.map fun p => (.int .i64 p.1, p.2)
def mFind (k : Int) : List (Int × Value) → Nat → Option (Nat × Value)
  | [], _ => none
  | p :: m, i => if k = p.1 then some (i, p.2) else mFind k m (i + 1)
def mSet (m : List (Int × Value)) (k : Int) (v : Value) : List (Int × Value) := match mFind k m 0 with
  | some (j, _) => m.set j (k, v)
  | none => m ++ [(k, v)]
theorem afind_mE (k : Int) : ∀ (m : List (Int × Value)) (i : Nat), afind (.int .i64) (.int .i64 k) (mE m) i = some (mFind k m i) := by
  intro m
  induction m with
  | nil => intro i; rfl
  | cons p m ih =>
    intro i
    have hs : Instr.sameNow (.int .i64) (.int .i64 k) (.int .i64 p.1) = some (k == p.1) := by simp [Instr.sameNow]
    simp only [mE, List.map_cons, afind, hs, mFind]
    by_cases h : k = p.1
    · have hb : (k == p.1) = true := by simpa using h
      rw [hb, if_pos h]
    · have hb : (k == p.1) = false := by simpa using h
      rw [hb, if_neg h]; exact ih (i + 1)
theorem mE_set (m : List (Int × Value)) (j : Nat) (k : Int) (v : Value) : mE (m.set j (k, v)) = (mE m).set j (.int .i64 k, v) := by simp [mE, List.map_set]
theorem aset_mE (k : Int) (v : Value) (m : List (Int × Value)) : aset (.int .i64) (.int .i64 k) v (mE m) = some (mE (mSet m k v)) := by
  unfold aset mSet
  rw [afind_mE]
  cases h : mFind k m 0 with
  | none => simp [mE]
  | some p => simp [mE_set]
theorem mFind_none {k : Int} : ∀ {m : List (Int × Value)} {i : Nat}, mFind k m i = none ↔ k ∉ m.map Prod.fst := by
  intro m
  induction m with
  | nil => intro i; simp [mFind]
  | cons p m ih =>
    intro i
    simp only [mFind, List.map_cons, List.mem_cons, not_or]
    by_cases h : k = p.1
    · simp [h]
    · simp [h, ih]
theorem mFind_some {k : Int} : ∀ {m : List (Int × Value)} {i j : Nat} {v : Value}, mFind k m i = some (j, v) → i ≤ j ∧ m[j - i]? = some (k, v) := by
  intro m
  induction m with
  | nil => intro i j v h; cases h
  | cons p m ih =>
    intro i j v h
    simp only [mFind] at h
    split at h
    · rename_i he
      cases h
      exact ⟨Nat.le_refl _, by rw [Nat.sub_self]; subst he; rfl⟩
    · obtain ⟨h1, h2⟩ := ih h
      refine ⟨by omega, ?_⟩
      rw [show j - i = (j - (i + 1)) + 1 from by omega]
      exact h2
theorem mSet_keys (m : List (Int × Value)) (k : Int) (v : Value) : (mSet m k v).map Prod.fst = if k ∈ m.map Prod.fst then m.map Prod.fst else m.map Prod.fst ++ [k] := by
  unfold mSet
  cases h : mFind k m 0 with
  | none => rw [if_neg (mFind_none.1 h)]; simp
  | some p =>
    obtain ⟨j, u⟩ := p
    obtain ⟨_, hj⟩ := mFind_some h
    rw [Nat.sub_zero] at hj
    have hlt : j < m.length := (List.getElem?_eq_some_iff.1 hj).1
    have hm : k ∈ m.map Prod.fst := List.mem_map.2 ⟨(k, u), List.mem_of_getElem? hj, rfl⟩
    rw [if_pos hm, List.map_set]
    apply List.ext_getElem?
    intro i
    rw [List.getElem?_set]
    split
    · subst_vars
      simp [hlt, (List.getElem?_eq_some_iff.1 hj).2]
    · rfl
theorem amupd75 {M : AMem} {id : Nat} {m : List (Int × Value)} (hg : M.get id = .map (mE m)) (k : Int) (v : Value) : amapUpdate Try.prog M 75 (.map (some id)) (.int .i64 k) v = some (M.set id (.map (mE (mSet m k v)))) := by
  have he : easyKey (.int .i64) (.int .i64 k) = true := rfl
  simp only [amapUpdate, Try.underlying75, Try.underlying3, hg, he, if_true, aset_mE]
  rfl
def dd (l : List Int) : List Int := l.foldl (fun ks s => if s ∈ ks then ks else ks ++ [s]) []
theorem dd_snoc (l : List Int) (s : Int) : dd (l ++ [s]) = if s ∈ dd l then dd l else dd l ++ [s] := by unfold dd; rw [List.foldl_append]; rfl
theorem dd_spec (l : List Int) : (dd l).Nodup ∧ ∀ x, x ∈ dd l ↔ x ∈ l := by
  have key : ∀ (n : Nat) (l : List Int), l.length = n → (dd l).Nodup ∧ ∀ x, x ∈ dd l ↔ x ∈ l := by
    intro n
    induction n with
    | zero => intro l hl; have : l = [] := List.eq_nil_of_length_eq_zero hl; subst this; simp [dd]
    | succ n ih =>
      intro l hl
      have hne : l ≠ [] := by intro h; subst h; simp at hl
      obtain ⟨h1, h2⟩ := ih l.dropLast (by simp [hl])
      rw [← List.dropLast_concat_getLast hne, dd_snoc]
      split
      · rename_i hm
        refine ⟨h1, fun x => ?_⟩
        rw [h2, List.mem_append, List.mem_singleton]
        constructor
        · exact .inl
        · rintro (h | rfl)
          · exact h
          · exact (h2 _).1 hm
      · rename_i hm
        refine ⟨?_, fun x => ?_⟩
        · rw [List.nodup_append]
          exact ⟨h1, by simp, fun a ha b hb => by simp at hb; subst hb; intro he; subst he; exact hm ha⟩
        · rw [List.mem_append, List.mem_append, h2]
  exact key _ l rfl
theorem dd_len (l : List Int) : (dd l).length ≤ l.length := by
  have : ∀ (l ks : List Int), (l.foldl (fun ks s => if s ∈ ks then ks else ks ++ [s]) ks).length ≤ ks.length + l.length := by
    intro l
    induction l with
    | nil => intro ks; simp
    | cons a l ih =>
      intro ks
      simp only [List.foldl_cons, List.length_cons]
      refine Nat.le_trans (ih _) ?_
      split <;> simp <;> omega
  simpa [dd] using this l []
def sidS (l : List Int) : List Int := srt (dd l)
theorem sidS_mem (l : List Int) (x : Int) : x ∈ sidS l ↔ x ∈ l := by
  unfold sidS srt
  rw [List.mem_mergeSort]; exact (dd_spec l).2 x
theorem sidS_asc (l : List Int) : (sidS l).Pairwise (· < ·) := by
  have h1 : (sidS l).Pairwise (fun a b => decide (a ≤ b) = true) := by
    unfold sidS srt
    exact List.pairwise_mergeSort (fun a b c h1 h2 => by simp only [decide_eq_true_eq] at *; omega) (fun a b => by simp only [Bool.or_eq_true, decide_eq_true_eq]; omega) _
  have h2 : (sidS l).Nodup := by unfold sidS srt; exact (List.mergeSort_perm _ _).nodup_iff.2 (dd_spec l).1
  refine (h1.and h2).imp ?_
  rintro a b ⟨h3, h4⟩
  have := of_decide_eq_true h3
  omega
theorem asc_unique {a b : List Int} (ha : a.Pairwise (· < ·)) (hb : b.Pairwise (· < ·)) (h : ∀ x, x ∈ a ↔ x ∈ b) : a = b := by
  have na : a.Nodup := ha.imp (fun h => by omega)
  have nb : b.Nodup := hb.imp (fun h => by omega)
  refine List.Perm.eq_of_pairwise (le := (· < ·)) (fun x y _ _ h1 h2 => by omega) ha hb ((List.perm_ext_iff_of_nodup na nb).2 h)
theorem z53 : azero Try.prog 53 = some (Nt.cells ⟨0, 0, 0, 0⟩) := by kernel_rfl
theorem st53 (f g : Nt) : astore Try.prog 53 f.cells 0 (.agg g.cells.toArray) = some g.cells := astore_whole (i := _) (by rfl) rfl rfl rfl
theorem ncells0 (f : Nt) : f.cells[0]? = some (.int .i64 f.sid) := rfl
def sp21 : ASpec := fun args M K => ∃ (lv : Value) (ns : List Nt), args = [lv] ∧ NtsR M lv ns ∧ (∀ n ∈ ns, inI64 n.sid) ∧ ns.length ≤ 1000000 ∧ retOwn M 1 (sidS (ns.map Nt.sid)).length ((sidS (ns.map Nt.sid)).map (.int .i64)) K
noncomputable def S21 : FuncId → ASpec := tab [(32, sp32), (33, sp33)]
theorem S21_32 : S21 32 = sp32 := rfl
theorem S21_33 : S21 33 = sp33 := rfl
theorem S21_ok : ∀ f, Sound Try.prog f (S21 f) := tab_sound _ (by simp [f32_ok, f33_ok])
theorem f21_ok : Sound Try.prog 21 sp21 := by
 refine Sound.of_awp (c := bodyOf Try.f21) Try.func21 rfl rfl rfl ?_
 rintro args M K ⟨lv, ns, rfl, hns, hr, hl, hK⟩
 refine ⟨Nat.le_of_ble_eq_true rfl, ?_⟩
 have hS := S21_ok
 have e0 : entry [lv] 0 = lv := rfl
 refine at_seq rfl ?_
 refine at_region hS rfl (by kernel_rfl) ?_
 refine s_op (a_as (by simp only [ev_const] <;> rfl)) rfl ?_
 refine s_end (fun s' hs' => ?_)
 replace e0 := kp 0 hs' e0
 clear hs'
 refine o_norm ?_
 refine t_norm ?_
 refine at_seq rfl ?_
 refine at_region hS rfl (by kernel_rfl) ?_
 refine s_op (a_mkmap) rfl ?_
 refine s_as ?_
 refine s_end (fun s' hs' => ?_)
 replace e0 := kp 0 hs' e0
 have e3 := congrFun hs' 3
 simp only [Zu, Nat.reduceEqDiff, ↓reduceIte, newPtr, AMem.next_alloc] at e3
 clear hs'
 refine o_norm ?_
 refine q_mem (fun M1 hEM1 => ?_)
 have hnM1 := congrArg AMem.next hEM1; simp only [Zn, Nat.add_assoc, Nat.reduceAdd] at hnM1
 have hnxM1 : M.next ≤ M1.next := by have := (Nat.le_refl M.next); omega
 have holdM1 : ∀ j, j < M.next → M1.get j = M.get j := fun j hj => by have := (Nat.le_refl M.next); rw [hEM1]; simp (disch := first | (refine Zx ?_; simp only [Zn]; done) | ((try simp only [Zn]); omega)) only [Zg]; done
 have gM1_0 := congrArg (fun m => AMem.get m M.next) hEM1; try simp (disch := first | (refine Zx ?_; simp only [Zn]; done) | ((try simp only [Zn]); omega)) only [Zg, Nat.add_assoc, Nat.reduceAdd] at gM1_0
 clear hEM1
 refine t_norm ?_
 refine at_seq rfl ?_
 refine at_seq rfl ?_
 refine at_region hS rfl (by kernel_rfl) ?_
 refine s_op (a_mv e0) rfl ?_
 refine s_op (a_len (by simp (disch := omega) only [Zu, Nat.reduceEqDiff, ↓reduceIte, alen_str, NtsR.len hns, newPtr, AMem.next_alloc, gM1_0] <;> rfl)) rfl ?_
 refine s_op (a_mv (by simp only [ev_const] <;> rfl)) rfl ?_
 refine s_end (fun s' hs' => ?_)
 replace e3 := kp 3 hs' e3
 have e7 := congrFun hs' 7
 have e8 := congrFun hs' 8
 have e9 := congrFun hs' 9
 simp only [Zu, Nat.reduceEqDiff, ↓reduceIte, newPtr, AMem.next_alloc] at e7 e8 e9
 clear hs'
 try clear e0
 refine o_norm ?_
 refine t_norm ?_
 refine at_block rfl ?_
 refine at_loop rfl (fun km s ML ds => ∃ (i : Nat), ∃ (m : List (Int × Value)), s 3 = .map (some M.next) ∧ s 7 = lv ∧ s 8 = .int .i64 ns.length ∧ s 9 = .int .i64 i ∧ i ≤ ns.length ∧ ML.get M.next = .map (mE m) ∧ M.next < ML.next ∧ m.map Prod.fst = dd ((ns.take i).map Nt.sid) ∧ km = ns.length - i ∧ M.next ≤ ML.next ∧ M1.next ≤ ML.next ∧ (∀ j, j < M.next → ML.get j = M.get j) ∧ ds = []) (ns.length - (0)) ⟨0, [], (by first | exact e3 | (rw [e3]; rfl) | (simpa using e3)), (by first | exact e7 | (rw [e7]; rfl) | (simpa using e7)), (by first | exact e8 | (rw [e8]; rfl) | (simpa using e8)), (by first | exact e9 | (rw [e9]; rfl) | (simpa using e9)), (by omega), gM1_0, (by omega), rfl, rfl, hnxM1, by omega, holdM1, rfl⟩ ?_
 clear e3 e7 e8 e9
 rintro km s M2 ds ⟨i, m, e3, e7, e8, e9, hi, gm, hnxt, hmk, hk, hnxM2, hngM2, holdM2, rfl⟩
 refine at_seq rfl ?_
 refine at_region hS rfl (by kernel_rfl) ?_
 refine s_op (a_bin (by simp (disch := omega) only [Zu, Nat.reduceEqDiff, ↓reduceIte, Zd, reduceCtorEq, abin_lss, ne_eq, not_false_eq_true, gm, e8, e9] <;> rfl)) rfl ?_
 refine s_end (fun s' hs' => ?_)
 replace e3 := kp 3 hs' e3
 replace e7 := kp 7 hs' e7
 replace e8 := kp 8 hs' e8
 replace e9 := kp 9 hs' e9
 have e10 := congrFun hs' 10
 simp only [Zu, Nat.reduceEqDiff, ↓reduceIte, newPtr, AMem.next_alloc] at e10
 clear hs'
 refine o_norm ?_
 refine t_norm ?_
 refine at_seq rfl ?_
 refine at_cond rfl rfl e10 (fun h3 => ?_) (fun h3 => ?_)
 ·
  try simp only [Zh] at h3
  refine at_skip rfl ?_
  refine t_norm ?_
  refine at_seq rfl ?_
  refine at_block rfl ?_
  refine at_seq rfl ?_
  have hil : i < ns.length := by omega
  obtain ⟨f, hfi⟩ : ∃ f, ns[i]? = some f := ⟨_, List.getElem?_eq_getElem hil⟩
  obtain ⟨zi, off, all, own2, hia, hid, hget, hl1, hl2, hl3, hl4, hl5⟩ := hns.at hfi .i64
  have hgetM := (holdM2 zi hid).trans hget
  have hst := st53 ⟨0, 0, 0, 0⟩ f
  refine at_region hS rfl (by kernel_rfl) ?_
  refine s_op (a_ia (by simp (disch := omega) only [Zu, Nat.reduceEqDiff, ↓reduceIte, hia, hst, newPtr, AMem.next_alloc, gm, e7, e9] <;> rfl)) rfl ?_
  refine s_op (a_load (by simp only [Zu, Nat.reduceEqDiff, ↓reduceIte, hgetM, hl5, hst, newPtr, AMem.next_alloc, gm] <;> rfl) (by simp (disch := first | (refine Zx ?_; simp only [Zn]; done) | ((try simp only [Zn]); omega)) only [Zg, hgetM, hl5, hst, newPtr, gm] <;> rfl) (by simp only [hgetM, hl5, hst, newPtr, AMem.next_alloc, gm] <;> rfl)) rfl ?_
  refine s_op (a_alloc z53) rfl ?_
  refine s_op (a_store (by simp only [Zu, Nat.reduceEqDiff, ↓reduceIte, hgetM, hst, newPtr, AMem.next_alloc, gm] <;> rfl) (by simp (disch := first | (refine Zx ?_; simp only [Zn]; done) | ((try simp only [Zn]); omega)) only [Zg, hgetM, hst, newPtr, gm] <;> rfl) (by simp only [Zu, Nat.reduceEqDiff, ↓reduceIte, hgetM, hst, newPtr, AMem.next_alloc, gm] <;> rfl) (by simp only [hgetM, hst, newPtr, AMem.next_alloc, gm] <;> rfl)) rfl ?_
  refine s_end (fun s' hs' => ?_)
  replace e3 := kp 3 hs' e3
  have e5 := congrFun hs' 5
  replace e7 := kp 7 hs' e7
  replace e8 := kp 8 hs' e8
  replace e9 := kp 9 hs' e9
  simp only [Zu, Nat.reduceEqDiff, ↓reduceIte, newPtr, AMem.next_alloc] at e5
  clear hs'
  refine o_norm ?_
  refine q_mem (fun M3 hEM3 => ?_)
  have hnM3 := congrArg AMem.next hEM3; simp only [Zn, Nat.add_assoc, Nat.reduceAdd] at hnM3
  have hnxM3 : M.next ≤ M3.next := by have := hnxM2; omega
  have holdM3 : ∀ j, j < M.next → M3.get j = M.get j := fun j hj => by have := hnxM2; rw [hEM3]; simp (disch := first | (refine Zx ?_; simp only [Zn]; done) | ((try simp only [Zn]); omega)) only [Zg]; exact holdM2 j hj
  have gM3_0 := congrArg (fun m => AMem.get m M.next) hEM3; try simp (disch := first | (refine Zx ?_; simp only [Zn]; done) | ((try simp only [Zn]); omega)) only [Zg, Nat.add_assoc, Nat.reduceAdd, gm] at gM3_0
  have gM3_1 := congrArg (fun m => AMem.get m M2.next) hEM3; try simp (disch := first | (refine Zx ?_; simp only [Zn]; done) | ((try simp only [Zn]); omega)) only [Zg, Nat.add_assoc, Nat.reduceAdd, gm] at gM3_1
  clear hEM3
  refine t_norm ?_
  have hmu := amupd75 (M := M3) gM3_0 f.sid (.bool true)
  refine at_region hS rfl (by kernel_rfl) ?_
  refine s_op (a_mv e3) rfl ?_
  refine s_op (a_fa (by simp only [Zu, Nat.reduceEqDiff, ↓reduceIte, fa53_0, Nat.zero_add, ncells0, hmu, newPtr, AMem.next_alloc, e5] <;> rfl)) rfl ?_
  refine s_op (a_load (by simp only [Zu, Nat.reduceEqDiff, ↓reduceIte, ld3, ncells0, hmu, newPtr, AMem.next_alloc, gM3_0, gM3_1] <;> rfl) (by simp (disch := first | (refine Zx ?_; simp only [Zn]; done) | ((try simp only [Zn]); omega)) only [Zg, ld3, ncells0, hmu, newPtr, gM3_0, gM3_1] <;> rfl) (by simp only [ld3, Zl, ncells0, hmu, newPtr, AMem.next_alloc, gM3_0, gM3_1] <;> rfl)) rfl ?_
  refine s_op (a_mupd (by simp (disch := omega) only [Zu, Nat.reduceEqDiff, ↓reduceIte, ncells0, hmu, newPtr, AMem.next_alloc, gM3_0, gM3_1] <;> rfl)) rfl ?_
  refine s_end (fun s' hs' => ?_)
  replace e3 := kp 3 hs' e3
  replace e7 := kp 7 hs' e7
  replace e8 := kp 8 hs' e8
  replace e9 := kp 9 hs' e9
  clear hs'
  try clear e5
  refine o_norm ?_
  refine q_mem (fun M4 hEM4 => ?_)
  have hnM4 := congrArg AMem.next hEM4; simp only [Zn, Nat.add_assoc, Nat.reduceAdd] at hnM4
  have hnxM4 : M.next ≤ M4.next := by have := hnxM3; omega
  have holdM4 : ∀ j, j < M.next → M4.get j = M.get j := fun j hj => by have := hnxM3; rw [hEM4]; simp (disch := first | (refine Zx ?_; simp only [Zn]; done) | ((try simp only [Zn]); omega)) only [Zg]; exact holdM3 j hj
  have gM4_0 := congrArg (fun m => AMem.get m M.next) hEM4; try simp (disch := first | (refine Zx ?_; simp only [Zn]; done) | ((try simp only [Zn]); omega)) only [Zg, Nat.add_assoc, Nat.reduceAdd, gM3_0, gM3_1] at gM4_0
  have gM4_1 := congrArg (fun m => AMem.get m M2.next) hEM4; try simp (disch := first | (refine Zx ?_; simp only [Zn]; done) | ((try simp only [Zn]); omega)) only [Zg, Nat.add_assoc, Nat.reduceAdd, gM3_0, gM3_1] at gM4_1
  clear hEM4
  refine b_norm ?_
  refine t_norm ?_
  refine at_region hS rfl (by kernel_rfl) ?_
  refine s_op (a_bin (by simp (disch := ((try simp only [List.length_append, List.length_cons, List.length_nil]); omega)) only [Zu, Nat.reduceEqDiff, ↓reduceIte, Zd, reduceCtorEq, abin_add, abin_aadd, wrap_i64, wrap_u32, wrap_u8, wrap_u64, wrap_i32, wrap_u16, ne_eq, not_false_eq_true, e9] <;> rfl)) rfl ?_
  refine s_mv ?_
  refine s_end (fun s' hs' => ?_)
  replace e3 := kp 3 hs' e3
  replace e7 := kp 7 hs' e7
  replace e8 := kp 8 hs' e8
  replace e9 := congrFun hs' 9
  simp only [Zu, Nat.reduceEqDiff, ↓reduceIte, newPtr, AMem.next_alloc] at e9
  clear hs'
  refine o_norm ?_
  refine t_norm ?_
  exact ⟨ns.length - (i + 1), by omega, i + 1, mSet m f.sid (.bool true), (by first | exact e3 | (rw [e3]; rfl) | (rw [e3]; simp; done)), (by first | exact e7 | (rw [e7]; rfl) | (rw [e7]; simp; done)), (by first | exact e8 | (rw [e8]; rfl) | (rw [e8]; simp; done)), (by first | exact e9 | (rw [e9]; rfl) | (rw [e9]; simp; done)), (by omega), gM4_0, (by omega), (by rw [mSet_keys, take_snocO hfi, List.map_append, List.map_cons, List.map_nil, dd_snoc, hmk]), rfl, hnxM4, by omega, holdM4, rfl⟩
 ·
  try simp only [Zh] at h3
  refine at_exit rfl ?_
  refine t_exit ?_
  refine t_exit ?_
  refine b_here ?_
  refine t_norm ?_
  refine at_seq rfl ?_
  have hie : i = ns.length := by omega
  rw [hie, List.take_length] at hmk
  have hdl := dd_len (ns.map Nt.sid)
  rw [List.length_map] at hdl
  refine at_region hS rfl (by kernel_rfl) ?_
  refine s_op (a_mv e3) rfl ?_
  refine s_call (by simp only [Zu, Nat.reduceEqDiff, ↓reduceIte, newPtr, AMem.next_alloc, gm] <;> rfl) (by simp only [Zu, Nat.reduceEqDiff, ↓reduceIte, Zm, newPtr, AMem.next_alloc, gm] <;> rfl) ?_
  rw [S21_33]; refine ⟨_, rfl, ?_⟩
  show EA _ _ _ _ _ _
  refine s_call (by simp only [Zu, Nat.reduceEqDiff, ↓reduceIte, newPtr, AMem.next_alloc, gm] <;> rfl) (by simp only [Zu, Nat.reduceEqDiff, ↓reduceIte, Zm, newPtr, AMem.next_alloc, gm] <;> rfl) ?_
  rw [S21_32]; refine ⟨_, M.next, mE m, dd (ns.map Nt.sid), rfl, get_new, by rw [get_old (by omega)]; exact gm, by rw [← hmk]; simp [mE], (dd_spec _).1, fun k hk => by obtain ⟨n, hn, rfl⟩ := List.mem_map.1 (((dd_spec _).2 k).1 hk); exact hr n hn, by omega, ?_⟩; intro rv M9 hn9 ho9 hown9
  show EA _ _ _ _ _ _
  refine s_as ?_
  refine s_end (fun s' hs' => ?_)
  have e2 := congrFun hs' 2
  simp only [Zu, Nat.reduceEqDiff, ↓reduceIte, newPtr, AMem.next_alloc] at e2
  clear hs'
  try clear e3
  refine o_norm ?_
  have hnx9 : M.next ≤ M9.next := by simp at hn9; omega
  have hold9 : ∀ j, j < M.next → M9.get j = M.get j := fun j hj => by rw [ho9 j (by simp; omega), get_old (by omega)]; exact holdM2 j hj
  have hown9 := Own.lower hown9 (lo' := M.next) (by simp; omega)
  have hsl : (sidS (ns.map Nt.sid)).length = (dd (ns.map Nt.sid)).length := List.length_mergeSort _
  rw [← hsl] at hown9
  refine t_norm ?_
  refine at_ret rfl ?_
  refine bq_ret rfl (ars_cons (ar_tmp e2) ars_nil) ?_
  exact ⟨_, _, hK _ _ hnx9 hold9 hown9, Canon.refl hnx9⟩
end Go.Proofs.Ytdkdkpiemigfkaa
set_option linter.unusedVariables false
set_option linter.unusedSimpArgs false
set_option maxRecDepth 8000
namespace Go.Proofs.Ytdkdkpiemigfkaa
open Go Go.Proofs
theorem aslice_ab {P : Program} {s s0 : Slots} {M M0 : AMem} {t el : TypeId} {v : Value} {lo hi lo0 hi0 : Option Operand} (ht : P.underlying t = some (.slice el)) (h1 : abound s 0 lo = abound s0 0 lo0) (h2 : ∀ d, abound s d hi = abound s0 d hi0) : aslice P s M t v lo hi = aslice P s0 M0 t v lo0 hi0 := by
  unfold aslice
  simp only [ht, h1, h2]
  cases v with
  | slice a n e =>
    cases a with
    | none => cases n <;> cases e <;> rfl
    | some a => obtain ⟨id, off, sp⟩ := a; cases sp <;> rfl
  | _ => rfl
theorem ints_one (l : List Int) : (l.map (Value.int .i64)).all (·.oneCell') = true := by
  rw [List.all_eq_true]; intro x hx; simp only [List.mem_map] at hx; obtain ⟨y, _, rfl⟩ := hx; rfl
theorem ints_parts {M : AMem} {v : Value} {ms : List Int} {k : Nat} (h : Row M 1 v ms.length (ms.map (.int .i64))) (hk : k ≤ ms.length) :
    (∃ v1, (∀ (s : Slots) (M' : AMem) (t : Nat), s t = .int .i64 k → aslice Try.prog s M' 22 v none (some (.tmp t)) = some v1) ∧ Row M 1 v1 k ((ms.take k).map (.int .i64))) ∧
    (∃ v2, (∀ (s : Slots) (M' : AMem) (t : Nat), s t = .int .i64 k → aslice Try.prog s M' 22 v (some (.tmp t)) none = some v2) ∧ Row M 1 v2 (ms.length - k) ((ms.drop k).map (.int .i64))) := by
  constructor
  · obtain ⟨v1, h1, h2⟩ := h.slice (P := Try.prog) (s := fun _ => .int .i64 k) (lo := none) (hi := some (.tmp 0)) (l := 0) (r := k) Try.underlying22 (i := _) (by rfl) rfl rfl rfl (by omega) (by omega) (by omega)
    refine ⟨v1, fun s M' t hs => ?_, ?_⟩
    · rw [← h1]; exact aslice_ab Try.underlying22 rfl (fun d => by simp only [abound, ev_tmp, hs])
    · have e : ((k : Int) - 0).toNat = k := by omega
      rw [e] at h2
      simpa [List.map_take] using h2
  · obtain ⟨v1, h1, h2⟩ := h.slice (P := Try.prog) (s := fun _ => .int .i64 k) (lo := some (.tmp 0)) (hi := none) (l := k) (r := ms.length) Try.underlying22 (i := _) (by rfl) rfl rfl rfl (by omega) (by omega) (by omega)
    refine ⟨v1, fun s M' t hs => ?_, ?_⟩
    · rw [← h1]; exact aslice_ab Try.underlying22 (by simp only [abound, ev_tmp, hs]) (fun d => rfl)
    · have e : ((ms.length : Int) - k).toNat = ms.length - k := by omega
      rw [e, Nat.mul_one, Nat.mul_one, Int.toNat_natCast] at h2
      have e2 : ((ms.map (Value.int .i64)).drop k).take (ms.length - k) = (ms.drop k).map (.int .i64) := by
        rw [List.take_of_length_le (by simp), List.map_drop]
      rw [e2] at h2
      exact h2
theorem sid_put {l : List Int} {s : Int} {k : Nat} (hk : k ≤ (sidS l).length) (hlt : ∀ j (hj : j < (sidS l).length), j < k → (sidS l)[j] < s) (hge : ∀ (h : k < (sidS l).length), s < (sidS l)[k]) :
    sidS (l ++ [s]) = (sidS l).take k ++ [s] ++ (sidS l).drop k := by
  refine asc_unique (sidS_asc _) ?_ ?_
  · have ha := sidS_asc l
    generalize sidS l = ms at *
    rw [List.append_assoc, List.pairwise_append]
    refine ⟨ha.sublist (List.take_sublist _ _), ?_, ?_⟩
    · rw [List.singleton_append, List.pairwise_cons]
      refine ⟨fun x hx => ?_, ha.sublist (List.drop_sublist _ _)⟩
      obtain ⟨i, hi, rfl⟩ := List.mem_iff_getElem.1 hx
      rw [List.length_drop] at hi
      rw [List.getElem_drop]
      have h1 := hge (by omega)
      rcases Nat.eq_zero_or_pos i with h0 | h0
      · subst h0; exact h1
      · have := List.pairwise_iff_getElem.1 ha k (k + i) (by omega) (by omega) (by omega); omega
    · intro a haa b hb
      obtain ⟨i, hi, rfl⟩ := List.mem_iff_getElem.1 haa
      rw [List.length_take] at hi
      rw [List.getElem_take]
      have h1 := hlt i (by omega) (by omega)
      rw [List.singleton_append, List.mem_cons] at hb
      rcases hb with rfl | hb
      · exact h1
      · obtain ⟨q, hq, rfl⟩ := List.mem_iff_getElem.1 hb
        rw [List.length_drop] at hq
        rw [List.getElem_drop]
        exact List.pairwise_iff_getElem.1 ha i (k + q) (by omega) (by omega) (by omega)
  · intro x
    rw [sidS_mem, List.mem_append, List.mem_append, List.mem_append, ← sidS_mem l x]
    conv => lhs; lhs; rw [← List.take_append_drop k (sidS l)]
    rw [List.mem_append]
    constructor
    · rintro ((h | h) | h)
      · exact .inl (.inl h)
      · exact .inr h
      · exact .inl (.inr h)
    · rintro ((h | h) | h)
      · exact .inl (.inl h)
      · exact .inr h
      · exact .inl (.inr h)
theorem sid_same {l : List Int} {s : Int} {k : Nat} (hk : k < (sidS l).length) (he : (sidS l)[k] = s) : sidS (l ++ [s]) = sidS l := by
  refine asc_unique (sidS_asc _) (sidS_asc _) fun x => ?_
  rw [sidS_mem, sidS_mem, List.mem_append, List.mem_singleton]
  constructor
  · rintro (h | rfl)
    · exact h
    · rw [← he]; exact (sidS_mem _ _).1 (List.getElem_mem hk)
  · exact .inl
def sp22 : ASpec := fun args M K => ∃ (lv : Value) (ns : List Nt), args = [lv] ∧ NtsR M lv ns ∧ (∀ n ∈ ns, inI64 n.sid) ∧ ns.length ≤ 1000000 ∧ retOwn M 1 (sidS (ns.map Nt.sid)).length ((sidS (ns.map Nt.sid)).map (.int .i64)) K
theorem sidS_len (l : List Int) : (sidS l).length ≤ l.length := by rw [show (sidS l).length = (dd l).length from List.length_mergeSort _]; exact dd_len l
set_option maxHeartbeats 1000000 in
theorem f22_ok : Sound Try.prog 22 sp22 := by
 refine Sound.of_awp (c := bodyOf Try.f22) Try.func22 rfl rfl rfl ?_
 rintro args M K ⟨lv, ns, rfl, hns, hr, hl, hK⟩
 refine ⟨Nat.le_of_ble_eq_true rfl, ?_⟩
 have hS := noS_ok Try.prog
 have e0 : entry [lv] 0 = lv := rfl
 refine at_seq rfl ?_
 refine at_region hS rfl (by kernel_rfl) ?_
 refine s_op (a_as (by simp only [ev_const] <;> rfl)) rfl ?_
 refine s_end (fun s' hs' => ?_)
 replace e0 := kp 0 hs' e0
 clear hs'
 refine o_norm ?_
 refine t_norm ?_
 refine at_seq rfl ?_
 refine at_region hS rfl (by kernel_rfl) ?_
 refine s_op (a_as (by simp only [ev_const] <;> rfl)) rfl ?_
 refine s_end (fun s' hs' => ?_)
 replace e0 := kp 0 hs' e0
 have e3 := congrFun hs' 3
 simp only [Zu, Nat.reduceEqDiff, ↓reduceIte, newPtr, AMem.next_alloc] at e3
 clear hs'
 refine o_norm ?_
 refine t_norm ?_
 refine at_seq rfl ?_
 refine at_seq rfl ?_
 refine at_region hS rfl (by kernel_rfl) ?_
 refine s_op (a_as (by simp only [ev_const] <;> rfl)) rfl ?_
 refine s_end (fun s' hs' => ?_)
 replace e0 := kp 0 hs' e0
 replace e3 := kp 3 hs' e3
 have e4 := congrFun hs' 4
 simp only [Zu, Nat.reduceEqDiff, ↓reduceIte, newPtr, AMem.next_alloc] at e4
 clear hs'
 refine o_norm ?_
 refine t_norm ?_
 refine at_block rfl ?_
 refine at_loop rfl (fun km s ML ds => ∃ (i : Nat), ∃ (mv : Value), s 0 = lv ∧ s 3 = mv ∧ s 4 = .int .i64 i ∧ i ≤ ns.length ∧ Own ML M.next 1 mv (sidS ((ns.take i).map Nt.sid)).length ((sidS ((ns.take i).map Nt.sid)).map (.int .i64)) ∧ km = ns.length - i ∧ M.next ≤ ML.next ∧ M.next ≤ ML.next ∧ (∀ j, j < M.next → ML.get j = M.get j) ∧ ds = []) (ns.length - (0)) ⟨0, .slice none 0 0, (by first | exact e0 | (rw [e0]; rfl) | (simpa using e0)), (by first | exact e3 | (rw [e3]; rfl) | (simpa using e3)), (by first | exact e4 | (rw [e4]; rfl) | (simpa using e4)), (by omega), (by simpa [sidS, srt, dd] using Own.nil _ _ _), rfl, (Nat.le_refl M.next), by omega, (fun _ _ => rfl), rfl⟩ ?_
 clear e0 e3 e4
 rintro km s M1 ds ⟨i, mv, e0, e3, e4, hi, hown, hk, hnxM1, hngM1, holdM1, rfl⟩
 refine at_seq rfl ?_
 refine at_seq rfl ?_
 refine at_region hS rfl (by kernel_rfl) ?_
 refine s_op (a_mv e4) rfl ?_
 refine s_op (a_mv e0) rfl ?_
 refine s_op (a_len (by simp (disch := omega) only [Zu, Nat.reduceEqDiff, ↓reduceIte, alen_str, NtsR.len hns, newPtr, AMem.next_alloc] <;> rfl)) rfl ?_
 refine s_op (a_bin (by simp (disch := omega) only [Zu, Nat.reduceEqDiff, ↓reduceIte, Zd, reduceCtorEq, abin_lss, ne_eq, not_false_eq_true] <;> rfl)) rfl ?_
 refine s_end (fun s' hs' => ?_)
 replace e0 := kp 0 hs' e0
 replace e3 := kp 3 hs' e3
 replace e4 := kp 4 hs' e4
 have e10 := congrFun hs' 10
 simp only [Zu, Nat.reduceEqDiff, ↓reduceIte, newPtr, AMem.next_alloc] at e10
 clear hs'
 refine o_norm ?_
 refine t_norm ?_
 refine at_cond rfl rfl e10 (fun h3 => ?_) (fun h3 => ?_)
 ·
  try simp only [Zh] at h3
  have hil : i < ns.length := by omega
  obtain ⟨f, hfi⟩ : ∃ f, ns[i]? = some f := ⟨_, List.getElem?_eq_getElem hil⟩
  obtain ⟨zi, off, all, own2, hia, hid, hget, hl1, hl2, hl3, hl4, hl5⟩ := hns.at hfi .i64
  have hsn : sidS ((ns.take (i + 1)).map Nt.sid) = sidS ((ns.take i).map Nt.sid ++ [f.sid]) := by rw [take_snocO hfi, List.map_append]; rfl
  have hput := @sid_put ((ns.take i).map Nt.sid) f.sid
  have hsame := @sid_same ((ns.take i).map Nt.sid) f.sid
  have hml := sidS_len ((ns.take i).map Nt.sid)
  have htl : ((ns.take i).map Nt.sid).length ≤ i := by rw [List.length_map]; exact List.length_take_le _ _
  generalize sidS ((ns.take i).map Nt.sid) = ms at *
  have hrow0 := hown.row
  have hgetM := (holdM1 zi hid).trans hget
  refine at_skip rfl ?_
  refine t_norm ?_
  refine at_seq rfl ?_
  refine t_join (I := fun s MJ ds => ∃ (mv2 : Value), s 0 = lv ∧ s 3 = mv2 ∧ s 4 = .int .i64 i ∧ Own MJ M.next 1 mv2 (sidS ((ns.take (i + 1)).map Nt.sid)).length ((sidS ((ns.take (i + 1)).map Nt.sid)).map (.int .i64)) ∧ M.next ≤ MJ.next ∧ M1.next ≤ MJ.next ∧ (∀ j, j < M.next → MJ.get j = M.get j) ∧ ds = []) ?_ ?_
  ·
   refine at_block rfl ?_
   refine at_seq rfl ?_
   refine at_region hS rfl (by kernel_rfl) ?_
   refine s_op (a_as (by simp only [ev_const] <;> rfl)) rfl ?_
   refine s_end (fun s' hs' => ?_)
   replace e0 := kp 0 hs' e0
   replace e3 := kp 3 hs' e3
   replace e4 := kp 4 hs' e4
   have e5 := congrFun hs' 5
   simp only [Zu, Nat.reduceEqDiff, ↓reduceIte, newPtr, AMem.next_alloc] at e5
   clear hs'
   refine o_norm ?_
   refine t_norm ?_
   refine at_seq rfl ?_
   refine t_join (I := fun s MJ ds => ∃ (k : Nat), s 0 = lv ∧ s 3 = mv ∧ s 4 = .int .i64 i ∧ s 5 = .int .i64 k ∧ k ≤ ms.length ∧ (∀ j (hj : j < ms.length), j < k → ms[j] < f.sid) ∧ (∀ (h : k < ms.length), f.sid ≤ ms[k]) ∧ (∀ j, j < M1.next → MJ.get j = M1.get j) ∧ M.next ≤ MJ.next ∧ M1.next ≤ MJ.next ∧ (∀ j, j < M.next → MJ.get j = M.get j) ∧ ds = []) ?_ ?_
   ·
    refine at_block rfl ?_
    refine at_loop rfl (fun km s ML ds => ∃ (k : Nat), s 0 = lv ∧ s 3 = mv ∧ s 4 = .int .i64 i ∧ s 5 = .int .i64 k ∧ k ≤ ms.length ∧ (∀ j (hj : j < ms.length), j < k → ms[j] < f.sid) ∧ (∀ j, j < M1.next → ML.get j = M1.get j) ∧ km = ms.length - k ∧ M.next ≤ ML.next ∧ M1.next ≤ ML.next ∧ (∀ j, j < M.next → ML.get j = M.get j) ∧ ds = []) (ms.length - (0)) ⟨0, (by first | exact e0 | (rw [e0]; rfl) | (simpa using e0)), (by first | exact e3 | (rw [e3]; rfl) | (simpa using e3)), (by first | exact e4 | (rw [e4]; rfl) | (simpa using e4)), (by first | exact e5 | (rw [e5]; rfl) | (simpa using e5)), (by omega), (fun j hj h => by omega), (fun _ _ => rfl), rfl, hnxM1, by omega, holdM1, rfl⟩ ?_
    clear e0 e3 e4 e5
    rintro km s M2 ds ⟨k, e0, e3, e4, e5, hkl, hlt, hkM, hk, hnxM2, hngM2, holdM2, rfl⟩
    refine at_seq rfl ?_
    refine at_seq rfl ?_
    have hrow6 := hrow0.keep (M' := M2) (by omega) hkM
    have hget6 := (hkM zi (by omega)).trans hgetM
    by_cases hv : (k : Int) < ms.length
    ·
     have hkm : k < ms.length := by omega
     obtain ⟨id, off2, all2, own3, hia2, hid2, hget2, hld2⟩ := hrow6.at1 Try.underlying22 (i := _) (by rfl) rfl hkm ld3 ⟨_, rfl, rfl⟩ .i64
     rw [show (ms.map (Value.int .i64))[k]? = some (.int .i64 ms[k]) from by simp [hkm]] at hld2
     refine at_draw ⟨[[], [], [1], [0, 1, 2], [0, 1, 2, 3], [0, 1, 2, 3, 4], [0, 1, 2, 3, 4], [0, 1, 2, 3, 4, 5, 6], [0, 1, 2, 3, 4, 5, 6, 7], [0, 1, 2, 3, 4], [0, 1, 2, 3, 4], [0, 1, 2, 3, 4, 9, 10], [0, 1, 2, 3, 4, 9, 10, 11], [0, 1, 2, 3, 4, 9, 10, 11, 12], [0, 1, 2, 3, 4, 5, 6, 7, 8, 9, 10, 11, 12, 13], [0, 1, 2, 3, 4, 5, 6, 7, 8, 9, 10, 11, 12, 13, 14]], [0, 1, 2, 3, 4, 5, 6, 7, 8, 9, 10, 11, 12, 13, 14, 15], []⟩ hS rfl rfl (by kernel_rfl) (by kernel_rfl) ?_
     refine d_start ?_
     refine l_op rfl rfl (a_mv e5) rfl ?_ rfl
     refine l_op rfl rfl (a_mv e3) rfl ?_ rfl
     refine l_op rfl rfl (a_len (by simp (disch := omega) only [Zu, Nat.reduceEqDiff, ↓reduceIte, alen_str, hv, Row.len hrow6 (P := Try.prog) Try.underlying22, newPtr, AMem.next_alloc] <;> rfl)) rfl ?_ rfl
     refine l_op rfl rfl (a_bin (by simp (disch := omega) only [Zu, Nat.reduceEqDiff, ↓reduceIte, Zd, reduceCtorEq, abin_lss, ne_eq, not_false_eq_true, hv] <;> rfl)) rfl ?_ rfl
     refine l_op rfl rfl (a_mv (by simp only [Zu, Nat.reduceEqDiff, ↓reduceIte] <;> rfl)) rfl ?_ rfl
     refine l_op rfl (w_true (by simp only [Zu, Nat.reduceEqDiff, ↓reduceIte] <;> rfl) (by first | rfl | assumption)) (a_mv e3) rfl ?_ rfl
     refine l_op rfl (w_true (by simp only [Zu, Nat.reduceEqDiff, ↓reduceIte] <;> rfl) (by first | rfl | assumption)) (a_mv e5) rfl ?_ rfl
     refine l_op rfl (w_true (by simp only [Zu, Nat.reduceEqDiff, ↓reduceIte] <;> rfl) (by first | rfl | assumption)) (a_ia (by simp (disch := omega) only [Zu, Nat.reduceEqDiff, ↓reduceIte, hv, hia, hia2, newPtr, AMem.next_alloc] <;> rfl)) rfl ?_ rfl
     refine l_op rfl (w_true (by simp only [Zu, Nat.reduceEqDiff, ↓reduceIte] <;> rfl) (by first | rfl | assumption)) (a_load (by simp only [Zu, Nat.reduceEqDiff, ↓reduceIte, hv, hget2, hld2, hget6, hl1, newPtr, AMem.next_alloc] <;> rfl) (by simp (disch := first | (refine Zx ?_; simp only [Zn]; done) | ((try simp only [Zn]); omega)) only [Zg, hv, hget2, hld2, hget6, hl1, newPtr] <;> rfl) (by simp only [ld3, Zl, hv, hget2, hld2, hget6, hl1, newPtr, AMem.next_alloc] <;> rfl)) rfl ?_ rfl
     refine l_op rfl (w_true (by simp only [Zu, Nat.reduceEqDiff, ↓reduceIte] <;> rfl) (by first | rfl | assumption)) (a_mv e0) rfl ?_ rfl
     refine l_op rfl (w_true (by simp only [Zu, Nat.reduceEqDiff, ↓reduceIte] <;> rfl) (by first | rfl | assumption)) (a_mv e4) rfl ?_ rfl
     refine l_op rfl (w_true (by simp only [Zu, Nat.reduceEqDiff, ↓reduceIte] <;> rfl) (by first | rfl | assumption)) (a_ia (by simp (disch := omega) only [Zu, Nat.reduceEqDiff, ↓reduceIte, hv, hia, hia2, newPtr, AMem.next_alloc] <;> rfl)) rfl ?_ rfl
     refine l_op rfl (w_true (by simp only [Zu, Nat.reduceEqDiff, ↓reduceIte] <;> rfl) (by first | rfl | assumption)) (a_fa (by simp only [Zu, Nat.reduceEqDiff, ↓reduceIte, fa53_0, Nat.zero_add, hv, newPtr, AMem.next_alloc] <;> rfl)) rfl ?_ rfl
     refine l_op rfl (w_true (by simp only [Zu, Nat.reduceEqDiff, ↓reduceIte] <;> rfl) (by first | rfl | assumption)) (a_load (by simp only [Zu, Nat.reduceEqDiff, ↓reduceIte, hv, hget2, hld2, hget6, hl1, newPtr, AMem.next_alloc] <;> rfl) (by simp (disch := first | (refine Zx ?_; simp only [Zn]; done) | ((try simp only [Zn]); omega)) only [Zg, hv, hget2, hld2, hget6, hl1, newPtr] <;> rfl) (by simp only [ld3, Zl, hv, hget2, hld2, hget6, hl1, newPtr, AMem.next_alloc] <;> rfl)) rfl ?_ rfl
     refine l_op rfl (w_true (by simp only [Zu, Nat.reduceEqDiff, ↓reduceIte, Zd, reduceCtorEq] <;> rfl) (by first | rfl | assumption)) (a_bin (by simp (disch := omega) only [Zu, Nat.reduceEqDiff, ↓reduceIte, Zd, reduceCtorEq, abin_lss, ne_eq, not_false_eq_true, hv] <;> rfl)) rfl ?_ rfl
     refine l_op rfl rfl (a_pick (by simp only [Zu, Nat.reduceEqDiff, ↓reduceIte, Zd, reduceCtorEq, hv] <;> rfl) (by simp only [Zu, Nat.reduceEqDiff, ↓reduceIte, Zd, reduceCtorEq, hv] <;> rfl)) rfl ?_ rfl
     refine l_nil ?_
     refine h_end ?_ (fun s' hs' => ?_)
     · refine again_r rfl ?_
       refine again_r rfl ?_
       refine again_l rfl rfl (a_load (by simp only [Zu, Nat.reduceEqDiff, ↓reduceIte, hv, hget2, hld2, hget6, hl1, newPtr, AMem.next_alloc] <;> rfl) (by simp (disch := first | (refine Zx ?_; simp only [Zn]; done) | ((try simp only [Zn]); omega)) only [Zg, hv, hget2, hld2, hget6, hl1, newPtr] <;> rfl) (by simp only [ld3, Zl, hv, hget2, hld2, hget6, hl1, newPtr, AMem.next_alloc] <;> rfl)) ?_
       refine again_r rfl ?_
       refine again_r rfl ?_
       refine again_r rfl ?_
       refine again_r rfl ?_
       refine again_l rfl rfl (a_load (by simp only [Zu, Nat.reduceEqDiff, ↓reduceIte, hv, hget2, hld2, hget6, hl1, newPtr, AMem.next_alloc] <;> rfl) (by simp (disch := first | (refine Zx ?_; simp only [Zn]; done) | ((try simp only [Zn]); omega)) only [Zg, hv, hget2, hld2, hget6, hl1, newPtr] <;> rfl) (by simp only [ld3, Zl, hv, hget2, hld2, hget6, hl1, newPtr, AMem.next_alloc] <;> rfl)) ?_
       refine again_r rfl ?_
       refine again_r rfl ?_
       refine again_r rfl ?_
       refine again_r rfl ?_
       refine again_r rfl ?_
       refine again_l rfl rfl (a_len (by simp (disch := omega) only [Zu, Nat.reduceEqDiff, ↓reduceIte, alen_str, hv, Row.len hrow6 (P := Try.prog) Try.underlying22, newPtr, AMem.next_alloc] <;> rfl)) ?_
       refine again_r rfl ?_
       refine again_r rfl ?_
       exact again_nil
     replace e0 := kp 0 hs' e0
     replace e3 := kp 3 hs' e3
     replace e4 := kp 4 hs' e4
     replace e5 := kp 5 hs' e5
     have e28 := congrFun hs' 28
     simp only [Zu, Nat.reduceEqDiff, ↓reduceIte, newPtr, AMem.next_alloc] at e28
     clear hs'
     refine o_norm ?_
     refine t_norm ?_
     refine at_cond rfl rfl e28 (fun h6 => ?_) (fun h6 => ?_)
     ·
      try simp only [Zh] at h6
      refine at_skip rfl ?_
      refine t_norm ?_
      refine at_block rfl ?_
      refine at_region hS rfl (by kernel_rfl) ?_
      refine s_op (a_mv e5) rfl ?_
      refine s_op (a_bin (by simp (disch := ((try simp only [List.length_append, List.length_cons, List.length_nil]); omega)) only [Zu, Nat.reduceEqDiff, ↓reduceIte, Zd, reduceCtorEq, abin_add, abin_aadd, wrap_i64, wrap_u32, wrap_u8, wrap_u64, wrap_i32, wrap_u16, ne_eq, not_false_eq_true] <;> rfl)) rfl ?_
      refine s_as ?_
      refine s_end (fun s' hs' => ?_)
      replace e0 := kp 0 hs' e0
      replace e3 := kp 3 hs' e3
      replace e4 := kp 4 hs' e4
      replace e5 := congrFun hs' 5
      simp only [Zu, Nat.reduceEqDiff, ↓reduceIte, newPtr, AMem.next_alloc] at e5
      clear hs'
      refine o_norm ?_
      refine b_norm ?_
      refine t_norm ?_
      exact ⟨ms.length - (k + 1), by omega, k + 1, (by first | exact e0 | (rw [e0]; rfl) | (rw [e0]; simp; done)), (by first | exact e3 | (rw [e3]; rfl) | (rw [e3]; simp; done)), (by first | exact e4 | (rw [e4]; rfl) | (rw [e4]; simp; done)), (by first | exact e5 | (rw [e5]; rfl) | (rw [e5]; simp; done)), (by omega), (fun j hj h => by rcases (by omega : j < k ∨ j = k) with h' | h'; exact hlt j hj h'; subst h'; exact h6), hkM, rfl, hnxM2, by omega, holdM2, rfl⟩
     ·
      try simp only [Zh] at h6
      refine at_exit rfl ?_
      refine t_exit ?_
      refine t_exit ?_
      refine b_here ?_
      refine t_norm ?_
      exact ⟨k, (by first | exact e0 | (rw [e0]; rfl) | (rw [e0]; simp; done)), (by first | exact e3 | (rw [e3]; rfl) | (rw [e3]; simp; done)), (by first | exact e4 | (rw [e4]; rfl) | (rw [e4]; simp; done)), (by first | exact e5 | (rw [e5]; rfl) | (rw [e5]; simp; done)), (by omega), hlt, (fun h => by omega), hkM, hnxM2, by omega, holdM2, rfl⟩
    ·
     refine at_draw ⟨[[], [], [1], [0, 1, 2], [0, 1, 2, 3], [0, 1, 2, 3, 4], [0, 1, 2, 3, 4], [0, 1, 2, 3, 4, 5, 6], [0, 1, 2, 3, 4, 5, 6, 7], [0, 1, 2, 3, 4], [0, 1, 2, 3, 4], [0, 1, 2, 3, 4, 9, 10], [0, 1, 2, 3, 4, 9, 10, 11], [0, 1, 2, 3, 4, 9, 10, 11, 12], [0, 1, 2, 3, 4, 5, 6, 7, 8, 9, 10, 11, 12, 13], [0, 1, 2, 3, 4, 5, 6, 7, 8, 9, 10, 11, 12, 13, 14]], [0, 1, 2, 3, 4, 5, 6, 7, 8, 9, 10, 11, 12, 13, 14, 15], []⟩ hS rfl rfl (by kernel_rfl) (by kernel_rfl) ?_
     refine d_start ?_
     refine l_op rfl rfl (a_mv e5) rfl ?_ rfl
     refine l_op rfl rfl (a_mv e3) rfl ?_ rfl
     refine l_op rfl rfl (a_len (by simp (disch := omega) only [Zu, Nat.reduceEqDiff, ↓reduceIte, alen_str, hv, Row.len hrow6 (P := Try.prog) Try.underlying22, newPtr, AMem.next_alloc] <;> rfl)) rfl ?_ rfl
     refine l_op rfl rfl (a_bin (by simp (disch := omega) only [Zu, Nat.reduceEqDiff, ↓reduceIte, Zd, reduceCtorEq, abin_lss, ne_eq, not_false_eq_true, hv] <;> rfl)) rfl ?_ rfl
     refine l_op rfl rfl (a_mv (by simp only [Zu, Nat.reduceEqDiff, ↓reduceIte] <;> rfl)) rfl ?_ rfl
     refine l_leave rfl (w_false (by simp only [Zu, Nat.reduceEqDiff, ↓reduceIte] <;> rfl) (by first | rfl | assumption)) ?_ rfl
     refine l_leave rfl (w_false (by simp only [Zu, Nat.reduceEqDiff, ↓reduceIte] <;> rfl) (by first | rfl | assumption)) ?_ rfl
     refine l_leave rfl (w_false (by simp only [Zu, Nat.reduceEqDiff, ↓reduceIte] <;> rfl) (by first | rfl | assumption)) ?_ rfl
     refine l_leave rfl (w_false (by simp only [Zu, Nat.reduceEqDiff, ↓reduceIte] <;> rfl) (by first | rfl | assumption)) ?_ rfl
     refine l_leave rfl (w_false (by simp only [Zu, Nat.reduceEqDiff, ↓reduceIte] <;> rfl) (by first | rfl | assumption)) ?_ rfl
     refine l_leave rfl (w_false (by simp only [Zu, Nat.reduceEqDiff, ↓reduceIte] <;> rfl) (by first | rfl | assumption)) ?_ rfl
     refine l_leave rfl (w_false (by simp only [Zu, Nat.reduceEqDiff, ↓reduceIte] <;> rfl) (by first | rfl | assumption)) ?_ rfl
     refine l_leave rfl (w_false (by simp only [Zu, Nat.reduceEqDiff, ↓reduceIte] <;> rfl) (by first | rfl | assumption)) ?_ rfl
     refine l_leave rfl (w_false (by simp only [Zu, Nat.reduceEqDiff, ↓reduceIte] <;> rfl) (by first | rfl | assumption)) ?_ rfl
     refine l_leave rfl (w_false (by simp only [Zu, Nat.reduceEqDiff, ↓reduceIte, Zd, reduceCtorEq] <;> rfl) (by first | rfl | assumption)) ?_ rfl
     refine l_op rfl rfl (a_pick (by simp only [Zu, Nat.reduceEqDiff, ↓reduceIte, Zd, reduceCtorEq, hv] <;> rfl) (by simp only [Zu, Nat.reduceEqDiff, ↓reduceIte, Zd, reduceCtorEq, hv] <;> rfl)) rfl ?_ rfl
     refine l_nil ?_
     refine h_end ?_ (fun s' hs' => ?_)
     · refine again_r rfl ?_
       refine again_r rfl ?_
       refine again_r rfl ?_
       refine again_l rfl rfl (a_len (by simp (disch := omega) only [Zu, Nat.reduceEqDiff, ↓reduceIte, alen_str, hv, Row.len hrow6 (P := Try.prog) Try.underlying22, newPtr, AMem.next_alloc] <;> rfl)) ?_
       refine again_r rfl ?_
       refine again_r rfl ?_
       exact again_nil
     replace e0 := kp 0 hs' e0
     replace e3 := kp 3 hs' e3
     replace e4 := kp 4 hs' e4
     replace e5 := kp 5 hs' e5
     have e28 := congrFun hs' 28
     simp only [Zu, Nat.reduceEqDiff, ↓reduceIte, newPtr, AMem.next_alloc] at e28
     clear hs'
     refine o_norm ?_
     refine t_norm ?_
     refine at_cond rfl rfl e28 (fun hc => by cases hc) (fun h6 => ?_)
     try simp only [Zh] at h6
     refine at_exit rfl ?_
     refine t_exit ?_
     refine t_exit ?_
     refine b_here ?_
     refine t_norm ?_
     exact ⟨k, (by first | exact e0 | (rw [e0]; rfl) | (rw [e0]; simp; done)), (by first | exact e3 | (rw [e3]; rfl) | (rw [e3]; simp; done)), (by first | exact e4 | (rw [e4]; rfl) | (rw [e4]; simp; done)), (by first | exact e5 | (rw [e5]; rfl) | (rw [e5]; simp; done)), (by omega), hlt, (fun h => by omega), hkM, hnxM2, by omega, holdM2, rfl⟩
   ·
    rintro s M3 ds ⟨k, e0, e3, e4, e5, hkl, hlt, hge, hkM, hnxM3, hngM3, holdM3, rfl⟩
    refine at_seq rfl ?_
    refine at_seq rfl ?_
    have hrow8 := hrow0.keep (M' := M3) (by omega) hkM
    have hown8 := hown.keep (M' := M3) (by omega) (fun j _ hj => hkM j hj)
    have hget8 := (hkM zi (by omega)).trans hgetM
    by_cases hv8 : (k : Int) < ms.length
    ·
     have hk8 : k < ms.length := by omega
     obtain ⟨id, off2, all2, own3, hia2, hid2, hget2, hld2⟩ := hrow8.at1 Try.underlying22 (i := _) (by rfl) rfl hk8 ld3 ⟨_, rfl, rfl⟩ .i64
     rw [show (ms.map (Value.int .i64))[k]? = some (.int .i64 ms[k]) from by simp [hk8]] at hld2
     refine at_draw ⟨[[], [], [1], [0, 1, 2], [0, 1, 2, 3], [0, 1, 2, 3, 4], [0, 1, 2, 3, 4], [0, 1, 2, 3, 4, 5, 6], [0, 1, 2, 3, 4, 5, 6, 7], [0, 1, 2, 3, 4], [0, 1, 2, 3, 4], [0, 1, 2, 3, 4, 9, 10], [0, 1, 2, 3, 4, 9, 10, 11], [0, 1, 2, 3, 4, 9, 10, 11, 12], [0, 1, 2, 3, 4, 5, 6, 7, 8, 9, 10, 11, 12, 13], [0, 1, 2, 3, 4, 5, 6, 7, 8, 9, 10, 11, 12, 13, 14]], [0, 1, 2, 3, 4, 5, 6, 7, 8, 9, 10, 11, 12, 13, 14, 15], []⟩ hS rfl rfl (by kernel_rfl) (by kernel_rfl) ?_
     refine d_start ?_
     refine l_op rfl rfl (a_mv e5) rfl ?_ rfl
     refine l_op rfl rfl (a_mv e3) rfl ?_ rfl
     refine l_op rfl rfl (a_len (by simp (disch := omega) only [Zu, Nat.reduceEqDiff, ↓reduceIte, alen_str, hv8, Row.len hrow8 (P := Try.prog) Try.underlying22, newPtr, AMem.next_alloc] <;> rfl)) rfl ?_ rfl
     refine l_op rfl rfl (a_bin (by simp (disch := omega) only [Zu, Nat.reduceEqDiff, ↓reduceIte, Zd, reduceCtorEq, abin_lss, ne_eq, not_false_eq_true, hv8] <;> rfl)) rfl ?_ rfl
     refine l_op rfl rfl (a_mv (by simp only [Zu, Nat.reduceEqDiff, ↓reduceIte] <;> rfl)) rfl ?_ rfl
     refine l_op rfl (w_true (by simp only [Zu, Nat.reduceEqDiff, ↓reduceIte] <;> rfl) (by first | rfl | assumption)) (a_mv e3) rfl ?_ rfl
     refine l_op rfl (w_true (by simp only [Zu, Nat.reduceEqDiff, ↓reduceIte] <;> rfl) (by first | rfl | assumption)) (a_mv e5) rfl ?_ rfl
     refine l_op rfl (w_true (by simp only [Zu, Nat.reduceEqDiff, ↓reduceIte] <;> rfl) (by first | rfl | assumption)) (a_ia (by simp (disch := omega) only [Zu, Nat.reduceEqDiff, ↓reduceIte, hv8, hia, hia2, newPtr, AMem.next_alloc] <;> rfl)) rfl ?_ rfl
     refine l_op rfl (w_true (by simp only [Zu, Nat.reduceEqDiff, ↓reduceIte] <;> rfl) (by first | rfl | assumption)) (a_load (by simp only [Zu, Nat.reduceEqDiff, ↓reduceIte, hv8, hget2, hld2, hget8, hl1, newPtr, AMem.next_alloc] <;> rfl) (by simp (disch := first | (refine Zx ?_; simp only [Zn]; done) | ((try simp only [Zn]); omega)) only [Zg, hv8, hget2, hld2, hget8, hl1, newPtr] <;> rfl) (by simp only [ld3, Zl, hv8, hget2, hld2, hget8, hl1, newPtr, AMem.next_alloc] <;> rfl)) rfl ?_ rfl
     refine l_op rfl (w_true (by simp only [Zu, Nat.reduceEqDiff, ↓reduceIte] <;> rfl) (by first | rfl | assumption)) (a_mv e0) rfl ?_ rfl
     refine l_op rfl (w_true (by simp only [Zu, Nat.reduceEqDiff, ↓reduceIte] <;> rfl) (by first | rfl | assumption)) (a_mv e4) rfl ?_ rfl
     refine l_op rfl (w_true (by simp only [Zu, Nat.reduceEqDiff, ↓reduceIte] <;> rfl) (by first | rfl | assumption)) (a_ia (by simp (disch := omega) only [Zu, Nat.reduceEqDiff, ↓reduceIte, hv8, hia, hia2, newPtr, AMem.next_alloc] <;> rfl)) rfl ?_ rfl
     refine l_op rfl (w_true (by simp only [Zu, Nat.reduceEqDiff, ↓reduceIte] <;> rfl) (by first | rfl | assumption)) (a_fa (by simp only [Zu, Nat.reduceEqDiff, ↓reduceIte, fa53_0, Nat.zero_add, hv8, newPtr, AMem.next_alloc] <;> rfl)) rfl ?_ rfl
     refine l_op rfl (w_true (by simp only [Zu, Nat.reduceEqDiff, ↓reduceIte] <;> rfl) (by first | rfl | assumption)) (a_load (by simp only [Zu, Nat.reduceEqDiff, ↓reduceIte, hv8, hget2, hld2, hget8, hl1, newPtr, AMem.next_alloc] <;> rfl) (by simp (disch := first | (refine Zx ?_; simp only [Zn]; done) | ((try simp only [Zn]); omega)) only [Zg, hv8, hget2, hld2, hget8, hl1, newPtr] <;> rfl) (by simp only [ld3, Zl, hv8, hget2, hld2, hget8, hl1, newPtr, AMem.next_alloc] <;> rfl)) rfl ?_ rfl
     refine l_op rfl (w_true (by simp only [Zu, Nat.reduceEqDiff, ↓reduceIte, Zd, reduceCtorEq] <;> rfl) (by first | rfl | assumption)) (a_bin (by simp (disch := omega) only [Zu, Nat.reduceEqDiff, ↓reduceIte, Zd, reduceCtorEq, abin_eql, abin_aeql, ne_eq, not_false_eq_true, hv8] <;> rfl)) rfl ?_ rfl
     refine l_op rfl rfl (a_pick (by simp only [Zu, Nat.reduceEqDiff, ↓reduceIte, Zd, reduceCtorEq, hv8] <;> rfl) (by simp only [Zu, Nat.reduceEqDiff, ↓reduceIte, Zd, reduceCtorEq, hv8] <;> rfl)) rfl ?_ rfl
     refine l_nil ?_
     refine h_end ?_ (fun s' hs' => ?_)
     · refine again_r rfl ?_
       refine again_r rfl ?_
       refine again_l rfl rfl (a_load (by simp only [Zu, Nat.reduceEqDiff, ↓reduceIte, hv8, hget2, hld2, hget8, hl1, newPtr, AMem.next_alloc] <;> rfl) (by simp (disch := first | (refine Zx ?_; simp only [Zn]; done) | ((try simp only [Zn]); omega)) only [Zg, hv8, hget2, hld2, hget8, hl1, newPtr] <;> rfl) (by simp only [ld3, Zl, hv8, hget2, hld2, hget8, hl1, newPtr, AMem.next_alloc] <;> rfl)) ?_
       refine again_r rfl ?_
       refine again_r rfl ?_
       refine again_r rfl ?_
       refine again_r rfl ?_
       refine again_l rfl rfl (a_load (by simp only [Zu, Nat.reduceEqDiff, ↓reduceIte, hv8, hget2, hld2, hget8, hl1, newPtr, AMem.next_alloc] <;> rfl) (by simp (disch := first | (refine Zx ?_; simp only [Zn]; done) | ((try simp only [Zn]); omega)) only [Zg, hv8, hget2, hld2, hget8, hl1, newPtr] <;> rfl) (by simp only [ld3, Zl, hv8, hget2, hld2, hget8, hl1, newPtr, AMem.next_alloc] <;> rfl)) ?_
       refine again_r rfl ?_
       refine again_r rfl ?_
       refine again_r rfl ?_
       refine again_r rfl ?_
       refine again_r rfl ?_
       refine again_l rfl rfl (a_len (by simp (disch := omega) only [Zu, Nat.reduceEqDiff, ↓reduceIte, alen_str, hv8, Row.len hrow8 (P := Try.prog) Try.underlying22, newPtr, AMem.next_alloc] <;> rfl)) ?_
       refine again_r rfl ?_
       refine again_r rfl ?_
       exact again_nil
     replace e0 := kp 0 hs' e0
     replace e3 := kp 3 hs' e3
     replace e4 := kp 4 hs' e4
     replace e5 := kp 5 hs' e5
     have e46 := congrFun hs' 46
     simp only [Zu, Nat.reduceEqDiff, ↓reduceIte, newPtr, AMem.next_alloc] at e46
     clear hs'
     refine o_norm ?_
     refine t_norm ?_
     refine at_cond rfl rfl e46 (fun h8 => ?_) (fun h8 => ?_)
     ·
      try simp only [Zh] at h8
      refine at_exit rfl ?_
      refine t_exit ?_
      refine b_here ?_
      refine t_norm ?_
      exact ⟨mv, (by first | exact e0 | (rw [e0]; rfl) | (rw [e0]; simp; done)), (by first | exact e3 | (rw [e3]; rfl) | (rw [e3]; simp; done)), (by first | exact e4 | (rw [e4]; rfl) | (rw [e4]; simp; done)), (by rw [hsn]; first | exact hown9 | (rw [hsame hk8 h8]; exact hown8)), hnxM3, by omega, holdM3, rfl⟩
     ·
      try simp only [Zh] at h8
      have hgt : ∀ (h : k < ms.length), f.sid < ms[k] := fun h => by have := hge h; omega
      refine at_skip rfl ?_
      refine t_norm ?_
      refine at_seq rfl ?_
      obtain ⟨⟨v1, hs1, hr1⟩, v2, hs2, hr2⟩ := ints_parts hrow8 hkl
      obtain ⟨nv, M8, hap, hown7, hn7, hf7, hf7'⟩ := app_many sl22 (Own.nil M3 M3.next 1) (Nat.le_refl _) (Row.src hr1) (by omega) (ints_one _) (by simp; omega)
      refine at_region hS rfl (by kernel_rfl) ?_
      refine s_op (a_mv e3) rfl ?_
      refine s_op (a_mv e5) rfl ?_
      refine s_op (a_slice (by simp only [Zu, Nat.reduceEqDiff, ↓reduceIte, e3]; exact hs1 _ _ 48 (by simp only [Zu, Nat.reduceEqDiff, ↓reduceIte, e5]))) rfl ?_
      refine s_op (a_append (by simp only [Zu, Nat.reduceEqDiff, ↓reduceIte]; exact hap)) rfl ?_
      refine s_as ?_
      refine s_end (fun s' hs' => ?_)
      replace e0 := kp 0 hs' e0
      replace e3 := kp 3 hs' e3
      replace e4 := kp 4 hs' e4
      replace e5 := kp 5 hs' e5
      have e6 := congrFun hs' 6
      simp only [Zu, Nat.reduceEqDiff, ↓reduceIte, newPtr, AMem.next_alloc] at e6
      clear hs'
      refine o_norm ?_
      have hnx8 : M.next ≤ M8.next := by omega
      have hold8 : ∀ j, j < M.next → M8.get j = M.get j := fun j hj => by rw [hf7 j (by omega)]; exact holdM3 j hj
      rw [Nat.zero_add, List.nil_append] at hown7
      refine t_norm ?_
      have hget10 := (hold8 zi hid).trans hget
      have hid10 : zi < M8.next := by omega
      obtain ⟨nv2, M9, hap9, hown9, hn9, hf9, hf9'⟩ := app_one (c := [.int .i64 f.sid]) sl22 hown7 (by omega) (by omega) rfl rfl (by decide)
      have hr9 := hr2.keep (M' := M9) (by omega) (fun j hj => by rw [hf9 j hj, hf7 j hj])
      obtain ⟨mv9, M10, hap10, hown10, hn10, hf10, hf10'⟩ := app_many sl22 hown9 (by omega) (Row.src hr9) (by omega) (ints_one _) (by simp)
      refine at_draw ⟨[[], [], [], [1, 2], [1, 2, 3], [1, 2, 3, 4], [1, 2, 3, 4, 5], [0, 1, 2, 3, 4, 5, 6], [], [], [8, 9], [0, 1, 2, 3, 4, 5, 6, 7, 8, 9, 10], [0, 1, 2, 3, 4, 5, 6, 7, 8, 9, 10, 11]], [0, 1, 2, 3, 4, 5, 6, 8, 9, 10], [(7, []), (11, [12])]⟩ hS rfl rfl (by kernel_rfl) (by kernel_rfl) ?_
      refine d_start ?_
      refine l_op rfl rfl (a_mv e6) rfl ?_ rfl
      refine l_op rfl rfl (a_mv e0) rfl ?_ rfl
      refine l_op rfl rfl (a_mv e4) rfl ?_ rfl
      refine l_op rfl rfl (a_ia (by simp (disch := omega) only [Zu, Nat.reduceEqDiff, ↓reduceIte, hia, newPtr, AMem.next_alloc] <;> rfl)) rfl ?_ rfl
      refine l_op rfl rfl (a_fa (by simp only [Zu, Nat.reduceEqDiff, ↓reduceIte, fa53_0, Nat.zero_add, newPtr, AMem.next_alloc] <;> rfl)) rfl ?_ rfl
      refine l_op rfl rfl (a_load (by simp only [Zu, Nat.reduceEqDiff, ↓reduceIte, hget10, hl1, newPtr, AMem.next_alloc] <;> rfl) (by simp (disch := first | (refine Zx ?_; simp only [Zn]; done) | ((try simp only [Zn]); omega)) only [Zg, hget10, hl1, newPtr] <;> rfl) (by simp only [ld3, Zl, hget10, hl1, newPtr, AMem.next_alloc] <;> rfl)) rfl ?_ rfl
      refine l_new rfl rfl (a_bslice (by simp only [Zu, Nat.reduceEqDiff, ↓reduceIte, Zm, Array.toList, newPtr, AMem.next_alloc]; exact abuildSlice_all [_] rfl rfl rfl rfl rfl (by decide) (by decide) rfl (by simp only [List.mem_cons, List.not_mem_nil, or_false, forall_eq_or_imp, forall_eq]; repeat' (first | rfl | apply And.intro)))) rfl ?_ rfl
      refine l_op rfl rfl (a_mv e3) rfl ?_ rfl
      refine l_op rfl rfl (a_mv e5) rfl ?_ rfl
      refine l_op rfl rfl (a_slice (by simp only [Zu, Nat.reduceEqDiff, ↓reduceIte, e3]; exact hs2 _ _ 60 (by simp only [Zu, Nat.reduceEqDiff, ↓reduceIte, e5]))) rfl ?_ rfl
      refine l_nil ?_
      refine h_op ?_ rfl rfl rfl ?_
      · refine again_l rfl rfl (a_slice (by simp only [Zu, Nat.reduceEqDiff, ↓reduceIte, e3]; exact hs2 _ _ 60 (by simp only [Zu, Nat.reduceEqDiff, ↓reduceIte, e5]))) ?_
        refine again_r rfl ?_
        refine again_r rfl ?_
        refine again_f rfl rfl rfl (a_bslice (by simp only [Zu, Nat.reduceEqDiff, ↓reduceIte, Zm, Array.toList, newPtr, AMem.next_alloc]; exact abuildSlice_all [_] rfl rfl rfl rfl rfl (by decide) (by decide) rfl (by simp only [List.mem_cons, List.not_mem_nil, or_false, forall_eq_or_imp, forall_eq]; repeat' (first | rfl | apply And.intro)))) (by simp (disch := first | (refine Zx ?_; simp only [Zn]; done) | ((try simp only [Zn]); omega)) only [Zu, Nat.reduceEqDiff, ↓reduceIte, Zg, newPtr] <;> rfl) ?_
        refine again_l rfl rfl (a_load (by simp only [Zu, Nat.reduceEqDiff, ↓reduceIte, hget10, hl1, newPtr, AMem.next_alloc] <;> rfl) (by simp (disch := first | (refine Zx ?_; simp only [Zn]; done) | ((try simp only [Zn]); omega)) only [Zg, hget10, hl1, newPtr] <;> rfl) (by simp only [ld3, Zl, hget10, hl1, newPtr, AMem.next_alloc] <;> rfl)) ?_
        refine again_r rfl ?_
        refine again_r rfl ?_
        refine again_r rfl ?_
        refine again_r rfl ?_
        refine again_r rfl ?_
        exact again_nil
      refine s_op (a_append (by simp only [Zu, Nat.reduceEqDiff, ↓reduceIte, e6]; exact hap9)) rfl ?_
      refine s_end (fun s' hs' => ?_); subst hs'
      refine l_nil ?_
      refine h_op ?_ rfl rfl rfl ?_
      · refine again_l rfl rfl (a_slice (by simp only [Zu, Nat.reduceEqDiff, ↓reduceIte, e3]; exact hs2 _ _ 60 (by simp only [Zu, Nat.reduceEqDiff, ↓reduceIte, e5]))) ?_
        refine again_r rfl ?_
        refine again_r rfl ?_
        exact again_nil
      refine s_op (a_append (by simp only [Zu, Nat.reduceEqDiff, ↓reduceIte]; exact hap10)) rfl ?_
      refine s_end (fun s' hs' => ?_); subst hs'
      refine l_op rfl rfl (a_as (by simp only [Zu, Nat.reduceEqDiff, ↓reduceIte] <;> rfl)) rfl ?_ rfl
      refine l_nil ?_
      refine h_end ?_ (fun s' hs' => ?_)
      · refine again_r rfl ?_
        exact again_nil
      replace e0 := kp 0 hs' e0
      replace e3 := congrFun hs' 3
      replace e4 := kp 4 hs' e4
      simp only [Zu, Nat.reduceEqDiff, ↓reduceIte, newPtr, AMem.next_alloc] at e3
      clear hs'
      try clear e5 e6
      refine o_norm ?_
      have hnx10 : M.next ≤ M10.next := by omega
      have hold10 : ∀ j, j < M.next → M10.get j = M.get j := fun j hj => by rw [hf10 j (by omega), hf9 j (by omega)]; exact hold8 j hj
      have hown9 : Own M10 M.next 1 mv9 (sidS ((ns.take i).map Nt.sid ++ [f.sid])).length ((sidS ((ns.take i).map Nt.sid ++ [f.sid])).map (.int .i64)) := by
        rw [hput hkl hlt hgt]
        have e1 : (ms.take k ++ [f.sid] ++ ms.drop k).length = k + 1 + (ms.length - k) := by simp; omega
        have e2 : (ms.take k ++ [f.sid] ++ ms.drop k).map (Value.int .i64) = (ms.take k).map (.int .i64) ++ [.int .i64 f.sid] ++ (ms.drop k).map (.int .i64) := by simp
        rw [e1, e2]
        exact hown10.lower (by omega)
      refine b_norm ?_
      refine t_norm ?_
      exact ⟨mv9, (by first | exact e0 | (rw [e0]; rfl) | (rw [e0]; simp; done)), (by first | exact e3 | (rw [e3]; rfl) | (rw [e3]; simp; done)), (by first | exact e4 | (rw [e4]; rfl) | (rw [e4]; simp; done)), (by rw [hsn]; first | exact hown9 | (rw [hsame hk8 h8]; exact hown8)), hnx10, by omega, hold10, rfl⟩
    ·
     refine at_draw ⟨[[], [], [1], [0, 1, 2], [0, 1, 2, 3], [0, 1, 2, 3, 4], [0, 1, 2, 3, 4], [0, 1, 2, 3, 4, 5, 6], [0, 1, 2, 3, 4, 5, 6, 7], [0, 1, 2, 3, 4], [0, 1, 2, 3, 4], [0, 1, 2, 3, 4, 9, 10], [0, 1, 2, 3, 4, 9, 10, 11], [0, 1, 2, 3, 4, 9, 10, 11, 12], [0, 1, 2, 3, 4, 5, 6, 7, 8, 9, 10, 11, 12, 13], [0, 1, 2, 3, 4, 5, 6, 7, 8, 9, 10, 11, 12, 13, 14]], [0, 1, 2, 3, 4, 5, 6, 7, 8, 9, 10, 11, 12, 13, 14, 15], []⟩ hS rfl rfl (by kernel_rfl) (by kernel_rfl) ?_
     refine d_start ?_
     refine l_op rfl rfl (a_mv e5) rfl ?_ rfl
     refine l_op rfl rfl (a_mv e3) rfl ?_ rfl
     refine l_op rfl rfl (a_len (by simp (disch := omega) only [Zu, Nat.reduceEqDiff, ↓reduceIte, alen_str, hv8, Row.len hrow8 (P := Try.prog) Try.underlying22, newPtr, AMem.next_alloc] <;> rfl)) rfl ?_ rfl
     refine l_op rfl rfl (a_bin (by simp (disch := omega) only [Zu, Nat.reduceEqDiff, ↓reduceIte, Zd, reduceCtorEq, abin_lss, ne_eq, not_false_eq_true, hv8] <;> rfl)) rfl ?_ rfl
     refine l_op rfl rfl (a_mv (by simp only [Zu, Nat.reduceEqDiff, ↓reduceIte] <;> rfl)) rfl ?_ rfl
     refine l_leave rfl (w_false (by simp only [Zu, Nat.reduceEqDiff, ↓reduceIte] <;> rfl) (by first | rfl | assumption)) ?_ rfl
     refine l_leave rfl (w_false (by simp only [Zu, Nat.reduceEqDiff, ↓reduceIte] <;> rfl) (by first | rfl | assumption)) ?_ rfl
     refine l_leave rfl (w_false (by simp only [Zu, Nat.reduceEqDiff, ↓reduceIte] <;> rfl) (by first | rfl | assumption)) ?_ rfl
     refine l_leave rfl (w_false (by simp only [Zu, Nat.reduceEqDiff, ↓reduceIte] <;> rfl) (by first | rfl | assumption)) ?_ rfl
     refine l_leave rfl (w_false (by simp only [Zu, Nat.reduceEqDiff, ↓reduceIte] <;> rfl) (by first | rfl | assumption)) ?_ rfl
     refine l_leave rfl (w_false (by simp only [Zu, Nat.reduceEqDiff, ↓reduceIte] <;> rfl) (by first | rfl | assumption)) ?_ rfl
     refine l_leave rfl (w_false (by simp only [Zu, Nat.reduceEqDiff, ↓reduceIte] <;> rfl) (by first | rfl | assumption)) ?_ rfl
     refine l_leave rfl (w_false (by simp only [Zu, Nat.reduceEqDiff, ↓reduceIte] <;> rfl) (by first | rfl | assumption)) ?_ rfl
     refine l_leave rfl (w_false (by simp only [Zu, Nat.reduceEqDiff, ↓reduceIte] <;> rfl) (by first | rfl | assumption)) ?_ rfl
     refine l_leave rfl (w_false (by simp only [Zu, Nat.reduceEqDiff, ↓reduceIte, Zd, reduceCtorEq] <;> rfl) (by first | rfl | assumption)) ?_ rfl
     refine l_op rfl rfl (a_pick (by simp only [Zu, Nat.reduceEqDiff, ↓reduceIte, Zd, reduceCtorEq, hv8] <;> rfl) (by simp only [Zu, Nat.reduceEqDiff, ↓reduceIte, Zd, reduceCtorEq, hv8] <;> rfl)) rfl ?_ rfl
     refine l_nil ?_
     refine h_end ?_ (fun s' hs' => ?_)
     · refine again_r rfl ?_
       refine again_r rfl ?_
       refine again_r rfl ?_
       refine again_l rfl rfl (a_len (by simp (disch := omega) only [Zu, Nat.reduceEqDiff, ↓reduceIte, alen_str, hv8, Row.len hrow8 (P := Try.prog) Try.underlying22, newPtr, AMem.next_alloc] <;> rfl)) ?_
       refine again_r rfl ?_
       refine again_r rfl ?_
       exact again_nil
     replace e0 := kp 0 hs' e0
     replace e3 := kp 3 hs' e3
     replace e4 := kp 4 hs' e4
     replace e5 := kp 5 hs' e5
     have e46 := congrFun hs' 46
     simp only [Zu, Nat.reduceEqDiff, ↓reduceIte, newPtr, AMem.next_alloc] at e46
     clear hs'
     refine o_norm ?_
     refine t_norm ?_
     refine at_cond rfl rfl e46 (fun hc => by cases hc) (fun h8 => ?_)
     try simp only [Zh] at h8
     have hgt : ∀ (h : k < ms.length), f.sid < ms[k] := fun h => by have := hge h; omega
     refine at_skip rfl ?_
     refine t_norm ?_
     refine at_seq rfl ?_
     obtain ⟨⟨v1, hs1, hr1⟩, v2, hs2, hr2⟩ := ints_parts hrow8 hkl
     obtain ⟨nv, M8, hap, hown7, hn7, hf7, hf7'⟩ := app_many sl22 (Own.nil M3 M3.next 1) (Nat.le_refl _) (Row.src hr1) (by omega) (ints_one _) (by simp; omega)
     refine at_region hS rfl (by kernel_rfl) ?_
     refine s_op (a_mv e3) rfl ?_
     refine s_op (a_mv e5) rfl ?_
     refine s_op (a_slice (by simp only [Zu, Nat.reduceEqDiff, ↓reduceIte, e3]; exact hs1 _ _ 48 (by simp only [Zu, Nat.reduceEqDiff, ↓reduceIte, e5]))) rfl ?_
     refine s_op (a_append (by simp only [Zu, Nat.reduceEqDiff, ↓reduceIte]; exact hap)) rfl ?_
     refine s_as ?_
     refine s_end (fun s' hs' => ?_)
     replace e0 := kp 0 hs' e0
     replace e3 := kp 3 hs' e3
     replace e4 := kp 4 hs' e4
     replace e5 := kp 5 hs' e5
     have e6 := congrFun hs' 6
     simp only [Zu, Nat.reduceEqDiff, ↓reduceIte, newPtr, AMem.next_alloc] at e6
     clear hs'
     refine o_norm ?_
     have hnx8 : M.next ≤ M8.next := by omega
     have hold8 : ∀ j, j < M.next → M8.get j = M.get j := fun j hj => by rw [hf7 j (by omega)]; exact holdM3 j hj
     rw [Nat.zero_add, List.nil_append] at hown7
     refine t_norm ?_
     have hget10 := (hold8 zi hid).trans hget
     have hid10 : zi < M8.next := by omega
     obtain ⟨nv2, M9, hap9, hown9, hn9, hf9, hf9'⟩ := app_one (c := [.int .i64 f.sid]) sl22 hown7 (by omega) (by omega) rfl rfl (by decide)
     have hr9 := hr2.keep (M' := M9) (by omega) (fun j hj => by rw [hf9 j hj, hf7 j hj])
     obtain ⟨mv9, M10, hap10, hown10, hn10, hf10, hf10'⟩ := app_many sl22 hown9 (by omega) (Row.src hr9) (by omega) (ints_one _) (by simp)
     refine at_draw ⟨[[], [], [], [1, 2], [1, 2, 3], [1, 2, 3, 4], [1, 2, 3, 4, 5], [0, 1, 2, 3, 4, 5, 6], [], [], [8, 9], [0, 1, 2, 3, 4, 5, 6, 7, 8, 9, 10], [0, 1, 2, 3, 4, 5, 6, 7, 8, 9, 10, 11]], [0, 1, 2, 3, 4, 5, 6, 8, 9, 10], [(7, []), (11, [12])]⟩ hS rfl rfl (by kernel_rfl) (by kernel_rfl) ?_
     refine d_start ?_
     refine l_op rfl rfl (a_mv e6) rfl ?_ rfl
     refine l_op rfl rfl (a_mv e0) rfl ?_ rfl
     refine l_op rfl rfl (a_mv e4) rfl ?_ rfl
     refine l_op rfl rfl (a_ia (by simp (disch := omega) only [Zu, Nat.reduceEqDiff, ↓reduceIte, hia, newPtr, AMem.next_alloc] <;> rfl)) rfl ?_ rfl
     refine l_op rfl rfl (a_fa (by simp only [Zu, Nat.reduceEqDiff, ↓reduceIte, fa53_0, Nat.zero_add, newPtr, AMem.next_alloc] <;> rfl)) rfl ?_ rfl
     refine l_op rfl rfl (a_load (by simp only [Zu, Nat.reduceEqDiff, ↓reduceIte, hget10, hl1, newPtr, AMem.next_alloc] <;> rfl) (by simp (disch := first | (refine Zx ?_; simp only [Zn]; done) | ((try simp only [Zn]); omega)) only [Zg, hget10, hl1, newPtr] <;> rfl) (by simp only [ld3, Zl, hget10, hl1, newPtr, AMem.next_alloc] <;> rfl)) rfl ?_ rfl
     refine l_new rfl rfl (a_bslice (by simp only [Zu, Nat.reduceEqDiff, ↓reduceIte, Zm, Array.toList, newPtr, AMem.next_alloc]; exact abuildSlice_all [_] rfl rfl rfl rfl rfl (by decide) (by decide) rfl (by simp only [List.mem_cons, List.not_mem_nil, or_false, forall_eq_or_imp, forall_eq]; repeat' (first | rfl | apply And.intro)))) rfl ?_ rfl
     refine l_op rfl rfl (a_mv e3) rfl ?_ rfl
     refine l_op rfl rfl (a_mv e5) rfl ?_ rfl
     refine l_op rfl rfl (a_slice (by simp only [Zu, Nat.reduceEqDiff, ↓reduceIte, e3]; exact hs2 _ _ 60 (by simp only [Zu, Nat.reduceEqDiff, ↓reduceIte, e5]))) rfl ?_ rfl
     refine l_nil ?_
     refine h_op ?_ rfl rfl rfl ?_
     · refine again_l rfl rfl (a_slice (by simp only [Zu, Nat.reduceEqDiff, ↓reduceIte, e3]; exact hs2 _ _ 60 (by simp only [Zu, Nat.reduceEqDiff, ↓reduceIte, e5]))) ?_
       refine again_r rfl ?_
       refine again_r rfl ?_
       refine again_f rfl rfl rfl (a_bslice (by simp only [Zu, Nat.reduceEqDiff, ↓reduceIte, Zm, Array.toList, newPtr, AMem.next_alloc]; exact abuildSlice_all [_] rfl rfl rfl rfl rfl (by decide) (by decide) rfl (by simp only [List.mem_cons, List.not_mem_nil, or_false, forall_eq_or_imp, forall_eq]; repeat' (first | rfl | apply And.intro)))) (by simp (disch := first | (refine Zx ?_; simp only [Zn]; done) | ((try simp only [Zn]); omega)) only [Zu, Nat.reduceEqDiff, ↓reduceIte, Zg, newPtr] <;> rfl) ?_
       refine again_l rfl rfl (a_load (by simp only [Zu, Nat.reduceEqDiff, ↓reduceIte, hget10, hl1, newPtr, AMem.next_alloc] <;> rfl) (by simp (disch := first | (refine Zx ?_; simp only [Zn]; done) | ((try simp only [Zn]); omega)) only [Zg, hget10, hl1, newPtr] <;> rfl) (by simp only [ld3, Zl, hget10, hl1, newPtr, AMem.next_alloc] <;> rfl)) ?_
       refine again_r rfl ?_
       refine again_r rfl ?_
       refine again_r rfl ?_
       refine again_r rfl ?_
       refine again_r rfl ?_
       exact again_nil
     refine s_op (a_append (by simp only [Zu, Nat.reduceEqDiff, ↓reduceIte, e6]; exact hap9)) rfl ?_
     refine s_end (fun s' hs' => ?_); subst hs'
     refine l_nil ?_
     refine h_op ?_ rfl rfl rfl ?_
     · refine again_l rfl rfl (a_slice (by simp only [Zu, Nat.reduceEqDiff, ↓reduceIte, e3]; exact hs2 _ _ 60 (by simp only [Zu, Nat.reduceEqDiff, ↓reduceIte, e5]))) ?_
       refine again_r rfl ?_
       refine again_r rfl ?_
       exact again_nil
     refine s_op (a_append (by simp only [Zu, Nat.reduceEqDiff, ↓reduceIte]; exact hap10)) rfl ?_
     refine s_end (fun s' hs' => ?_); subst hs'
     refine l_op rfl rfl (a_as (by simp only [Zu, Nat.reduceEqDiff, ↓reduceIte] <;> rfl)) rfl ?_ rfl
     refine l_nil ?_
     refine h_end ?_ (fun s' hs' => ?_)
     · refine again_r rfl ?_
       exact again_nil
     replace e0 := kp 0 hs' e0
     replace e3 := congrFun hs' 3
     replace e4 := kp 4 hs' e4
     simp only [Zu, Nat.reduceEqDiff, ↓reduceIte, newPtr, AMem.next_alloc] at e3
     clear hs'
     try clear e5 e6
     refine o_norm ?_
     have hnx10 : M.next ≤ M10.next := by omega
     have hold10 : ∀ j, j < M.next → M10.get j = M.get j := fun j hj => by rw [hf10 j (by omega), hf9 j (by omega)]; exact hold8 j hj
     have hown9 : Own M10 M.next 1 mv9 (sidS ((ns.take i).map Nt.sid ++ [f.sid])).length ((sidS ((ns.take i).map Nt.sid ++ [f.sid])).map (.int .i64)) := by
       rw [hput hkl hlt hgt]
       have e1 : (ms.take k ++ [f.sid] ++ ms.drop k).length = k + 1 + (ms.length - k) := by simp; omega
       have e2 : (ms.take k ++ [f.sid] ++ ms.drop k).map (Value.int .i64) = (ms.take k).map (.int .i64) ++ [.int .i64 f.sid] ++ (ms.drop k).map (.int .i64) := by simp
       rw [e1, e2]
       exact hown10.lower (by omega)
     refine b_norm ?_
     refine t_norm ?_
     exact ⟨mv9, (by first | exact e0 | (rw [e0]; rfl) | (rw [e0]; simp; done)), (by first | exact e3 | (rw [e3]; rfl) | (rw [e3]; simp; done)), (by first | exact e4 | (rw [e4]; rfl) | (rw [e4]; simp; done)), (by rw [hsn]; first | exact hown9 | (rw [hsame hk8 h8]; exact hown8)), hnx10, by omega, hold10, rfl⟩
  ·
   rintro s M4 ds ⟨mv2, e0, e3, e4, hown4, hnxM4, hngM4, holdM4, rfl⟩
   refine at_region hS rfl (by kernel_rfl) ?_
   refine s_op (a_mv e4) rfl ?_
   refine s_op (a_bin (by simp (disch := ((try simp only [List.length_append, List.length_cons, List.length_nil]); omega)) only [Zu, Nat.reduceEqDiff, ↓reduceIte, Zd, reduceCtorEq, abin_add, abin_aadd, wrap_i64, wrap_u32, wrap_u8, wrap_u64, wrap_i32, wrap_u16, ne_eq, not_false_eq_true] <;> rfl)) rfl ?_
   refine s_as ?_
   refine s_end (fun s' hs' => ?_)
   replace e0 := kp 0 hs' e0
   replace e3 := kp 3 hs' e3
   replace e4 := congrFun hs' 4
   simp only [Zu, Nat.reduceEqDiff, ↓reduceIte, newPtr, AMem.next_alloc] at e4
   clear hs'
   refine o_norm ?_
   refine t_norm ?_
   exact ⟨ns.length - (i + 1), by omega, i + 1, mv2, (by first | exact e0 | (rw [e0]; rfl) | (rw [e0]; simp; done)), (by first | exact e3 | (rw [e3]; rfl) | (rw [e3]; simp; done)), (by first | exact e4 | (rw [e4]; rfl) | (rw [e4]; simp; done)), (by omega), hown4, rfl, hnxM4, by omega, holdM4, rfl⟩
 ·
  try simp only [Zh] at h3
  have hie : i = ns.length := by omega
  rw [hie, List.take_length] at hown
  refine at_exit rfl ?_
  refine t_exit ?_
  refine t_exit ?_
  refine b_here ?_
  refine t_norm ?_
  refine at_seq rfl ?_
  refine at_region hS rfl (by kernel_rfl) ?_
  refine s_op (a_mv e3) rfl ?_
  refine s_as ?_
  refine s_end (fun s' hs' => ?_)
  have e2 := congrFun hs' 2
  simp only [Zu, Nat.reduceEqDiff, ↓reduceIte, newPtr, AMem.next_alloc] at e2
  clear hs'
  try clear e3
  refine o_norm ?_
  refine t_norm ?_
  refine at_ret rfl ?_
  refine bq_ret rfl (ars_cons (ar_tmp e2) ars_nil) ?_
  exact ⟨_, _, hK _ _ hnxM1 holdM1 hown, Canon.refl hnxM1⟩
end Go.Proofs.Ytdkdkpiemigfkaa
set_option linter.unusedVariables false
set_option linter.unusedSimpArgs false
set_option maxRecDepth 8000
namespace Go.Proofs.Ytdkdkpiemigfkaa
open Go Go.Proofs
def rstB (r : SG) : Bool := !decide (abits .and .i64 r.2.1.flags 4 = 0)
def rstL (l : List SG) : Nat := (l.filter rstB).length
def resetsF (os : List Ou) : Int := (rstL (segsF os) : Nat)
theorem rstL_app (a b : List SG) : rstL (a ++ b) = rstL a + rstL b := by simp [rstL]
theorem rstL_one (r : SG) : rstL [r] = if rstB r then 1 else 0 := by unfold rstL; cases h : rstB r <;> simp [h]
theorem rstL_le (l : List SG) : rstL l ≤ l.length := List.length_filter_le _ _
theorem segsL_le (fs : List Fr) : (segsL fs).length ≤ fs.length := List.length_filterMap_le _ _
def datO (os : List Ou) : Prop := ∀ f ∈ os.flatMap Ou.frames, f.data.length ≤ 100000000
def sp25 : ASpec := fun args M K => ∃ (lv : Value) (os : List Ou), args = [lv] ∧ OusR M lv os ∧ fewO os ∧ datO os ∧ K (.ret (.int .i64 (resetsF os))) M
noncomputable def S25 : FuncId → ASpec := tab [(31, sp31), (34, sp34)]
theorem S25_31 : S25 31 = sp31 := rfl
theorem S25_34 : S25 34 = sp34 := rfl
theorem S25_ok : ∀ f, Sound Try.prog f (S25 f) := tab_sound _ (by simp [f31_ok, f34_ok])
set_option maxHeartbeats 1000000 in
theorem f25_ok : Sound Try.prog 25 sp25 := by
 refine Sound.of_awp (c := bodyOf Try.f25) Try.func25 rfl rfl rfl ?_
 rintro args M K ⟨lv, os, rfl, hos, hb, hdat, hK⟩
 refine ⟨Nat.le_of_ble_eq_true rfl, ?_⟩
 have hS := S25_ok
 have e0 : entry [lv] 0 = lv := rfl
 have hst57 : ∀ h k : Segh, astore Try.prog 57 h.cells 0 (.agg k.cells.toArray) = some k.cells := st57
 have hst39 : ∀ h k : Tup, astore Try.prog 39 h.cells 0 (.agg k.cells.toArray) = some k.cells := st39
 have hz57 : azero Try.prog 57 = some seg0.cells := z57
 have hz39 : azero Try.prog 39 = some tup0.cells := z39
 unfold resetsF segsF at hK
 refine at_seq rfl ?_
 refine at_region hS rfl (by kernel_rfl) ?_
 refine s_op (a_as (by simp only [ev_const] <;> rfl)) rfl ?_
 refine s_end (fun s' hs' => ?_)
 replace e0 := kp 0 hs' e0
 clear hs'
 refine o_norm ?_
 refine t_norm ?_
 refine at_seq rfl ?_
 refine at_region hS rfl (by kernel_rfl) ?_
 refine s_op (a_as (by simp only [ev_const] <;> rfl)) rfl ?_
 refine s_end (fun s' hs' => ?_)
 replace e0 := kp 0 hs' e0
 have e3 := congrFun hs' 3
 simp only [Zu, Nat.reduceEqDiff, ↓reduceIte, newPtr, AMem.next_alloc] at e3
 clear hs'
 refine o_norm ?_
 refine t_norm ?_
 refine at_seq rfl ?_
 refine at_region hS rfl (by kernel_rfl) ?_
 refine s_op (a_mv e0) rfl ?_
 refine s_call (by simp only [Zu, Nat.reduceEqDiff, ↓reduceIte, newPtr, AMem.next_alloc] <;> rfl) (by simp only [Zu, Nat.reduceEqDiff, ↓reduceIte, Zm, newPtr, AMem.next_alloc] <;> rfl) ?_
 rw [S25_31]; refine ⟨lv, os, rfl, hos, hb, ?_⟩; intro fv MF hn2 ho2 hown2
 show EA _ _ _ _ _ _
 refine s_as ?_
 refine s_end (fun s' hs' => ?_)
 replace e3 := kp 3 hs' e3
 have e4 := congrFun hs' 4
 simp only [Zu, Nat.reduceEqDiff, ↓reduceIte, newPtr, AMem.next_alloc] at e4
 clear hs'
 try clear e0
 refine o_norm ?_
 have hfs : FrsR MF fv (os.flatMap Ou.frames) := hown2.row
 have hb2 := hb.2.1
 unfold datO at hdat
 generalize os.flatMap Ou.frames = fs at *
 refine t_norm ?_
 refine at_seq rfl ?_
 refine at_seq rfl ?_
 refine at_region hS rfl (by kernel_rfl) ?_
 refine s_op (a_as (by simp only [ev_const] <;> rfl)) rfl ?_
 refine s_end (fun s' hs' => ?_)
 replace e3 := kp 3 hs' e3
 replace e4 := kp 4 hs' e4
 have e5 := congrFun hs' 5
 simp only [Zu, Nat.reduceEqDiff, ↓reduceIte, newPtr, AMem.next_alloc] at e5
 clear hs'
 refine o_norm ?_
 refine t_norm ?_
 refine at_block rfl ?_
 refine at_loop rfl (fun km s ML ds => ∃ (i : Nat), s 3 = .int .i64 (rstL (segsL (fs.take i)) : Nat) ∧ s 4 = fv ∧ s 5 = .int .i64 i ∧ i ≤ fs.length ∧ (∀ j, j < MF.next → ML.get j = MF.get j) ∧ km = fs.length - i ∧ M.next ≤ ML.next ∧ MF.next ≤ ML.next ∧ (∀ j, j < M.next → ML.get j = M.get j) ∧ ds = []) (fs.length - (0)) ⟨0, (by first | exact e3 | (rw [e3]; rfl) | (simpa using e3)), (by first | exact e4 | (rw [e4]; rfl) | (simpa using e4)), (by first | exact e5 | (rw [e5]; rfl) | (simpa using e5)), (by omega), (fun _ _ => rfl), rfl, hn2, by omega, ho2, rfl⟩ ?_
 clear e3 e4 e5
 rintro km s M1 ds ⟨i, e3, e4, e5, hi, hk2, hk, hnxM1, hngM1, holdM1, rfl⟩
 refine at_seq rfl ?_
 refine at_seq rfl ?_
 have hfs' := hfs.keep (M' := M1) (by omega) hk2
 refine at_region hS rfl (by kernel_rfl) ?_
 refine s_op (a_mv e5) rfl ?_
 refine s_op (a_mv e4) rfl ?_
 refine s_op (a_len (by simp (disch := omega) only [Zu, Nat.reduceEqDiff, ↓reduceIte, alen_str, FrsR.len hfs', newPtr, AMem.next_alloc] <;> rfl)) rfl ?_
 refine s_op (a_bin (by simp (disch := omega) only [Zu, Nat.reduceEqDiff, ↓reduceIte, Zd, reduceCtorEq, abin_lss, ne_eq, not_false_eq_true] <;> rfl)) rfl ?_
 refine s_end (fun s' hs' => ?_)
 replace e3 := kp 3 hs' e3
 replace e4 := kp 4 hs' e4
 replace e5 := kp 5 hs' e5
 have e15 := congrFun hs' 15
 simp only [Zu, Nat.reduceEqDiff, ↓reduceIte, newPtr, AMem.next_alloc] at e15
 clear hs'
 refine o_norm ?_
 refine t_norm ?_
 refine at_cond rfl rfl e15 (fun h4 => ?_) (fun h4 => ?_)
 ·
  try simp only [Zh] at h4
  refine at_skip rfl ?_
  refine t_norm ?_
  refine at_seq rfl ?_
  refine t_join (I := fun s MJ ds => s 3 = .int .i64 (rstL (segsL (fs.take (i + 1))) : Nat) ∧ s 4 = fv ∧ s 5 = .int .i64 i ∧ (∀ j, j < MF.next → MJ.get j = MF.get j) ∧ M.next ≤ MJ.next ∧ M1.next ≤ MJ.next ∧ (∀ j, j < M.next → MJ.get j = M.get j) ∧ ds = []) ?_ ?_
  ·
   refine at_block rfl ?_
   refine at_seq rfl ?_
   have hil : i < fs.length := by omega
   obtain ⟨f, hfi⟩ : ∃ f, fs[i]? = some f := ⟨_, List.getElem?_eq_getElem hil⟩
   have hfd := hdat f (List.mem_of_getElem? hfi)
   obtain ⟨id, off, all, own, hia, hid, hget, hl1, hl2, hl3⟩ := hfs'.at hfi .i64
   have hcnt := rstL_le (segsL (fs.take i))
   have hcnt2 := segsL_le (fs.take i)
   have htl : (fs.take i).length ≤ i := List.length_take_le _ _
   by_cases hsr : ∃ r, segGet f.data = some r
   ·
    obtain ⟨⟨t, h, b⟩, hr⟩ := hsr
    refine at_region hS rfl (by kernel_rfl) ?_
    refine s_op (a_mv e4) rfl ?_
    refine s_op (a_mv e5) rfl ?_
    refine s_op (a_ia (by simp (disch := omega) only [Zu, Nat.reduceEqDiff, ↓reduceIte, hia, retSG, hst57, hst39, newPtr, AMem.next_alloc] <;> rfl)) rfl ?_
    refine s_op (a_fa (by simp only [Zu, Nat.reduceEqDiff, ↓reduceIte, fa34_1, Nat.zero_add, retSG, hst57, hst39, newPtr, AMem.next_alloc] <;> rfl)) rfl ?_
    refine s_op (a_load (by simp only [Zu, Nat.reduceEqDiff, ↓reduceIte, hget, hl2, retSG, hst57, hst39, newPtr, AMem.next_alloc] <;> rfl) (by simp (disch := first | (refine Zx ?_; simp only [Zn]; done) | ((try simp only [Zn]); omega)) only [Zg, hget, hl2, retSG, hst57, hst39, newPtr] <;> rfl) (by simp only [ld9, Zl, hget, hl2, retSG, hst57, hst39, newPtr, AMem.next_alloc] <;> rfl)) rfl ?_
    refine s_call (by simp only [Zu, Nat.reduceEqDiff, ↓reduceIte, retSG, hst57, hst39, newPtr, AMem.next_alloc] <;> rfl) (by simp only [Zu, Nat.reduceEqDiff, ↓reduceIte, Zm, retSG, hst57, hst39, newPtr, AMem.next_alloc] <;> rfl) ?_
    rw [S25_34]; refine ⟨_, rfl, hfd, ?_⟩; rw [hr]
    show EA _ _ _ _ _ _
    refine s_mv ?_
    refine s_op (a_ext (by simp only [Zu, Nat.reduceEqDiff, ↓reduceIte, retSG, hst57, hst39, newPtr, AMem.next_alloc] <;> rfl) (by first | exact ext4_0 | exact ext3_0 | exact ext2_0 | rfl)) rfl ?_
    refine s_op (a_ext (by simp only [Zu, Nat.reduceEqDiff, ↓reduceIte, retSG, hst57, hst39, newPtr, AMem.next_alloc] <;> rfl) (by first | exact ext4_1 | exact ext3_1 | exact ext2_1 | rfl)) rfl ?_
    refine s_op (a_ext (by simp only [Zu, Nat.reduceEqDiff, ↓reduceIte, retSG, hst57, hst39, newPtr, AMem.next_alloc] <;> rfl) (by first | exact ext4_2 | exact ext3_2 | exact ext2_2 | rfl)) rfl ?_
    refine s_op (a_ext (by simp only [Zu, Nat.reduceEqDiff, ↓reduceIte, retSG, hst57, hst39, newPtr, AMem.next_alloc] <;> rfl) (by first | exact ext4_3 | exact ext3_3 | exact ext2_3 | rfl)) rfl ?_
    refine s_op (a_alloc hz39) rfl ?_
    refine s_op (a_alloc hz57) rfl ?_
    refine s_op (a_store (by simp only [Zu, Nat.reduceEqDiff, ↓reduceIte, hget, retSG, hst57, hst39, newPtr, AMem.next_alloc] <;> rfl) (by simp (disch := first | (refine Zx ?_; simp only [Zn]; done) | ((try simp only [Zn]); omega)) only [Zg, hget, retSG, hst57, hst39, newPtr] <;> rfl) (by simp only [Zu, Nat.reduceEqDiff, ↓reduceIte, hget, retSG, hst57, hst39, newPtr, AMem.next_alloc] <;> rfl) (by simp only [hget, retSG, hst57, hst39, newPtr, AMem.next_alloc] <;> rfl)) rfl ?_
    refine s_op (a_store (by simp only [Zu, Nat.reduceEqDiff, ↓reduceIte, hget, retSG, hst57, hst39, newPtr, AMem.next_alloc] <;> rfl) (by simp (disch := first | (refine Zx ?_; simp only [Zn]; done) | ((try simp only [Zn]); omega)) only [Zg, hget, retSG, hst57, hst39, newPtr] <;> rfl) (by simp only [Zu, Nat.reduceEqDiff, ↓reduceIte, hget, retSG, hst57, hst39, newPtr, AMem.next_alloc] <;> rfl) (by simp only [hget, retSG, hst57, hst39, newPtr, AMem.next_alloc] <;> rfl)) rfl ?_
    refine s_as ?_
    refine s_as ?_
    refine s_end (fun s' hs' => ?_)
    replace e3 := kp 3 hs' e3
    replace e4 := kp 4 hs' e4
    replace e5 := kp 5 hs' e5
    have e7 := congrFun hs' 7
    have e9 := congrFun hs' 9
    simp only [Zu, Nat.reduceEqDiff, ↓reduceIte, newPtr, AMem.next_alloc] at e7 e9
    clear hs'
    refine o_norm ?_
    refine q_mem (fun M2 hEM2 => ?_)
    have hnM2 := congrArg AMem.next hEM2; simp only [Zn, Nat.add_assoc, Nat.reduceAdd] at hnM2
    have hnxM2 : M.next ≤ M2.next := by have := hnxM1; omega
    have holdM2 : ∀ j, j < M.next → M2.get j = M.get j := fun j hj => by have := hnxM1; rw [hEM2]; simp (disch := first | (refine Zx ?_; simp only [Zn]; done) | ((try simp only [Zn]); omega)) only [Zg]; exact holdM1 j hj
    have hcM2 : ∀ j, j < M1.next → M2.get j = M1.get j := fun j hj => by rw [hEM2]; simp (disch := first | (refine Zx ?_; simp only [Zn]; done) | ((try simp only [Zn]); omega)) only [Zg]
    have gM2_0 := congrArg (fun m => AMem.get m M1.next) hEM2; try simp (disch := first | (refine Zx ?_; simp only [Zn]; done) | ((try simp only [Zn]); omega)) only [Zg, Nat.add_assoc, Nat.reduceAdd] at gM2_0
    have gM2_1 := congrArg (fun m => AMem.get m (M1.next + 1)) hEM2; try simp (disch := first | (refine Zx ?_; simp only [Zn]; done) | ((try simp only [Zn]); omega)) only [Zg, Nat.add_assoc, Nat.reduceAdd] at gM2_1
    clear hEM2
    have hk5 : ∀ j, j < MF.next → M2.get j = MF.get j := fun j hj => by rw [hcM2 j (by omega), hk2 j hj]
    refine t_norm ?_
    refine at_seq rfl ?_
    refine at_region hS rfl (by kernel_rfl) ?_
    refine s_op (a_mv e9) rfl ?_
    refine s_mv ?_
    refine s_tk ?_
    refine s_op (a_fa (by simp only [Zu, Nat.reduceEqDiff, ↓reduceIte, fa57_4, Nat.zero_add, newPtr, AMem.next_alloc, e7] <;> rfl)) rfl ?_
    refine s_tk ?_
    refine s_op (a_load (by simp only [Zu, Nat.reduceEqDiff, ↓reduceIte, Nat.zero_add, ld3, sgc_4, newPtr, AMem.next_alloc, gM2_0, gM2_1] <;> rfl) (by simp (disch := first | (refine Zx ?_; simp only [Zn]; done) | ((try simp only [Zn]); omega)) only [Zg, Nat.zero_add, ld3, sgc_4, newPtr, gM2_0, gM2_1] <;> rfl) (by simp only [ld3, Zl, Nat.zero_add, sgc_4, newPtr, AMem.next_alloc, gM2_0, gM2_1] <;> rfl)) rfl ?_
    refine s_tk ?_
    refine s_op (a_bin (by simp (disch := omega) only [Zu, Nat.reduceEqDiff, ↓reduceIte, Zd, reduceCtorEq, abin_and, and_255, and_15, and_65535, and_8191, ne_eq, not_false_eq_true, Nat.zero_add] <;> rfl)) rfl ?_
    refine s_tk ?_
    refine s_op (a_bin (by simp (disch := omega) only [Zu, Nat.reduceEqDiff, ↓reduceIte, Zd, reduceCtorEq, abin_neq, abin_aneq, ne_eq, not_false_eq_true, Nat.zero_add] <;> rfl)) rfl ?_
    refine s_op (a_pick (by simp only [Zu, Nat.reduceEqDiff, ↓reduceIte, Zd, reduceCtorEq, Nat.zero_add] <;> rfl) (by simp only [Zu, Nat.reduceEqDiff, ↓reduceIte, Zd, reduceCtorEq, Nat.zero_add] <;> rfl)) rfl ?_
    refine s_end (fun s' hs' => ?_)
    replace e3 := kp 3 hs' e3
    replace e4 := kp 4 hs' e4
    replace e5 := kp 5 hs' e5
    have e35 := congrFun hs' 35
    simp only [Zu, Nat.reduceEqDiff, ↓reduceIte, newPtr, AMem.next_alloc] at e35
    clear hs'
    try clear e7 e9
    refine o_norm ?_
    refine t_norm ?_
    refine at_cond rfl rfl e35 (fun h7 => ?_) (fun h7 => ?_)
    ·
     try simp only [Zh] at h7
     refine at_region hS rfl (by kernel_rfl) ?_
     refine s_op (a_mv e3) rfl ?_
     refine s_op (a_bin (by simp (disch := ((try simp only [List.length_append, List.length_cons, List.length_nil]); omega)) only [Zu, Nat.reduceEqDiff, ↓reduceIte, Zd, reduceCtorEq, abin_add, abin_aadd, wrap_i64, wrap_u32, wrap_u8, wrap_u64, wrap_i32, wrap_u16, ne_eq, not_false_eq_true] <;> rfl)) rfl ?_
     refine s_as ?_
     refine s_end (fun s' hs' => ?_)
     replace e3 := congrFun hs' 3
     replace e4 := kp 4 hs' e4
     replace e5 := kp 5 hs' e5
     simp only [Zu, Nat.reduceEqDiff, ↓reduceIte, newPtr, AMem.next_alloc] at e3
     clear hs'
     refine o_norm ?_
     refine b_norm ?_
     refine t_norm ?_
     exact ⟨(by rw [take_snocO hfi, segsL_app, segsL_one, hr, rstL_app]; first | (rw [Option.toList_some, rstL_one, if_pos (by simp [rstB, h7])]; exact e3) | (rw [Option.toList_some, rstL_one, if_neg (by simp [rstB, h7])]; exact e3) | exact e3), (by first | exact e4 | (rw [e4]; rfl) | (rw [e4]; simp; done)), (by first | exact e5 | (rw [e5]; rfl) | (rw [e5]; simp; done)), hk5, hnxM2, by omega, holdM2, rfl⟩
    ·
     try simp only [Zh] at h7
     refine at_skip rfl ?_
     refine b_norm ?_
     refine t_norm ?_
     exact ⟨(by rw [take_snocO hfi, segsL_app, segsL_one, hr, rstL_app]; first | (rw [Option.toList_some, rstL_one, if_pos (by simp [rstB, h7])]; exact e3) | (rw [Option.toList_some, rstL_one, if_neg (by simp [rstB, h7])]; exact e3) | exact e3), (by first | exact e4 | (rw [e4]; rfl) | (rw [e4]; simp; done)), (by first | exact e5 | (rw [e5]; rfl) | (rw [e5]; simp; done)), hk5, hnxM2, by omega, holdM2, rfl⟩
   ·
    have hr : segGet f.data = none := by cases hq : segGet f.data with | none => rfl | some r => exact absurd ⟨r, hq⟩ hsr
    refine at_region hS rfl (by kernel_rfl) ?_
    refine s_op (a_mv e4) rfl ?_
    refine s_op (a_mv e5) rfl ?_
    refine s_op (a_ia (by simp (disch := omega) only [Zu, Nat.reduceEqDiff, ↓reduceIte, hia, retSG, hst57, hst39, newPtr, AMem.next_alloc] <;> rfl)) rfl ?_
    refine s_op (a_fa (by simp only [Zu, Nat.reduceEqDiff, ↓reduceIte, fa34_1, Nat.zero_add, retSG, hst57, hst39, newPtr, AMem.next_alloc] <;> rfl)) rfl ?_
    refine s_op (a_load (by simp only [Zu, Nat.reduceEqDiff, ↓reduceIte, hget, hl2, retSG, hst57, hst39, newPtr, AMem.next_alloc] <;> rfl) (by simp (disch := first | (refine Zx ?_; simp only [Zn]; done) | ((try simp only [Zn]); omega)) only [Zg, hget, hl2, retSG, hst57, hst39, newPtr] <;> rfl) (by simp only [ld9, Zl, hget, hl2, retSG, hst57, hst39, newPtr, AMem.next_alloc] <;> rfl)) rfl ?_
    refine s_call (by simp only [Zu, Nat.reduceEqDiff, ↓reduceIte, retSG, hst57, hst39, newPtr, AMem.next_alloc] <;> rfl) (by simp only [Zu, Nat.reduceEqDiff, ↓reduceIte, Zm, retSG, hst57, hst39, newPtr, AMem.next_alloc] <;> rfl) ?_
    rw [S25_34]; refine ⟨_, rfl, hfd, ?_⟩; rw [hr]
    show EA _ _ _ _ _ _
    refine s_mv ?_
    refine s_op (a_ext (by simp only [Zu, Nat.reduceEqDiff, ↓reduceIte, retSG, hst57, hst39, newPtr, AMem.next_alloc] <;> rfl) (by first | exact ext4_0 | exact ext3_0 | exact ext2_0 | rfl)) rfl ?_
    refine s_op (a_ext (by simp only [Zu, Nat.reduceEqDiff, ↓reduceIte, retSG, hst57, hst39, newPtr, AMem.next_alloc] <;> rfl) (by first | exact ext4_1 | exact ext3_1 | exact ext2_1 | rfl)) rfl ?_
    refine s_op (a_ext (by simp only [Zu, Nat.reduceEqDiff, ↓reduceIte, retSG, hst57, hst39, newPtr, AMem.next_alloc] <;> rfl) (by first | exact ext4_2 | exact ext3_2 | exact ext2_2 | rfl)) rfl ?_
    refine s_op (a_ext (by simp only [Zu, Nat.reduceEqDiff, ↓reduceIte, retSG, hst57, hst39, newPtr, AMem.next_alloc] <;> rfl) (by first | exact ext4_3 | exact ext3_3 | exact ext2_3 | rfl)) rfl ?_
    refine s_op (a_alloc hz39) rfl ?_
    refine s_op (a_alloc hz57) rfl ?_
    refine s_op (a_store (by simp only [Zu, Nat.reduceEqDiff, ↓reduceIte, hget, retSG, hst57, hst39, newPtr, AMem.next_alloc] <;> rfl) (by simp (disch := first | (refine Zx ?_; simp only [Zn]; done) | ((try simp only [Zn]); omega)) only [Zg, hget, retSG, hst57, hst39, newPtr] <;> rfl) (by simp only [Zu, Nat.reduceEqDiff, ↓reduceIte, hget, retSG, hst57, hst39, newPtr, AMem.next_alloc] <;> rfl) (by simp only [hget, retSG, hst57, hst39, newPtr, AMem.next_alloc] <;> rfl)) rfl ?_
    refine s_op (a_store (by simp only [Zu, Nat.reduceEqDiff, ↓reduceIte, hget, retSG, hst57, hst39, newPtr, AMem.next_alloc] <;> rfl) (by simp (disch := first | (refine Zx ?_; simp only [Zn]; done) | ((try simp only [Zn]); omega)) only [Zg, hget, retSG, hst57, hst39, newPtr] <;> rfl) (by simp only [Zu, Nat.reduceEqDiff, ↓reduceIte, hget, retSG, hst57, hst39, newPtr, AMem.next_alloc] <;> rfl) (by simp only [hget, retSG, hst57, hst39, newPtr, AMem.next_alloc] <;> rfl)) rfl ?_
    refine s_as ?_
    refine s_as ?_
    refine s_end (fun s' hs' => ?_)
    replace e3 := kp 3 hs' e3
    replace e4 := kp 4 hs' e4
    replace e5 := kp 5 hs' e5
    have e7 := congrFun hs' 7
    have e9 := congrFun hs' 9
    simp only [Zu, Nat.reduceEqDiff, ↓reduceIte, newPtr, AMem.next_alloc] at e7 e9
    clear hs'
    refine o_norm ?_
    refine q_mem (fun M3 hEM3 => ?_)
    have hnM3 := congrArg AMem.next hEM3; simp only [Zn, Nat.add_assoc, Nat.reduceAdd] at hnM3
    have hnxM3 : M.next ≤ M3.next := by have := hnxM1; omega
    have holdM3 : ∀ j, j < M.next → M3.get j = M.get j := fun j hj => by have := hnxM1; rw [hEM3]; simp (disch := first | (refine Zx ?_; simp only [Zn]; done) | ((try simp only [Zn]); omega)) only [Zg]; exact holdM1 j hj
    have hcM3 : ∀ j, j < M1.next → M3.get j = M1.get j := fun j hj => by rw [hEM3]; simp (disch := first | (refine Zx ?_; simp only [Zn]; done) | ((try simp only [Zn]); omega)) only [Zg]
    have gM3_0 := congrArg (fun m => AMem.get m M1.next) hEM3; try simp (disch := first | (refine Zx ?_; simp only [Zn]; done) | ((try simp only [Zn]); omega)) only [Zg, Nat.add_assoc, Nat.reduceAdd] at gM3_0
    have gM3_1 := congrArg (fun m => AMem.get m (M1.next + 1)) hEM3; try simp (disch := first | (refine Zx ?_; simp only [Zn]; done) | ((try simp only [Zn]); omega)) only [Zg, Nat.add_assoc, Nat.reduceAdd] at gM3_1
    clear hEM3
    have hk5 : ∀ j, j < MF.next → M3.get j = MF.get j := fun j hj => by rw [hcM3 j (by omega), hk2 j hj]
    refine t_norm ?_
    refine at_seq rfl ?_
    refine at_region hS rfl (by kernel_rfl) ?_
    refine s_op (a_mv e9) rfl ?_
    refine s_mv ?_
    refine s_lv ?_
    refine s_lv ?_
    refine s_lv ?_
    refine s_lv ?_
    refine s_op (a_pick (by simp only [Zu, Nat.reduceEqDiff, ↓reduceIte, Zd, reduceCtorEq, Nat.zero_add] <;> rfl) (by simp only [Zu, Nat.reduceEqDiff, ↓reduceIte, Zd, reduceCtorEq, Nat.zero_add] <;> rfl)) rfl ?_
    refine s_end (fun s' hs' => ?_)
    replace e3 := kp 3 hs' e3
    replace e4 := kp 4 hs' e4
    replace e5 := kp 5 hs' e5
    have e35 := congrFun hs' 35
    simp only [Zu, Nat.reduceEqDiff, ↓reduceIte, newPtr, AMem.next_alloc] at e35
    clear hs'
    try clear e7 e9
    refine o_norm ?_
    refine t_norm ?_
    refine at_cond rfl rfl e35 (fun hc => by cases hc) (fun h7 => ?_)
    try simp only [Zh] at h7
    refine at_skip rfl ?_
    refine b_norm ?_
    refine t_norm ?_
    exact ⟨(by rw [take_snocO hfi, segsL_app, segsL_one, hr, rstL_app]; first | (rw [Option.toList_some, rstL_one, if_pos (by simp [rstB, h7])]; exact e3) | (rw [Option.toList_some, rstL_one, if_neg (by simp [rstB, h7])]; exact e3) | exact e3), (by first | exact e4 | (rw [e4]; rfl) | (rw [e4]; simp; done)), (by first | exact e5 | (rw [e5]; rfl) | (rw [e5]; simp; done)), hk5, hnxM3, by omega, holdM3, rfl⟩
  ·
   rintro s M4 ds ⟨e3, e4, e5, hk5, hnxM4, hngM4, holdM4, rfl⟩
   refine at_region hS rfl (by kernel_rfl) ?_
   refine s_op (a_mv e5) rfl ?_
   refine s_op (a_bin (by simp (disch := ((try simp only [List.length_append, List.length_cons, List.length_nil]); omega)) only [Zu, Nat.reduceEqDiff, ↓reduceIte, Zd, reduceCtorEq, abin_add, abin_aadd, wrap_i64, wrap_u32, wrap_u8, wrap_u64, wrap_i32, wrap_u16, ne_eq, not_false_eq_true] <;> rfl)) rfl ?_
   refine s_as ?_
   refine s_end (fun s' hs' => ?_)
   replace e3 := kp 3 hs' e3
   replace e4 := kp 4 hs' e4
   replace e5 := congrFun hs' 5
   simp only [Zu, Nat.reduceEqDiff, ↓reduceIte, newPtr, AMem.next_alloc] at e5
   clear hs'
   refine o_norm ?_
   refine t_norm ?_
   exact ⟨fs.length - (i + 1), by omega, i + 1, (by first | exact e3 | (rw [e3]; rfl) | (rw [e3]; simp; done)), (by first | exact e4 | (rw [e4]; rfl) | (rw [e4]; simp; done)), (by first | exact e5 | (rw [e5]; rfl) | (rw [e5]; simp; done)), (by omega), hk5, rfl, hnxM4, by omega, holdM4, rfl⟩
 ·
  try simp only [Zh] at h4
  have hie : i = fs.length := by omega
  rw [hie, List.take_length] at e3
  refine at_exit rfl ?_
  refine t_exit ?_
  refine t_exit ?_
  refine b_here ?_
  refine t_norm ?_
  refine at_seq rfl ?_
  refine at_region hS rfl (by kernel_rfl) ?_
  refine s_op (a_mv e3) rfl ?_
  refine s_as ?_
  refine s_end (fun s' hs' => ?_)
  have e2 := congrFun hs' 2
  simp only [Zu, Nat.reduceEqDiff, ↓reduceIte, newPtr, AMem.next_alloc] at e2
  clear hs'
  try clear e3
  refine o_norm ?_
  refine t_norm ?_
  refine at_ret rfl ?_
  refine bq_ret rfl (ars_cons (ar_tmp e2) ars_nil) ?_
  exact ⟨_, _, hK, Canon.forget rfl holdM1⟩
def sp29 : ASpec := fun args M K => ∃ lv : Value, args = [lv] ∧ lv.cells = #[lv] ∧ K (.ret (.func (.func 39) #[] #[.pointer (some ⟨M.next, 0, none⟩)])) (M.alloc (.cells [lv] true))
theorem f29_ok : Sound Try.prog 29 sp29 := by
 refine Sound.of_awp (c := bodyOf Try.f29) Try.func29 rfl rfl rfl ?_
 rintro args M K ⟨lv, rfl, hc1, hK⟩
 refine ⟨Nat.le_of_ble_eq_true rfl, ?_⟩
 have hS := noS_ok Try.prog
 have e0 : entry [lv] 0 = lv := rfl
 refine at_seq rfl ?_
 refine at_region hS rfl (by kernel_rfl) ?_
 refine s_op (a_box (by simp only [Zu, Nat.reduceEqDiff, ↓reduceIte, hc1, newPtr, AMem.next_alloc, e0] <;> rfl)) rfl ?_
 refine s_op (a_as (by simp only [ev_const] <;> rfl)) rfl ?_
 refine s_end (fun s' hs' => ?_)
 have e1 := congrFun hs' 1
 simp only [Zu, Nat.reduceEqDiff, ↓reduceIte, newPtr, AMem.next_alloc] at e1
 clear hs'
 try clear e0
 refine o_norm ?_
 refine t_norm ?_
 refine at_seq rfl ?_
 refine at_region hS rfl (by kernel_rfl) ?_
 refine s_op (a_mkf (by simp only [Zu, Nat.reduceEqDiff, ↓reduceIte, List.map_toArray, Zm, newPtr, AMem.next_alloc, e1] <;> rfl)) rfl ?_
 refine s_as ?_
 refine s_end (fun s' hs' => ?_)
 have e2 := congrFun hs' 2
 simp only [Zu, Nat.reduceEqDiff, ↓reduceIte, newPtr, AMem.next_alloc] at e2
 clear hs'
 try clear e1
 refine o_norm ?_
 refine t_norm ?_
 refine at_ret rfl ?_
 refine bq_ret rfl (ars_cons (ar_tmp e2) ars_nil) ?_
 exact ⟨_, _, hK, Canon.refl (by simp)⟩
theorem OusR.cells1 {M : AMem} {v : Value} {os : List Ou} (h : OusR M v os) : v.cells = #[v] := by
  obtain ⟨css, h1, h2, h3⟩ := h
  rcases h2.2 with ⟨rfl, _⟩ | ⟨_, _, _, _, rfl, _⟩ <;> rfl
end Go.Proofs.Ytdkdkpiemigfkaa
set_option linter.unusedVariables false
set_option linter.unusedSimpArgs false
set_option maxRecDepth 8000
namespace Go.Proofs.Ytdkdkpiemigfkaa
open Go Go.Proofs
structure RfI (M : AMem) (cid bid d : Nat) (lv : Value) (s : Slots) (n : Nat) (p : Nat) (c : Code) (V : AObj) (M' : AMem) : Prop where
  nx : d + 2 ≤ M'.next
  hold : ∀ j, j < M.next → M'.get j = M.get j
  box : M'.get bid = .cells [lv] true
  cnt : M'.get cid = V
  defs : M'.get d = .defs
  loop : M'.get (d + 1) = .loop .ready none s n #[p] (casn c) (cbod c) d
theorem RfI.stay {M : AMem} {cid bid d : Nat} {lv : Value} {s : Slots} {n p : Nat} {c : Code} {V : AObj} {M' M2 : AMem} (h : RfI M cid bid d lv s n p c V M') (h1 : cid < d) (h2 : bid < d) (h3 : M.next ≤ d) (hn : M'.next ≤ M2.next) (hg : ∀ j, j < M'.next → M2.get j = M'.get j) : RfI M cid bid d lv s n p c V M2 := by
  have := h.nx
  exact ⟨by omega, fun j hj => by rw [hg j (by omega)]; exact h.hold j hj, by rw [hg _ (by omega)]; exact h.box, by rw [hg _ (by omega)]; exact h.cnt, by rw [hg _ (by omega)]; exact h.defs, by rw [hg _ (by omega)]; exact h.loop⟩
theorem RfI.start {M M2 : AMem} {cid bid d : Nat} {lv : Value} {s : Slots} {n p : Nat} {c : Code} {V : AObj} (hd : d = M2.next) (h1 : cid < d) (h2 : bid < d) (h3 : M.next ≤ d) (hold : ∀ j, j < M.next → M2.get j = M.get j) (hb : M2.get bid = .cells [lv] true) (hc : M2.get cid = V) :
    RfI M cid bid d lv s n p c V ((M2.alloc .defs).alloc (.loop .ready none s n #[p] (casn c) (cbod c) M2.next)) := by
  subst hd
  refine ⟨by simp, fun j hj => ?_, ?_, ?_, ?_, ?_⟩
  · rw [get_old (by simp; omega), get_old (by omega)]; exact hold j hj
  · rw [get_old (by simp; omega), get_old (by omega)]; exact hb
  · rw [get_old (by simp; omega), get_old (by omega)]; exact hc
  · rw [get_old (by simp)]; exact get_new
  · exact get_new (M := M2.alloc .defs)
theorem z3 : azero Try.prog 3 = some [.int .i64 0] := by kernel_rfl
theorem sgC_9 (t : Tup) (h : Segh) (b : List UInt8) : (sgC t h b)[9]? = some (.int .i64 h.flags) := rfl
theorem rst_snoc {l : List SG} {i : Nat} {r : SG} (h : l[i]? = some r) : rstL (l.take (i + 1)) = rstL (l.take i) + if rstB r then 1 else 0 := by rw [take_snocO h, rstL_app, rstL_one]
def sp24 : ASpec := fun args M K => ∃ (lv : Value) (os : List Ou), args = [lv] ∧ OusR M lv os ∧ fewO os ∧ datO os ∧ K (.ret (.int .i64 (resetsF os))) M
noncomputable def S24 : FuncId → ASpec := tab [(29, sp29), (39, sp39)]
theorem S24_29 : S24 29 = sp29 := rfl
theorem S24_39 : S24 39 = sp39 := rfl
theorem S24_ok : ∀ f, Sound Try.prog f (S24 f) := tab_sound _ (by simp [f29_ok, f39_ok])
set_option maxHeartbeats 1000000 in
theorem f24_ok : Sound Try.prog 24 sp24 := by
 refine Sound.of_awpM (c := bodyOf Try.f24) Try.func24 rfl rfl rfl ?_
 rintro args M K ⟨lv, os, rfl, hos, hb, hdat, hK⟩
 refine ⟨Nat.le_of_ble_eq_true rfl, ?_⟩
 have hS := S24_ok
 have e0 : entry [lv] 0 = lv := rfl
 refine at_seq rfl ?_
 refine at_region hS rfl (by kernel_rfl) ?_
 refine s_op (a_as (by simp only [ev_const] <;> rfl)) rfl ?_
 refine s_end (fun s' hs' => ?_)
 replace e0 := kp 0 hs' e0
 clear hs'
 refine o_norm ?_
 refine t_norm ?_
 refine at_seq rfl ?_
 refine at_region hS rfl (by kernel_rfl) ?_
 refine s_op (a_alloc z3) rfl ?_
 refine s_op (a_store (by simp only [Zu, Nat.reduceEqDiff, ↓reduceIte, newPtr, AMem.next_alloc] <;> rfl) (by simp (disch := first | (refine Zx ?_; simp only [Zn]; done) | ((try simp only [Zn]); omega)) only [Zg, newPtr] <;> rfl) (by simp only [Zu, Nat.reduceEqDiff, ↓reduceIte, newPtr, AMem.next_alloc] <;> rfl) (by simp (disch := (first | omega | (simp only [List.length_cons, List.length_nil]; omega))) only [st3, List.set_cons_succ, List.set_cons_zero, newPtr, AMem.next_alloc] <;> rfl)) rfl ?_
 refine s_end (fun s' hs' => ?_)
 replace e0 := kp 0 hs' e0
 have e3 := congrFun hs' 3
 simp only [Zu, Nat.reduceEqDiff, ↓reduceIte, newPtr, AMem.next_alloc] at e3
 clear hs'
 refine o_norm ?_
 refine q_mem (fun M1 hEM1 => ?_)
 have hnM1 := congrArg AMem.next hEM1; simp only [Zn, Nat.add_assoc, Nat.reduceAdd] at hnM1
 have hnxM1 : M.next ≤ M1.next := by have := (Nat.le_refl M.next); omega
 have holdM1 : ∀ j, j < M.next → M1.get j = M.get j := fun j hj => by have := (Nat.le_refl M.next); rw [hEM1]; simp (disch := first | (refine Zx ?_; simp only [Zn]; done) | ((try simp only [Zn]); omega)) only [Zg]; done
 have gM1_0 := congrArg (fun m => AMem.get m M.next) hEM1; try simp (disch := first | (refine Zx ?_; simp only [Zn]; done) | ((try simp only [Zn]); omega)) only [Zg, Nat.add_assoc, Nat.reduceAdd] at gM1_0
 clear hEM1
 refine t_norm ?_
 refine at_seq rfl ?_
 refine at_seq rfl ?_
 refine at_region hS rfl (by kernel_rfl) ?_
 refine s_op (a_mv e0) rfl ?_
 refine s_call (by simp only [Zu, Nat.reduceEqDiff, ↓reduceIte, newPtr, AMem.next_alloc, gM1_0] <;> rfl) (by simp only [Zu, Nat.reduceEqDiff, ↓reduceIte, Zm, newPtr, AMem.next_alloc, gM1_0] <;> rfl) ?_
 rw [S24_29]; refine ⟨lv, rfl, hos.cells1, ?_⟩
 show EA _ _ _ _ _ _
 refine s_end (fun s' hs' => ?_)
 replace e3 := kp 3 hs' e3
 have e6 := congrFun hs' 6
 simp only [Zu, Nat.reduceEqDiff, ↓reduceIte, newPtr, AMem.next_alloc] at e6
 clear hs'
 try clear e0
 refine o_norm ?_
 refine q_mem (fun M2 hEM2 => ?_)
 have hnM2 := congrArg AMem.next hEM2; simp only [Zn, Nat.add_assoc, Nat.reduceAdd] at hnM2
 have hnxM2 : M.next ≤ M2.next := by have := hnxM1; omega
 have holdM2 : ∀ j, j < M.next → M2.get j = M.get j := fun j hj => by have := hnxM1; rw [hEM2]; simp (disch := first | (refine Zx ?_; simp only [Zn]; done) | ((try simp only [Zn]); omega)) only [Zg]; exact holdM1 j hj
 have gM2_0 := congrArg (fun m => AMem.get m M.next) hEM2; try simp (disch := first | (refine Zx ?_; simp only [Zn]; done) | ((try simp only [Zn]); omega)) only [Zg, Nat.add_assoc, Nat.reduceAdd, gM1_0] at gM2_0
 have gM2_1 := congrArg (fun m => AMem.get m M1.next) hEM2; try simp (disch := first | (refine Zx ?_; simp only [Zn]; done) | ((try simp only [Zn]); omega)) only [Zg, Nat.add_assoc, Nat.reduceAdd, gM1_0] at gM2_1
 clear hEM2
 refine t_norm ?_
 refine at_block rfl ?_
 refine at_rf (ps := #[7]) hS rfl rfl e6 ?_
 rw [S24_39]
 have hsl := segsL_le (os.flatMap Ou.frames)
 have hb2 := hb.2.1
 refine ⟨M2.next + 1, M1.next, true, lv, os, M, (fun i M' => RfI M M.next M1.next M2.next lv s' Try.f24.ntmps 7 (cin (csnd (cfst (csnd (csnd (bodyOf Try.f24)))))) (.cells [.int .i64 (rstL ((segsF os).take i) : Nat)] true) M'), rfl, hos, hb, hdat, RfI.start rfl (by omega) (by omega) (by omega) holdM2 gM2_1 gM2_0, fun i M' h => ⟨by have := h.nx; simp; omega, by have := h.nx; omega, h.hold, h.box⟩, fun i M' M'' h hn hg => h.stay (by omega) (by omega) (by omega) hn hg, ?_, ?_⟩
 ·
  intro i MR t h b hat hI
  refine ⟨none, s', _, #[7], _, _, M2.next, hI.loop, rfl, fun r => ?_⟩
  refine at_slots (fun sR hsR => ?_)
  have e3 : sR 3 = .pointer (some ⟨M.next, 0, none⟩) := by rw [hsR]; exact e3
  have e7 : sR 7 = .agg (sgC t h b).toArray := by rw [hsR]; rfl
  have g0 := hI.cnt
  have g1 := hI.box
  have g2 := hI.defs
  have g3 := hI.loop
  have holdMR := hI.hold
  have hnbR := hI.nx
  have hnxMR : M.next ≤ MR.next := by omega
  have hil : i < (segsF os).length := (List.getElem?_eq_some_iff.1 hat).1
  have hcl := rstL_le ((segsF os).take i)
  have htl : ((segsF os).take i).length ≤ i := List.length_take_le _ _
  have hsl2 : (segsF os).length ≤ 1000000 := by unfold segsF; omega
  have hsn := rst_snoc hat
  generalize rstL ((segsF os).take i) = cc at *
  refine at_region hS rfl (by kernel_rfl) ?_
  refine s_op (a_alloc z71) rfl ?_
  refine s_op (a_store (by simp only [Zu, Nat.reduceEqDiff, ↓reduceIte, st71, newPtr, AMem.next_alloc, g0, g1, g2, g3, e7] <;> rfl) (by simp (disch := first | (refine Zx ?_; simp only [Zn]; done) | ((try simp only [Zn]); omega)) only [Zg, st71, newPtr, g0, g1, g2, g3, e7] <;> rfl) e7 (by simp only [st71, newPtr, AMem.next_alloc, g0, g1, g2, g3, e7] <;> rfl)) rfl ?_
  refine s_end (fun s' hs' => ?_)
  replace e3 := kp 3 hs' e3
  have e4 := congrFun hs' 4
  simp only [Zu, Nat.reduceEqDiff, ↓reduceIte, newPtr, AMem.next_alloc] at e4
  clear hs'
  try clear e7
  refine o_norm ?_
  refine q_mem (fun M3 hEM3 => ?_)
  have hnM3 := congrArg AMem.next hEM3; simp only [Zn, Nat.add_assoc, Nat.reduceAdd] at hnM3
  have hnxM3 : M.next ≤ M3.next := by have := hnxMR; omega
  have holdM3 : ∀ j, j < M.next → M3.get j = M.get j := fun j hj => by have := hnxMR; rw [hEM3]; simp (disch := first | (refine Zx ?_; simp only [Zn]; done) | ((try simp only [Zn]); omega)) only [Zg]; exact holdMR j hj
  have gM3_0 := congrArg (fun m => AMem.get m M.next) hEM3; try simp (disch := first | (refine Zx ?_; simp only [Zn]; done) | ((try simp only [Zn]); omega)) only [Zg, Nat.add_assoc, Nat.reduceAdd, g0, g1, g2, g3] at gM3_0
  have gM3_1 := congrArg (fun m => AMem.get m M1.next) hEM3; try simp (disch := first | (refine Zx ?_; simp only [Zn]; done) | ((try simp only [Zn]); omega)) only [Zg, Nat.add_assoc, Nat.reduceAdd, g0, g1, g2, g3] at gM3_1
  have gM3_2 := congrArg (fun m => AMem.get m M2.next) hEM3; try simp (disch := first | (refine Zx ?_; simp only [Zn]; done) | ((try simp only [Zn]); omega)) only [Zg, Nat.add_assoc, Nat.reduceAdd, g0, g1, g2, g3] at gM3_2
  have gM3_3 := congrArg (fun m => AMem.get m (M2.next + 1)) hEM3; try simp (disch := first | (refine Zx ?_; simp only [Zn]; done) | ((try simp only [Zn]); omega)) only [Zg, Nat.add_assoc, Nat.reduceAdd, g0, g1, g2, g3] at gM3_3
  have gM3_4 := congrArg (fun m => AMem.get m MR.next) hEM3; try simp (disch := first | (refine Zx ?_; simp only [Zn]; done) | ((try simp only [Zn]); omega)) only [Zg, Nat.add_assoc, Nat.reduceAdd, g0, g1, g2, g3] at gM3_4
  clear hEM3
  refine r_asn gM3_3 ?_
  refine at_mem (fun M4 hEM4 => ?_)
  have hnM4 := congrArg AMem.next hEM4; simp only [Zn, Nat.add_assoc, Nat.reduceAdd] at hnM4
  have hnxM4 : M.next ≤ M4.next := by have := hnxM3; omega
  have holdM4 : ∀ j, j < M.next → M4.get j = M.get j := fun j hj => by have := hnxM3; rw [hEM4]; simp (disch := first | (refine Zx ?_; simp only [Zn]; done) | ((try simp only [Zn]); omega)) only [Zg]; exact holdM3 j hj
  have gM4_0 := congrArg (fun m => AMem.get m M.next) hEM4; try simp (disch := first | (refine Zx ?_; simp only [Zn]; done) | ((try simp only [Zn]); omega)) only [Zg, Nat.add_assoc, Nat.reduceAdd, gM3_0, gM3_1, gM3_2, gM3_3, gM3_4] at gM4_0
  have gM4_1 := congrArg (fun m => AMem.get m M1.next) hEM4; try simp (disch := first | (refine Zx ?_; simp only [Zn]; done) | ((try simp only [Zn]); omega)) only [Zg, Nat.add_assoc, Nat.reduceAdd, gM3_0, gM3_1, gM3_2, gM3_3, gM3_4] at gM4_1
  have gM4_2 := congrArg (fun m => AMem.get m M2.next) hEM4; try simp (disch := first | (refine Zx ?_; simp only [Zn]; done) | ((try simp only [Zn]); omega)) only [Zg, Nat.add_assoc, Nat.reduceAdd, gM3_0, gM3_1, gM3_2, gM3_3, gM3_4] at gM4_2
  have gM4_3 := congrArg (fun m => AMem.get m (M2.next + 1)) hEM4; try simp (disch := first | (refine Zx ?_; simp only [Zn]; done) | ((try simp only [Zn]); omega)) only [Zg, Nat.add_assoc, Nat.reduceAdd, gM3_0, gM3_1, gM3_2, gM3_3, gM3_4] at gM4_3
  have gM4_4 := congrArg (fun m => AMem.get m MR.next) hEM4; try simp (disch := first | (refine Zx ?_; simp only [Zn]; done) | ((try simp only [Zn]); omega)) only [Zg, Nat.add_assoc, Nat.reduceAdd, gM3_0, gM3_1, gM3_2, gM3_3, gM3_4] at gM4_4
  clear hEM4
  refine at_block rfl ?_
  refine at_seq rfl ?_
  refine at_region hS rfl (by kernel_rfl) ?_
  refine s_op (a_fa (by simp only [Zu, Nat.reduceEqDiff, ↓reduceIte, fa71_1, Nat.zero_add, fa57_4, Nat.reduceAdd, newPtr, AMem.next_alloc, e4] <;> rfl)) rfl ?_
  refine s_op (a_fa (by simp only [Zu, Nat.reduceEqDiff, ↓reduceIte, fa57_4, Nat.zero_add, fa71_1, Nat.reduceAdd, newPtr, AMem.next_alloc] <;> rfl)) rfl ?_
  refine s_op (a_load (by simp only [Zu, Nat.reduceEqDiff, ↓reduceIte, Nat.zero_add, Nat.reduceAdd, ld3, sgC_9, newPtr, AMem.next_alloc, gM4_0, gM4_1, gM4_2, gM4_3, gM4_4] <;> rfl) (by simp (disch := first | (refine Zx ?_; simp only [Zn]; done) | ((try simp only [Zn]); omega)) only [Zg, Nat.zero_add, Nat.reduceAdd, ld3, sgC_9, newPtr, gM4_0, gM4_1, gM4_2, gM4_3, gM4_4] <;> rfl) (by simp only [ld3, Zl, Nat.zero_add, Nat.reduceAdd, sgC_9, newPtr, AMem.next_alloc, gM4_0, gM4_1, gM4_2, gM4_3, gM4_4] <;> rfl)) rfl ?_
  refine s_op (a_bin (by simp (disch := omega) only [Zu, Nat.reduceEqDiff, ↓reduceIte, Zd, reduceCtorEq, abin_and, and_255, and_15, and_65535, and_8191, ne_eq, not_false_eq_true, Nat.zero_add, Nat.reduceAdd] <;> rfl)) rfl ?_
  refine s_op (a_bin (by simp (disch := omega) only [Zu, Nat.reduceEqDiff, ↓reduceIte, Zd, reduceCtorEq, abin_neq, abin_aneq, ne_eq, not_false_eq_true, Nat.zero_add, Nat.reduceAdd] <;> rfl)) rfl ?_
  refine s_end (fun s' hs' => ?_)
  replace e3 := kp 3 hs' e3
  have e12 := congrFun hs' 12
  simp only [Zu, Nat.reduceEqDiff, ↓reduceIte, newPtr, AMem.next_alloc] at e12
  clear hs'
  try clear e4
  refine o_norm ?_
  refine t_norm ?_
  refine at_cond rfl rfl e12 (fun h4 => ?_) (fun h4 => ?_)
  ·
   try simp only [Zh] at h4
   refine at_region hS rfl (by kernel_rfl) ?_
   refine s_op (a_load e3 (by simp (disch := first | (refine Zx ?_; simp only [Zn]; done) | ((try simp only [Zn]); omega)) only [Zg, newPtr, gM4_0, gM4_1, gM4_2, gM4_3, gM4_4, e3] <;> rfl) (by simp only [ld3, Zl, newPtr, AMem.next_alloc, gM4_0, gM4_1, gM4_2, gM4_3, gM4_4, e3] <;> rfl)) rfl ?_
   refine s_op (a_bin (by simp (disch := ((try simp only [List.length_append, List.length_cons, List.length_nil]); omega)) only [Zu, Nat.reduceEqDiff, ↓reduceIte, Zd, reduceCtorEq, abin_add, abin_aadd, wrap_i64, wrap_u32, wrap_u8, wrap_u64, wrap_i32, wrap_u16, ne_eq, not_false_eq_true] <;> rfl)) rfl ?_
   refine s_op (a_store e3 (by simp (disch := first | (refine Zx ?_; simp only [Zn]; done) | ((try simp only [Zn]); omega)) only [Zg, newPtr, gM4_0, gM4_1, gM4_2, gM4_3, gM4_4, e3] <;> rfl) (by simp only [Zu, Nat.reduceEqDiff, ↓reduceIte, newPtr, AMem.next_alloc, gM4_0, gM4_1, gM4_2, gM4_3, gM4_4, e3] <;> rfl) (by simp (disch := (first | omega | (simp only [List.length_cons, List.length_nil]; omega))) only [st3, List.set_cons_succ, List.set_cons_zero, newPtr, AMem.next_alloc, gM4_0, gM4_1, gM4_2, gM4_3, gM4_4, e3] <;> rfl)) rfl ?_
   refine s_end (fun s' hs' => ?_)
   clear hs'
   try clear e3
   refine o_norm ?_
   refine q_mem (fun M5 hEM5 => ?_)
   have hnM5 := congrArg AMem.next hEM5; simp only [Zn, Nat.add_assoc, Nat.reduceAdd] at hnM5
   have hnxM5 : M.next ≤ M5.next := by have := hnxM4; omega
   have holdM5 : ∀ j, j < M.next → M5.get j = M.get j := fun j hj => by have := hnxM4; rw [hEM5]; simp (disch := first | (refine Zx ?_; simp only [Zn]; done) | ((try simp only [Zn]); omega)) only [Zg]; exact holdM4 j hj
   have gM5_0 := congrArg (fun m => AMem.get m M.next) hEM5; try simp (disch := first | (refine Zx ?_; simp only [Zn]; done) | ((try simp only [Zn]); omega)) only [Zg, Nat.add_assoc, Nat.reduceAdd, gM4_0, gM4_1, gM4_2, gM4_3, gM4_4] at gM5_0
   have gM5_1 := congrArg (fun m => AMem.get m M1.next) hEM5; try simp (disch := first | (refine Zx ?_; simp only [Zn]; done) | ((try simp only [Zn]); omega)) only [Zg, Nat.add_assoc, Nat.reduceAdd, gM4_0, gM4_1, gM4_2, gM4_3, gM4_4] at gM5_1
   have gM5_2 := congrArg (fun m => AMem.get m M2.next) hEM5; try simp (disch := first | (refine Zx ?_; simp only [Zn]; done) | ((try simp only [Zn]); omega)) only [Zg, Nat.add_assoc, Nat.reduceAdd, gM4_0, gM4_1, gM4_2, gM4_3, gM4_4] at gM5_2
   have gM5_3 := congrArg (fun m => AMem.get m (M2.next + 1)) hEM5; try simp (disch := first | (refine Zx ?_; simp only [Zn]; done) | ((try simp only [Zn]); omega)) only [Zg, Nat.add_assoc, Nat.reduceAdd, gM4_0, gM4_1, gM4_2, gM4_3, gM4_4] at gM5_3
   have gM5_4 := congrArg (fun m => AMem.get m MR.next) hEM5; try simp (disch := first | (refine Zx ?_; simp only [Zn]; done) | ((try simp only [Zn]); omega)) only [Zg, Nat.add_assoc, Nat.reduceAdd, gM4_0, gM4_1, gM4_2, gM4_3, gM4_4] at gM5_4
   clear hEM5
   refine b_norm ?_
   refine r_norm gM5_3 ?_
   refine ⟨rfl, by simp; omega, ⟨by simp; omega, fun j hj => by rw [get_else (by omega)]; exact holdM5 j hj, by rw [get_else (by omega)]; exact gM5_1, ?_, by rw [get_else (by omega)]; exact gM5_2, get_put⟩⟩
   rw [get_else (by omega), gM5_0, hsn]
   first
     | (rw [if_pos (by simp [rstB, h4])]; rfl)
     | (rw [if_neg (by simp [rstB, h4])]; rfl)
  ·
   try simp only [Zh] at h4
   refine at_skip rfl ?_
   refine b_norm ?_
   refine r_norm gM4_3 ?_
   refine ⟨rfl, by simp; omega, ⟨by simp; omega, fun j hj => by rw [get_else (by omega)]; exact holdM4 j hj, by rw [get_else (by omega)]; exact gM4_1, ?_, by rw [get_else (by omega)]; exact gM4_2, get_put⟩⟩
   rw [get_else (by omega), gM4_0, hsn]
   first
     | (rw [if_pos (by simp [rstB, h4])]; rfl)
     | (rw [if_neg (by simp [rstB, h4])]; rfl)
 ·
  intro MY hI
  refine rk_done hI.loop ?_
  refine q_mem (fun MZ hMZ => ?_)
  have hnbZ := hI.nx
  have hnxMZ : M.next ≤ MZ.next := by rw [hMZ]; simp; omega
  have holdMZ : ∀ j, j < M.next → MZ.get j = M.get j := fun j hj => by rw [hMZ, get_else (by omega)]; exact hI.hold j hj
  have z0 : MZ.get M.next = .cells [.int .i64 (resetsF os)] true := by rw [hMZ, get_else (by omega), hI.cnt, List.take_length]; rfl
  have z2 : MZ.get M2.next = .defs := by rw [hMZ, get_else (by omega)]; exact hI.defs
  refine b_norm ?_
  refine t_norm ?_
  refine at_seq rfl ?_
  refine at_region hS rfl (by kernel_rfl) ?_
  refine s_op (a_load e3 (by simp (disch := first | (refine Zx ?_; simp only [Zn]; done) | ((try simp only [Zn]); omega)) only [Zg, newPtr, z0, z2, e3] <;> rfl) (by simp only [ld3, Zl, newPtr, AMem.next_alloc, z0, z2, e3] <;> rfl)) rfl ?_
  refine s_as ?_
  refine s_end (fun s' hs' => ?_)
  have e2 := congrFun hs' 2
  simp only [Zu, Nat.reduceEqDiff, ↓reduceIte, newPtr, AMem.next_alloc] at e2
  clear hs'
  try clear e3
  refine o_norm ?_
  refine t_norm ?_
  refine at_ret rfl ?_
  refine bm_ret (shut_one z2) rfl (ars_cons (ar_tmp e2) ars_nil) ?_
  exact ⟨_, _, hK, Canon.forget rfl (fun j hj => by rw [get_else (by omega)]; exact holdMZ j hj)⟩
end Go.Proofs.Ytdkdkpiemigfkaa
set_option linter.unusedVariables false
set_option linter.unusedSimpArgs false
set_option maxRecDepth 8000
namespace Go.Proofs.Ytdkdkpiemigfkaa
open Go Go.Proofs
theorem peval_underlying {P : Program} {t : TypeId} {d : TypeDesc} (h : P.underlying t = some d) : peval P (underlying t) = some d := by
  simp [underlying, peval_bind, program, peval, h]
theorem eqIn_int (n : Nat) (t : TypeId) (k : IntKind) (a b : Int) (h : Try.prog.underlying t = some (.int k)) : peval Try.prog (Op.equalIn (n + 1) t (.int k a) (.int k b)) = some (a == b) := by
  simp [Op.equalIn, peval_bind, peval_underlying h]
theorem part_int (t : TypeId) (k : IntKind) (h : Try.prog.underlying t = some (.int k)) (cs : Array Value) (off : Nat) (v : Value) (hv : cs[off]? = some v) : peval Try.prog (Go.part t cs off) = some v := by
  simp [Go.part, isAgg, peval_bind, peval_underlying h, hv]
theorem peval_eq39 (t t' : Tup) : peval Try.prog (Op.equal 39 (.agg t.cells.toArray) (.agg t'.cells.toArray)) = some ((t.proto == t'.proto) && (t.src == t'.src) && (t.dst == t'.dst) && (t.sp == t'.sp) && (t.dp == t'.dp)) := by
  show peval Try.prog (Op.equalIn (9998 + 1 + 1) 39 _ _) = _
  rw [Op.equalIn]
  have hso : Try.prog.stoodInHeld 39 = false := by kernel_rfl
  simp only [peval_bind, peval_underlying Try.underlying39, Option.bind_some, program, peval, hso]
  by_cases h1 : t.proto = t'.proto
  · by_cases h2 : t.src = t'.src
    · by_cases h3 : t.dst = t'.dst
      · by_cases h4 : t.sp = t'.sp
        · by_cases h5 : t.dp = t'.dp <;> simp [peval_bind, part_int 3 .i64 Try.underlying3, part_int 23 .u32 Try.underlying23, eqIn_int 9998 3 .i64 _ _ Try.underlying3, eqIn_int 9998 23 .u32 _ _ Try.underlying23, Tup.cells, h1, h2, h3, h4, h5]
        · simp [peval_bind, part_int 3 .i64 Try.underlying3, part_int 23 .u32 Try.underlying23, eqIn_int 9998 3 .i64 _ _ Try.underlying3, eqIn_int 9998 23 .u32 _ _ Try.underlying23, Tup.cells, h1, h2, h3, h4]
      · simp [peval_bind, part_int 3 .i64 Try.underlying3, part_int 23 .u32 Try.underlying23, eqIn_int 9998 3 .i64 _ _ Try.underlying3, eqIn_int 9998 23 .u32 _ _ Try.underlying23, Tup.cells, h1, h2, h3]
    · simp [peval_bind, part_int 3 .i64 Try.underlying3, part_int 23 .u32 Try.underlying23, eqIn_int 9998 3 .i64 _ _ Try.underlying3, eqIn_int 9998 23 .u32 _ _ Try.underlying23, Tup.cells, h1, h2]
  · simp [peval_bind, part_int 3 .i64 Try.underlying3, part_int 23 .u32 Try.underlying23, eqIn_int 9998 3 .i64 _ _ Try.underlying3, eqIn_int 9998 23 .u32 _ _ Try.underlying23, Tup.cells, h1]
def tupEq (t t' : Tup) : Bool := (t.proto == t'.proto) && (t.src == t'.src) && (t.dst == t'.dst) && (t.sp == t'.sp) && (t.dp == t'.dp)
theorem tupEq_iff (t t' : Tup) : tupEq t t' = true ↔ t = t' := by
  cases t; cases t'; simp [tupEq, and_assoc]
theorem peval_map {α β : Type} {P : Program} (f : α → β) (m : Sem α) : peval P (f <$> m) = (peval P m).map f := by
  show peval P (m >>= fun a => pure (f a)) = _
  rw [peval_bind]; cases peval P m <;> rfl
theorem tup_flat (t : Tup) : flat (.agg t.cells.toArray) = true := rfl
theorem a_tupneq {s : Slots} {M : AMem} {d : Option Nat} {ty u : TypeId} {g : Option (Nat × Bool)} {x y : Operand} {t t' : Tup} (hx : ev s x = .agg t.cells.toArray) (hy : ev s y = .agg t'.cells.toArray) :
    aop Try.prog s M ⟨d, .binOp .neq 39 x y u, ty, g⟩ = some (.bool (!tupEq t t'), M) := by
  have hgt : Try.prog.eqGuardType Try.prog.depth 39 = false := by kernel_rfl
  have he : peval Try.prog (execOp (ev s) (AOp.oper ⟨d, .binOp .neq 39 x y u, ty, g⟩)) = some (.value (.bool (!tupEq t t'))) := by
    have h1 : peval Try.prog (Op.equal 39 (.agg t.cells.toArray) (.agg t'.cells.toArray)) = some (tupEq t t') := peval_eq39 t t'
    simp only [execOp, AOp.oper, hx, hy, eqGuard, peval_bind, program, peval, hgt]
    simp [peval_bind, peval, hgt, Go.binOp, peval_map, h1]
  refine a_binq (by rw [hx, hy]; rfl) ?_ ?_
  · rw [hx, hy]; simp only [aptrNil]; rfl
  · unfold apure
    rw [he]
    have hall : (AOp.oper ⟨d, .binOp .neq 39 x y u, ty, g⟩).op.operands.all (fun x => flat (ev s x)) = true := by
      simp only [AOp.oper, Op.operands]
      simp [hx, hy, tup_flat]
    rw [if_pos hall]
    rfl
abbrev PL := List (Int × UInt8)
def putB (pl : PL) (x : Int) (c : UInt8) : PL := if 0 ≤ x ∧ x ∉ pl.map Prod.fst then pl ++ [(x, c)] else pl
def putS (off : Int) (pl : PL) (b : List UInt8) : PL := b.zipIdx.foldl (fun pl p => putB pl (off + (p.2 : Nat)) p.1) pl
theorem putS_nil (off : Int) (pl : PL) : putS off pl [] = pl := rfl
theorem putS_snoc (off : Int) (pl : PL) (b : List UInt8) (c : UInt8) : putS off pl (b ++ [c]) = putB (putS off pl b) (off + (b.length : Nat)) c := by
  unfold putS
  rw [List.zipIdx_append, List.foldl_append]
  simp
theorem putB_len (pl : PL) (x : Int) (c : UInt8) : (putB pl x c).length ≤ pl.length + 1 := by unfold putB; split <;> simp
theorem putS_len (off : Int) (b : List UInt8) : ∀ (n : Nat) (pl : PL), n ≤ b.length → (putS off pl (b.take n)).length ≤ pl.length + n := by
  intro n
  induction n with
  | zero => intro pl _; simp [putS_nil]
  | succ n ih =>
    intro pl h
    rw [take_snoc b n (by omega), putS_snoc]
    have h1 := ih pl (by omega)
    have h2 := putB_len (putS off pl (b.take n)) (off + ((b.take n).length : Nat)) b[n]
    omega
theorem putS_len' (off : Int) (b : List UInt8) (pl : PL) : (putS off pl b).length ≤ pl.length + b.length := by
  have := putS_len off b b.length pl (Nat.le_refl _)
  rwa [List.take_length] at this
def payStep (t : Tup) (start : Int) (pl : PL) (r : SG) : PL := if tupEq r.1 t = true then putS (placeF start r.2.1.seq pl.length) pl r.2.2 else pl
def payL (t : Tup) (start : Int) (rs : List SG) : PL := rs.foldl (payStep t start) []
theorem payL_app (t : Tup) (start : Int) (a : List SG) (r : SG) : payL t start (a ++ [r]) = payStep t start (payL t start a) r := by unfold payL; rw [List.foldl_append]; rfl
theorem payL_snoc {t : Tup} {start : Int} {rs : List SG} {i : Nat} {r : SG} (h : rs[i]? = some r) : payL t start (rs.take (i + 1)) = payStep t start (payL t start (rs.take i)) r := by rw [take_snocO h, payL_app]
def bodyN (rs : List SG) : Nat := (rs.map fun r => r.2.2.length).sum
theorem payStep_len (t : Tup) (start : Int) (pl : PL) (r : SG) : (payStep t start pl r).length ≤ pl.length + r.2.2.length := by
  unfold payStep; split
  · exact putS_len' _ _ _
  · omega
theorem payL_len (t : Tup) (start : Int) (rs : List SG) : (payL t start rs).length ≤ bodyN rs := by
  have : ∀ (rs : List SG) (pl : PL), (rs.foldl (payStep t start) pl).length ≤ pl.length + bodyN rs := by
    intro rs
    induction rs with
    | nil => intro pl; simp [bodyN]
    | cons r rs ih =>
      intro pl
      have h1 := ih (payStep t start pl r)
      have h2 := payStep_len t start pl r
      simp only [List.foldl_cons, bodyN, List.map_cons, List.sum_cons] at h1 ⊢
      omega
  simpa [payL] using this rs []
theorem bodyN_take {rs : List SG} {i : Nat} {r : SG} (h : rs[i]? = some r) : bodyN (rs.take i) + r.2.2.length ≤ bodyN rs := by
  have hlt : i < rs.length := (List.getElem?_eq_some_iff.1 h).1
  have e : rs = rs.take i ++ r :: rs.drop (i + 1) := by
    conv => lhs; rw [← List.take_append_drop i rs, List.drop_eq_getElem_cons hlt, (List.getElem?_eq_some_iff.1 h).2]
  conv => rhs; rw [e]
  simp only [bodyN, List.map_append, List.map_cons, List.sum_append, List.sum_cons]; omega
theorem segGet_len {l : List UInt8} {t : Tup} {h : Segh} {b : List UInt8} (hs : segGet l = some (t, h, b)) : b.length ≤ l.length := by
  obtain ⟨_, _, _, _, _, h1⟩ := eth_facts l
  unfold segGet at hs
  split at hs
  · cases hs
  split at hs
  · cases hs
  split at hs
  · cases hs
  · cases hs
    have h2 := ip_len (ethGetF l).2.1
    have h3 : ∀ (s d : Int) (x : List UInt8), (tcpGetF s d x).2.1.length ≤ x.length := by
      intro s d x; unfold tcpGetF; split
      · exact part_le _ _ _
      · simp
    have := h3 (ipGetF (ethGetF l).2.1).1.src (ipGetF (ethGetF l).2.1).1.dst (ipGetF (ethGetF l).2.1).2.1
    omega
def dataN (fs : List Fr) : Nat := (fs.map fun f => f.data.length).sum
theorem bodyN_segs (fs : List Fr) : bodyN (segsL fs) ≤ dataN fs := by
  induction fs with
  | nil => simp [bodyN, segsL, dataN]
  | cons f fs ih =>
    have e : segsL (f :: fs) = (segGet f.data).toList ++ segsL fs := by rw [← segsL_one, ← segsL_app]; rfl
    rw [e]
    simp only [bodyN, List.map_append, List.sum_append, dataN, List.map_cons, List.sum_cons] at ih ⊢
    cases h : segGet f.data with
    | none => simp only [Option.toList_none, List.map_nil, List.sum_nil]; omega
    | some r =>
      obtain ⟨t, hh, b⟩ := r
      have := segGet_len h
      simp only [Option.toList_some, Zm, List.sum_cons, List.sum_nil]; omega
theorem dataN_mem {fs : List Fr} {f : Fr} (h : f ∈ fs) : f.data.length ≤ dataN fs := by
  obtain ⟨i, hi, rfl⟩ := List.mem_iff_getElem.1 h
  have e : fs = fs.take i ++ fs[i] :: fs.drop (i + 1) := by
    conv => lhs; rw [← List.take_append_drop i fs, List.drop_eq_getElem_cons hi]
  unfold dataN
  conv => rhs; rw [e]
  simp only [List.map_append, List.map_cons, List.sum_append, List.sum_cons]; omega
def cntG (ks : List Int) : Nat → Nat → Nat
  | 0, n => n
  | f + 1, n => if (n : Int) ∈ ks then cntG ks f (n + 1) else n
def cntK (ks : List Int) : Nat := cntG ks (ks.length + 1) 0
theorem pig : ∀ (n : Nat) (ks : List Int), (∀ j, j < n → (j : Int) ∈ ks) → n ≤ ks.length := by
  intro n
  induction n with
  | zero => intro ks _; omega
  | succ n ih =>
    intro ks h
    have hm := h n (by omega)
    have h1 := ih (ks.erase (n : Int)) (fun j hj => by
      rw [List.mem_erase_of_ne (by omega)]; exact h j (by omega))
    rw [List.length_erase_of_mem hm] at h1
    have : 0 < ks.length := List.length_pos_of_mem hm
    omega
theorem cntG_eq {ks : List Int} {n : Nat} (h1 : ∀ j, j < n → (j : Int) ∈ ks) (h2 : (n : Int) ∉ ks) : ∀ (f m : Nat), m ≤ n → n < m + f → cntG ks f m = n := by
  intro f
  induction f with
  | zero => intro m hm hf; omega
  | succ f ih =>
    intro m hm hf
    simp only [cntG]
    by_cases he : m = n
    · subst he; rw [if_neg h2]
    · rw [if_pos (h1 m (by omega))]; exact ih (m + 1) (by omega) (by omega)
theorem cntK_eq {ks : List Int} {n : Nat} (h1 : ∀ j, j < n → (j : Int) ∈ ks) (h2 : (n : Int) ∉ ks) : cntK ks = n := by
  have := pig n ks h1
  exact cntG_eq h1 h2 _ 0 (by omega) (by omega)
def valP (pl : PL) (k : Nat) : UInt8 := ((pl.find? fun p => decide (p.1 = (k : Int))).map Prod.snd).getD 0
def payOut (pl : PL) : List UInt8 := (List.range (cntK (pl.map Prod.fst))).map (valP pl)
def payF (t : Tup) (start : Int) (rs : List SG) : List UInt8 := payOut (payL t start rs)
theorem range_snoc (f : Nat → UInt8) (n : Nat) : (List.range (n + 1)).map f = (List.range n).map f ++ [f n] := by rw [List.range_succ, List.map_append]; rfl
theorem payOut_eq {pl : PL} {n : Nat} (h1 : ∀ j, j < n → (j : Int) ∈ pl.map Prod.fst) (h2 : (n : Int) ∉ pl.map Prod.fst) : payOut pl = (List.range n).map (valP pl) := by unfold payOut; rw [cntK_eq h1 h2]
def mP (pl : PL) : List (Int × Value) := pl.map fun p => (p.1, .int .u8 p.2.toNat)
theorem mP_keys (pl : PL) : (mP pl).map Prod.fst = pl.map Prod.fst := by simp [mP]
theorem mFind_mP {pl : PL} {k : Nat} {i j : Nat} {v : Value} (h : mFind (k : Int) (mP pl) i = some (j, v)) : v = .int .u8 (valP pl k).toNat := by
  induction pl generalizing i with
  | nil => cases h
  | cons p pl ih =>
    simp only [mP, List.map_cons, mFind] at h
    unfold valP
    rw [List.find?_cons]
    by_cases hp : p.1 = (k : Int)
    · rw [if_pos hp.symm] at h
      cases h
      simp [hp]
    · rw [if_neg (fun e => hp e.symm)] at h
      have := ih h
      simp only [hp, decide_false]
      exact this
theorem mSet_mP {pl : PL} {x : Int} {c : UInt8} (h : x ∉ pl.map Prod.fst) : mSet (mP pl) x (.int .u8 c.toNat) = mP (pl ++ [(x, c)]) := by
  unfold mSet
  rw [mFind_none.2 (by rw [mP_keys]; exact h)]
  simp [mP]
end Go.Proofs.Ytdkdkpiemigfkaa
set_option linter.unusedVariables false
set_option linter.unusedSimpArgs false
set_option maxRecDepth 8000
namespace Go.Proofs.Ytdkdkpiemigfkaa
open Go Go.Proofs
structure RfG (M : AMem) (st : List (Nat × AObj)) (vid d : Nat) (s : Slots) (n : Nat) (p : Nat) (c : Code) (V : AObj) (M' : AMem) : Prop where
  nx : d + 2 ≤ M'.next
  hold : ∀ j, j < M.next → M'.get j = M.get j
  stat : ∀ q ∈ st, M'.get q.1 = q.2
  cnt : M'.get vid = V
  defs : M'.get d = .defs
  loop : M'.get (d + 1) = .loop .ready none s n #[p] (casn c) (cbod c) d
theorem RfG.stay {M : AMem} {st : List (Nat × AObj)} {vid d : Nat} {s : Slots} {n p : Nat} {c : Code} {V : AObj} {M' M2 : AMem} (h : RfG M st vid d s n p c V M') (h1 : vid < d) (h2 : ∀ q ∈ st, q.1 < d) (h3 : M.next ≤ d) (hn : M'.next ≤ M2.next) (hg : ∀ j, j < M'.next → M2.get j = M'.get j) : RfG M st vid d s n p c V M2 := by
  have := h.nx
  refine ⟨by omega, fun j hj => by rw [hg j (by omega)]; exact h.hold j hj, fun q hq => ?_, by rw [hg _ (by omega)]; exact h.cnt, by rw [hg _ (by omega)]; exact h.defs, by rw [hg _ (by omega)]; exact h.loop⟩
  have hqd := h2 q hq
  rw [hg _ (by omega)]; exact h.stat q hq
theorem RfG.start {M M2 : AMem} {st : List (Nat × AObj)} {vid d : Nat} {s : Slots} {n p : Nat} {c : Code} {V : AObj} (hd : d = M2.next) (h1 : vid < d) (h2 : ∀ q ∈ st, q.1 < d) (h3 : M.next ≤ d) (hold : ∀ j, j < M.next → M2.get j = M.get j) (hb : ∀ q ∈ st, M2.get q.1 = q.2) (hc : M2.get vid = V) :
    RfG M st vid d s n p c V ((M2.alloc .defs).alloc (.loop .ready none s n #[p] (casn c) (cbod c) M2.next)) := by
  subst hd
  refine ⟨by simp, fun j hj => ?_, fun q hq => ?_, ?_, ?_, ?_⟩
  · rw [get_old (by simp; omega), get_old (by omega)]; exact hold j hj
  · have := h2 q hq
    rw [get_old (by simp; omega), get_old (by omega)]; exact hb q hq
  · rw [get_old (by simp; omega), get_old (by omega)]; exact hc
  · rw [get_old (by simp)]; exact get_new
  · exact get_new (M := M2.alloc .defs)
theorem z66 : azero Try.prog 66 = some [.map none] := by kernel_rfl
theorem st66 (a : Option Nat) (id : Nat) : astore Try.prog 66 [.map a] 0 (.map (some id)) = some [.map (some id)] := astore_one (i := _) (by rfl) rfl rfl rfl (by simp)
theorem ld66 (cs : List Value) (off : Nat) : aload Try.prog 66 cs off = cs[off]? := aload_one Try.underlying66 rfl rfl cs off
theorem ld39s (t : Tup) (h : Segh) (b : List UInt8) : aload Try.prog 39 (sgC t h b) 0 = some (.agg t.cells.toArray) := aload_agg (n := 5) Try.underlying39 (i := _) (by rfl) rfl rfl (by rw [sgC_len]; decide)
theorem sgC_7 (t : Tup) (h : Segh) (b : List UInt8) : (sgC t h b)[7]? = some (.int .u32 h.seq) := rfl
theorem sgC_12 (t : Tup) (h : Segh) (b : List UInt8) : (sgC t h b)[12]? = some (asString b) := rfl
theorem alen_map {M : AMem} {id : Nat} {es : List (Value × Value)} (hg : M.get id = .map es) : alen Try.prog M 66 (.map (some id)) = some (.int .i64 es.length) := by simp only [alen, Try.underlying66, hg]
theorem alook66 {M : AMem} {id : Nat} {pl : PL} (hg : M.get id = .map (mE (mP pl))) (k : Int) : ∃ y : Int, alookup Try.prog M 66 (.map (some id)) (.int .i64 k) true = some (.tuple #[.int .u8 y, .bool (decide (k ∈ pl.map Prod.fst))]) ∧ (∀ n : Nat, k = n → k ∈ pl.map Prod.fst → y = (valP pl n).toNat) := by
  have hi : ∃ i, Try.prog.info? 5 = some i ∧ i.zero = some (.int .u8 0) := ⟨_, rfl, rfl⟩
  obtain ⟨i, hi1, hi2⟩ := hi
  have he : easyKey (.int .i64) (.int .i64 k) = true := rfl
  have hf : flat (.int .u8 0) = true := rfl
  have hl : ∀ r, alookup Try.prog M 66 (.map (some id)) (.int .i64 k) true = some (lookRes true r (.int .u8 0)) ↔ r = r ∧ alookup Try.prog M 66 (.map (some id)) (.int .i64 k) true = some (lookRes true r (.int .u8 0)) := fun r => by simp
  have hlook : alookup Try.prog M 66 (.map (some id)) (.int .i64 k) true = some (lookRes true (mFind k (mP pl) 0) (.int .u8 0)) := by
    simp only [alookup, Try.underlying66, Try.underlying3, hg, hi1, hi2, afind_mE, he, hf, and_self, if_true]
  cases hm : mFind k (mP pl) 0 with
  | none =>
    have hn : k ∉ pl.map Prod.fst := by rw [← mP_keys]; exact mFind_none.1 hm
    refine ⟨0, ?_, fun n _ h => absurd h hn⟩
    rw [hlook, hm]; simp [lookRes, hn]
  | some p =>
    obtain ⟨j, v⟩ := p
    have hmem : k ∈ pl.map Prod.fst := by
      have := (mFind_some hm).2
      rw [← mP_keys]
      exact List.mem_map.2 ⟨(k, v), List.mem_of_getElem? this, rfl⟩
    have hv : ∃ c : UInt8, v = .int .u8 c.toNat := by
      have := List.mem_of_getElem? (mFind_some hm).2
      simp only [mP, List.mem_map] at this
      obtain ⟨q, _, hq⟩ := this
      cases hq
      exact ⟨_, rfl⟩
    obtain ⟨c, rfl⟩ := hv
    refine ⟨c.toNat, ?_, fun n hn _ => ?_⟩
    · rw [hlook, hm]; simp [lookRes, hmem]
    · subst hn
      have := mFind_mP hm
      injection this with _ h2
theorem amupd66 {M : AMem} {id : Nat} {m : List (Int × Value)} (hg : M.get id = .map (mE m)) (k : Int) (v : Value) : amapUpdate Try.prog M 66 (.map (some id)) (.int .i64 k) v = some (M.set id (.map (mE (mSet m k v)))) := by
  have he : easyKey (.int .i64) (.int .i64 k) = true := rfl
  simp only [amapUpdate, Try.underlying66, Try.underlying3, hg, he, if_true, aset_mE]
  rfl
theorem seg_u32 {l : List UInt8} {t : Tup} {h : Segh} {b : List UInt8} (hs : segGet l = some (t, h, b)) : u32 h.seq := by
  unfold segGet at hs
  split at hs
  · cases hs
  split at hs
  · cases hs
  split at hs
  · cases hs
  · rename_i h3
    cases hs
    have h3 : (tcpGetF (ipGetF (ethGetF l).2.1).1.src (ipGetF (ethGetF l).2.1).1.dst (ipGetF (ethGetF l).2.1).2.1).2.2 = 0 := Decidable.not_not.1 h3
    unfold tcpGetF at h3 ⊢
    split
    · rename_i h0
      have := tcpE_0 h0
      exact numF_bound4 _ (part_length (by omega))
    · exact u32_0
theorem segs_u32 {os : List Ou} {i : Nat} {t : Tup} {h : Segh} {b : List UInt8} (hs : (segsF os)[i]? = some (t, h, b)) : u32 h.seq := by
  have := List.mem_of_getElem? hs
  unfold segsF segsL at this
  rw [List.mem_filterMap] at this
  obtain ⟨f, _, hf⟩ := this
  exact seg_u32 hf
def sp11 : ASpec := fun args M K => ∃ (lv : Value) (t : Tup) (start : Int) (os : List Ou), args = [lv, .agg t.cells.toArray, .int .u32 start] ∧ OusR M lv os ∧ fewO os ∧ dataN (os.flatMap Ou.frames) ≤ 1000000 ∧ u32 start ∧ K (.ret (asString (payF t start (segsF os)))) M
noncomputable def S11 : FuncId → ASpec := tab [(29, sp29), (39, sp39), (30, sp30)]
theorem S11_29 : S11 29 = sp29 := rfl
theorem S11_39 : S11 39 = sp39 := rfl
theorem S11_30 : S11 30 = sp30 := rfl
theorem S11_ok : ∀ f, Sound Try.prog f (S11 f) := tab_sound _ (by simp [f29_ok, f39_ok, f30_ok])
set_option maxHeartbeats 2000000 in
theorem f11_ok : Sound Try.prog 11 sp11 := by
 refine Sound.of_awpM (c := bodyOf Try.f11) Try.func11 rfl rfl rfl ?_
 rintro args M K ⟨lv, t, start, os, rfl, hos, hb, hdn, hstart, hK⟩
 refine ⟨Nat.le_of_ble_eq_true rfl, ?_⟩
 have hS := S11_ok
 have e0 : entry [lv, .agg t.cells.toArray, .int .u32 start] 0 = lv := rfl
 have e1 : entry [lv, .agg t.cells.toArray, .int .u32 start] 1 = .agg t.cells.toArray := rfl
 have e2 : entry [lv, .agg t.cells.toArray, .int .u32 start] 2 = .int .u32 start := rfl
 have hbn : bodyN (segsF os) ≤ 1000000 := Nat.le_trans (bodyN_segs _) hdn
 refine at_seq rfl ?_
 refine at_region hS rfl (by kernel_rfl) ?_
 refine s_op (a_box (by simp only [Zu, Nat.reduceEqDiff, ↓reduceIte, hcells_agg, newPtr, AMem.next_alloc, e1] <;> rfl)) rfl ?_
 refine s_op (a_box (by simp only [Zu, Nat.reduceEqDiff, ↓reduceIte, hcells_agg, newPtr, AMem.next_alloc, e2] <;> rfl)) rfl ?_
 refine s_op (a_as (by simp only [ev_const] <;> rfl)) rfl ?_
 refine s_end (fun s' hs' => ?_)
 replace e0 := kp 0 hs' e0
 have e4 := congrFun hs' 4
 have e5 := congrFun hs' 5
 simp only [Zu, Nat.reduceEqDiff, ↓reduceIte, newPtr, AMem.next_alloc] at e4 e5
 clear hs'
 try clear e1 e2
 refine o_norm ?_
 refine q_mem (fun M1 hEM1 => ?_)
 have hnM1 := congrArg AMem.next hEM1; simp only [Zn, Nat.add_assoc, Nat.reduceAdd] at hnM1
 have hnxM1 : M.next ≤ M1.next := by have := (Nat.le_refl M.next); omega
 have holdM1 : ∀ j, j < M.next → M1.get j = M.get j := fun j hj => by have := (Nat.le_refl M.next); rw [hEM1]; simp (disch := first | (refine Zx ?_; simp only [Zn]; done) | ((try simp only [Zn]); omega)) only [Zg]; done
 have gM1_0 := congrArg (fun m => AMem.get m M.next) hEM1; try simp (disch := first | (refine Zx ?_; simp only [Zn]; done) | ((try simp only [Zn]); omega)) only [Zg, Nat.add_assoc, Nat.reduceAdd] at gM1_0
 have gM1_1 := congrArg (fun m => AMem.get m (M.next + 1)) hEM1; try simp (disch := first | (refine Zx ?_; simp only [Zn]; done) | ((try simp only [Zn]); omega)) only [Zg, Nat.add_assoc, Nat.reduceAdd] at gM1_1
 clear hEM1
 refine t_norm ?_
 refine at_seq rfl ?_
 refine at_region hS rfl (by kernel_rfl) ?_
 refine s_op (a_mkmap) rfl ?_
 refine s_op (a_alloc z66) rfl ?_
 refine s_op (a_store (by simp only [Zu, Nat.reduceEqDiff, ↓reduceIte, st66, newPtr, AMem.next_alloc, gM1_0, gM1_1] <;> rfl) (by simp (disch := first | (refine Zx ?_; simp only [Zn]; done) | ((try simp only [Zn]); omega)) only [Zg, st66, newPtr, gM1_0, gM1_1] <;> rfl) (by simp only [Zu, Nat.reduceEqDiff, ↓reduceIte, st66, newPtr, AMem.next_alloc, gM1_0, gM1_1] <;> rfl) (by simp only [st66, newPtr, AMem.next_alloc, gM1_0, gM1_1] <;> rfl)) rfl ?_
 refine s_end (fun s' hs' => ?_)
 replace e0 := kp 0 hs' e0
 replace e4 := kp 4 hs' e4
 replace e5 := kp 5 hs' e5
 have e7 := congrFun hs' 7
 simp only [Zu, Nat.reduceEqDiff, ↓reduceIte, newPtr, AMem.next_alloc] at e7
 clear hs'
 refine o_norm ?_
 refine q_mem (fun M2 hEM2 => ?_)
 have hnM2 := congrArg AMem.next hEM2; simp only [Zn, Nat.add_assoc, Nat.reduceAdd] at hnM2
 have hnxM2 : M.next ≤ M2.next := by have := hnxM1; omega
 have holdM2 : ∀ j, j < M.next → M2.get j = M.get j := fun j hj => by have := hnxM1; rw [hEM2]; simp (disch := first | (refine Zx ?_; simp only [Zn]; done) | ((try simp only [Zn]); omega)) only [Zg]; exact holdM1 j hj
 have gM2_0 := congrArg (fun m => AMem.get m M.next) hEM2; try simp (disch := first | (refine Zx ?_; simp only [Zn]; done) | ((try simp only [Zn]); omega)) only [Zg, Nat.add_assoc, Nat.reduceAdd, gM1_0, gM1_1] at gM2_0
 have gM2_1 := congrArg (fun m => AMem.get m (M.next + 1)) hEM2; try simp (disch := first | (refine Zx ?_; simp only [Zn]; done) | ((try simp only [Zn]); omega)) only [Zg, Nat.add_assoc, Nat.reduceAdd, gM1_0, gM1_1] at gM2_1
 have gM2_2 := congrArg (fun m => AMem.get m M1.next) hEM2; try simp (disch := first | (refine Zx ?_; simp only [Zn]; done) | ((try simp only [Zn]); omega)) only [Zg, Nat.add_assoc, Nat.reduceAdd, gM1_0, gM1_1] at gM2_2
 have gM2_3 := congrArg (fun m => AMem.get m (M1.next + 1)) hEM2; try simp (disch := first | (refine Zx ?_; simp only [Zn]; done) | ((try simp only [Zn]); omega)) only [Zg, Nat.add_assoc, Nat.reduceAdd, gM1_0, gM1_1] at gM2_3
 clear hEM2
 refine t_norm ?_
 refine at_seq rfl ?_
 refine at_seq rfl ?_
 refine at_region hS rfl (by kernel_rfl) ?_
 refine s_op (a_mv e0) rfl ?_
 refine s_call (by simp only [Zu, Nat.reduceEqDiff, ↓reduceIte, newPtr, AMem.next_alloc, gM2_0, gM2_1, gM2_2, gM2_3] <;> rfl) (by simp only [Zu, Nat.reduceEqDiff, ↓reduceIte, Zm, newPtr, AMem.next_alloc, gM2_0, gM2_1, gM2_2, gM2_3] <;> rfl) ?_
 rw [S11_29]; refine ⟨lv, rfl, hos.cells1, ?_⟩
 show EA _ _ _ _ _ _
 refine s_end (fun s' hs' => ?_)
 replace e4 := kp 4 hs' e4
 replace e5 := kp 5 hs' e5
 replace e7 := kp 7 hs' e7
 have e18 := congrFun hs' 18
 simp only [Zu, Nat.reduceEqDiff, ↓reduceIte, newPtr, AMem.next_alloc] at e18
 clear hs'
 try clear e0
 refine o_norm ?_
 refine q_mem (fun M3 hEM3 => ?_)
 have hnM3 := congrArg AMem.next hEM3; simp only [Zn, Nat.add_assoc, Nat.reduceAdd] at hnM3
 have hnxM3 : M.next ≤ M3.next := by have := hnxM2; omega
 have holdM3 : ∀ j, j < M.next → M3.get j = M.get j := fun j hj => by have := hnxM2; rw [hEM3]; simp (disch := first | (refine Zx ?_; simp only [Zn]; done) | ((try simp only [Zn]); omega)) only [Zg]; exact holdM2 j hj
 have gM3_0 := congrArg (fun m => AMem.get m M.next) hEM3; try simp (disch := first | (refine Zx ?_; simp only [Zn]; done) | ((try simp only [Zn]); omega)) only [Zg, Nat.add_assoc, Nat.reduceAdd, gM2_0, gM2_1, gM2_2, gM2_3] at gM3_0
 have gM3_1 := congrArg (fun m => AMem.get m (M.next + 1)) hEM3; try simp (disch := first | (refine Zx ?_; simp only [Zn]; done) | ((try simp only [Zn]); omega)) only [Zg, Nat.add_assoc, Nat.reduceAdd, gM2_0, gM2_1, gM2_2, gM2_3] at gM3_1
 have gM3_2 := congrArg (fun m => AMem.get m M1.next) hEM3; try simp (disch := first | (refine Zx ?_; simp only [Zn]; done) | ((try simp only [Zn]); omega)) only [Zg, Nat.add_assoc, Nat.reduceAdd, gM2_0, gM2_1, gM2_2, gM2_3] at gM3_2
 have gM3_3 := congrArg (fun m => AMem.get m (M1.next + 1)) hEM3; try simp (disch := first | (refine Zx ?_; simp only [Zn]; done) | ((try simp only [Zn]); omega)) only [Zg, Nat.add_assoc, Nat.reduceAdd, gM2_0, gM2_1, gM2_2, gM2_3] at gM3_3
 have gM3_4 := congrArg (fun m => AMem.get m M2.next) hEM3; try simp (disch := first | (refine Zx ?_; simp only [Zn]; done) | ((try simp only [Zn]); omega)) only [Zg, Nat.add_assoc, Nat.reduceAdd, gM2_0, gM2_1, gM2_2, gM2_3] at gM3_4
 clear hEM3
 refine t_norm ?_
 refine at_block rfl ?_
 refine at_rf (ps := #[19]) hS rfl rfl e18 ?_
 rw [S11_39]
 have hsl := segsL_le (os.flatMap Ou.frames)
 have hb2 := hb.2.1
 refine ⟨M3.next + 1, M2.next, true, lv, os, M, (fun i M' => RfG M [(M.next, .cells t.cells true), (M.next + 1, .cells [.int .u32 start] true), (M1.next + 1, .cells [.map (some M1.next)] true), (M2.next, .cells [lv] true)] M1.next M3.next s' Try.f11.ntmps 19 (cin (csnd (cfst (csnd (csnd (bodyOf Try.f11)))))) (.map (mE (mP (payL t start ((segsF os).take i))))) M'), rfl, hos, hb, fun f hf => by have := dataN_mem hf; omega, RfG.start rfl (by omega) (by intro q hq; simp only [List.mem_cons, List.not_mem_nil, or_false] at hq; rcases hq with rfl | rfl | rfl | rfl <;> simp only <;> omega) (by omega) holdM3 (by intro q hq; simp only [List.mem_cons, List.not_mem_nil, or_false] at hq; rcases hq with rfl | rfl | rfl | rfl; exact gM3_0; exact gM3_1; exact gM3_3; exact gM3_4) gM3_2, fun i M' h => ⟨by have := h.nx; simp; omega, by have := h.nx; omega, h.hold, h.stat (M2.next, .cells [lv] true) (by simp)⟩, fun i M' M'' h hn hg => h.stay (by omega) (by intro q hq; simp only [List.mem_cons, List.not_mem_nil, or_false] at hq; rcases hq with rfl | rfl | rfl | rfl <;> simp only <;> omega) (by omega) hn hg, ?_, ?_⟩
 ·
  intro i MR tt h b hat hI
  refine ⟨none, s', _, #[19], _, _, M3.next, hI.loop, rfl, fun r => ?_⟩
  refine at_slots (fun sR hsR => ?_)
  have e4 : sR 4 = .pointer (some ⟨M.next, 0, none⟩) := by rw [hsR]; exact e4
  have e5 : sR 5 = .pointer (some ⟨M.next + 1, 0, none⟩) := by rw [hsR]; exact e5
  have e7 : sR 7 = .pointer (some ⟨M1.next + 1, 0, none⟩) := by rw [hsR]; exact e7
  have e19 : sR 19 = .agg (sgC tt h b).toArray := by rw [hsR]; rfl
  have g0 := hI.stat (M.next, .cells t.cells true) (by simp)
  have g1 := hI.stat (M.next + 1, .cells [.int .u32 start] true) (by simp)
  have g2 := hI.cnt
  have g3 := hI.stat (M1.next + 1, .cells [.map (some M1.next)] true) (by simp)
  have g4 := hI.stat (M2.next, .cells [lv] true) (by simp)
  have g5 := hI.defs
  have g6 := hI.loop
  simp only at g0 g1 g3 g4
  have holdMR := hI.hold
  have hnbR := hI.nx
  have hnxMR : M.next ≤ MR.next := by omega
  have hsq := segs_u32 hat
  have hpn := payL_snoc (t := t) (start := start) hat
  have hpl := payL_len t start ((segsF os).take i)
  have hbt := bodyN_take hat
  simp only at hbt
  generalize payL t start ((segsF os).take i) = pl at *
  refine at_region hS rfl (by kernel_rfl) ?_
  refine s_op (a_alloc z71) rfl ?_
  refine s_op (a_store (by simp only [Zu, Nat.reduceEqDiff, ↓reduceIte, st71, newPtr, AMem.next_alloc, g0, g1, g2, g3, g4, g5, g6, e19] <;> rfl) (by simp (disch := first | (refine Zx ?_; simp only [Zn]; done) | ((try simp only [Zn]); omega)) only [Zg, st71, newPtr, g0, g1, g2, g3, g4, g5, g6, e19] <;> rfl) e19 (by simp only [st71, newPtr, AMem.next_alloc, g0, g1, g2, g3, g4, g5, g6, e19] <;> rfl)) rfl ?_
  refine s_end (fun s' hs' => ?_)
  replace e4 := kp 4 hs' e4
  replace e5 := kp 5 hs' e5
  replace e7 := kp 7 hs' e7
  have e8 := congrFun hs' 8
  simp only [Zu, Nat.reduceEqDiff, ↓reduceIte, newPtr, AMem.next_alloc] at e8
  clear hs'
  try clear e19
  refine o_norm ?_
  refine q_mem (fun M4 hEM4 => ?_)
  have hnM4 := congrArg AMem.next hEM4; simp only [Zn, Nat.add_assoc, Nat.reduceAdd] at hnM4
  have hnxM4 : M.next ≤ M4.next := by have := hnxMR; omega
  have holdM4 : ∀ j, j < M.next → M4.get j = M.get j := fun j hj => by have := hnxMR; rw [hEM4]; simp (disch := first | (refine Zx ?_; simp only [Zn]; done) | ((try simp only [Zn]); omega)) only [Zg]; exact holdMR j hj
  have gM4_0 := congrArg (fun m => AMem.get m M.next) hEM4; try simp (disch := first | (refine Zx ?_; simp only [Zn]; done) | ((try simp only [Zn]); omega)) only [Zg, Nat.add_assoc, Nat.reduceAdd, g0, g1, g2, g3, g4, g5, g6] at gM4_0
  have gM4_1 := congrArg (fun m => AMem.get m (M.next + 1)) hEM4; try simp (disch := first | (refine Zx ?_; simp only [Zn]; done) | ((try simp only [Zn]); omega)) only [Zg, Nat.add_assoc, Nat.reduceAdd, g0, g1, g2, g3, g4, g5, g6] at gM4_1
  have gM4_2 := congrArg (fun m => AMem.get m M1.next) hEM4; try simp (disch := first | (refine Zx ?_; simp only [Zn]; done) | ((try simp only [Zn]); omega)) only [Zg, Nat.add_assoc, Nat.reduceAdd, g0, g1, g2, g3, g4, g5, g6] at gM4_2
  have gM4_3 := congrArg (fun m => AMem.get m (M1.next + 1)) hEM4; try simp (disch := first | (refine Zx ?_; simp only [Zn]; done) | ((try simp only [Zn]); omega)) only [Zg, Nat.add_assoc, Nat.reduceAdd, g0, g1, g2, g3, g4, g5, g6] at gM4_3
  have gM4_4 := congrArg (fun m => AMem.get m M2.next) hEM4; try simp (disch := first | (refine Zx ?_; simp only [Zn]; done) | ((try simp only [Zn]); omega)) only [Zg, Nat.add_assoc, Nat.reduceAdd, g0, g1, g2, g3, g4, g5, g6] at gM4_4
  have gM4_5 := congrArg (fun m => AMem.get m M3.next) hEM4; try simp (disch := first | (refine Zx ?_; simp only [Zn]; done) | ((try simp only [Zn]); omega)) only [Zg, Nat.add_assoc, Nat.reduceAdd, g0, g1, g2, g3, g4, g5, g6] at gM4_5
  have gM4_6 := congrArg (fun m => AMem.get m (M3.next + 1)) hEM4; try simp (disch := first | (refine Zx ?_; simp only [Zn]; done) | ((try simp only [Zn]); omega)) only [Zg, Nat.add_assoc, Nat.reduceAdd, g0, g1, g2, g3, g4, g5, g6] at gM4_6
  have gM4_7 := congrArg (fun m => AMem.get m MR.next) hEM4; try simp (disch := first | (refine Zx ?_; simp only [Zn]; done) | ((try simp only [Zn]); omega)) only [Zg, Nat.add_assoc, Nat.reduceAdd, g0, g1, g2, g3, g4, g5, g6] at gM4_7
  clear hEM4
  refine r_asn gM4_6 ?_
  refine at_mem (fun M5 hEM5 => ?_)
  have hnM5 := congrArg AMem.next hEM5; simp only [Zn, Nat.add_assoc, Nat.reduceAdd] at hnM5
  have hnxM5 : M.next ≤ M5.next := by have := hnxM4; omega
  have holdM5 : ∀ j, j < M.next → M5.get j = M.get j := fun j hj => by have := hnxM4; rw [hEM5]; simp (disch := first | (refine Zx ?_; simp only [Zn]; done) | ((try simp only [Zn]); omega)) only [Zg]; exact holdM4 j hj
  have gM5_0 := congrArg (fun m => AMem.get m M.next) hEM5; try simp (disch := first | (refine Zx ?_; simp only [Zn]; done) | ((try simp only [Zn]); omega)) only [Zg, Nat.add_assoc, Nat.reduceAdd, gM4_0, gM4_1, gM4_2, gM4_3, gM4_4, gM4_5, gM4_6, gM4_7] at gM5_0
  have gM5_1 := congrArg (fun m => AMem.get m (M.next + 1)) hEM5; try simp (disch := first | (refine Zx ?_; simp only [Zn]; done) | ((try simp only [Zn]); omega)) only [Zg, Nat.add_assoc, Nat.reduceAdd, gM4_0, gM4_1, gM4_2, gM4_3, gM4_4, gM4_5, gM4_6, gM4_7] at gM5_1
  have gM5_2 := congrArg (fun m => AMem.get m M1.next) hEM5; try simp (disch := first | (refine Zx ?_; simp only [Zn]; done) | ((try simp only [Zn]); omega)) only [Zg, Nat.add_assoc, Nat.reduceAdd, gM4_0, gM4_1, gM4_2, gM4_3, gM4_4, gM4_5, gM4_6, gM4_7] at gM5_2
  have gM5_3 := congrArg (fun m => AMem.get m (M1.next + 1)) hEM5; try simp (disch := first | (refine Zx ?_; simp only [Zn]; done) | ((try simp only [Zn]); omega)) only [Zg, Nat.add_assoc, Nat.reduceAdd, gM4_0, gM4_1, gM4_2, gM4_3, gM4_4, gM4_5, gM4_6, gM4_7] at gM5_3
  have gM5_4 := congrArg (fun m => AMem.get m M2.next) hEM5; try simp (disch := first | (refine Zx ?_; simp only [Zn]; done) | ((try simp only [Zn]); omega)) only [Zg, Nat.add_assoc, Nat.reduceAdd, gM4_0, gM4_1, gM4_2, gM4_3, gM4_4, gM4_5, gM4_6, gM4_7] at gM5_4
  have gM5_5 := congrArg (fun m => AMem.get m M3.next) hEM5; try simp (disch := first | (refine Zx ?_; simp only [Zn]; done) | ((try simp only [Zn]); omega)) only [Zg, Nat.add_assoc, Nat.reduceAdd, gM4_0, gM4_1, gM4_2, gM4_3, gM4_4, gM4_5, gM4_6, gM4_7] at gM5_5
  have gM5_6 := congrArg (fun m => AMem.get m (M3.next + 1)) hEM5; try simp (disch := first | (refine Zx ?_; simp only [Zn]; done) | ((try simp only [Zn]); omega)) only [Zg, Nat.add_assoc, Nat.reduceAdd, gM4_0, gM4_1, gM4_2, gM4_3, gM4_4, gM4_5, gM4_6, gM4_7] at gM5_6
  have gM5_7 := congrArg (fun m => AMem.get m MR.next) hEM5; try simp (disch := first | (refine Zx ?_; simp only [Zn]; done) | ((try simp only [Zn]); omega)) only [Zg, Nat.add_assoc, Nat.reduceAdd, gM4_0, gM4_1, gM4_2, gM4_3, gM4_4, gM4_5, gM4_6, gM4_7] at gM5_7
  clear hEM5
  refine at_block rfl ?_
  refine at_seq rfl ?_
  refine at_seq rfl ?_
  refine at_region hS rfl (by kernel_rfl) ?_
  refine s_op (a_fa (by simp only [Zu, Nat.reduceEqDiff, ↓reduceIte, fa71_0, Nat.zero_add, ld39s, newPtr, AMem.next_alloc, e8] <;> rfl)) rfl ?_
  refine s_op (a_load (by simp only [Zu, Nat.reduceEqDiff, ↓reduceIte, ld39s, ld39, newPtr, AMem.next_alloc, gM5_0, gM5_1, gM5_2, gM5_3, gM5_4, gM5_5, gM5_6, gM5_7] <;> rfl) (by simp (disch := first | (refine Zx ?_; simp only [Zn]; done) | ((try simp only [Zn]); omega)) only [Zg, ld39s, ld39, newPtr, gM5_0, gM5_1, gM5_2, gM5_3, gM5_4, gM5_5, gM5_6, gM5_7] <;> rfl) (by simp only [ld39s, ld39, newPtr, AMem.next_alloc, gM5_0, gM5_1, gM5_2, gM5_3, gM5_4, gM5_5, gM5_6, gM5_7] <;> rfl)) rfl ?_
  refine s_op (a_load e4 (by simp (disch := first | (refine Zx ?_; simp only [Zn]; done) | ((try simp only [Zn]); omega)) only [Zg, ld39s, ld39, newPtr, gM5_0, gM5_1, gM5_2, gM5_3, gM5_4, gM5_5, gM5_6, gM5_7, e4] <;> rfl) (by simp only [ld39s, ld39, newPtr, AMem.next_alloc, gM5_0, gM5_1, gM5_2, gM5_3, gM5_4, gM5_5, gM5_6, gM5_7, e4] <;> rfl)) rfl ?_
  refine s_op (a_tupneq (t := tt) (t' := t) (by simp only [Zu, Nat.reduceEqDiff, ↓reduceIte]) (by simp only [Zu, Nat.reduceEqDiff, ↓reduceIte])) rfl ?_
  refine s_end (fun s' hs' => ?_)
  replace e5 := kp 5 hs' e5
  replace e7 := kp 7 hs' e7
  replace e8 := kp 8 hs' e8
  have e23 := congrFun hs' 23
  simp only [Zu, Nat.reduceEqDiff, ↓reduceIte, newPtr, AMem.next_alloc] at e23
  clear hs'
  try clear e4
  refine o_norm ?_
  refine t_norm ?_
  refine at_cond rfl rfl e23 (fun h4 => ?_) (fun h4 => ?_)
  ·
   try simp only [Zh] at h4
   refine at_exit rfl ?_
   refine t_exit ?_
   refine b_here ?_
   refine r_norm gM5_6 ?_
   refine ⟨rfl, by simp; omega, ⟨by simp; omega, fun j hj => by rw [get_else (by omega)]; exact holdM5 j hj, ?_, ?_, by rw [get_else (by omega)]; exact gM5_5, get_put⟩⟩
   · intro q hq
     simp only [List.mem_cons, List.not_mem_nil, or_false] at hq
     rcases hq with rfl | rfl | rfl | rfl
     · show AMem.get _ M.next = _; rw [get_else (by omega)]; exact gM5_0
     · show AMem.get _ (M.next + 1) = _; rw [get_else (by omega)]; exact gM5_1
     · show AMem.get _ (M1.next + 1) = _; rw [get_else (by omega)]; exact gM5_3
     · show AMem.get _ M2.next = _; rw [get_else (by omega)]; exact gM5_4
   · rw [get_else (by omega), gM5_2, hpn, payStep, if_neg (by simpa using h4)]
  ·
   try simp only [Zh] at h4
   refine at_skip rfl ?_
   refine t_norm ?_
   refine at_seq rfl ?_
   have hlm := alen_map (M := M5) gM5_2
   rw [show (mE (mP pl)).length = pl.length from by simp [mE, mP]] at hlm
   refine at_region hS rfl (by kernel_rfl) ?_
   refine s_op (a_load e5 (by simp (disch := first | (refine Zx ?_; simp only [Zn]; done) | ((try simp only [Zn]); omega)) only [Zg, Nat.zero_add, Nat.reduceAdd, ld23, ld66, sgC_7, hlm, newPtr, gM5_0, gM5_1, gM5_2, gM5_3, gM5_4, gM5_5, gM5_6, gM5_7, e5] <;> rfl) (by simp only [ld23, Zl, Nat.zero_add, Nat.reduceAdd, ld66, sgC_7, hlm, newPtr, AMem.next_alloc, gM5_0, gM5_1, gM5_2, gM5_3, gM5_4, gM5_5, gM5_6, gM5_7, e5] <;> rfl)) rfl ?_
   refine s_op (a_fa (by simp only [Zu, Nat.reduceEqDiff, ↓reduceIte, fa71_1, Nat.zero_add, fa57_2, Nat.reduceAdd, hlm, newPtr, AMem.next_alloc, e8] <;> rfl)) rfl ?_
   refine s_op (a_fa (by simp only [Zu, Nat.reduceEqDiff, ↓reduceIte, fa57_2, Nat.zero_add, fa71_1, Nat.reduceAdd, hlm, newPtr, AMem.next_alloc] <;> rfl)) rfl ?_
   refine s_op (a_load (by simp only [Zu, Nat.reduceEqDiff, ↓reduceIte, Nat.zero_add, Nat.reduceAdd, ld23, ld66, sgC_7, hlm, newPtr, AMem.next_alloc, gM5_0, gM5_1, gM5_2, gM5_3, gM5_4, gM5_5, gM5_6, gM5_7] <;> rfl) (by simp (disch := first | (refine Zx ?_; simp only [Zn]; done) | ((try simp only [Zn]); omega)) only [Zg, Nat.zero_add, Nat.reduceAdd, ld23, ld66, sgC_7, hlm, newPtr, gM5_0, gM5_1, gM5_2, gM5_3, gM5_4, gM5_5, gM5_6, gM5_7] <;> rfl) (by simp only [ld23, Zl, Nat.zero_add, Nat.reduceAdd, ld66, sgC_7, hlm, newPtr, AMem.next_alloc, gM5_0, gM5_1, gM5_2, gM5_3, gM5_4, gM5_5, gM5_6, gM5_7] <;> rfl)) rfl ?_
   refine s_op (a_load e7 (by simp (disch := first | (refine Zx ?_; simp only [Zn]; done) | ((try simp only [Zn]); omega)) only [Zg, Nat.zero_add, Nat.reduceAdd, ld23, ld66, sgC_7, hlm, newPtr, gM5_0, gM5_1, gM5_2, gM5_3, gM5_4, gM5_5, gM5_6, gM5_7, e7] <;> rfl) (by simp only [Nat.zero_add, Nat.reduceAdd, ld23, ld66, sgC_7, hlm, newPtr, AMem.next_alloc, gM5_0, gM5_1, gM5_2, gM5_3, gM5_4, gM5_5, gM5_6, gM5_7, e7] <;> rfl)) rfl ?_
   refine s_op (a_len (by simp (disch := omega) only [Zu, Nat.reduceEqDiff, ↓reduceIte, alen_str, Nat.zero_add, Nat.reduceAdd, hlm, newPtr, AMem.next_alloc, gM5_0, gM5_1, gM5_2, gM5_3, gM5_4, gM5_5, gM5_6, gM5_7] <;> rfl)) rfl ?_
   refine s_call (by simp only [Zu, Nat.reduceEqDiff, ↓reduceIte, Nat.zero_add, Nat.reduceAdd, hlm, newPtr, AMem.next_alloc, gM5_0, gM5_1, gM5_2, gM5_3, gM5_4, gM5_5, gM5_6, gM5_7] <;> rfl) (by simp only [Zu, Nat.reduceEqDiff, ↓reduceIte, Zm, Nat.zero_add, Nat.reduceAdd, hlm, newPtr, AMem.next_alloc, gM5_0, gM5_1, gM5_2, gM5_3, gM5_4, gM5_5, gM5_6, gM5_7] <;> rfl) ?_
   rw [S11_30]; refine ⟨_, _, _, rfl, ⟨hstart, hsq⟩, ?_⟩
   show EA _ _ _ _ _ _
   refine s_as ?_
   refine s_end (fun s' hs' => ?_)
   replace e7 := kp 7 hs' e7
   replace e8 := kp 8 hs' e8
   have e9 := congrFun hs' 9
   simp only [Zu, Nat.reduceEqDiff, ↓reduceIte, newPtr, AMem.next_alloc] at e9
   clear hs'
   try clear e5
   refine o_norm ?_
   have hteq : tupEq tt t = true := by simpa using h4
   have hdf := diffF_bound h.seq (plusF start (max 0 (min (pl.length : Int) 1099511627776)))
   have hoff : -4398046511104 ≤ placeF start h.seq pl.length ∧ placeF start h.seq pl.length ≤ 4398046511104 := by unfold placeF; omega
   have hpn2 : payStep t start pl (tt, h, b) = putS (placeF start h.seq pl.length) pl b := by unfold payStep; rw [if_pos hteq]
   generalize placeF start h.seq pl.length = off at *
   refine t_norm ?_
   refine at_seq rfl ?_
   refine at_region hS rfl (by kernel_rfl) ?_
   refine s_op (a_fa (by simp only [Zu, Nat.reduceEqDiff, ↓reduceIte, fa71_2, Nat.zero_add, newPtr, AMem.next_alloc, e8] <;> rfl)) rfl ?_
   refine s_op (a_load (by simp only [Zu, Nat.reduceEqDiff, ↓reduceIte, Nat.zero_add, ld9, sgC_12, newPtr, AMem.next_alloc, gM5_0, gM5_1, gM5_2, gM5_3, gM5_4, gM5_5, gM5_6, gM5_7] <;> rfl) (by simp (disch := first | (refine Zx ?_; simp only [Zn]; done) | ((try simp only [Zn]); omega)) only [Zg, Nat.zero_add, ld9, sgC_12, newPtr, gM5_0, gM5_1, gM5_2, gM5_3, gM5_4, gM5_5, gM5_6, gM5_7] <;> rfl) (by simp only [ld9, Zl, Nat.zero_add, sgC_12, newPtr, AMem.next_alloc, gM5_0, gM5_1, gM5_2, gM5_3, gM5_4, gM5_5, gM5_6, gM5_7] <;> rfl)) rfl ?_
   refine s_op (a_len (by simp (disch := omega) only [Zu, Nat.reduceEqDiff, ↓reduceIte, alen_str, Nat.zero_add, hlenS, newPtr, AMem.next_alloc, gM5_0, gM5_1, gM5_2, gM5_3, gM5_4, gM5_5, gM5_6, gM5_7] <;> rfl)) rfl ?_
   refine s_op (a_mv (by simp only [ev_const] <;> rfl)) rfl ?_
   refine s_end (fun s' hs' => ?_)
   replace e7 := kp 7 hs' e7
   replace e8 := kp 8 hs' e8
   replace e9 := kp 9 hs' e9
   have e33 := congrFun hs' 33
   have e34 := congrFun hs' 34
   simp only [Zu, Nat.reduceEqDiff, ↓reduceIte, newPtr, AMem.next_alloc] at e33 e34
   clear hs'
   refine o_norm ?_
   refine t_norm ?_
   refine at_block rfl ?_
   refine at_loop rfl (fun km s ML ds => ∃ (q : Nat), s 7 = .pointer (some ⟨M1.next + 1, 0, none⟩) ∧ s 8 = .pointer (some ⟨MR.next, 0, none⟩) ∧ s 9 = .int .i64 off ∧ s 33 = .int .i64 b.length ∧ s 34 = .int .i64 q ∧ q ≤ b.length ∧ ML.get M1.next = .map (mE (mP (putS off pl (b.take q)))) ∧ (∀ j, j ≠ M1.next → ML.get j = M5.get j) ∧ km = b.length - q ∧ M.next ≤ ML.next ∧ M5.next ≤ ML.next ∧ (∀ j, j < M.next → ML.get j = M.get j) ∧ ds = []) (b.length - (0)) ⟨0, (by first | exact e7 | (rw [e7]; rfl) | (simpa using e7)), (by first | exact e8 | (rw [e8]; rfl) | (simpa using e8)), (by first | exact e9 | (rw [e9]; rfl) | (simpa using e9)), (by first | exact e33 | (rw [e33]; rfl) | (simpa using e33)), (by first | exact e34 | (rw [e34]; rfl) | (simpa using e34)), (by omega), (by simpa [putS_nil] using gM5_2), (fun _ _ => rfl), rfl, hnxM5, by omega, holdM5, rfl⟩ ?_
   clear e7 e8 e9 e33 e34
   rintro km s M6 ds ⟨q, e7, e8, e9, e33, e34, hq, gm, hgst, hk, hnxM6, hngM6, holdM6, rfl⟩
   refine at_seq rfl ?_
   refine at_region hS rfl (by kernel_rfl) ?_
   refine s_op (a_bin (by simp (disch := omega) only [Zu, Nat.reduceEqDiff, ↓reduceIte, Zd, reduceCtorEq, abin_lss, ne_eq, not_false_eq_true, gm, e33, e34] <;> rfl)) rfl ?_
   refine s_end (fun s' hs' => ?_)
   replace e7 := kp 7 hs' e7
   replace e8 := kp 8 hs' e8
   replace e9 := kp 9 hs' e9
   replace e33 := kp 33 hs' e33
   replace e34 := kp 34 hs' e34
   have e35 := congrFun hs' 35
   simp only [Zu, Nat.reduceEqDiff, ↓reduceIte, newPtr, AMem.next_alloc] at e35
   clear hs'
   refine o_norm ?_
   refine t_norm ?_
   refine at_seq rfl ?_
   refine at_cond rfl rfl e35 (fun h7 => ?_) (fun h7 => ?_)
   ·
    try simp only [Zh] at h7
    refine at_skip rfl ?_
    refine t_norm ?_
    refine at_seq rfl ?_
    refine t_join (I := fun s MJ ds => s 7 = .pointer (some ⟨M1.next + 1, 0, none⟩) ∧ s 8 = .pointer (some ⟨MR.next, 0, none⟩) ∧ s 9 = .int .i64 off ∧ s 33 = .int .i64 b.length ∧ s 34 = .int .i64 q ∧ MJ.get M1.next = .map (mE (mP (putS off pl (b.take (q + 1))))) ∧ (∀ j, j ≠ M1.next → MJ.get j = M5.get j) ∧ M.next ≤ MJ.next ∧ M6.next ≤ MJ.next ∧ (∀ j, j < M.next → MJ.get j = M.get j) ∧ ds = []) ?_ ?_
    ·
     refine at_block rfl ?_
     refine at_seq rfl ?_
     refine at_region hS rfl (by kernel_rfl) ?_
     refine s_op (a_mv e34) rfl ?_
     refine s_as ?_
     refine s_end (fun s' hs' => ?_)
     replace e7 := kp 7 hs' e7
     replace e8 := kp 8 hs' e8
     replace e9 := kp 9 hs' e9
     have e10 := congrFun hs' 10
     replace e33 := kp 33 hs' e33
     replace e34 := kp 34 hs' e34
     simp only [Zu, Nat.reduceEqDiff, ↓reduceIte, newPtr, AMem.next_alloc] at e10
     clear hs'
     refine o_norm ?_
     refine t_norm ?_
     refine at_seq rfl ?_
     have hql : q < b.length := by omega
     have w3 := (hgst (M1.next + 1) (by omega)).trans gM5_3
     have w7 := (hgst MR.next (by omega)).trans gM5_7
     have htk : b.take (q + 1) = b.take q ++ [b[q]] := take_snoc b q hql
     have htl : (b.take q).length = q := by rw [List.length_take]; omega
     have hps := putS_snoc off pl (b.take q) b[q]
     rw [htl] at hps
     obtain ⟨y, hlk, _⟩ := alook66 (M := M6) gm (off + (q : Int))
     generalize putS off pl (b.take q) = pq at *
     refine at_region hS rfl (by kernel_rfl) ?_
     refine s_op (a_load e7 (by simp (disch := first | (refine Zx ?_; simp only [Zn]; done) | ((try simp only [Zn]); omega)) only [Zg, w3, ld66, List.getElem?_cons_zero, hlk, newPtr, gm, e7] <;> rfl) (by simp only [w3, ld66, List.getElem?_cons_zero, hlk, newPtr, AMem.next_alloc, gm, e7] <;> rfl)) rfl ?_
     refine s_op (a_mv e9) rfl ?_
     refine s_op (a_mv e10) rfl ?_
     refine s_op (a_bin (by simp (disch := ((try simp only [List.length_append, List.length_cons, List.length_nil]); omega)) only [Zu, Nat.reduceEqDiff, ↓reduceIte, Zd, reduceCtorEq, abin_add, abin_aadd, wrap_i64, wrap_u32, wrap_u8, wrap_u64, wrap_i32, wrap_u16, ne_eq, not_false_eq_true, w3, List.getElem?_cons_zero, hlk, gm] <;> rfl)) rfl ?_
     refine s_op (a_look (by simp (disch := omega) only [Zu, Nat.reduceEqDiff, ↓reduceIte, w3, List.getElem?_cons_zero, hlk, newPtr, AMem.next_alloc, gm] <;> rfl)) rfl ?_
     refine s_mv ?_
     refine s_op (a_ext (by simp only [Zu, Nat.reduceEqDiff, ↓reduceIte, w3, List.getElem?_cons_zero, hlk, newPtr, AMem.next_alloc, gm] <;> rfl) (by first | exact ext4_0 | exact ext3_0 | exact ext2_0 | rfl)) rfl ?_
     refine s_op (a_ext (by simp only [Zu, Nat.reduceEqDiff, ↓reduceIte, w3, List.getElem?_cons_zero, hlk, newPtr, AMem.next_alloc, gm] <;> rfl) (by first | exact ext4_1 | exact ext3_1 | exact ext2_1 | rfl)) rfl ?_
     refine s_as ?_
     refine s_as ?_
     refine s_end (fun s' hs' => ?_)
     replace e7 := kp 7 hs' e7
     replace e8 := kp 8 hs' e8
     replace e9 := kp 9 hs' e9
     replace e10 := kp 10 hs' e10
     have e12 := congrFun hs' 12
     replace e33 := kp 33 hs' e33
     replace e34 := kp 34 hs' e34
     simp only [Zu, Nat.reduceEqDiff, ↓reduceIte, newPtr, AMem.next_alloc] at e12
     clear hs'
     refine o_norm ?_
     refine t_norm ?_
     refine at_seq rfl ?_
     by_cases hin : (off + (q : Int)) ∈ pq.map Prod.fst
     ·
      refine at_region hS rfl (by kernel_rfl) ?_
      refine s_op (a_mv e12) rfl ?_
      refine s_op (a_un (by simp (disch := omega) only [Zu, Nat.reduceEqDiff, ↓reduceIte, Zd, reduceCtorEq, aun, wrap_i64, IntKind.signed, hin, gm] <;> rfl)) rfl ?_
      refine s_mv ?_
      refine s_lv ?_
      refine s_lv ?_
      refine s_lv ?_
      refine s_lv ?_
      refine s_op (a_pick (by simp only [Zu, Nat.reduceEqDiff, ↓reduceIte, Zd, reduceCtorEq, hin, gm] <;> rfl) (by simp only [Zu, Nat.reduceEqDiff, ↓reduceIte, Zd, reduceCtorEq, hin, gm] <;> rfl)) rfl ?_
      refine s_end (fun s' hs' => ?_)
      replace e7 := kp 7 hs' e7
      replace e8 := kp 8 hs' e8
      replace e9 := kp 9 hs' e9
      replace e10 := kp 10 hs' e10
      replace e33 := kp 33 hs' e33
      replace e34 := kp 34 hs' e34
      have e52 := congrFun hs' 52
      simp only [Zu, Nat.reduceEqDiff, ↓reduceIte, newPtr, AMem.next_alloc] at e52
      clear hs'
      try clear e12
      refine o_norm ?_
      refine t_norm ?_
      refine at_cond rfl rfl e52 (fun hc => by cases hc) (fun h10 => ?_)
      try simp only [Zh] at h10
      refine at_skip rfl ?_
      refine b_norm ?_
      refine t_norm ?_
      exact ⟨(by first | exact e7 | (rw [e7]; rfl) | (rw [e7]; simp; done)), (by first | exact e8 | (rw [e8]; rfl) | (rw [e8]; simp; done)), (by first | exact e9 | (rw [e9]; rfl) | (rw [e9]; simp; done)), (by first | exact e33 | (rw [e33]; rfl) | (rw [e33]; simp; done)), (by first | exact e34 | (rw [e34]; rfl) | (rw [e34]; simp; done)), (by rw [htk, hps, putB]; first | (rw [if_pos ⟨h10, hin⟩]; assumption) | (rw [if_neg (by first | exact fun h => h10 h.1 | exact fun h => h.2 hin)]; exact gm)), (by first | exact hgst | exact fun j hj => by rw [hsM6 j hj]; exact hgst j hj), hnxM6, by omega, holdM6, rfl⟩
     ·
      refine at_region hS rfl (by kernel_rfl) ?_
      refine s_op (a_mv e12) rfl ?_
      refine s_op (a_un (by simp (disch := omega) only [Zu, Nat.reduceEqDiff, ↓reduceIte, Zd, reduceCtorEq, aun, wrap_i64, IntKind.signed, hin, gm] <;> rfl)) rfl ?_
      refine s_mv ?_
      refine s_tk ?_
      refine s_op (a_mv e9) rfl ?_
      refine s_tk ?_
      refine s_op (a_mv e10) rfl ?_
      refine s_tk ?_
      refine s_op (a_bin (by simp (disch := ((try simp only [List.length_append, List.length_cons, List.length_nil]); omega)) only [Zu, Nat.reduceEqDiff, ↓reduceIte, Zd, reduceCtorEq, abin_add, abin_aadd, wrap_i64, wrap_u32, wrap_u8, wrap_u64, wrap_i32, wrap_u16, ne_eq, not_false_eq_true, hin, gm] <;> rfl)) rfl ?_
      refine s_tk ?_
      refine s_op (a_bin (by simp (disch := omega) only [Zu, Nat.reduceEqDiff, ↓reduceIte, Zd, reduceCtorEq, abin_geq, ne_eq, not_false_eq_true, hin, gm] <;> rfl)) rfl ?_
      refine s_op (a_pick (by simp only [Zu, Nat.reduceEqDiff, ↓reduceIte, Zd, reduceCtorEq, hin, gm] <;> rfl) (by simp only [Zu, Nat.reduceEqDiff, ↓reduceIte, Zd, reduceCtorEq, hin, gm] <;> rfl)) rfl ?_
      refine s_end (fun s' hs' => ?_)
      replace e7 := kp 7 hs' e7
      replace e8 := kp 8 hs' e8
      replace e9 := kp 9 hs' e9
      replace e10 := kp 10 hs' e10
      replace e33 := kp 33 hs' e33
      replace e34 := kp 34 hs' e34
      have e52 := congrFun hs' 52
      simp only [Zu, Nat.reduceEqDiff, ↓reduceIte, newPtr, AMem.next_alloc] at e52
      clear hs'
      try clear e12
      refine o_norm ?_
      refine t_norm ?_
      refine at_cond rfl rfl e52 (fun h10 => ?_) (fun h10 => ?_)
      ·
       try simp only [Zh] at h10
       have hx : aindex Try.prog 9 (asString b) (.int .i64 q) = some (.int .u8 b[q].toNat) := aindex_as Try.underlying9 (by omega) (by simp [hql])
       have hmu := amupd66 (M := M6) gm (off + (q : Int)) (.int .u8 b[q].toNat)
       rw [mSet_mP hin] at hmu
       refine at_draw ⟨[[], [], [], [1, 2], [], [4], [], [4, 5, 6], [0, 1, 2, 3, 4, 5, 6, 7]], [0, 1, 2, 3, 4, 5, 6, 7], [(8, [])]⟩ hS rfl rfl (by kernel_rfl) (by kernel_rfl) ?_
       refine d_start ?_
       refine l_op rfl rfl (a_load e7 (by simp (disch := first | (refine Zx ?_; simp only [Zn]; done) | ((try simp only [Zn]); omega)) only [Zg, w3, w7, ld66, List.getElem?_cons_zero, Nat.zero_add, ld9, sgC_12, hx, hmu, newPtr, gm, e7] <;> rfl) (by simp only [w3, w7, ld66, List.getElem?_cons_zero, Nat.zero_add, ld9, sgC_12, hx, hmu, newPtr, AMem.next_alloc, gm, e7] <;> rfl)) rfl ?_ rfl
       refine l_op rfl rfl (a_mv e9) rfl ?_ rfl
       refine l_op rfl rfl (a_mv e10) rfl ?_ rfl
       refine l_op rfl rfl (a_bin (by simp (disch := ((try simp only [List.length_append, List.length_cons, List.length_nil]); omega)) only [Zu, Nat.reduceEqDiff, ↓reduceIte, Zd, reduceCtorEq, abin_add, abin_aadd, wrap_i64, wrap_u32, wrap_u8, wrap_u64, wrap_i32, wrap_u16, ne_eq, not_false_eq_true, w3, w7, List.getElem?_cons_zero, Nat.zero_add, hx, hmu, gm] <;> rfl)) rfl ?_ rfl
       refine l_op rfl rfl (a_fa (by simp only [Zu, Nat.reduceEqDiff, ↓reduceIte, fa71_2, Nat.zero_add, w3, w7, List.getElem?_cons_zero, hx, hmu, newPtr, AMem.next_alloc, gm, e8] <;> rfl)) rfl ?_ rfl
       refine l_op rfl rfl (a_load (by simp only [Zu, Nat.reduceEqDiff, ↓reduceIte, w3, w7, ld66, List.getElem?_cons_zero, Nat.zero_add, ld9, sgC_12, hx, hmu, newPtr, AMem.next_alloc, gm] <;> rfl) (by simp (disch := first | (refine Zx ?_; simp only [Zn]; done) | ((try simp only [Zn]); omega)) only [Zg, w3, w7, ld66, List.getElem?_cons_zero, Nat.zero_add, ld9, sgC_12, hx, hmu, newPtr, gm] <;> rfl) (by simp only [ld9, Zl, w3, w7, ld66, Nat.zero_add, sgC_12, hx, hmu, newPtr, AMem.next_alloc, gm] <;> rfl)) rfl ?_ rfl
       refine l_op rfl rfl (a_mv e10) rfl ?_ rfl
       refine l_op rfl rfl (a_index (by simp (disch := omega) only [Zu, Nat.reduceEqDiff, ↓reduceIte, w3, w7, List.getElem?_cons_zero, Nat.zero_add, hx, hmu, gm] <;> rfl)) rfl ?_ rfl
       refine l_nil ?_
       refine h_op ?_ rfl rfl rfl ?_
       · refine again_r rfl ?_
         refine again_r rfl ?_
         refine again_l rfl rfl (a_load (by simp only [Zu, Nat.reduceEqDiff, ↓reduceIte, w3, w7, ld66, List.getElem?_cons_zero, Nat.zero_add, ld9, sgC_12, hx, hmu, newPtr, AMem.next_alloc, gm] <;> rfl) (by simp (disch := first | (refine Zx ?_; simp only [Zn]; done) | ((try simp only [Zn]); omega)) only [Zg, w3, w7, ld66, List.getElem?_cons_zero, Nat.zero_add, ld9, sgC_12, hx, hmu, newPtr, gm] <;> rfl) (by simp only [ld9, Zl, w3, w7, ld66, Nat.zero_add, sgC_12, hx, hmu, newPtr, AMem.next_alloc, gm] <;> rfl)) ?_
         refine again_r rfl ?_
         refine again_r rfl ?_
         refine again_r rfl ?_
         refine again_r rfl ?_
         refine again_l rfl rfl (a_load e7 (by simp (disch := first | (refine Zx ?_; simp only [Zn]; done) | ((try simp only [Zn]); omega)) only [Zg, w3, w7, ld66, List.getElem?_cons_zero, Nat.zero_add, ld9, sgC_12, hx, hmu, newPtr, gm, e7] <;> rfl) (by simp only [w3, w7, ld66, List.getElem?_cons_zero, Nat.zero_add, ld9, sgC_12, hx, hmu, newPtr, AMem.next_alloc, gm, e7] <;> rfl)) ?_
         exact again_nil
       refine s_op (a_mupd (by simp (disch := omega) only [Zu, Nat.reduceEqDiff, ↓reduceIte, w3, w7, List.getElem?_cons_zero, Nat.zero_add, hx, hmu, newPtr, AMem.next_alloc, gm] <;> rfl)) rfl ?_
       refine s_end (fun s' hs' => ?_); subst hs'
       refine l_nil ?_
       refine h_end ?_ (fun s' hs' => ?_)
       · exact again_nil
       replace e7 := kp 7 hs' e7
       replace e8 := kp 8 hs' e8
       replace e9 := kp 9 hs' e9
       replace e33 := kp 33 hs' e33
       replace e34 := kp 34 hs' e34
       clear hs'
       try clear e10
       refine o_norm ?_
       refine q_mem (fun M7 hEM7 => ?_)
       have hnM7 := congrArg AMem.next hEM7; simp only [Zn, Nat.add_assoc, Nat.reduceAdd] at hnM7
       have hnxM7 : M.next ≤ M7.next := by have := hnxM6; omega
       have holdM7 : ∀ j, j < M.next → M7.get j = M.get j := fun j hj => by have := hnxM6; rw [hEM7]; simp (disch := first | (refine Zx ?_; simp only [Zn]; done) | ((try simp only [Zn]); omega)) only [Zg]; exact holdM6 j hj
       have hsM7 : ∀ j, j ≠ M1.next → M7.get j = M6.get j := fun j hj => by rw [hEM7, get_else hj]
       have gM7_0 := congrArg (fun m => AMem.get m M1.next) hEM7; try simp (disch := first | (refine Zx ?_; simp only [Zn]; done) | ((try simp only [Zn]); omega)) only [Zg, Nat.add_assoc, Nat.reduceAdd, gm] at gM7_0
       clear hEM7
       refine b_norm ?_
       refine t_norm ?_
       exact ⟨(by first | exact e7 | (rw [e7]; rfl) | (rw [e7]; simp; done)), (by first | exact e8 | (rw [e8]; rfl) | (rw [e8]; simp; done)), (by first | exact e9 | (rw [e9]; rfl) | (rw [e9]; simp; done)), (by first | exact e33 | (rw [e33]; rfl) | (rw [e33]; simp; done)), (by first | exact e34 | (rw [e34]; rfl) | (rw [e34]; simp; done)), (by rw [htk, hps, putB]; first | (rw [if_pos ⟨h10, hin⟩]; assumption) | (rw [if_neg (by first | exact fun h => h10 h.1 | exact fun h => h.2 hin)]; exact gm)), (by first | exact hgst | exact fun j hj => by rw [hsM7 j hj]; exact hgst j hj), hnxM7, by omega, holdM7, rfl⟩
      ·
       try simp only [Zh] at h10
       refine at_skip rfl ?_
       refine b_norm ?_
       refine t_norm ?_
       exact ⟨(by first | exact e7 | (rw [e7]; rfl) | (rw [e7]; simp; done)), (by first | exact e8 | (rw [e8]; rfl) | (rw [e8]; simp; done)), (by first | exact e9 | (rw [e9]; rfl) | (rw [e9]; simp; done)), (by first | exact e33 | (rw [e33]; rfl) | (rw [e33]; simp; done)), (by first | exact e34 | (rw [e34]; rfl) | (rw [e34]; simp; done)), (by rw [htk, hps, putB]; first | (rw [if_pos ⟨h10, hin⟩]; assumption) | (rw [if_neg (by first | exact fun h => h10 h.1 | exact fun h => h.2 hin)]; exact gm)), (by first | exact hgst | exact fun j hj => by rw [hsM6 j hj]; exact hgst j hj), hnxM6, by omega, holdM6, rfl⟩
    ·
     rintro s M8 ds ⟨e7, e8, e9, e33, e34, gm2, hgst2, hnxM8, hngM8, holdM8, rfl⟩
     refine at_region hS rfl (by kernel_rfl) ?_
     refine s_op (a_bin (by simp (disch := ((try simp only [List.length_append, List.length_cons, List.length_nil]); omega)) only [Zu, Nat.reduceEqDiff, ↓reduceIte, Zd, reduceCtorEq, abin_add, abin_aadd, wrap_i64, wrap_u32, wrap_u8, wrap_u64, wrap_i32, wrap_u16, ne_eq, not_false_eq_true, gm2, e34] <;> rfl)) rfl ?_
     refine s_mv ?_
     refine s_end (fun s' hs' => ?_)
     replace e7 := kp 7 hs' e7
     replace e8 := kp 8 hs' e8
     replace e9 := kp 9 hs' e9
     replace e33 := kp 33 hs' e33
     replace e34 := congrFun hs' 34
     simp only [Zu, Nat.reduceEqDiff, ↓reduceIte, newPtr, AMem.next_alloc] at e34
     clear hs'
     refine o_norm ?_
     refine t_norm ?_
     exact ⟨b.length - (q + 1), by omega, q + 1, (by first | exact e7 | (rw [e7]; rfl) | (rw [e7]; simp; done)), (by first | exact e8 | (rw [e8]; rfl) | (rw [e8]; simp; done)), (by first | exact e9 | (rw [e9]; rfl) | (rw [e9]; simp; done)), (by first | exact e33 | (rw [e33]; rfl) | (rw [e33]; simp; done)), (by first | exact e34 | (rw [e34]; rfl) | (rw [e34]; simp; done)), (by omega), gm2, hgst2, rfl, hnxM8, by omega, holdM8, rfl⟩
   ·
    try simp only [Zh] at h7
    have hqe : q = b.length := by omega
    refine at_exit rfl ?_
    refine t_exit ?_
    refine t_exit ?_
    refine b_here ?_
    refine b_norm ?_
    rw [hqe, List.take_length] at gm
    have k0 := (hgst M.next (by omega)).trans gM5_0
    have k1 := (hgst (M.next + 1) (by omega)).trans gM5_1
    have k3 := (hgst (M1.next + 1) (by omega)).trans gM5_3
    have k4 := (hgst M2.next (by omega)).trans gM5_4
    have k5 := (hgst M3.next (by omega)).trans gM5_5
    have k6 := (hgst (M3.next + 1) (by omega)).trans gM5_6
    refine r_norm k6 ?_
    refine ⟨rfl, by simp; omega, ⟨by simp; omega, fun j hj => by rw [get_else (by omega)]; exact holdM6 j hj, ?_, ?_, by rw [get_else (by omega)]; exact k5, get_put⟩⟩
    · intro q hq
      simp only [List.mem_cons, List.not_mem_nil, or_false] at hq
      rcases hq with rfl | rfl | rfl | rfl
      · show AMem.get _ M.next = _; rw [get_else (by omega)]; exact k0
      · show AMem.get _ (M.next + 1) = _; rw [get_else (by omega)]; exact k1
      · show AMem.get _ (M1.next + 1) = _; rw [get_else (by omega)]; exact k3
      · show AMem.get _ M2.next = _; rw [get_else (by omega)]; exact k4
    · rw [get_else (by omega), gm, hpn, hpn2]
 ·
  intro MY hI
  refine rk_done hI.loop ?_
  refine q_mem (fun MZ hMZ => ?_)
  have hnbZ := hI.nx
  have hnxMZ : M.next ≤ MZ.next := by rw [hMZ]; simp; omega
  have hnzZ : M3.next + 2 ≤ MZ.next := by rw [hMZ]; simp; omega
  have holdMZ : ∀ j, j < M.next → MZ.get j = M.get j := fun j hj => by rw [hMZ, get_else (by omega)]; exact hI.hold j hj
  have z2 : MZ.get M1.next = .map (mE (mP (payL t start (segsF os)))) := by rw [hMZ, get_else (by omega), hI.cnt, List.take_length]
  have z3 : MZ.get (M1.next + 1) = .cells [.map (some M1.next)] true := by rw [hMZ, get_else (by omega)]; exact hI.stat (M1.next + 1, .cells [.map (some M1.next)] true) (by simp)
  have z5 : MZ.get M3.next = .defs := by rw [hMZ, get_else (by omega)]; exact hI.defs
  have hpl := payL_len t start (segsF os)
  unfold payF at hK
  generalize payL t start (segsF os) = pl at *
  refine b_norm ?_
  refine t_norm ?_
  refine at_seq rfl ?_
  refine at_region hS rfl (by kernel_rfl) ?_
  refine s_op (a_as (by simp only [ev_const] <;> rfl)) rfl ?_
  refine s_end (fun s' hs' => ?_)
  replace e7 := kp 7 hs' e7
  have e13 := congrFun hs' 13
  simp only [Zu, Nat.reduceEqDiff, ↓reduceIte, newPtr, AMem.next_alloc] at e13
  clear hs'
  refine o_norm ?_
  refine t_norm ?_
  refine at_block rfl ?_
  refine at_loop rfl (fun km s ML ds => ∃ (n : Nat), ∃ (bv : Value), s 7 = .pointer (some ⟨M1.next + 1, 0, none⟩) ∧ s 13 = bv ∧ (∀ j, j < MZ.next → ML.get j = MZ.get j) ∧ (∀ j, j < n → (j : Int) ∈ pl.map Prod.fst) ∧ Own ML MZ.next 1 bv n (byteCells ((List.range n).map (valP pl))) ∧ km = pl.length + 1 - n ∧ M.next ≤ ML.next ∧ MZ.next ≤ ML.next ∧ (∀ j, j < M.next → ML.get j = M.get j) ∧ ds = [M3.next]) (pl.length + 1 - (0)) ⟨0, .slice none 0 0, (by first | exact e7 | (rw [e7]; rfl) | (simpa using e7)), (by first | exact e13 | (rw [e13]; rfl) | (simpa using e13)), (fun _ _ => rfl), (fun j h => by omega), (Own.nil _ _ _), rfl, hnxMZ, by omega, holdMZ, rfl⟩ ?_
  clear e7 e13
  rintro km s M9 ds ⟨n, bv, e7, e13, hkz, hall, hown, hk, hnxM9, hngM9, holdM9, rfl⟩
  refine at_block rfl ?_
  refine at_seq rfl ?_
  have w2 := (hkz M1.next (by omega)).trans z2
  have w3 := (hkz (M1.next + 1) (by omega)).trans z3
  have hpg := pig n _ hall
  rw [List.length_map] at hpg
  obtain ⟨y, hlk, hy⟩ := alook66 (M := M9) w2 (n : Int)
  refine at_region hS rfl (by kernel_rfl) ?_
  refine s_op (a_load e7 (by simp (disch := first | (refine Zx ?_; simp only [Zn]; done) | ((try simp only [Zn]); omega)) only [Zg, w3, ld66, List.getElem?_cons_zero, hlk, newPtr, e7] <;> rfl) (by simp only [w3, ld66, List.getElem?_cons_zero, hlk, newPtr, AMem.next_alloc, e7] <;> rfl)) rfl ?_
  refine s_op (a_mv e13) rfl ?_
  refine s_op (a_len (by simp (disch := omega) only [Zu, Nat.reduceEqDiff, ↓reduceIte, alen_str, w3, List.getElem?_cons_zero, Row.len hown.row (P := Try.prog) Try.underlying55, hlk, newPtr, AMem.next_alloc] <;> rfl)) rfl ?_
  refine s_op (a_look (by simp (disch := omega) only [Zu, Nat.reduceEqDiff, ↓reduceIte, w3, List.getElem?_cons_zero, hlk, newPtr, AMem.next_alloc] <;> rfl)) rfl ?_
  refine s_mv ?_
  refine s_op (a_ext (by simp only [Zu, Nat.reduceEqDiff, ↓reduceIte, w3, List.getElem?_cons_zero, hlk, newPtr, AMem.next_alloc] <;> rfl) (by first | exact ext4_0 | exact ext3_0 | exact ext2_0 | rfl)) rfl ?_
  refine s_op (a_ext (by simp only [Zu, Nat.reduceEqDiff, ↓reduceIte, w3, List.getElem?_cons_zero, hlk, newPtr, AMem.next_alloc] <;> rfl) (by first | exact ext4_1 | exact ext3_1 | exact ext2_1 | rfl)) rfl ?_
  refine s_as ?_
  refine s_as ?_
  refine s_end (fun s' hs' => ?_)
  replace e7 := kp 7 hs' e7
  replace e13 := kp 13 hs' e13
  have e14 := congrFun hs' 14
  have e15 := congrFun hs' 15
  simp only [Zu, Nat.reduceEqDiff, ↓reduceIte, newPtr, AMem.next_alloc] at e14 e15
  clear hs'
  refine o_norm ?_
  refine t_norm ?_
  refine at_seq rfl ?_
  refine at_seq rfl ?_
  refine at_region hS rfl (by kernel_rfl) ?_
  refine s_op (a_mv e15) rfl ?_
  refine s_op (a_un (by simp (disch := omega) only [Zu, Nat.reduceEqDiff, ↓reduceIte, Zd, reduceCtorEq, aun, wrap_i64, IntKind.signed] <;> rfl)) rfl ?_
  refine s_end (fun s' hs' => ?_)
  replace e7 := kp 7 hs' e7
  replace e13 := kp 13 hs' e13
  replace e14 := kp 14 hs' e14
  have e70 := congrFun hs' 70
  simp only [Zu, Nat.reduceEqDiff, ↓reduceIte, newPtr, AMem.next_alloc] at e70
  clear hs'
  try clear e15
  refine o_norm ?_
  refine t_norm ?_
  refine at_cond rfl rfl e70 (fun h15 => ?_) (fun h15 => ?_)
  ·
   try simp only [Zh] at h15
   have hin : (n : Int) ∉ pl.map Prod.fst := by simpa using h15
   rw [payOut_eq hall hin] at hK
   refine at_seq rfl ?_
   refine at_region hS rfl (by kernel_rfl) ?_
   refine s_op (a_mv e13) rfl ?_
   refine s_op (a_conv (by simp (disch := omega) only [Zu, Nat.reduceEqDiff, ↓reduceIte, Row.str (P := Try.prog) hown.row Try.underlying55 Try.underlying5 Try.underlying9, newPtr, AMem.next_alloc] <;> rfl)) rfl ?_
   refine s_as ?_
   refine s_end (fun s' hs' => ?_)
   have e6 := congrFun hs' 6
   simp only [Zu, Nat.reduceEqDiff, ↓reduceIte, newPtr, AMem.next_alloc] at e6
   clear hs'
   try clear e13
   refine o_norm ?_
   refine t_norm ?_
   refine at_ret rfl ?_
   refine t_ret ?_
   refine b_ret ?_
   refine t_ret ?_
   refine b_ret ?_
   refine bm_ret (shut_one ((hkz M3.next (by omega)).trans z5)) rfl (ars_cons (ar_tmp e6) ars_nil) ?_
   exact ⟨_, _, hK, Canon.forget rfl (fun j hj => by rw [get_else (by omega)]; exact holdM9 j hj)⟩
  ·
   try simp only [Zh] at h15
   have hin : (n : Int) ∈ pl.map Prod.fst := by simpa using h15
   have hy2 := hy n rfl hin
   subst hy2
   refine at_skip rfl ?_
   refine t_norm ?_
   obtain ⟨bv', M17, hap, hown17, hn17, hf17, hf17'⟩ := app_one (c := [.int .u8 (valP pl n).toNat]) sl55 hown (by omega) (by omega) rfl rfl (by decide)
   refine at_region hS rfl (by kernel_rfl) ?_
   refine s_op (a_mv e13) rfl ?_
   refine s_op (a_mv e14) rfl ?_
   refine s_op (a_bslice (by simp only [Zu, Nat.reduceEqDiff, ↓reduceIte, Zm, Array.toList, newPtr, AMem.next_alloc]; exact abuildSlice_all [_] rfl rfl rfl rfl rfl (by decide) (by decide) rfl (by simp only [List.mem_cons, List.not_mem_nil, or_false, forall_eq_or_imp, forall_eq]; repeat' (first | rfl | apply And.intro)))) rfl ?_
   refine s_op (a_append (by simp only [Zu, Nat.reduceEqDiff, ↓reduceIte, e13]; exact hap)) rfl ?_
   refine s_as ?_
   refine s_end (fun s' hs' => ?_)
   replace e7 := kp 7 hs' e7
   replace e13 := congrFun hs' 13
   simp only [Zu, Nat.reduceEqDiff, ↓reduceIte, newPtr, AMem.next_alloc] at e13
   clear hs'
   try clear e14
   refine o_norm ?_
   have hnx17 : M.next ≤ M17.next := by omega
   have hold17 : ∀ j, j < M.next → M17.get j = M.get j := fun j hj => by rw [hf17 j (by omega)]; exact holdM9 j hj
   have hpg2 := pig (n + 1) (pl.map Prod.fst) (fun j h => by rcases (by omega : j < n ∨ j = n) with h' | h'; exact hall j h'; subst h'; exact hin)
   rw [List.length_map] at hpg2
   refine b_norm ?_
   refine t_norm ?_
   exact ⟨pl.length + 1 - (n + 1), by omega, n + 1, bv', (by first | exact e7 | (rw [e7]; rfl) | (rw [e7]; simp; done)), (by first | exact e13 | (rw [e13]; rfl) | (rw [e13]; simp; done)), (fun j hj => by rw [hf17 j hj]; exact hkz j hj), (fun j h => by rcases (by omega : j < n ∨ j = n) with h' | h'; exact hall j h'; subst h'; exact hin), (by rw [range_snoc, byteCells_append]; exact hown17), rfl, hnx17, by omega, hold17, rfl⟩
end Go.Proofs.Ytdkdkpiemigfkaa
