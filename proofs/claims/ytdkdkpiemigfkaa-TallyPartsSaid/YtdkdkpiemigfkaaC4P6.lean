/- Part 6 of the proof of the given statement (theorem tallyParts_holds, in the last part): for every input the law returns true, and each argument reads behind the call as it read before. No condition beyond the statement's own. -/
import Derived.Test.YtdkdkpiemigfkaaC4P5
import Derived.Carry
import Derived.Deep.Slices
import Derived.Lib.SmallJoins
import Derived.OpenShut
import Derived.ProofKit
import Derived.Test.YtdkdkpiemigfkaaRows
import Derived.WalkKit
set_option linter.unusedVariables false
set_option linter.unusedSimpArgs false
set_option maxRecDepth 8000
namespace Go.Proofs.Ytdkdkpiemigfkaa
open Go Go.Proofs
theorem flatMap_bound {α β : Type} (f : α → List β) (c : Nat) : ∀ (os : List α), (∀ o ∈ os, (f o).length ≤ c) → (os.flatMap f).length ≤ os.length * c := by
  intro os
  induction os with
  | nil => intro _; simp
  | cons o os ih =>
    intro h
    have h1 := h o (by simp)
    have h2 := ih (fun x hx => h x (by simp [hx]))
    rw [List.flatMap_cons, List.length_append, List.length_cons, Nat.succ_mul]; omega
theorem b53_0 (a : Int) : abuild Try.prog 53 [(0, .int .i64 a)] = some (Nt.cells ⟨a, 0, 0, 0⟩) := by kernel_rfl
theorem sids353 : sidS [5, 3, 5] = [3, 5] := asc_unique (sidS_asc _) (by simp) (fun x => by rw [sidS_mem]; simp; omega)
theorem OusR_nil (M : AMem) : OusR M (.slice none 0 0) [] := ⟨[], rfl, ⟨rfl, .inl ⟨rfl, rfl⟩⟩, fun i c o h => by simp at h⟩
theorem b39 : abuild Try.prog 39 [] = some tup0.cells := by kernel_rfl
theorem pay_nil (t : Tup) (start : Int) : payF t start (segsF []) = [] := rfl
theorem rst_nil : resetsF [] = 0 := rfl
def sidO (os : List Ou) : Prop := ∀ n ∈ os.flatMap Ou.notes, inI64 n.sid
def sp6 : ASpec := fun args M K => args = [] ∧ K (.ret (.bool true)) M
noncomputable def S6 : FuncId → ASpec := tab [(21, sp21), (11, sp11), (24, sp24)]
theorem S6_21 : S6 21 = sp21 := rfl
theorem S6_11 : S6 11 = sp11 := rfl
theorem S6_24 : S6 24 = sp24 := rfl
theorem S6_ok : ∀ f, Sound Try.prog f (S6 f) := tab_sound _ (by simp [f21_ok, f11_ok, f24_ok])
set_option maxHeartbeats 1000000 in
theorem f6_ok : Sound Try.prog 6 sp6 := by
 refine Sound.of_awp (c := bodyOf Try.f6) Try.func6 rfl rfl rfl ?_
 rintro args M K ⟨rfl, hK⟩
 refine ⟨Nat.le_of_ble_eq_true rfl, ?_⟩
 have hS := S6_ok
 refine at_seq rfl ?_
 refine at_region hS rfl (by kernel_rfl) ?_
 refine s_op (a_as (by simp only [ev_const] <;> rfl)) rfl ?_
 refine s_end (fun s' hs' => ?_)
 clear hs'
 refine o_norm ?_
 refine t_norm ?_
 refine at_seq rfl ?_
 refine at_region hS rfl (by kernel_rfl) ?_
 refine s_op (a_build (by simp only [ev_const, Zm, Array.toList, b53_0, newPtr, AMem.next_alloc] <;> rfl)) rfl ?_
 refine s_op (a_build (by simp only [ev_const, Zm, Array.toList, b53_0, newPtr, AMem.next_alloc] <;> rfl)) rfl ?_
 refine s_op (a_build (by simp only [ev_const, Zm, Array.toList, b53_0, newPtr, AMem.next_alloc] <;> rfl)) rfl ?_
 refine s_op (a_bslice (by simp only [Zu, Nat.reduceEqDiff, ↓reduceIte, Zm, Array.toList, b53_0, newPtr, AMem.next_alloc]; exact abuildSlice_all [_, _, _] rfl rfl rfl rfl rfl (by decide) (by decide) rfl (by simp only [List.mem_cons, List.not_mem_nil, or_false, forall_eq_or_imp, forall_eq]; repeat' (first | rfl | apply And.intro)))) rfl ?_
 refine s_call (by simp only [Zu, Nat.reduceEqDiff, ↓reduceIte, b53_0, newPtr, AMem.next_alloc] <;> rfl) (by simp only [Zu, Nat.reduceEqDiff, ↓reduceIte, Zm, b53_0, newPtr, AMem.next_alloc] <;> rfl) ?_
 rw [S6_21]; refine ⟨_, [⟨5, 0, 0, 0⟩, ⟨3, 0, 0, 0⟩, ⟨5, 0, 0, 0⟩], rfl, ⟨rfl, .inr ⟨M.next, 0, _, true, rfl, by simp, get_new, by decide, rfl⟩⟩, by intro n hn; simp only [List.mem_cons, List.not_mem_nil, or_false] at hn; rcases hn with rfl | rfl | rfl <;> exact ⟨by decide, by decide⟩, by simp, ?_⟩; rw [show (List.map Nt.sid [⟨5, 0, 0, 0⟩, ⟨3, 0, 0, 0⟩, ⟨5, 0, 0, 0⟩]) = [5, 3, 5] from rfl, sids353]; intro v1 MS hnS hoS hwS
 show EA _ _ _ _ _ _
 refine s_as ?_
 refine s_end (fun s' hs' => ?_)
 have e1 := congrFun hs' 1
 simp only [Zu, Nat.reduceEqDiff, ↓reduceIte, newPtr, AMem.next_alloc] at e1
 clear hs'
 refine o_norm ?_
 have hnxS : M.next ≤ MS.next := by simp at hnS; omega
 have holdS : ∀ j, j < M.next → MS.get j = M.get j := fun j hj => by rw [hoS j (by simp; omega), get_old (by omega)]
 obtain ⟨i0, o0, all0, w0, hia0, hid0, hget0, hld0⟩ := hwS.row.at1 Try.underlying22 (i := _) (by rfl) rfl (j := 0) (by decide) ld3 ⟨_, rfl, rfl⟩ .i64
 obtain ⟨i1, o1, all1, w1, hia1, hid1, hget1, hld1⟩ := hwS.row.at1 Try.underlying22 (i := _) (by rfl) rfl (j := 1) (by decide) ld3 ⟨_, rfl, rfl⟩ .i64
 have hia0' : aindexAddr Try.prog 22 v1 (.int .i64 0) = some (.pointer (some ⟨i0, o0, none⟩)) := hia0
 have hia1' : aindexAddr Try.prog 22 v1 (.int .i64 1) = some (.pointer (some ⟨i1, o1, none⟩)) := hia1
 have hld0' : aload Try.prog 3 all0 o0 = some (.int .i64 3) := hld0
 have hld1' : aload Try.prog 3 all1 o1 = some (.int .i64 5) := hld1
 have hlen2 : ∀ MX : AMem, alen Try.prog MX 22 v1 = some (.int .i64 2) := fun MX => Row.len hwS.row (P := Try.prog) Try.underlying22 MX
 refine t_norm ?_
 refine at_seq rfl ?_
 refine at_region hS rfl (by kernel_rfl) ?_
 refine s_op (a_mv e1) rfl ?_
 refine s_op (a_len (by simp (disch := omega) only [Zu, Nat.reduceEqDiff, ↓reduceIte, alen_str, hlen2, b39, pay_nil, rst_nil, newPtr, AMem.next_alloc] <;> rfl)) rfl ?_
 refine s_op (a_bin (by simp (disch := omega) only [Zu, Nat.reduceEqDiff, ↓reduceIte, Zd, reduceCtorEq, abin_eql, abin_aeql, ne_eq, not_false_eq_true, b39, pay_nil, rst_nil] <;> rfl)) rfl ?_
 refine s_mv ?_
 refine s_tk ?_
 refine s_op (a_mv e1) rfl ?_
 refine s_tk ?_
 refine s_op (a_ia (by simp (disch := omega) only [Zu, Nat.reduceEqDiff, ↓reduceIte, hia0', hia1', b39, pay_nil, rst_nil, newPtr, AMem.next_alloc] <;> rfl)) rfl ?_
 refine s_tk ?_
 refine s_op (a_load (by simp only [Zu, Nat.reduceEqDiff, ↓reduceIte, hld0', hld1', hget0, hget1, b39, pay_nil, rst_nil, newPtr, AMem.next_alloc] <;> rfl) (by simp (disch := first | (refine Zx ?_; simp only [Zn]; done) | ((try simp only [Zn]); omega)) only [Zg, hld0', hld1', hget0, hget1, b39, pay_nil, rst_nil, newPtr] <;> rfl) (by simp only [ld3, Zl, hld0', hld1', hget0, hget1, b39, pay_nil, rst_nil, newPtr, AMem.next_alloc] <;> rfl)) rfl ?_
 refine s_tk ?_
 refine s_op (a_bin (by simp (disch := omega) only [Zu, Nat.reduceEqDiff, ↓reduceIte, Zd, reduceCtorEq, abin_eql, abin_aeql, ne_eq, not_false_eq_true, b39, pay_nil, rst_nil] <;> rfl)) rfl ?_
 refine s_op (a_pick (by simp only [Zu, Nat.reduceEqDiff, ↓reduceIte, Zd, reduceCtorEq, b39, pay_nil, rst_nil] <;> rfl) (by simp only [Zu, Nat.reduceEqDiff, ↓reduceIte, Zd, reduceCtorEq, b39, pay_nil, rst_nil] <;> rfl)) rfl ?_
 refine s_mv ?_
 refine s_tk ?_
 refine s_op (a_mv e1) rfl ?_
 refine s_tk ?_
 refine s_op (a_ia (by simp (disch := omega) only [Zu, Nat.reduceEqDiff, ↓reduceIte, hia0', hia1', b39, pay_nil, rst_nil, newPtr, AMem.next_alloc] <;> rfl)) rfl ?_
 refine s_tk ?_
 refine s_op (a_load (by simp only [Zu, Nat.reduceEqDiff, ↓reduceIte, hld0', hld1', hget0, hget1, b39, pay_nil, rst_nil, newPtr, AMem.next_alloc] <;> rfl) (by simp (disch := first | (refine Zx ?_; simp only [Zn]; done) | ((try simp only [Zn]); omega)) only [Zg, hld0', hld1', hget0, hget1, b39, pay_nil, rst_nil, newPtr] <;> rfl) (by simp only [ld3, Zl, hld0', hld1', hget0, hget1, b39, pay_nil, rst_nil, newPtr, AMem.next_alloc] <;> rfl)) rfl ?_
 refine s_tk ?_
 refine s_op (a_bin (by simp (disch := omega) only [Zu, Nat.reduceEqDiff, ↓reduceIte, Zd, reduceCtorEq, abin_eql, abin_aeql, ne_eq, not_false_eq_true, b39, pay_nil, rst_nil] <;> rfl)) rfl ?_
 refine s_op (a_pick (by simp only [Zu, Nat.reduceEqDiff, ↓reduceIte, Zd, reduceCtorEq, b39, pay_nil, rst_nil] <;> rfl) (by simp only [Zu, Nat.reduceEqDiff, ↓reduceIte, Zd, reduceCtorEq, b39, pay_nil, rst_nil] <;> rfl)) rfl ?_
 refine s_mv ?_
 refine s_tk ?_
 refine s_op (a_build (by simp only [Zu, Nat.reduceEqDiff, ↓reduceIte, Zm, Array.toList, b39, pay_nil, rst_nil, newPtr, AMem.next_alloc] <;> rfl)) rfl ?_
 refine s_tk ?_
 refine s_call (by simp only [Zu, Nat.reduceEqDiff, ↓reduceIte, hlen2, b39, pay_nil, rst_nil, newPtr, AMem.next_alloc] <;> rfl) (by simp only [Zu, Nat.reduceEqDiff, ↓reduceIte, Zm, hlen2, b39, pay_nil, rst_nil, newPtr, AMem.next_alloc] <;> rfl) ?_
 rw [S6_11]; refine ⟨_, tup0, _, [], rfl, OusR_nil _, ⟨by simp, by simp, by simp⟩, by simp [dataN], ⟨by decide, by decide⟩, ?_⟩
 show EA _ _ _ _ _ _
 refine s_tk ?_
 refine s_op (a_bin (by simp (disch := omega) only [Zu, Nat.reduceEqDiff, ↓reduceIte, Zd, reduceCtorEq, abin_eql, abin_aeql, ne_eq, not_false_eq_true, b39, pay_nil, rst_nil] <;> rfl)) rfl ?_
 refine s_op (a_pick (by simp only [Zu, Nat.reduceEqDiff, ↓reduceIte, Zd, reduceCtorEq, b39, pay_nil, rst_nil] <;> rfl) (by simp only [Zu, Nat.reduceEqDiff, ↓reduceIte, Zd, reduceCtorEq, b39, pay_nil, rst_nil] <;> rfl)) rfl ?_
 refine s_mv ?_
 refine s_tk ?_
 refine s_call (by simp only [Zu, Nat.reduceEqDiff, ↓reduceIte, hlen2, b39, pay_nil, rst_nil, newPtr, AMem.next_alloc] <;> rfl) (by simp only [Zu, Nat.reduceEqDiff, ↓reduceIte, Zm, hlen2, b39, pay_nil, rst_nil, newPtr, AMem.next_alloc] <;> rfl) ?_
 rw [S6_24]; refine ⟨_, [], rfl, OusR_nil _, ⟨by simp, by simp, by simp⟩, fun f hf => by simp at hf, ?_⟩
 show EA _ _ _ _ _ _
 refine s_tk ?_
 refine s_op (a_bin (by simp (disch := omega) only [Zu, Nat.reduceEqDiff, ↓reduceIte, Zd, reduceCtorEq, abin_eql, abin_aeql, ne_eq, not_false_eq_true, b39, pay_nil, rst_nil] <;> rfl)) rfl ?_
 refine s_op (a_pick (by simp only [Zu, Nat.reduceEqDiff, ↓reduceIte, Zd, reduceCtorEq, b39, pay_nil, rst_nil] <;> rfl) (by simp only [Zu, Nat.reduceEqDiff, ↓reduceIte, Zd, reduceCtorEq, b39, pay_nil, rst_nil] <;> rfl)) rfl ?_
 refine s_as ?_
 refine s_end (fun s' hs' => ?_)
 have e0 := congrFun hs' 0
 simp only [Zu, Nat.reduceEqDiff, ↓reduceIte, newPtr, AMem.next_alloc] at e0
 clear hs'
 try clear e1
 refine o_norm ?_
 refine t_norm ?_
 refine at_ret rfl ?_
 refine bq_ret rfl (ars_cons (ar_tmp e0) ars_nil) ?_
 exact ⟨_, _, hK, Canon.forget rfl holdS⟩
end Go.Proofs.Ytdkdkpiemigfkaa
set_option linter.unusedVariables false
set_option linter.unusedSimpArgs false
set_option maxRecDepth 8000
namespace Go.Proofs.Ytdkdkpiemigfkaa
open Go Go.Proofs
def HasCells (w : World) : Prop := ∃ (b : Nat) (C : Array Value) (el : TypeId) (lo hi : Nat), w.heap[b]? = some (Obj.cells C el (lo, hi))
structure Vw (ρ : Rho) (M : AMem) (w : World) : Prop where
  sim : Sim (fun b => w.heap.size ≤ b) ρ M w
  ro : ∀ i, (M.get i).own = false
structure VwLe (ρ : Rho) (M : AMem) (ρ' : Rho) (M' : AMem) : Prop where
  up : ∀ i pl, ρ i = some pl → ρ' i = some pl
  next : M.next ≤ M'.next
  get : ∀ i, i < M.next → M'.get i = M.get i
theorem VwLe.refl (ρ : Rho) (M : AMem) : VwLe ρ M ρ M := ⟨fun _ _ h => h, Nat.le_refl _, fun _ _ => rfl⟩
theorem VwLe.trans {ρ ρ' ρ2 : Rho} {M M' M2 : AMem} (h : VwLe ρ M ρ' M') (k : VwLe ρ' M' ρ2 M2) : VwLe ρ M ρ2 M2 :=
  ⟨fun i pl hi => k.up i pl (h.up i pl hi), Nat.le_trans h.next k.next, fun i hi => (k.get i (Nat.lt_of_lt_of_le hi h.next)).trans (h.get i hi)⟩
def mem0 : AMem := ⟨0, fun _ => .dead⟩
theorem Vw.start (w : World) : Vw (fun _ => none) mem0 w := ⟨⟨fun _ h => h, fun i pl h => (by cases h), fun i pl h => (by cases h), fun i j pi pj h => (by cases h)⟩, fun _ => rfl⟩
theorem Vw.add {ρ : Rho} {M : AMem} {w : World} (h : Vw ρ M w) {b base ext : Nat} {C : Array Value} {e : TypeId} {lo hi' : Nat} {cs : List Value} (hb : w.heap[b]? = some (.cells C e (lo, hi'))) (h1 : cs.length ≤ ext) (h2 : base + ext ≤ C.size)
    (h3 : ∀ (i : Nat) (v : Value), cs[i]? = some v → ∃ c, C[base + i]? = some c ∧ VR ρ v c) :
    Vw (ρ.put M.next ⟨b, base, ext⟩) (M.alloc (.cells cs false)) w ∧ VwLe ρ M (ρ.put M.next ⟨b, base, ext⟩) (M.alloc (.cells cs false)) := by
  have hnone : ρ M.next = none := by
    cases hn : ρ M.next with
    | none => rfl
    | some pl => exact absurd (h.sim.dom _ _ hn) (Nat.lt_irrefl _)
  have hup := Rho.put_up (pl := ⟨b, base, ext⟩) hnone
  have hro : ∀ i, ((M.alloc (.cells cs false)).get i).own = false := by
    intro i
    rw [AMem.get_alloc]
    split
    · rfl
    · exact h.ro i
  refine ⟨⟨⟨h.sim.top, fun i pl hi => ?_, fun i pl hi => ?_, fun i j pi pj _ _ _ ho => ?_⟩, hro⟩, ⟨hup, by simp, fun i hi => get_old (by omega)⟩⟩
  · simp only [Rho.put] at hi
    split at hi
    · subst_vars; simp
    · have := h.sim.dom i pl hi; simp; omega
  · simp only [Rho.put] at hi
    split at hi
    · subst_vars
      cases hi
      rw [AMem.get_alloc, if_pos rfl]
      exact ⟨C, e, lo, hi', hb, h1, h2, fun i v hv => let ⟨c, hc, hr⟩ := h3 i v hv; ⟨c, hc, hr.mono hup⟩, fun ho => by cases ho⟩
    · rename_i hne
      rw [AMem.get_alloc, if_neg hne]
      exact (h.sim.obj i pl hi).carry (fun _ => rfl) hup
  · rw [hro i] at ho; cases ho
theorem cell_form {w : World} {a : Addr} {c : Value} (h : w.cell? a = some c) : ∃ C e lo hi, w.heap[a.block]? = some (.cells C e (lo, hi)) ∧ a.spot = none ∧ C[a.off]? = some c := by
  unfold World.cell? at h
  split at h
  · rename_i C e fr hh
    split at h
    · cases h
    · rename_i hs
      exact ⟨C, e, fr.1, fr.2, hh, by cases hq : a.spot with | none => rfl | some _ => rw [hq] at hs; simp at hs, h⟩
  · cases h
theorem view_slice {ρ : Rho} {M : AMem} {w : World} (h : Vw ρ M w) {a : Addr} {len cap e : Nat} {cs : List Value} (hz : HasCells w) (hl : len ≤ cap) (hlen : cs.length = len * e) (he : 0 < e)
    (hall : ∀ i, i < cap * e → ∃ c, w.cell? (a.add i) = some c) (hcs : ∀ (i : Nat) (v : Value), cs[i]? = some v → ∃ c, w.cell? (a.add i) = some c ∧ VR ρ v c) :
    ∃ ρ' M', Vw ρ' M' w ∧ VwLe ρ M ρ' M' ∧ VR ρ' (.slice (some ⟨M.next, 0, none⟩) len e) (.slice (some a) len cap) ∧ Row M' e (.slice (some ⟨M.next, 0, none⟩) len e) len cs := by
  have hrow : Row (M.alloc (.cells cs false)) e (.slice (some ⟨M.next, 0, none⟩) len e) len cs := ⟨hlen, .inr ⟨M.next, 0, cs, false, rfl, by simp, get_new, by omega, by rw [List.drop_zero, List.take_of_length_le (by omega)]⟩⟩
  by_cases hc : cap = 0
  · subst hc
    have hl0 : len = 0 := by omega
    subst hl0
    have hcs0 : cs = [] := List.eq_nil_of_length_eq_zero (by rw [hlen]; simp)
    subst hcs0
    obtain ⟨b, C, el, lo, hi, hb⟩ := hz
    obtain ⟨k1, k2⟩ := h.add (base := 0) (ext := 0) (cs := []) hb (by simp) (by simp) (fun i v hv => by simp at hv)
    exact ⟨_, _, k1, k2, .sliceE (pl := ⟨b, 0, 0⟩) (by simp [Rho.put]), hrow⟩
  · have hpos : 0 < cap * e := Nat.mul_pos (by omega) he
    obtain ⟨c0, hc0⟩ := hall 0 hpos
    have ha0 : a.add 0 = a := rfl
    rw [ha0] at hc0
    obtain ⟨C, el, lo, hi, hb, hs, _⟩ := cell_form hc0
    obtain ⟨bk, off, sp⟩ := a
    simp only at hb hs
    subst hs
    have hcell : ∀ i c, w.cell? ((⟨bk, off, none⟩ : Addr).add i) = some c → C[off + i]? = some c := by
      intro i c hic
      rw [Addr.add_off] at hic
      simp only [World.cell?, hb] at hic
      simpa using hic
    obtain ⟨cl, hcl⟩ := hall (cap * e - 1) (by omega)
    have hlt := (Array.getElem?_eq_some_iff.1 (hcell _ _ hcl)).1
    have hle : len * e ≤ cap * e := Nat.mul_le_mul_right _ hl
    obtain ⟨k1, k2⟩ := h.add (base := off) (ext := cap * e) (cs := cs) hb (by omega) (by omega) (fun i v hv => by
      obtain ⟨c, h1, h2⟩ := hcs i v hv
      exact ⟨c, hcell i c h1, h2⟩)
    refine ⟨_, _, k1, k2, ?_, hrow⟩
    have := VR.slice (ρ := ρ.put M.next ⟨bk, off, cap * e⟩) (id := M.next) (off := 0) (len := len) (e := e) (cap := cap) (pl := ⟨bk, off, cap * e⟩) (by simp [Rho.put]) hl (by simp)
    simpa using this
theorem rows_cells {n e : Nat} {g : Nat → List Value} (he : 0 < e) (hg : ∀ i, i < n → (g i).length = e) (i : Nat) (v : Value) (h : (((List.range n).map g).flatten)[i]? = some v) : ∃ j q, j < n ∧ q < e ∧ i = j * e + q ∧ (g j)[q]? = some v := by
  have hlen : ∀ c ∈ (List.range n).map g, c.length = e := by
    intro c hc
    rw [List.mem_map] at hc
    obtain ⟨j, hj, rfl⟩ := hc
    exact hg j (List.mem_range.1 hj)
  have hfl := flatten_len _ hlen
  rw [List.length_map, List.length_range] at hfl
  have hi : i < n * e := by rw [← hfl]; exact (List.getElem?_eq_some_iff.1 h).1
  have hj : i / e < n := Nat.div_lt_of_lt_mul (by rw [Nat.mul_comm]; exact hi)
  have hq : i % e < e := Nat.mod_lt _ he
  have hdm : i = i / e * e + i % e := by rw [Nat.mul_comm]; exact (Nat.div_add_mod i e).symm
  refine ⟨i / e, i % e, hj, hq, hdm, ?_⟩
  obtain ⟨rest, hr⟩ := flatten_part (css := (List.range n).map g) (j := i / e) hlen (c := g (i / e)) (by simp [hj])
  have : (((List.range n).map g).flatten.drop (i / e * e))[i % e]? = some v := by rw [List.getElem?_drop, ← hdm]; exact h
  rw [hr, List.getElem?_append_left (by rw [hg _ hj]; exact hq)] at this
  exact this
theorem view_rows {ρ : Rho} {M : AMem} {w : World} (h : Vw ρ M w) {a : Addr} {len cap e : Nat} {g k : Nat → List Value} (hz : HasCells w) (hl : len ≤ cap) (he : 0 < e)
    (hk : ∀ i, i < cap → w.cells? 0 (a.add (i * e)) e = some (k i)) (hg : ∀ i, i < len → (g i).length = e ∧ ∀ (q : Nat) (v : Value), (g i)[q]? = some v → ∃ c, (k i)[q]? = some c ∧ VR ρ v c) :
    ∃ ρ' M', Vw ρ' M' w ∧ VwLe ρ M ρ' M' ∧ VR ρ' (.slice (some ⟨M.next, 0, none⟩) len e) (.slice (some a) len cap) ∧ Row M' e (.slice (some ⟨M.next, 0, none⟩) len e) len ((List.range len).map g).flatten := by
  have hcell : ∀ j q, j < cap → q < e → w.cell? (a.add (j * e + q)) = (k j)[q]? := by
    intro j q hj hq
    have := (World.cells?_some (hk j hj)).2.2 q hq
    rw [Deep.add_add] at this
    exact this
  refine view_slice h hz hl ?_ he ?_ ?_
  · have := flatten_len (e := e) ((List.range len).map g) (fun c hc => by
      rw [List.mem_map] at hc
      obtain ⟨j, hj, rfl⟩ := hc
      exact (hg j (List.mem_range.1 hj)).1)
    rw [List.length_map, List.length_range] at this
    exact this
  · intro i hi
    have hj : i / e < cap := Nat.div_lt_of_lt_mul (by rw [Nat.mul_comm]; exact hi)
    have hq : i % e < e := Nat.mod_lt _ he
    have hdm : i / e * e + i % e = i := by rw [Nat.mul_comm]; exact Nat.div_add_mod i e
    have h1 := hcell _ _ hj hq
    rw [hdm] at h1
    have h2 := (World.cells?_some (hk _ hj)).2.1
    rw [h1]
    exact ⟨_, List.getElem?_eq_getElem (by rw [h2]; exact hq)⟩
  · intro i v hv
    obtain ⟨j, q, hj, hq, hi, hv2⟩ := rows_cells he (fun i hi => (hg i hi).1) i v hv
    subst hi
    obtain ⟨c, h1, h2⟩ := (hg j hj).2 q v hv2
    exact ⟨c, by rw [hcell j q (by omega) hq]; exact h1, h2⟩
theorem wf_i64 {x : Int} (h : (Lit.int .i64 x).wf = true) : inI64 x := by
  simp only [Lit.wf, Bool.and_eq_true, decide_eq_true_eq] at h
  have h1 : IntKind.i64.min = -9223372036854775808 := by decide
  have h2 : IntKind.i64.max = 9223372036854775807 := by decide
  rw [h1, h2] at h
  exact h
instance : Inhabited Fr := ⟨⟨0, []⟩⟩
instance : Inhabited Nt := ⟨⟨0, 0, 0, 0⟩⟩
theorem c3 : Try.prog.cellsOf 3 = 1 := by kernel_rfl
section
variable {H : Type} {enc : TypeId × Value → H} {w : World}
end
end Go.Proofs.Ytdkdkpiemigfkaa
set_option linter.unusedVariables false
set_option linter.unusedSimpArgs false
set_option maxRecDepth 8000
namespace Go.Proofs.Ytdkdkpiemigfkaa
open Go Go.Proofs Go.ChangeShapes Go.WideShapes Go.ChangeAt Go.RowKit
theorem rowOwn : ownKnob Try.prog.godebug = none := by kernel_rfl
theorem laidOut : laidOutB Try.prog = true := by kernel_rfl
theorem ok_block {w : World} {b : Nat} {v : Value} (t e : TypeId) (ht : Try.prog.underlying t = some (.slice e)) (hv : Value.okWide Try.prog w .any b t v) : ∀ a len cap, v = .slice (some a) len cap → HasCells w := by
  rintro a len cap rfl
  simp only [Value.okWide, ht, Cell.okWide, Cell.ok, World.has] at hv
  obtain ⟨_, _, _, _, row, cells, hs, _⟩ := hv
  unfold World.shape? at hs
  split at hs
  · rename_i C el fr hh
    exact ⟨a.block, C, el, fr.1, fr.2, hh⟩
  · cases hs
theorem kept_below {w w' : World} (h : Kept (fun b => w.heap.size ≤ b) w w') : Below w.heap.size w w' := ⟨h.os, h.tape, h.output, h.size, fun k hk => h.block k (by omega)⟩
theorem VRl.cons {ρ : Rho} {x y : Value} {xs ys : List Value} (h : VR ρ x y) (h' : VRl ρ xs ys) : VRl ρ (x :: xs) (y :: ys) := by
  refine ⟨by simp [h'.1], fun i a b ha hb => ?_⟩
  cases i with
  | zero => simp at ha hb; subst ha hb; exact h
  | succ i => exact h'.2 i a b (by simpa using ha) (by simpa using hb)
theorem law_true {P : Program} {f : FuncId} {sp : ASpec} {ρ : Rho} {M : AMem} {w : World} {args : List Value} {cargs : Array Value} (hS : Sound P f sp) (hv : Vw ρ M w) (ha : VRl ρ args cargs.toList) (hsp : sp args M (fun r _ => r = .ret (.bool true))) :
    Calls P f cargs w (fun e w' => e = .returned (.bool true) ∧ Below w.heap.size w w') := by
  obtain ⟨_, h⟩ := hS args M _ hsp
  refine (h _ ρ w cargs ha hv.sim).mono fun e w' hp => ?_
  obtain ⟨ρ', c, res, M', hK, he, _, _, hr, _, hk⟩ := hp
  subst hK
  have hc : c = .bool true := hr.bool_inv
  subst hc
  exact ⟨he, kept_below hk⟩
end Go.Proofs.Ytdkdkpiemigfkaa
set_option linter.unusedVariables false
set_option linter.unusedSimpArgs false
set_option maxRecDepth 8000
namespace Go.Proofs.Ytdkdkpiemigfkaa
open Go Go.Proofs
def genO (o : Ou) : Prop := ∃ (f : Fr) (n : Nt), o.frames = [f, ⟨0, [120]⟩] ∧ o.notes = [n] ∧ f.data.length ≤ 200 ∧ 0 ≤ n.sid ∧ n.sid ≤ 6
def genA (os : List Ou) : Prop := os.length ≤ 30 ∧ ∀ o ∈ os, genO o
theorem genA_nil : genA [] := ⟨by simp, by simp⟩
theorem genA_few {os : List Ou} (h : genA os) : fewO os ∧ datO os ∧ sidO os := by
  obtain ⟨h0, h1⟩ := h
  have a1 := flatMap_bound Ou.frames 2 os (fun o ho => by obtain ⟨f, n, e, _⟩ := h1 o ho; rw [e]; simp)
  have a2 := flatMap_bound Ou.notes 1 os (fun o ho => by obtain ⟨f, n, _, e, _⟩ := h1 o ho; rw [e]; simp)
  refine ⟨⟨by omega, by omega, by omega⟩, fun f hf => ?_, fun n hn => ?_⟩
  · rw [List.mem_flatMap] at hf
    obtain ⟨o, ho, hf⟩ := hf
    obtain ⟨g, n, e, _, hd, _⟩ := h1 o ho
    rw [e] at hf
    simp only [List.mem_cons, List.not_mem_nil, or_false] at hf
    rcases hf with rfl | rfl
    · omega
    · simp
  · rw [List.mem_flatMap] at hn
    obtain ⟨o, ho, hn⟩ := hn
    obtain ⟨g, m, _, e, _, h2, h3⟩ := h1 o ho
    rw [e] at hn
    simp only [List.mem_cons, List.not_mem_nil, or_false] at hn
    subst hn
    exact ⟨by omega, by omega⟩
theorem genA_take {os : List Ou} (h : genA os) (k : Nat) : genA (os.take k) := ⟨by rw [List.length_take]; have := h.1; omega, fun o ho => h.2 o (List.mem_of_mem_take ho)⟩
theorem genA_drop {os : List Ou} (h : genA os) (k : Nat) : genA (os.drop k) := ⟨by rw [List.length_drop]; have := h.1; omega, fun o ho => h.2 o (List.mem_of_mem_drop ho)⟩
theorem notes_len {os : List Ou} (h : genA os) : (os.flatMap Ou.notes).length = os.length := by
  have : ∀ os : List Ou, (∀ o ∈ os, genO o) → (os.flatMap Ou.notes).length = os.length := by
    intro os
    induction os with
    | nil => intro _; rfl
    | cons o os ih =>
      intro h
      obtain ⟨f, n, _, e, _⟩ := h o (by simp)
      rw [List.flatMap_cons, List.length_append, e, ih (fun x hx => h x (by simp [hx])), List.length_cons]; simp; omega
  exact this os h.2
theorem seg_x : segGet [120] = none := by decide +kernel
theorem rst_le {os : List Ou} (h : genA os) : rstL (segsF os) ≤ os.length := by
  have : ∀ os : List Ou, (∀ o ∈ os, genO o) → (segsL (os.flatMap Ou.frames)).length ≤ os.length := by
    intro os
    induction os with
    | nil => intro _; simp [segsL]
    | cons o os ih =>
      intro h
      obtain ⟨f, n, e, _⟩ := h o (by simp)
      have h2 := ih (fun x hx => h x (by simp [hx]))
      rw [List.flatMap_cons, segsL_app, List.length_append, e, show segsL [f, ⟨0, [120]⟩] = (segGet f.data).toList ++ (segGet [120]).toList from by rw [← segsL_one, ← segsL_one (f := ⟨0, [120]⟩), ← segsL_app]; rfl, seg_x, List.length_cons]
      cases segGet f.data <;> simp <;> omega
  exact Nat.le_trans (rstL_le _) (this os h.2)
theorem rst_split (os : List Ou) (k : Nat) : resetsF os = resetsF (os.take k) + resetsF (os.drop k) := by
  unfold resetsF segsF
  conv => lhs; rw [← List.take_append_drop k os, List.flatMap_append, segsL_app, rstL_app]
  omega
theorem sids_le7 {os : List Ou} (h : genA os) : (sidS ((os.flatMap Ou.notes).map Nt.sid)).length ≤ 7 := by
  have hm : ∀ x ∈ sidS ((os.flatMap Ou.notes).map Nt.sid), 0 ≤ x ∧ x ≤ 6 := by
    intro x hx
    rw [sidS_mem, List.mem_map] at hx
    obtain ⟨n, hn, rfl⟩ := hx
    rw [List.mem_flatMap] at hn
    obtain ⟨o, ho, hn⟩ := hn
    obtain ⟨g, m, _, e, _, h2, h3⟩ := h.2 o ho
    rw [e] at hn
    simp only [List.mem_cons, List.not_mem_nil, or_false] at hn
    subst hn
    exact ⟨h2, h3⟩
  have ha := sidS_asc ((os.flatMap Ou.notes).map Nt.sid)
  generalize sidS ((os.flatMap Ou.notes).map Nt.sid) = l at *
  have : ∀ i (hi : i < l.length), (i : Int) ≤ l[i] := by
    intro i
    induction i with
    | zero => intro hi; have := hm _ (List.getElem_mem hi); omega
    | succ i ih =>
      intro hi
      have h1 := ih (by omega)
      have h2 := List.pairwise_iff_getElem.1 ha i (i + 1) (by omega) hi (by omega)
      omega
  by_cases h7 : l.length ≤ 7
  · exact h7
  · have h1 := this 7 (by omega)
    have h2 := hm _ (List.getElem_mem (show 7 < l.length by omega))
    omega
def Nb (v : Value) (k : Nat) : Prop := ∀ x n q, v ≠ .slice (some ⟨k, x, none⟩) n q
def OuK (M : AMem) (v : Value) (c : List Value) (o : Ou) : Prop := ∀ M2 : AMem, M.next ≤ M2.next → (∀ k, k < M.next → Nb v k → M2.get k = M.get k) → OuR M2 c o
def OusO (M : AMem) (lo : Nat) (v : Value) (os : List Ou) : Prop := ∃ css : List (List Value), css.length = os.length ∧ Own M lo 4 v os.length css.flatten ∧ ∀ (i : Nat) (c : List Value) (o : Ou), css[i]? = some c → os[i]? = some o → OuK M v c o
theorem OusO.row {M : AMem} {lo : Nat} {v : Value} {os : List Ou} (h : OusO M lo v os) : OusR M v os := by
  obtain ⟨css, h1, h2, h3⟩ := h
  exact ⟨css, h1, h2.row, fun i c o hc ho => h3 i c o hc ho M (Nat.le_refl _) (fun _ _ _ => rfl)⟩
theorem OusO.nil (M : AMem) (lo : Nat) : OusO M lo (.slice none 0 0) [] := ⟨[], rfl, Own.nil _ _ _, fun i c o hc => by simp at hc⟩
theorem OusO.keep {M M' : AMem} {lo : Nat} {v : Value} {os : List Ou} (h : OusO M lo v os) (hn : M.next ≤ M'.next) (hg : ∀ k, k < M.next → M'.get k = M.get k) : OusO M' lo v os := by
  obtain ⟨css, h1, h2, h3⟩ := h
  exact ⟨css, h1, h2.keep hn (fun j _ hj => hg j hj), fun i c o hc ho M2 hn2 hg2 => h3 i c o hc ho M2 (Nat.le_trans hn hn2) (fun k hk hb => (hg2 k (Nat.lt_of_lt_of_le hk hn) hb).trans (hg k hk))⟩
theorem OusO.app {M : AMem} {lo : Nat} {v : Value} {os : List Ou} (h : OusO M lo v os) (hlo : lo ≤ M.next) (hle : os.length ≤ 1000) (fs : List Fr) (ns : List Nt) :
    ∃ v' M', aappendOp Try.prog (((M.alloc (.cells (frsC fs).flatten true)).alloc (.cells (ntsC ns).flatten true)).alloc (.cells [.slice (some ⟨M.next, 0, none⟩) fs.length 2, .slice (some ⟨M.next + 1, 0, none⟩) ns.length 4, .int .i64 0, .int .i64 0] true)) 36 36 v (.slice (some ⟨M.next + 2, 0, none⟩) 1 4) = some (v', M') ∧
      OusO M' lo v' (os ++ [⟨fs, ns, 0, 0⟩]) ∧ M.next ≤ M'.next ∧ ∀ k, k < lo → M'.get k = M.get k := by
  obtain ⟨css, h1, h2, h3⟩ := h
  generalize hMz : (M.alloc (.cells (frsC fs).flatten true)).alloc (.cells (ntsC ns).flatten true) = Mz
  have hnz : Mz.next = M.next + 2 := by rw [← hMz]; simp
  have hgz : ∀ k, k < M.next → Mz.get k = M.get k := fun k hk => by rw [← hMz, get_old (by simp; omega), get_old (by omega)]
  have hf : Mz.get M.next = .cells (frsC fs).flatten true := by rw [← hMz, get_old (by simp)]; exact get_new
  have hn : Mz.get (M.next + 1) = .cells (ntsC ns).flatten true := by rw [← hMz]; exact get_new (M := M.alloc (.cells (frsC fs).flatten true))
  have hownz : Own Mz lo 4 v os.length css.flatten := h2.keep (by omega) (fun j _ hj => hgz j hj)
  have hne : ∀ k, M.next ≤ k → Nb v k := by
    intro k hk x n q hv
    rcases h2.2 with ⟨rfl, _⟩ | ⟨id, rfl, _, h5, _⟩
    · cases hv
    · cases hv; omega
  have hsrc : asrc (Mz.alloc (.cells [.slice (some ⟨M.next, 0, none⟩) fs.length 2, .slice (some ⟨M.next + 1, 0, none⟩) ns.length 4, .int .i64 0, .int .i64 0] true)) 4 (.slice (some ⟨Mz.next, 0, none⟩) 1 4) = some (1, [.slice (some ⟨M.next, 0, none⟩) fs.length 2, .slice (some ⟨M.next + 1, 0, none⟩) ns.length 4, .int .i64 0, .int .i64 0]) := by
    have hr : Row (Mz.alloc (.cells [.slice (some ⟨M.next, 0, none⟩) fs.length 2, .slice (some ⟨M.next + 1, 0, none⟩) ns.length 4, .int .i64 0, .int .i64 0] true)) 4 (.slice (some ⟨Mz.next, 0, none⟩) 1 4) 1 [.slice (some ⟨M.next, 0, none⟩) fs.length 2, .slice (some ⟨M.next + 1, 0, none⟩) ns.length 4, .int .i64 0, .int .i64 0] :=
      ⟨rfl, .inr ⟨Mz.next, 0, _, true, rfl, by simp, get_new, by simp, rfl⟩⟩
    exact hr.src
  obtain ⟨v', M', a1, a2, a3, a4, a5⟩ := app_one (c := [.slice (some ⟨M.next, 0, none⟩) fs.length 2, .slice (some ⟨M.next + 1, 0, none⟩) ns.length 4, .int .i64 0, .int .i64 0]) sl36 hownz (by omega) (by omega) rfl rfl (by decide)
  obtain ⟨n', q', hv'⟩ := aapp_new sl36 a1 hsrc (by decide)
  rw [hnz] at a1
  refine ⟨v', M', a1, ⟨css ++ [[.slice (some ⟨M.next, 0, none⟩) fs.length 2, .slice (some ⟨M.next + 1, 0, none⟩) ns.length 4, .int .i64 0, .int .i64 0]], by simp [h1], by simpa using a2, ?_⟩, by omega, fun k hk => by rw [a4 k hk, hgz k (by omega)]⟩
  have hb' : ∀ k, k ≤ M.next + 1 → Nb v' k := by
    intro k hk x n q hv
    rw [hv'] at hv
    injection hv with h5
    injection h5 with h6
    injection h6 with h7
    simp at h7
    omega
  intro i c o hc ho M2 hn2 hg2
  by_cases hi : i < os.length
  · rw [List.getElem?_append_left (by omega)] at hc ho
    refine h3 i c o hc ho M2 (by omega) (fun k hk hb => ?_)
    rw [hg2 k (by omega) (hb' k (by omega)), a5 k (by omega) hb, hgz k hk]
  · have hie : i = os.length := by
      have := (List.getElem?_eq_some_iff.1 ho).1
      simp at this; omega
    subst hie
    rw [List.getElem?_append_right (by omega), h1, Nat.sub_self] at hc
    rw [List.getElem?_append_right (by omega), Nat.sub_self] at ho
    simp at hc ho
    subst hc ho
    refine ⟨_, _, rfl, ?_, ?_⟩
    · exact ⟨frsC_flat fs, .inr ⟨M.next, 0, _, true, rfl, by omega, by rw [hg2 _ (by omega) (hb' _ (by omega)), a5 _ (by omega) (hne _ (by omega))]; exact hf, by rw [frsC_flat]; simp, by rw [List.drop_zero, List.take_of_length_le (Nat.le_of_eq (frsC_flat fs))]⟩⟩
    · exact ⟨ntsC_flat ns, .inr ⟨M.next + 1, 0, _, true, rfl, by omega, by rw [hg2 _ (by omega) (hb' _ (by omega)), a5 _ (by omega) (hne _ (by omega))]; exact hn, by rw [ntsC_flat]; simp, by rw [List.drop_zero, List.take_of_length_le (Nat.le_of_eq (ntsC_flat ns))]⟩⟩
theorem outs_parts {M : AMem} {v : Value} {os : List Ou} {k : Nat} (h : OusR M v os) (hk : k ≤ os.length) :
    (∃ v1, (∀ (s : Slots) (M' : AMem) (t : Nat), s t = .int .i64 k → aslice Try.prog s M' 36 v none (some (.tmp t)) = some v1) ∧ OusR M v1 (os.take k)) ∧
    (∃ v2, (∀ (s : Slots) (M' : AMem) (t : Nat), s t = .int .i64 k → aslice Try.prog s M' 36 v (some (.tmp t)) none = some v2) ∧ OusR M v2 (os.drop k)) := by
  obtain ⟨css, h1, h2, h3⟩ := h
  have hlen : ∀ c ∈ css, c.length = 4 := by
    intro c hc
    obtain ⟨i, hi, he⟩ := List.mem_iff_getElem.1 hc
    obtain ⟨fv, nv, h, _⟩ := h3 i c os[i] (by rw [← he]; exact List.getElem?_eq_getElem hi) (List.getElem?_eq_getElem (by omega))
    rw [h]; rfl
  have htl : (os.take k).length = k := by rw [List.length_take]; omega
  have hdl : (os.drop k).length = os.length - k := List.length_drop
  constructor
  · obtain ⟨v1, q1, q2⟩ := h2.slice (P := Try.prog) (s := fun _ => .int .i64 k) (lo := none) (hi := some (.tmp 0)) (l := 0) (r := k) Try.underlying36 (i := _) (by rfl) rfl rfl rfl (by omega) (by omega) (by omega)
    refine ⟨v1, fun s M' t hs => ?_, css.take k, by rw [List.length_take]; omega, ?_, fun i c o hc ho => ?_⟩
    · rw [← q1]; exact aslice_ab Try.underlying36 rfl (fun d => by simp only [abound, ev_tmp, hs])
    · rw [show ((k : Int) - 0).toNat = k from by omega] at q2
      rw [htl]
      have e : (css.take k).flatten = css.flatten.take (k * 4) := by
        have e0 : css.flatten = (css.take k).flatten ++ (css.drop k).flatten := by rw [← List.flatten_append, List.take_append_drop]
        have e1 : (css.take k).flatten.length = k * 4 := by rw [flatten_len _ (fun c hc => hlen c (List.mem_of_mem_take hc)), List.length_take, Nat.min_eq_left (by omega)]
        rw [e0, ← e1, List.take_left]
      rw [e]
      simpa using q2
    · rw [List.getElem?_take] at hc ho
      split at hc
      · rename_i hik
        rw [if_pos hik] at ho
        exact h3 i c o hc ho
      · cases hc
  · obtain ⟨v1, q1, q2⟩ := h2.slice (P := Try.prog) (s := fun _ => .int .i64 k) (lo := some (.tmp 0)) (hi := none) (l := k) (r := os.length) Try.underlying36 (i := _) (by rfl) rfl rfl rfl (by omega) (by omega) (by omega)
    refine ⟨v1, fun s M' t hs => ?_, css.drop k, by rw [List.length_drop]; omega, ?_, fun i c o hc ho => ?_⟩
    · rw [← q1]; exact aslice_ab Try.underlying36 (by simp only [abound, ev_tmp, hs]) (fun d => rfl)
    · rw [show ((os.length : Int) - k).toNat = os.length - k from by omega, Int.toNat_natCast] at q2
      rw [hdl, ← flatten_drop css k hlen]
      rw [List.take_of_length_le (by rw [List.length_drop, flatten_len _ hlen]; omega)] at q2
      exact q2
    · rw [List.getElem?_drop] at hc ho
      exact h3 _ c o hc ho
end Go.Proofs.Ytdkdkpiemigfkaa
set_option linter.unusedVariables false
set_option linter.unusedSimpArgs false
set_option maxRecDepth 8000
namespace Go.Proofs.Ytdkdkpiemigfkaa
open Go Go.Proofs
theorem b34v (a : Int) (d : List UInt8) : abuild Try.prog 34 [(0, .int .i64 a), (1, asString d)] = some (Fr.cells ⟨a, d⟩) := by kernel_rfl
theorem b34x : abuild Try.prog 34 [(0, .int .i64 0), (1, asString [120])] = some (Fr.cells ⟨0, [120]⟩) := by kernel_rfl
theorem b53v (a b : Int) : abuild Try.prog 53 [(0, .int .i64 a), (2, .int .i64 b)] = some (Nt.cells ⟨a, 0, b, 0⟩) := by kernel_rfl
theorem b31v (p q : Nat) : abuild Try.prog 31 [(0, .slice (some ⟨p, 0, none⟩) 2 2), (1, .slice (some ⟨q, 0, none⟩) 1 4)] = some [.slice (some ⟨p, 0, none⟩) 2 2, .slice (some ⟨q, 0, none⟩) 1 4, .int .i64 0, .int .i64 0] := by kernel_rfl
theorem note_split (os : List Ou) (k : Nat) : (os.take k).flatMap Ou.notes ++ (os.drop k).flatMap Ou.notes = os.flatMap Ou.notes := by rw [← List.flatMap_append, List.take_append_drop]
theorem sel_split (side : Int) (os : List Ou) (k : Nat) : selF side ((os.take k).flatMap Ou.frames) ++ selF side ((os.drop k).flatMap Ou.frames) = selF side (os.flatMap Ou.frames) := by
  conv => rhs; rw [← List.take_append_drop k os, List.flatMap_append]
  simp [selF]
theorem lawSeg_len (host port flags seq ack : Int) (body : List UInt8) : (lawSeg host port flags seq ack body).length = 54 + body.length := by
  unfold lawSeg segF ethPutF
  have h1 : (seghF host port flags seq ack).opts = [] := by unfold seghF; split <;> rfl
  simp [ipPutF_length, tcpPutF_length, bigF_length, h1, macF, ipF]
  omega
theorem flag4 {v : Int} (h : 0 ≤ v) : ∃ fl : Int, ([.int .i64 16, .int .i64 4, .int .i64 2, .int .i64 20] : List Value)[(v % 4).toNat]? = some (.int .i64 fl) ∧ 0 ≤ fl ∧ fl ≤ 63 := by
  have h1 := Int.emod_nonneg v (show (4 : Int) ≠ 0 by decide)
  have h2 := Int.emod_lt_of_pos v (show (0 : Int) < 4 by decide)
  have h3 : (v % 4).toNat < 4 := by omega
  generalize (v % 4).toNat = n at *
  rcases (by omega : n = 0 ∨ n = 1 ∨ n = 2 ∨ n = 3) with rfl | rfl | rfl | rfl
  · exact ⟨16, rfl, by decide, by decide⟩
  · exact ⟨4, rfl, by decide, by decide⟩
  · exact ⟨2, rfl, by decide, by decide⟩
  · exact ⟨20, rfl, by decide, by decide⟩
def sp5 : ASpec := fun args M K => ∃ (dv : Value) (l : List Int) (a : Int), args = [dv, .int .i64 a] ∧ Row M 1 dv l.length (l.map (.int .i64)) ∧ (∀ x ∈ l, inI64 x) ∧ inI64 a ∧ K (.ret (.bool true)) M
noncomputable def S5 : FuncId → ASpec := tab [(8, sp8), (10, sp10), (6, sp6), (14, sp14), (16, sp16), (15, sp15), (18, sp18), (21, sp21), (24, sp24)]
theorem S5_8 : S5 8 = sp8 := rfl
theorem S5_10 : S5 10 = sp10 := rfl
theorem S5_6 : S5 6 = sp6 := rfl
theorem S5_14 : S5 14 = sp14 := rfl
theorem S5_16 : S5 16 = sp16 := rfl
theorem S5_15 : S5 15 = sp15 := rfl
theorem S5_18 : S5 18 = sp18 := rfl
theorem S5_21 : S5 21 = sp21 := rfl
theorem S5_24 : S5 24 = sp24 := rfl
theorem S5_ok : ∀ f, Sound Try.prog f (S5 f) := tab_sound _ (by simp [f8_ok, f10_ok, f6_ok, f14_ok, f16_ok, f15_ok, f18_ok, f21_ok, f24_ok])
set_option maxHeartbeats 4000000 in
theorem f5_ok : Sound Try.prog 5 sp5 := by
 refine Sound.of_awp (c := bodyOf Try.f5) Try.func5 rfl rfl rfl ?_
 rintro args M K ⟨dv, l, a, rfl, hd, hl, ⟨ha0, ha1⟩, hK⟩
 refine ⟨Nat.le_of_ble_eq_true rfl, ?_⟩
 have hS := S5_ok
 have e0 : entry [dv, .int .i64 a] 0 = dv := rfl
 have e1 : entry [dv, .int .i64 a] 1 = .int .i64 a := rfl
 refine at_seq rfl ?_
 refine at_region hS rfl (by kernel_rfl) ?_
 refine s_op (a_as (by simp only [ev_const] <;> rfl)) rfl ?_
 refine s_end (fun s' hs' => ?_)
 replace e0 := kp 0 hs' e0
 replace e1 := kp 1 hs' e1
 clear hs'
 refine o_norm ?_
 refine t_norm ?_
 refine at_seq rfl ?_
 refine at_region hS rfl (by kernel_rfl) ?_
 refine s_op (a_as (by simp only [ev_const] <;> rfl)) rfl ?_
 refine s_end (fun s' hs' => ?_)
 replace e0 := kp 0 hs' e0
 replace e1 := kp 1 hs' e1
 have e5 := congrFun hs' 5
 simp only [Zu, Nat.reduceEqDiff, ↓reduceIte, newPtr, AMem.next_alloc] at e5
 clear hs'
 refine o_norm ?_
 refine t_norm ?_
 refine at_seq rfl ?_
 refine t_join (I := fun s MJ ds => ∃ (lv : Value), ∃ (os : List Ou), s 1 = .int .i64 a ∧ s 5 = lv ∧ genA os ∧ OusO MJ M.next lv os ∧ M.next ≤ MJ.next ∧ M.next ≤ MJ.next ∧ (∀ j, j < M.next → MJ.get j = M.get j) ∧ ds = []) ?_ ?_
 ·
  refine at_seq rfl ?_
  refine at_region hS rfl (by kernel_rfl) ?_
  refine s_op (a_as (by simp only [ev_const] <;> rfl)) rfl ?_
  refine s_end (fun s' hs' => ?_)
  replace e0 := kp 0 hs' e0
  replace e1 := kp 1 hs' e1
  replace e5 := kp 5 hs' e5
  have e6 := congrFun hs' 6
  simp only [Zu, Nat.reduceEqDiff, ↓reduceIte, newPtr, AMem.next_alloc] at e6
  clear hs'
  refine o_norm ?_
  refine t_norm ?_
  refine at_block rfl ?_
  refine at_loop rfl (fun km s ML ds => ∃ (i : Nat), ∃ (lv : Value), ∃ (os : List Ou), s 0 = dv ∧ s 1 = .int .i64 a ∧ s 5 = lv ∧ s 6 = .int .i64 i ∧ i ≤ 30 ∧ os.length = i ∧ genA os ∧ OusO ML M.next lv os ∧ km = 30 - i ∧ M.next ≤ ML.next ∧ M.next ≤ ML.next ∧ (∀ j, j < M.next → ML.get j = M.get j) ∧ ds = []) (30 - (0)) ⟨0, .slice none 0 0, [], (by first | exact e0 | (rw [e0]; rfl) | (simpa using e0)), (by first | exact e1 | (rw [e1]; rfl) | (simpa using e1)), (by first | exact e5 | (rw [e5]; rfl) | (simpa using e5)), (by first | exact e6 | (rw [e6]; rfl) | (simpa using e6)), (by omega), rfl, genA_nil, (OusO.nil _ _), rfl, (Nat.le_refl M.next), by omega, (fun _ _ => rfl), rfl⟩ ?_
  clear e0 e1 e5 e6
  rintro km s M1 ds ⟨i, lv, os, e0, e1, e5, e6, hi, hil, hgen, hown, hk, hnxM1, hngM1, holdM1, rfl⟩
  refine at_seq rfl ?_
  refine at_seq rfl ?_
  have hd3 := hd.keep (M' := M1) hnxM1 holdM1
  by_cases hv : (i : Int) < l.length
  ·
   refine at_region hS rfl (by kernel_rfl) ?_
   refine s_op (a_mv e6) rfl ?_
   refine s_op (a_mv e0) rfl ?_
   refine s_op (a_len (by simp (disch := omega) only [Zu, Nat.reduceEqDiff, ↓reduceIte, alen_str, Row.len hd3 (P := Try.prog) Try.underlying22, hv, newPtr, AMem.next_alloc] <;> rfl)) rfl ?_
   refine s_op (a_bin (by simp (disch := omega) only [Zu, Nat.reduceEqDiff, ↓reduceIte, Zd, reduceCtorEq, abin_lss, ne_eq, not_false_eq_true, hv] <;> rfl)) rfl ?_
   refine s_mv ?_
   refine s_tk ?_
   refine s_op (a_mv e6) rfl ?_
   refine s_tk ?_
   refine s_op (a_bin (by simp (disch := omega) only [Zu, Nat.reduceEqDiff, ↓reduceIte, Zd, reduceCtorEq, abin_lss, ne_eq, not_false_eq_true, hv] <;> rfl)) rfl ?_
   refine s_op (a_pick (by simp only [Zu, Nat.reduceEqDiff, ↓reduceIte, Zd, reduceCtorEq, hv] <;> rfl) (by simp only [Zu, Nat.reduceEqDiff, ↓reduceIte, Zd, reduceCtorEq, hv] <;> rfl)) rfl ?_
   refine s_end (fun s' hs' => ?_)
   replace e0 := kp 0 hs' e0
   replace e1 := kp 1 hs' e1
   replace e5 := kp 5 hs' e5
   replace e6 := kp 6 hs' e6
   have e23 := congrFun hs' 23
   simp only [Zu, Nat.reduceEqDiff, ↓reduceIte, newPtr, AMem.next_alloc] at e23
   clear hs'
   refine o_norm ?_
   refine t_norm ?_
   refine at_cond rfl rfl e23 (fun h3 => ?_) (fun h3 => ?_)
   ·
    try simp only [Zh] at h3
    refine at_skip rfl ?_
    refine t_norm ?_
    refine at_seq rfl ?_
    refine at_block rfl ?_
    refine at_seq rfl ?_
    have hil2 : i < l.length := by omega
    obtain ⟨id, off, all, own, hia, hid, hget, hld⟩ := hd3.at1 Try.underlying22 (i := _) (by rfl) rfl hil2 ld3 ⟨_, rfl, rfl⟩ .i64
    rw [show (l.map (Value.int .i64))[i]? = some (.int .i64 l[i]) from by simp [hil2]] at hld
    obtain ⟨hx0, hx1⟩ := hl l[i] (List.getElem_mem hil2)
    refine at_region hS rfl (by kernel_rfl) ?_
    refine s_op (a_mv e0) rfl ?_
    refine s_op (a_mv e6) rfl ?_
    refine s_op (a_ia (by simp (disch := omega) only [Zu, Nat.reduceEqDiff, ↓reduceIte, hia, newPtr, AMem.next_alloc] <;> rfl)) rfl ?_
    refine s_op (a_load (by simp only [Zu, Nat.reduceEqDiff, ↓reduceIte, hget, hld, newPtr, AMem.next_alloc] <;> rfl) (by simp (disch := first | (refine Zx ?_; simp only [Zn]; done) | ((try simp only [Zn]); omega)) only [Zg, hget, hld, newPtr] <;> rfl) (by simp only [ld3, Zl, hget, hld, newPtr, AMem.next_alloc] <;> rfl)) rfl ?_
    refine s_call (by simp only [Zu, Nat.reduceEqDiff, ↓reduceIte, newPtr, AMem.next_alloc] <;> rfl) (by simp only [Zu, Nat.reduceEqDiff, ↓reduceIte, Zm, newPtr, AMem.next_alloc] <;> rfl) ?_
    rw [S5_8]; refine ⟨l[i], 1048576, rfl, ⟨by decide, by decide, hx0, hx1⟩, ?_⟩
    show EA _ _ _ _ _ _
    refine s_as ?_
    refine s_end (fun s' hs' => ?_)
    replace e0 := kp 0 hs' e0
    replace e1 := kp 1 hs' e1
    replace e5 := kp 5 hs' e5
    replace e6 := kp 6 hs' e6
    have e7 := congrFun hs' 7
    simp only [Zu, Nat.reduceEqDiff, ↓reduceIte, newPtr, AMem.next_alloc] at e7
    clear hs'
    refine o_norm ?_
    have b1 := Int.emod_nonneg l[i] (show (1048576 : Int) ≠ 0 by decide)
    have b2 := Int.emod_lt_of_pos l[i] (show (0 : Int) < 1048576 by decide)
    generalize l[i] % 1048576 = v at *
    have b3 := Int.emod_nonneg v (show (4 : Int) ≠ 0 by decide)
    have b4 := Int.emod_lt_of_pos v (show (0 : Int) < 4 by decide)
    have b5 := Int.emod_nonneg v (show (7 : Int) ≠ 0 by decide)
    have b6 := Int.emod_lt_of_pos v (show (0 : Int) < 7 by decide)
    obtain ⟨fl, hfl, fl0, fl1⟩ := flag4 b1
    refine t_norm ?_
    refine at_seq rfl ?_
    have hr6 : Row (M1.alloc (.cells [.int .i64 16, .int .i64 4, .int .i64 2, .int .i64 20] true)) 1 (.slice (some ⟨M1.next, 0, none⟩) 4 1) 4 [.int .i64 16, .int .i64 4, .int .i64 2, .int .i64 20] := ⟨rfl, .inr ⟨M1.next, 0, _, true, rfl, by simp, get_new, by decide, rfl⟩⟩
    obtain ⟨id6, off6, all6, own6, hia6, hid6, hget6, hld6⟩ := hr6.at1 Try.underlying22 (i := _) (by rfl) rfl (j := (v % 4).toNat) (by omega) ld3 ⟨_, rfl, rfl⟩ .i64
    rw [hfl] at hld6
    rw [show (((v % 4).toNat : Nat) : Int) = v % 4 from by omega] at hia6
    refine at_region hS rfl (by kernel_rfl) ?_
    refine s_op (a_bslice (by simp only [ev_const, Zm, Array.toList, newPtr, AMem.next_alloc]; exact abuildSlice_all [_, _, _, _] rfl rfl rfl rfl rfl (by decide) (by decide) rfl (by simp only [List.mem_cons, List.not_mem_nil, or_false, forall_eq_or_imp, forall_eq]; repeat' (first | rfl | apply And.intro)))) rfl ?_
    refine s_op (a_mv e7) rfl ?_
    refine s_op (a_bin (by simp (disch := omega) only [Zu, Nat.reduceEqDiff, ↓reduceIte, Zd, reduceCtorEq, abin_rem, Int.tmod_eq_emod_of_nonneg, ne_eq, not_false_eq_true] <;> rfl)) rfl ?_
    refine s_op (a_ia (by simp only [Zu, Nat.reduceEqDiff, ↓reduceIte]; exact hia6)) rfl ?_
    refine s_op (a_load (by simp only [Zu, Nat.reduceEqDiff, ↓reduceIte] <;> rfl) hget6 hld6) rfl ?_
    refine s_as ?_
    refine s_end (fun s' hs' => ?_)
    replace e0 := kp 0 hs' e0
    replace e1 := kp 1 hs' e1
    replace e5 := kp 5 hs' e5
    replace e6 := kp 6 hs' e6
    replace e7 := kp 7 hs' e7
    have e8 := congrFun hs' 8
    simp only [Zu, Nat.reduceEqDiff, ↓reduceIte, newPtr, AMem.next_alloc] at e8
    clear hs'
    refine o_norm ?_
    refine q_mem (fun M2 hEM2 => ?_)
    have hnM2 := congrArg AMem.next hEM2; simp only [Zn, Nat.add_assoc, Nat.reduceAdd] at hnM2
    have hnxM2 : M.next ≤ M2.next := by have := hnxM1; omega
    have holdM2 : ∀ j, j < M.next → M2.get j = M.get j := fun j hj => by have := hnxM1; rw [hEM2]; simp (disch := first | (refine Zx ?_; simp only [Zn]; done) | ((try simp only [Zn]); omega)) only [Zg]; exact holdM1 j hj
    have hcM2 : ∀ j, j < M1.next → M2.get j = M1.get j := fun j hj => by rw [hEM2]; simp (disch := first | (refine Zx ?_; simp only [Zn]; done) | ((try simp only [Zn]); omega)) only [Zg]
    have gM2_0 := congrArg (fun m => AMem.get m M1.next) hEM2; try simp (disch := first | (refine Zx ?_; simp only [Zn]; done) | ((try simp only [Zn]); omega)) only [Zg, Nat.add_assoc, Nat.reduceAdd] at gM2_0
    clear hEM2
    refine t_norm ?_
    have hown6 := hown.keep (M' := M2) (by omega) hcM2
    obtain ⟨lv', M7, hap, hown', hn7, hf7⟩ := hown6.app (by omega) (by omega) [⟨v / 4 % 2, lawSeg (v / 4 % 2) 0 fl v 7 []⟩, ⟨0, [120]⟩] [⟨v % 7, 0, i, 0⟩]
    have b7 : v / 4 % 2 = 0 ∨ v / 4 % 2 = 1 := by omega
    refine at_region hS rfl (by kernel_rfl) ?_
    refine s_op (a_mv e5) rfl ?_
    refine s_op (a_mv e7) rfl ?_
    refine s_op (a_bin (by simp (disch := omega) only [Zu, Nat.reduceEqDiff, ↓reduceIte, Zd, reduceCtorEq, abin_quo, wrap_i64, wrap_u32, wrap_u8, wrap_u64, wrap_i32, wrap_u16, Int.tdiv_eq_ediv_of_nonneg, ne_eq, not_false_eq_true, b34v, b53v, b31v] <;> rfl)) rfl ?_
    refine s_op (a_bin (by simp (disch := omega) only [Zu, Nat.reduceEqDiff, ↓reduceIte, Zd, reduceCtorEq, abin_rem, Int.tmod_eq_emod_of_nonneg, ne_eq, not_false_eq_true, b34v, b53v, b31v] <;> rfl)) rfl ?_
    refine s_op (a_mv e7) rfl ?_
    refine s_op (a_bin (by simp (disch := omega) only [Zu, Nat.reduceEqDiff, ↓reduceIte, Zd, reduceCtorEq, abin_quo, wrap_i64, wrap_u32, wrap_u8, wrap_u64, wrap_i32, wrap_u16, Int.tdiv_eq_ediv_of_nonneg, ne_eq, not_false_eq_true, b34v, b53v, b31v] <;> rfl)) rfl ?_
    refine s_op (a_bin (by simp (disch := omega) only [Zu, Nat.reduceEqDiff, ↓reduceIte, Zd, reduceCtorEq, abin_rem, Int.tmod_eq_emod_of_nonneg, ne_eq, not_false_eq_true, b34v, b53v, b31v] <;> rfl)) rfl ?_
    refine s_op (a_mv e8) rfl ?_
    refine s_op (a_mv e7) rfl ?_
    refine s_op (a_convi (by simp only [Zu, Nat.reduceEqDiff, ↓reduceIte, b34v, b53v, b31v, newPtr, AMem.next_alloc, gM2_0] <;> rfl) rfl rfl (by simp (disch := omega) only [wrapm_u32, Int.emod_eq_of_lt]; try rfl)) rfl ?_
    refine s_call (by simp only [Zu, Nat.reduceEqDiff, ↓reduceIte, b34v, b53v, b31v, newPtr, AMem.next_alloc, gM2_0] <;> rfl) (by simp only [Zu, Nat.reduceEqDiff, ↓reduceIte, Zm, b34v, b53v, b31v, newPtr, AMem.next_alloc, gM2_0] <;> rfl) ?_
    rw [S5_10]; refine ⟨_, 0, fl, _, 7, [], rfl, ⟨b7, by decide, by decide, fl0, fl1, by omega, by omega, by decide, by decide, by decide⟩, ?_⟩
    show EA _ _ _ _ _ _
    refine s_op (a_build (by simp only [Zu, Nat.reduceEqDiff, ↓reduceIte, Zm, Array.toList, b34v, b53v, b31v, newPtr, AMem.next_alloc] <;> rfl)) rfl ?_
    refine s_op (a_build b34x) rfl ?_
    refine s_op (a_bslice (by simp only [Zu, Nat.reduceEqDiff, ↓reduceIte, Zm, Array.toList, b34v, b53v, b31v, newPtr, AMem.next_alloc, gM2_0]; exact abuildSlice_all [_, _] rfl rfl rfl rfl rfl (by decide) (by decide) rfl (by simp only [List.mem_cons, List.not_mem_nil, or_false, forall_eq_or_imp, forall_eq]; repeat' (first | rfl | apply And.intro)))) rfl ?_
    refine s_op (a_mv e7) rfl ?_
    refine s_op (a_bin (by simp (disch := omega) only [Zu, Nat.reduceEqDiff, ↓reduceIte, Zd, reduceCtorEq, abin_rem, Int.tmod_eq_emod_of_nonneg, ne_eq, not_false_eq_true, b34v, b53v, b31v] <;> rfl)) rfl ?_
    refine s_op (a_mv e6) rfl ?_
    refine s_op (a_build (by simp only [Zu, Nat.reduceEqDiff, ↓reduceIte, Zm, Array.toList, b34v, b53v, b31v, newPtr, AMem.next_alloc] <;> rfl)) rfl ?_
    refine s_op (a_bslice (by simp only [Zu, Nat.reduceEqDiff, ↓reduceIte, Zm, Array.toList, b34v, b53v, b31v, newPtr, AMem.next_alloc, gM2_0]; exact abuildSlice_all [_] rfl rfl rfl rfl rfl (by decide) (by decide) rfl (by simp only [List.mem_cons, List.not_mem_nil, or_false, forall_eq_or_imp, forall_eq]; repeat' (first | rfl | apply And.intro)))) rfl ?_
    refine s_op (a_build (by simp only [Zu, Nat.reduceEqDiff, ↓reduceIte, Zm, Array.toList]; exact b31v _ _)) rfl ?_
    refine s_op (a_bslice (by simp only [Zu, Nat.reduceEqDiff, ↓reduceIte, Zm, Array.toList, b34v, b53v, b31v, newPtr, AMem.next_alloc, gM2_0]; exact abuildSlice_all [_] rfl rfl rfl rfl rfl (by decide) (by decide) rfl (by simp only [List.mem_cons, List.not_mem_nil, or_false, forall_eq_or_imp, forall_eq]; repeat' (first | rfl | apply And.intro)))) rfl ?_
    refine s_op (a_append (by simp only [Zu, Nat.reduceEqDiff, ↓reduceIte, e5]; exact hap)) rfl ?_
    refine s_as ?_
    refine s_end (fun s' hs' => ?_)
    replace e0 := kp 0 hs' e0
    replace e1 := kp 1 hs' e1
    replace e5 := congrFun hs' 5
    replace e6 := kp 6 hs' e6
    simp only [Zu, Nat.reduceEqDiff, ↓reduceIte, newPtr, AMem.next_alloc] at e5
    clear hs'
    try clear e7 e8
    refine o_norm ?_
    have hnx7 : M.next ≤ M7.next := by omega
    have hold7 : ∀ j, j < M.next → M7.get j = M.get j := fun j hj => by rw [hf7 j hj]; exact holdM2 j hj
    have hgen' : genA (os ++ [⟨[⟨v / 4 % 2, lawSeg (v / 4 % 2) 0 fl v 7 []⟩, ⟨0, [120]⟩], [⟨v % 7, 0, i, 0⟩], 0, 0⟩]) := by
      refine ⟨by rw [List.length_append, hil]; simp; omega, fun o ho => ?_⟩
      rw [List.mem_append, List.mem_singleton] at ho
      rcases ho with ho | rfl
      · exact hgen.2 o ho
      · exact ⟨_, _, rfl, rfl, by rw [lawSeg_len]; simp, b5, by show v % 7 ≤ 6; omega⟩
    refine b_norm ?_
    refine t_norm ?_
    refine at_region hS rfl (by kernel_rfl) ?_
    refine s_op (a_mv e6) rfl ?_
    refine s_op (a_bin (by simp (disch := ((try simp only [List.length_append, List.length_cons, List.length_nil]); omega)) only [Zu, Nat.reduceEqDiff, ↓reduceIte, Zd, reduceCtorEq, abin_add, abin_aadd, wrap_i64, wrap_u32, wrap_u8, wrap_u64, wrap_i32, wrap_u16, ne_eq, not_false_eq_true] <;> rfl)) rfl ?_
    refine s_as ?_
    refine s_end (fun s' hs' => ?_)
    replace e0 := kp 0 hs' e0
    replace e1 := kp 1 hs' e1
    replace e5 := kp 5 hs' e5
    replace e6 := congrFun hs' 6
    simp only [Zu, Nat.reduceEqDiff, ↓reduceIte, newPtr, AMem.next_alloc] at e6
    clear hs'
    refine o_norm ?_
    refine t_norm ?_
    exact ⟨30 - (i + 1), by omega, i + 1, lv', os ++ [⟨[⟨v / 4 % 2, lawSeg (v / 4 % 2) 0 fl v 7 []⟩, ⟨0, [120]⟩], [⟨v % 7, 0, i, 0⟩], 0, 0⟩], (by first | exact e0 | (rw [e0]; rfl) | (rw [e0]; simp; done)), (by first | exact e1 | (rw [e1]; rfl) | (rw [e1]; simp; done)), (by first | exact e5 | (rw [e5]; rfl) | (rw [e5]; simp; done)), (by first | exact e6 | (rw [e6]; rfl) | (rw [e6]; simp; done)), (by omega), (by rw [List.length_append, hil]; rfl), hgen', hown', rfl, hnx7, by omega, hold7, rfl⟩
   ·
    try simp only [Zh] at h3
    refine at_exit rfl ?_
    refine t_exit ?_
    refine t_exit ?_
    refine b_here ?_
    refine t_norm ?_
    exact ⟨lv, os, (by first | exact e1 | (rw [e1]; rfl) | (rw [e1]; simp; done)), (by first | exact e5 | (rw [e5]; rfl) | (rw [e5]; simp; done)), hgen, hown, hnxM1, by omega, holdM1, rfl⟩
  ·
   refine at_region hS rfl (by kernel_rfl) ?_
   refine s_op (a_mv e6) rfl ?_
   refine s_op (a_mv e0) rfl ?_
   refine s_op (a_len (by simp (disch := omega) only [Zu, Nat.reduceEqDiff, ↓reduceIte, alen_str, Row.len hd3 (P := Try.prog) Try.underlying22, hv, newPtr, AMem.next_alloc] <;> rfl)) rfl ?_
   refine s_op (a_bin (by simp (disch := omega) only [Zu, Nat.reduceEqDiff, ↓reduceIte, Zd, reduceCtorEq, abin_lss, ne_eq, not_false_eq_true, hv] <;> rfl)) rfl ?_
   refine s_mv ?_
   refine s_lv ?_
   refine s_lv ?_
   refine s_op (a_pick (by simp only [Zu, Nat.reduceEqDiff, ↓reduceIte, Zd, reduceCtorEq, hv] <;> rfl) (by simp only [Zu, Nat.reduceEqDiff, ↓reduceIte, Zd, reduceCtorEq, hv] <;> rfl)) rfl ?_
   refine s_end (fun s' hs' => ?_)
   replace e0 := kp 0 hs' e0
   replace e1 := kp 1 hs' e1
   replace e5 := kp 5 hs' e5
   replace e6 := kp 6 hs' e6
   have e23 := congrFun hs' 23
   simp only [Zu, Nat.reduceEqDiff, ↓reduceIte, newPtr, AMem.next_alloc] at e23
   clear hs'
   refine o_norm ?_
   refine t_norm ?_
   refine at_cond rfl rfl e23 (fun hc => by cases hc) (fun h3 => ?_)
   try simp only [Zh] at h3
   refine at_exit rfl ?_
   refine t_exit ?_
   refine t_exit ?_
   refine b_here ?_
   refine t_norm ?_
   exact ⟨lv, os, (by first | exact e1 | (rw [e1]; rfl) | (rw [e1]; simp; done)), (by first | exact e5 | (rw [e5]; rfl) | (rw [e5]; simp; done)), hgen, hown, hnxM1, by omega, holdM1, rfl⟩
 ·
  rintro s M3 ds ⟨lv, os, e1, e5, hgen, hown, hnxM3, hngM3, holdM3, rfl⟩
  refine at_seq rfl ?_
  have hg30 := hgen.1
  refine at_region hS rfl (by kernel_rfl) ?_
  refine s_op (a_mv e1) rfl ?_
  refine s_op (a_mv e5) rfl ?_
  refine s_op (a_len (by simp (disch := omega) only [Zu, Nat.reduceEqDiff, ↓reduceIte, alen_str, OusR.len hown.row, newPtr, AMem.next_alloc] <;> rfl)) rfl ?_
  refine s_op (a_bin (by simp (disch := ((try simp only [List.length_append, List.length_cons, List.length_nil]); omega)) only [Zu, Nat.reduceEqDiff, ↓reduceIte, Zd, reduceCtorEq, abin_add, abin_aadd, wrap_i64, wrap_u32, wrap_u8, wrap_u64, wrap_i32, wrap_u16, ne_eq, not_false_eq_true] <;> rfl)) rfl ?_
  refine s_call (by simp only [Zu, Nat.reduceEqDiff, ↓reduceIte, OusR.len hown.row, newPtr, AMem.next_alloc] <;> rfl) (by simp only [Zu, Nat.reduceEqDiff, ↓reduceIte, Zm, OusR.len hown.row, newPtr, AMem.next_alloc] <;> rfl) ?_
  rw [S5_8]; refine ⟨a, (os.length : Int) + 1, rfl, ⟨by omega, by have := hgen.1; omega, ha0, ha1⟩, ?_⟩
  show EA _ _ _ _ _ _
  refine s_as ?_
  refine s_end (fun s' hs' => ?_)
  replace e5 := kp 5 hs' e5
  have e9 := congrFun hs' 9
  simp only [Zu, Nat.reduceEqDiff, ↓reduceIte, newPtr, AMem.next_alloc] at e9
  clear hs'
  try clear e1
  refine o_norm ?_
  have hk0 := Int.emod_nonneg a (show ((os.length : Int) + 1) ≠ 0 by omega)
  have hk1 := Int.emod_lt_of_pos a (show 0 < (os.length : Int) + 1 by omega)
  obtain ⟨k, hk⟩ : ∃ k : Nat, a % ((os.length : Int) + 1) = k := ⟨(a % ((os.length : Int) + 1)).toNat, by omega⟩
  rw [hk] at e9
  have hkl : k ≤ os.length := by omega
  refine t_norm ?_
  refine at_seq rfl ?_
  obtain ⟨⟨v1, hs1, hr1⟩, v2, hs2, hr2⟩ := outs_parts hown.row hkl
  have fA := genA_few hgen
  have fT := genA_few (genA_take hgen k)
  have fD := genA_few (genA_drop hgen k)
  refine at_draw ⟨[[], [], [0, 1], [], [], [3, 4], [0, 1, 2], [0, 1, 2, 3, 4, 5, 6]], [0, 1, 2, 3, 4, 5, 6, 7], []⟩ hS rfl rfl (by kernel_rfl) (by kernel_rfl) ?_
  refine d_start ?_
  refine l_op rfl rfl (a_mv e5) rfl ?_ rfl
  refine l_op rfl rfl (a_mv e9) rfl ?_ rfl
  refine l_op rfl rfl (a_slice (by simp only [Zu, Nat.reduceEqDiff, ↓reduceIte, e5]; exact hs1 _ _ 64 (by simp only [Zu, Nat.reduceEqDiff, ↓reduceIte, e9]))) rfl ?_ rfl
  refine l_op rfl rfl (a_mv e5) rfl ?_ rfl
  refine l_op rfl rfl (a_mv e9) rfl ?_ rfl
  refine l_op rfl rfl (a_slice (by simp only [Zu, Nat.reduceEqDiff, ↓reduceIte, e5]; exact hs2 _ _ 67 (by simp only [Zu, Nat.reduceEqDiff, ↓reduceIte, e9]))) rfl ?_ rfl
  refine l_op rfl rfl (a_as (by simp only [Zu, Nat.reduceEqDiff, ↓reduceIte] <;> rfl)) rfl ?_ rfl
  refine l_op rfl rfl (a_as (by simp only [Zu, Nat.reduceEqDiff, ↓reduceIte] <;> rfl)) rfl ?_ rfl
  refine l_nil ?_
  refine h_end ?_ (fun s' hs' => ?_)
  · refine again_r rfl ?_
    refine again_r rfl ?_
    refine again_l rfl rfl (a_slice (by simp only [Zu, Nat.reduceEqDiff, ↓reduceIte, e5]; exact hs2 _ _ 67 (by simp only [Zu, Nat.reduceEqDiff, ↓reduceIte, e9]))) ?_
    refine again_r rfl ?_
    refine again_r rfl ?_
    refine again_l rfl rfl (a_slice (by simp only [Zu, Nat.reduceEqDiff, ↓reduceIte, e5]; exact hs1 _ _ 64 (by simp only [Zu, Nat.reduceEqDiff, ↓reduceIte, e9]))) ?_
    refine again_r rfl ?_
    refine again_r rfl ?_
    exact again_nil
  replace e5 := kp 5 hs' e5
  have e10 := congrFun hs' 10
  have e11 := congrFun hs' 11
  simp only [Zu, Nat.reduceEqDiff, ↓reduceIte, newPtr, AMem.next_alloc] at e10 e11
  clear hs'
  try clear e9
  refine o_norm ?_
  refine t_norm ?_
  refine at_seq rfl ?_
  refine at_seq rfl ?_
  refine at_region hS rfl (by kernel_rfl) ?_
  refine s_op (a_as (by simp only [ev_const] <;> rfl)) rfl ?_
  refine s_end (fun s' hs' => ?_)
  replace e5 := kp 5 hs' e5
  replace e10 := kp 10 hs' e10
  replace e11 := kp 11 hs' e11
  have e12 := congrFun hs' 12
  simp only [Zu, Nat.reduceEqDiff, ↓reduceIte, newPtr, AMem.next_alloc] at e12
  clear hs'
  refine o_norm ?_
  refine t_norm ?_
  refine at_block rfl ?_
  refine at_loop rfl (fun km s ML ds => ∃ (side : Nat), s 5 = lv ∧ s 10 = v1 ∧ s 11 = v2 ∧ s 12 = .int .i64 side ∧ side ≤ 2 ∧ (∀ j, j < M3.next → ML.get j = M3.get j) ∧ km = 2 - side ∧ M.next ≤ ML.next ∧ M3.next ≤ ML.next ∧ (∀ j, j < M.next → ML.get j = M.get j) ∧ ds = []) (2 - (0)) ⟨0, (by first | exact e5 | (rw [e5]; rfl) | (simpa using e5)), (by first | exact e10 | (rw [e10]; rfl) | (simpa using e10)), (by first | exact e11 | (rw [e11]; rfl) | (simpa using e11)), (by first | exact e12 | (rw [e12]; rfl) | (simpa using e12)), (by omega), (fun _ _ => rfl), rfl, hnxM3, by omega, holdM3, rfl⟩ ?_
  clear e5 e10 e11 e12
  rintro km s M4 ds ⟨side, e5, e10, e11, e12, hsd, hkM, hk, hnxM4, hngM4, holdM4, rfl⟩
  refine at_seq rfl ?_
  refine at_seq rfl ?_
  refine at_region hS rfl (by kernel_rfl) ?_
  refine s_op (a_mv e12) rfl ?_
  refine s_op (a_bin (by simp (disch := omega) only [Zu, Nat.reduceEqDiff, ↓reduceIte, Zd, reduceCtorEq, abin_lss, ne_eq, not_false_eq_true] <;> rfl)) rfl ?_
  refine s_end (fun s' hs' => ?_)
  replace e5 := kp 5 hs' e5
  replace e10 := kp 10 hs' e10
  replace e11 := kp 11 hs' e11
  replace e12 := kp 12 hs' e12
  have e70 := congrFun hs' 70
  simp only [Zu, Nat.reduceEqDiff, ↓reduceIte, newPtr, AMem.next_alloc] at e70
  clear hs'
  refine o_norm ?_
  refine t_norm ?_
  refine at_cond rfl rfl e70 (fun h11 => ?_) (fun h11 => ?_)
  ·
   try simp only [Zh] at h11
   refine at_skip rfl ?_
   refine t_norm ?_
   refine at_seq rfl ?_
   refine at_block rfl ?_
   refine at_seq rfl ?_
   have hR := hown.row.keep (M' := M4) (by omega) hkM
   have hR1 := hr1.keep (M' := M4) (by omega) hkM
   have hR2 := hr2.keep (M' := M4) (by omega) hkM
   refine at_region hS rfl (by kernel_rfl) ?_
   refine s_op (a_mv e5) rfl ?_
   refine s_op (a_mv e12) rfl ?_
   refine s_call (by simp only [Zu, Nat.reduceEqDiff, ↓reduceIte, newPtr, AMem.next_alloc] <;> rfl) (by simp only [Zu, Nat.reduceEqDiff, ↓reduceIte, Zm, newPtr, AMem.next_alloc] <;> rfl) ?_
   rw [S5_16]; refine ⟨lv, side, os, rfl, hR, fA.1, ?_⟩; intro vA MA hnA hoA hwA
   show EA _ _ _ _ _ _
   refine s_op (a_mv e10) rfl ?_
   refine s_op (a_mv e12) rfl ?_
   refine s_call (by simp only [Zu, Nat.reduceEqDiff, ↓reduceIte, newPtr, AMem.next_alloc] <;> rfl) (by simp only [Zu, Nat.reduceEqDiff, ↓reduceIte, Zm, newPtr, AMem.next_alloc] <;> rfl) ?_
   rw [S5_16]; refine ⟨v1, side, _, rfl, hR1.keep hnA hoA, fT.1, ?_⟩; intro vB MB hnB hoB hwB
   show EA _ _ _ _ _ _
   obtain ⟨vC, MC, hapC, hwC, hnC, hfC, hfC'⟩ := app_many sl45 (Own.nil MB MB.next 1) (Nat.le_refl _) (Row.src hwB.row) (by have := selF_le (side : Int) ((os.take k).flatMap Ou.frames); have := fT.1.2.1; omega) (strs_one _) (by simp)
   refine s_op (a_append (by simp only [Zu, Nat.reduceEqDiff, ↓reduceIte]; exact hapC)) rfl ?_
   refine s_op (a_mv e11) rfl ?_
   refine s_op (a_mv e12) rfl ?_
   refine s_call (by simp only [Zu, Nat.reduceEqDiff, ↓reduceIte, newPtr, AMem.next_alloc] <;> rfl) (by simp only [Zu, Nat.reduceEqDiff, ↓reduceIte, Zm, newPtr, AMem.next_alloc] <;> rfl) ?_
   rw [S5_16]; refine ⟨v2, side, _, rfl, hR2.keep (M' := MC) (by omega) (fun j hj => by rw [hfC j (by omega), hoB j (by omega), hoA j hj]), fD.1, ?_⟩; intro vD MD hnD hoD hwD
   show EA _ _ _ _ _ _
   obtain ⟨vE, ME, hapE, hwE, hnE, hfE, hfE'⟩ := app_many sl45 (hwC.keep hnD (fun j _ hj => hoD j hj)) (by omega) (Row.src hwD.row) (by have := selF_le (side : Int) ((os.take k).flatMap Ou.frames); have := selF_le (side : Int) ((os.drop k).flatMap Ou.frames); have := fT.1.2.1; have := fD.1.2.1; omega) (strs_one _) (by simp)
   have hME : ∀ j, j < MA.next → ME.get j = MA.get j := fun j hj => by rw [hfE j (by omega), hoD j (by omega), hfC j (by omega), hoB j hj]
   have hEq : Row ME 1 vE (selF side (os.flatMap Ou.frames)).length ((selF side (os.flatMap Ou.frames)).map asString) := by have := hwE.row; rw [← sel_split side os k]; simpa using this
   refine s_op (a_append (by simp only [Zu, Nat.reduceEqDiff, ↓reduceIte]; exact hapE)) rfl ?_
   refine s_call (by simp only [Zu, Nat.reduceEqDiff, ↓reduceIte, newPtr, AMem.next_alloc] <;> rfl) (by simp only [Zu, Nat.reduceEqDiff, ↓reduceIte, Zm, newPtr, AMem.next_alloc] <;> rfl) ?_
   rw [S5_15]; refine ⟨vA, vE, _, rfl, hwA.row.keep (by omega) hME, hEq, by have := selF_le (side : Int) (os.flatMap Ou.frames); have := fA.1.2.1; omega, ?_⟩
   show EA _ _ _ _ _ _
   refine s_op (a_un (by simp (disch := omega) only [Zu, Nat.reduceEqDiff, ↓reduceIte, Zd, reduceCtorEq, aun, wrap_i64, IntKind.signed] <;> rfl)) rfl ?_
   refine s_end (fun s' hs' => ?_)
   replace e5 := kp 5 hs' e5
   replace e10 := kp 10 hs' e10
   replace e11 := kp 11 hs' e11
   replace e12 := kp 12 hs' e12
   have e85 := congrFun hs' 85
   simp only [Zu, Nat.reduceEqDiff, ↓reduceIte, newPtr, AMem.next_alloc] at e85
   clear hs'
   refine o_norm ?_
   have hnxE : M.next ≤ ME.next := by omega
   have holdE : ∀ j, j < M.next → ME.get j = M.get j := fun j hj => by rw [hME j (by omega), hoA j (by omega)]; exact holdM4 j hj
   have hkM' : ∀ j, j < M3.next → ME.get j = M3.get j := fun j hj => by rw [hME j (by omega), hoA j (by omega)]; exact hkM j hj
   refine t_norm ?_
   refine at_cond rfl rfl e85 (fun hc => by simp at hc) (fun h13 => ?_)
   try simp only [Zh] at h13
   refine at_skip rfl ?_
   refine b_norm ?_
   refine t_norm ?_
   refine at_region hS rfl (by kernel_rfl) ?_
   refine s_op (a_mv e12) rfl ?_
   refine s_op (a_bin (by simp (disch := ((try simp only [List.length_append, List.length_cons, List.length_nil]); omega)) only [Zu, Nat.reduceEqDiff, ↓reduceIte, Zd, reduceCtorEq, abin_add, abin_aadd, wrap_i64, wrap_u32, wrap_u8, wrap_u64, wrap_i32, wrap_u16, ne_eq, not_false_eq_true] <;> rfl)) rfl ?_
   refine s_as ?_
   refine s_end (fun s' hs' => ?_)
   replace e5 := kp 5 hs' e5
   replace e10 := kp 10 hs' e10
   replace e11 := kp 11 hs' e11
   replace e12 := congrFun hs' 12
   simp only [Zu, Nat.reduceEqDiff, ↓reduceIte, newPtr, AMem.next_alloc] at e12
   clear hs'
   refine o_norm ?_
   refine t_norm ?_
   exact ⟨2 - (side + 1), by omega, side + 1, (by first | exact e5 | (rw [e5]; rfl) | (rw [e5]; simp; done)), (by first | exact e10 | (rw [e10]; rfl) | (rw [e10]; simp; done)), (by first | exact e11 | (rw [e11]; rfl) | (rw [e11]; simp; done)), (by first | exact e12 | (rw [e12]; rfl) | (rw [e12]; simp; done)), (by omega), hkM', rfl, hnxE, by omega, holdE, rfl⟩
  ·
   try simp only [Zh] at h11
   refine at_exit rfl ?_
   refine t_exit ?_
   refine t_exit ?_
   refine b_here ?_
   refine t_norm ?_
   refine at_seq rfl ?_
   refine at_region hS rfl (by kernel_rfl) ?_
   refine s_op (a_mv e5) rfl ?_
   refine s_call (by simp only [Zu, Nat.reduceEqDiff, ↓reduceIte, newPtr, AMem.next_alloc] <;> rfl) (by simp only [Zu, Nat.reduceEqDiff, ↓reduceIte, Zm, newPtr, AMem.next_alloc] <;> rfl) ?_
   rw [S5_14]; refine ⟨lv, os, rfl, hown.row.keep (by omega) hkM, fA.1, ?_⟩; intro nv MN hnN hoN hwN
   show EA _ _ _ _ _ _
   refine s_as ?_
   refine s_end (fun s' hs' => ?_)
   replace e5 := kp 5 hs' e5
   replace e10 := kp 10 hs' e10
   replace e11 := kp 11 hs' e11
   have e13 := congrFun hs' 13
   simp only [Zu, Nat.reduceEqDiff, ↓reduceIte, newPtr, AMem.next_alloc] at e13
   clear hs'
   refine o_norm ?_
   have hnxN : M.next ≤ MN.next := by omega
   have holdN : ∀ j, j < M.next → MN.get j = M.get j := fun j hj => by rw [hoN j (by omega)]; exact holdM4 j hj
   have hkN : ∀ j, j < M3.next → MN.get j = M3.get j := fun j hj => by rw [hoN j (by omega)]; exact hkM j hj
   refine t_norm ?_
   refine at_seq rfl ?_
   refine at_region hS rfl (by kernel_rfl) ?_
   refine s_op (a_mv e13) rfl ?_
   refine s_call (by simp only [Zu, Nat.reduceEqDiff, ↓reduceIte, newPtr, AMem.next_alloc] <;> rfl) (by simp only [Zu, Nat.reduceEqDiff, ↓reduceIte, Zm, newPtr, AMem.next_alloc] <;> rfl) ?_
   rw [S5_21]; refine ⟨nv, _, rfl, hwN.row, fA.2.2, fA.1.2.2, ?_⟩; intro iv MI hnI hoI hwI
   show EA _ _ _ _ _ _
   refine s_as ?_
   refine s_end (fun s' hs' => ?_)
   replace e5 := kp 5 hs' e5
   replace e10 := kp 10 hs' e10
   replace e11 := kp 11 hs' e11
   replace e13 := kp 13 hs' e13
   have e14 := congrFun hs' 14
   simp only [Zu, Nat.reduceEqDiff, ↓reduceIte, newPtr, AMem.next_alloc] at e14
   clear hs'
   refine o_norm ?_
   have hnxI : M.next ≤ MI.next := by omega
   have holdI : ∀ j, j < M.next → MI.get j = M.get j := fun j hj => by rw [hoI j (by omega)]; exact holdN j hj
   have hkI : ∀ j, j < M3.next → MI.get j = M3.get j := fun j hj => by rw [hoI j (by omega)]; exact hkN j hj
   have hnvI := hwN.row.keep hnI hoI
   have hasc := sidS_asc ((os.flatMap Ou.notes).map Nt.sid)
   have h7 := sids_le7 hgen
   generalize sidS ((os.flatMap Ou.notes).map Nt.sid) = ids at *
   refine t_norm ?_
   refine at_seq rfl ?_
   refine at_seq rfl ?_
   refine at_region hS rfl (by kernel_rfl) ?_
   refine s_op (a_as (by simp only [ev_const] <;> rfl)) rfl ?_
   refine s_end (fun s' hs' => ?_)
   replace e5 := kp 5 hs' e5
   replace e10 := kp 10 hs' e10
   replace e11 := kp 11 hs' e11
   replace e13 := kp 13 hs' e13
   replace e14 := kp 14 hs' e14
   have e15 := congrFun hs' 15
   simp only [Zu, Nat.reduceEqDiff, ↓reduceIte, newPtr, AMem.next_alloc] at e15
   clear hs'
   refine o_norm ?_
   refine t_norm ?_
   refine at_block rfl ?_
   refine at_loop rfl (fun km s ML ds => ∃ (q : Nat), s 5 = lv ∧ s 10 = v1 ∧ s 11 = v2 ∧ s 13 = nv ∧ s 14 = iv ∧ s 15 = .int .i64 q ∧ 1 ≤ q ∧ (∀ j, j < MI.next → ML.get j = MI.get j) ∧ km = ids.length + 1 - q ∧ M.next ≤ ML.next ∧ MI.next ≤ ML.next ∧ (∀ j, j < M.next → ML.get j = M.get j) ∧ ds = []) (ids.length + 1 - (1)) ⟨1, (by first | exact e5 | (rw [e5]; rfl) | (simpa using e5)), (by first | exact e10 | (rw [e10]; rfl) | (simpa using e10)), (by first | exact e11 | (rw [e11]; rfl) | (simpa using e11)), (by first | exact e13 | (rw [e13]; rfl) | (simpa using e13)), (by first | exact e14 | (rw [e14]; rfl) | (simpa using e14)), (by first | exact e15 | (rw [e15]; rfl) | (simpa using e15)), (by omega), (fun _ _ => rfl), rfl, hnxI, by omega, holdI, rfl⟩ ?_
   clear e5 e10 e11 e13 e14 e15
   rintro km s M5 ds ⟨q, e5, e10, e11, e13, e14, e15, hq1, hkQ, hk, hnxM5, hngM5, holdM5, rfl⟩
   refine at_seq rfl ?_
   refine at_seq rfl ?_
   have hiv := hwI.row.keep (M' := M5) (by omega) hkQ
   refine at_region hS rfl (by kernel_rfl) ?_
   refine s_op (a_mv e15) rfl ?_
   refine s_op (a_mv e14) rfl ?_
   refine s_op (a_len (by simp (disch := omega) only [Zu, Nat.reduceEqDiff, ↓reduceIte, alen_str, Row.len hiv (P := Try.prog) Try.underlying22, newPtr, AMem.next_alloc] <;> rfl)) rfl ?_
   refine s_op (a_bin (by simp (disch := omega) only [Zu, Nat.reduceEqDiff, ↓reduceIte, Zd, reduceCtorEq, abin_lss, ne_eq, not_false_eq_true] <;> rfl)) rfl ?_
   refine s_end (fun s' hs' => ?_)
   replace e5 := kp 5 hs' e5
   replace e10 := kp 10 hs' e10
   replace e11 := kp 11 hs' e11
   replace e13 := kp 13 hs' e13
   replace e14 := kp 14 hs' e14
   replace e15 := kp 15 hs' e15
   have e93 := congrFun hs' 93
   simp only [Zu, Nat.reduceEqDiff, ↓reduceIte, newPtr, AMem.next_alloc] at e93
   clear hs'
   refine o_norm ?_
   refine t_norm ?_
   refine at_cond rfl rfl e93 (fun h18 => ?_) (fun h18 => ?_)
   ·
    try simp only [Zh] at h18
    refine at_skip rfl ?_
    refine t_norm ?_
    refine at_seq rfl ?_
    refine at_block rfl ?_
    refine at_seq rfl ?_
    have hql : q < ids.length := by omega
    obtain ⟨id, off, all, own, hia, hid, hget, hld⟩ := hiv.at1 Try.underlying22 (i := _) (by rfl) rfl hql ld3 ⟨_, rfl, rfl⟩ .i64
    obtain ⟨id2, off2, all2, own2, hia2, hid2, hget2, hld2⟩ := hiv.at1 Try.underlying22 (i := _) (by rfl) rfl (j := q - 1) (by omega) ld3 ⟨_, rfl, rfl⟩ .i64
    rw [show (ids.map (Value.int .i64))[q]? = some (.int .i64 ids[q]) from by simp [hql]] at hld
    rw [show (ids.map (Value.int .i64))[q - 1]? = some (.int .i64 ids[q - 1]) from by simp [show q - 1 < ids.length by omega]] at hld2
    rw [show ((q - 1 : Nat) : Int) = (q : Int) - 1 from by omega] at hia2
    have hlt := List.pairwise_iff_getElem.1 hasc (q - 1) q (by omega) hql (by omega)
    refine at_draw ⟨[[], [], [0, 1], [0, 1, 2], [], [], [5], [4, 5, 6], [4, 5, 6, 7], [0, 1, 2, 3, 4, 5, 6, 7, 8]], [0, 1, 2, 3, 4, 5, 6, 7, 8, 9], []⟩ hS rfl rfl (by kernel_rfl) (by kernel_rfl) ?_
    refine d_start ?_
    refine l_op rfl rfl (a_mv e14) rfl ?_ rfl
    refine l_op rfl rfl (a_mv e15) rfl ?_ rfl
    refine l_op rfl rfl (a_ia (by simp (disch := omega) only [Zu, Nat.reduceEqDiff, ↓reduceIte, hia, hia2, newPtr, AMem.next_alloc] <;> rfl)) rfl ?_ rfl
    refine l_op rfl rfl (a_load (by simp only [Zu, Nat.reduceEqDiff, ↓reduceIte, hget, hget2, hld, hld2, newPtr, AMem.next_alloc] <;> rfl) (by simp (disch := first | (refine Zx ?_; simp only [Zn]; done) | ((try simp only [Zn]); omega)) only [Zg, hget, hget2, hld, hld2, newPtr] <;> rfl) (by simp only [ld3, Zl, hget, hget2, hld, hld2, newPtr, AMem.next_alloc] <;> rfl)) rfl ?_ rfl
    refine l_op rfl rfl (a_mv e14) rfl ?_ rfl
    refine l_op rfl rfl (a_mv e15) rfl ?_ rfl
    refine l_op rfl rfl (a_bin (by simp (disch := omega) only [Zu, Nat.reduceEqDiff, ↓reduceIte, Zd, reduceCtorEq, abin_sub, wrap_i64, wrap_u32, wrap_u8, wrap_u64, wrap_i32, wrap_u16, ne_eq, not_false_eq_true] <;> rfl)) rfl ?_ rfl
    refine l_op rfl rfl (a_ia (by simp (disch := omega) only [Zu, Nat.reduceEqDiff, ↓reduceIte, hia, hia2, newPtr, AMem.next_alloc] <;> rfl)) rfl ?_ rfl
    refine l_op rfl rfl (a_load (by simp only [Zu, Nat.reduceEqDiff, ↓reduceIte, hget, hget2, hld, hld2, newPtr, AMem.next_alloc] <;> rfl) (by simp (disch := first | (refine Zx ?_; simp only [Zn]; done) | ((try simp only [Zn]); omega)) only [Zg, hget, hget2, hld, hld2, newPtr] <;> rfl) (by simp only [ld3, Zl, hget, hget2, hld, hld2, newPtr, AMem.next_alloc] <;> rfl)) rfl ?_ rfl
    refine l_op rfl rfl (a_bin (by simp (disch := omega) only [Zu, Nat.reduceEqDiff, ↓reduceIte, Zd, reduceCtorEq, abin_leq, ne_eq, not_false_eq_true] <;> rfl)) rfl ?_ rfl
    refine l_nil ?_
    refine h_end ?_ (fun s' hs' => ?_)
    · refine again_r rfl ?_
      refine again_l rfl rfl (a_load (by simp only [Zu, Nat.reduceEqDiff, ↓reduceIte, hget, hget2, hld, hld2, newPtr, AMem.next_alloc] <;> rfl) (by simp (disch := first | (refine Zx ?_; simp only [Zn]; done) | ((try simp only [Zn]); omega)) only [Zg, hget, hget2, hld, hld2, newPtr] <;> rfl) (by simp only [ld3, Zl, hget, hget2, hld, hld2, newPtr, AMem.next_alloc] <;> rfl)) ?_
      refine again_r rfl ?_
      refine again_r rfl ?_
      refine again_r rfl ?_
      refine again_r rfl ?_
      refine again_l rfl rfl (a_load (by simp only [Zu, Nat.reduceEqDiff, ↓reduceIte, hget, hget2, hld, hld2, newPtr, AMem.next_alloc] <;> rfl) (by simp (disch := first | (refine Zx ?_; simp only [Zn]; done) | ((try simp only [Zn]); omega)) only [Zg, hget, hget2, hld, hld2, newPtr] <;> rfl) (by simp only [ld3, Zl, hget, hget2, hld, hld2, newPtr, AMem.next_alloc] <;> rfl)) ?_
      refine again_r rfl ?_
      refine again_r rfl ?_
      refine again_r rfl ?_
      exact again_nil
    replace e5 := kp 5 hs' e5
    replace e10 := kp 10 hs' e10
    replace e11 := kp 11 hs' e11
    replace e13 := kp 13 hs' e13
    replace e14 := kp 14 hs' e14
    replace e15 := kp 15 hs' e15
    have e105 := congrFun hs' 105
    simp only [Zu, Nat.reduceEqDiff, ↓reduceIte, newPtr, AMem.next_alloc] at e105
    clear hs'
    refine o_norm ?_
    refine t_norm ?_
    refine at_cond rfl rfl e105 (fun hc => by have := of_decide_eq_true hc; omega) (fun h20 => ?_)
    try simp only [Zh] at h20
    refine at_skip rfl ?_
    refine b_norm ?_
    refine t_norm ?_
    refine at_region hS rfl (by kernel_rfl) ?_
    refine s_op (a_mv e15) rfl ?_
    refine s_op (a_bin (by simp (disch := ((try simp only [List.length_append, List.length_cons, List.length_nil]); omega)) only [Zu, Nat.reduceEqDiff, ↓reduceIte, Zd, reduceCtorEq, abin_add, abin_aadd, wrap_i64, wrap_u32, wrap_u8, wrap_u64, wrap_i32, wrap_u16, ne_eq, not_false_eq_true] <;> rfl)) rfl ?_
    refine s_as ?_
    refine s_end (fun s' hs' => ?_)
    replace e5 := kp 5 hs' e5
    replace e10 := kp 10 hs' e10
    replace e11 := kp 11 hs' e11
    replace e13 := kp 13 hs' e13
    replace e14 := kp 14 hs' e14
    replace e15 := congrFun hs' 15
    simp only [Zu, Nat.reduceEqDiff, ↓reduceIte, newPtr, AMem.next_alloc] at e15
    clear hs'
    refine o_norm ?_
    refine t_norm ?_
    exact ⟨ids.length + 1 - (q + 1), by omega, q + 1, (by first | exact e5 | (rw [e5]; rfl) | (rw [e5]; simp; done)), (by first | exact e10 | (rw [e10]; rfl) | (rw [e10]; simp; done)), (by first | exact e11 | (rw [e11]; rfl) | (rw [e11]; simp; done)), (by first | exact e13 | (rw [e13]; rfl) | (rw [e13]; simp; done)), (by first | exact e14 | (rw [e14]; rfl) | (rw [e14]; simp; done)), (by first | exact e15 | (rw [e15]; rfl) | (rw [e15]; simp; done)), (by omega), hkQ, rfl, hnxM5, by omega, holdM5, rfl⟩
   ·
    try simp only [Zh] at h18
    refine at_exit rfl ?_
    refine t_exit ?_
    refine t_exit ?_
    refine b_here ?_
    refine t_norm ?_
    refine at_seq rfl ?_
    have hR := hown.row.keep (M' := M5) (by omega) (fun j hj => by rw [hkQ j (by omega), hkI j hj])
    have hR1 := hr1.keep (M' := M5) (by omega) (fun j hj => by rw [hkQ j (by omega), hkI j hj])
    have hR2 := hr2.keep (M' := M5) (by omega) (fun j hj => by rw [hkQ j (by omega), hkI j hj])
    have hnv := hnvI.keep (M' := M5) (by omega) hkQ
    have hiv2 := hwI.row.keep (M' := M5) (by omega) hkQ
    have hnl := notes_len hgen
    have hrs := (rst_split os k).symm
    have hz1 := rst_le hgen
    have hz2 := rst_le (genA_take hgen k)
    have hz3 := rst_le (genA_drop hgen k)
    rw [List.length_take] at hz2
    rw [List.length_drop] at hz3
    have hw1 : 0 ≤ resetsF (os.take k) ∧ resetsF (os.take k) ≤ 30 := by unfold resetsF; omega
    have hw2 : 0 ≤ resetsF (os.drop k) ∧ resetsF (os.drop k) ≤ 30 := by unfold resetsF; omega
    have hrl : resetsF os ≤ (os.length : Int) := by unfold resetsF; omega
    have h7' : (ids.length : Int) ≤ 7 := by omega
    refine at_region hS rfl (by kernel_rfl) ?_
    refine s_op (a_mv e13) rfl ?_
    refine s_op (a_len (by simp (disch := omega) only [Zu, Nat.reduceEqDiff, ↓reduceIte, alen_str, NtsR.len hnv, OusR.len hR, hnl, hrs, hrl, h7', Row.len hiv2 (P := Try.prog) Try.underlying22, newPtr, AMem.next_alloc] <;> rfl)) rfl ?_
    refine s_op (a_mv e5) rfl ?_
    refine s_op (a_len (by simp (disch := omega) only [Zu, Nat.reduceEqDiff, ↓reduceIte, alen_str, NtsR.len hnv, OusR.len hR, hnl, hrs, hrl, h7', Row.len hiv2 (P := Try.prog) Try.underlying22, newPtr, AMem.next_alloc] <;> rfl)) rfl ?_
    refine s_op (a_bin (by simp (disch := omega) only [Zu, Nat.reduceEqDiff, ↓reduceIte, Zd, reduceCtorEq, abin_eql, abin_aeql, ne_eq, not_false_eq_true, hnl, hrs, hrl, h7'] <;> rfl)) rfl ?_
    refine s_mv ?_
    refine s_tk ?_
    refine s_op (a_mv e13) rfl ?_
    refine s_tk ?_
    refine s_op (a_mv e10) rfl ?_
    refine s_tk ?_
    refine s_call (by simp only [Zu, Nat.reduceEqDiff, ↓reduceIte, NtsR.len hnv, OusR.len hR, hnl, hrs, hrl, h7', Row.len hiv2 (P := Try.prog) Try.underlying22, newPtr, AMem.next_alloc] <;> rfl) (by simp only [Zu, Nat.reduceEqDiff, ↓reduceIte, Zm, NtsR.len hnv, OusR.len hR, hnl, hrs, hrl, h7', Row.len hiv2 (P := Try.prog) Try.underlying22, newPtr, AMem.next_alloc] <;> rfl) ?_
    rw [S5_14]; refine ⟨v1, _, rfl, hR1, fT.1, ?_⟩; intro nB MB hnB hoB hwB
    show EA _ _ _ _ _ _
    refine s_tk ?_
    obtain ⟨nC, MC, hapC, hwC, hnC, hfC, hfC'⟩ := app_many sl28 (Own.nil MB MB.next 4) (Nat.le_refl _) (Row.src hwB.row) (by have := fT.1.2.2; omega) (ntsC_one _) (ntsC_flat _)
    refine s_op (a_append (by simp only [Zu, Nat.reduceEqDiff, ↓reduceIte]; exact hapC)) rfl ?_
    refine s_tk ?_
    refine s_op (a_mv e11) rfl ?_
    refine s_tk ?_
    refine s_call (by simp only [Zu, Nat.reduceEqDiff, ↓reduceIte, NtsR.len hnv, OusR.len hR, hnl, hrs, hrl, h7', Row.len hiv2 (P := Try.prog) Try.underlying22, newPtr, AMem.next_alloc] <;> rfl) (by simp only [Zu, Nat.reduceEqDiff, ↓reduceIte, Zm, NtsR.len hnv, OusR.len hR, hnl, hrs, hrl, h7', Row.len hiv2 (P := Try.prog) Try.underlying22, newPtr, AMem.next_alloc] <;> rfl) ?_
    rw [S5_14]; refine ⟨v2, _, rfl, hR2.keep (M' := MC) (by omega) (fun j hj => by rw [hfC j (by omega), hoB j hj]), fD.1, ?_⟩; intro nD MD hnD hoD hwD
    show EA _ _ _ _ _ _
    refine s_tk ?_
    obtain ⟨nE, ME, hapE, hwE, hnE, hfE, hfE'⟩ := app_many sl28 (hwC.keep hnD (fun j _ hj => hoD j hj)) (by omega) (Row.src hwD.row) (by have := fT.1.2.2; have := fD.1.2.2; omega) (ntsC_one _) (ntsC_flat _)
    have hME : ∀ j, j < M5.next → ME.get j = M5.get j := fun j hj => by rw [hfE j (by omega), hoD j (by omega), hfC j (by omega), hoB j hj]
    have hEq : NtsR ME nE (os.flatMap Ou.notes) := by have := hwE.row; unfold NtsR; rw [← note_split os k, ntsC_app]; simpa using this
    have hR' := hR.keep (M' := ME) (by omega) hME
    have hR1' := hR1.keep (M' := ME) (by omega) hME
    have hR2' := hR2.keep (M' := ME) (by omega) hME
    refine s_op (a_append (by simp only [Zu, Nat.reduceEqDiff, ↓reduceIte]; exact hapE)) rfl ?_
    refine s_tk ?_
    refine s_call (by simp only [Zu, Nat.reduceEqDiff, ↓reduceIte, NtsR.len hnv, OusR.len hR, hnl, hrs, hrl, h7', Row.len hiv2 (P := Try.prog) Try.underlying22, newPtr, AMem.next_alloc] <;> rfl) (by simp only [Zu, Nat.reduceEqDiff, ↓reduceIte, Zm, NtsR.len hnv, OusR.len hR, hnl, hrs, hrl, h7', Row.len hiv2 (P := Try.prog) Try.underlying22, newPtr, AMem.next_alloc] <;> rfl) ?_
    rw [S5_18]; refine ⟨nv, nE, _, rfl, hnv.keep (by omega) hME, hEq, by omega, ?_⟩
    show EA _ _ _ _ _ _
    refine s_op (a_pick (by simp only [Zu, Nat.reduceEqDiff, ↓reduceIte, Zd, reduceCtorEq, hnl, hrs, hrl, h7'] <;> rfl) (by simp only [Zu, Nat.reduceEqDiff, ↓reduceIte, Zd, reduceCtorEq, hnl, hrs, hrl, h7'] <;> rfl)) rfl ?_
    refine s_mv ?_
    refine s_tk ?_
    refine s_op (a_mv e5) rfl ?_
    refine s_tk ?_
    refine s_call (by simp only [Zu, Nat.reduceEqDiff, ↓reduceIte, NtsR.len hnv, OusR.len hR, hnl, hrs, hrl, h7', Row.len hiv2 (P := Try.prog) Try.underlying22, newPtr, AMem.next_alloc] <;> rfl) (by simp only [Zu, Nat.reduceEqDiff, ↓reduceIte, Zm, NtsR.len hnv, OusR.len hR, hnl, hrs, hrl, h7', Row.len hiv2 (P := Try.prog) Try.underlying22, newPtr, AMem.next_alloc] <;> rfl) ?_
    rw [S5_24]; refine ⟨lv, os, rfl, hR', fA.1, fA.2.1, ?_⟩
    show EA _ _ _ _ _ _
    refine s_tk ?_
    refine s_op (a_mv e10) rfl ?_
    refine s_tk ?_
    refine s_call (by simp only [Zu, Nat.reduceEqDiff, ↓reduceIte, NtsR.len hnv, OusR.len hR, hnl, hrs, hrl, h7', Row.len hiv2 (P := Try.prog) Try.underlying22, newPtr, AMem.next_alloc] <;> rfl) (by simp only [Zu, Nat.reduceEqDiff, ↓reduceIte, Zm, NtsR.len hnv, OusR.len hR, hnl, hrs, hrl, h7', Row.len hiv2 (P := Try.prog) Try.underlying22, newPtr, AMem.next_alloc] <;> rfl) ?_
    rw [S5_24]; refine ⟨v1, _, rfl, hR1', fT.1, fT.2.1, ?_⟩
    show EA _ _ _ _ _ _
    refine s_tk ?_
    refine s_op (a_mv e11) rfl ?_
    refine s_tk ?_
    refine s_call (by simp only [Zu, Nat.reduceEqDiff, ↓reduceIte, NtsR.len hnv, OusR.len hR, hnl, hrs, hrl, h7', Row.len hiv2 (P := Try.prog) Try.underlying22, newPtr, AMem.next_alloc] <;> rfl) (by simp only [Zu, Nat.reduceEqDiff, ↓reduceIte, Zm, NtsR.len hnv, OusR.len hR, hnl, hrs, hrl, h7', Row.len hiv2 (P := Try.prog) Try.underlying22, newPtr, AMem.next_alloc] <;> rfl) ?_
    rw [S5_24]; refine ⟨v2, _, rfl, hR2', fD.1, fD.2.1, ?_⟩
    show EA _ _ _ _ _ _
    refine s_tk ?_
    refine s_op (a_bin (by simp (disch := ((try simp only [List.length_append, List.length_cons, List.length_nil]); omega)) only [Zu, Nat.reduceEqDiff, ↓reduceIte, Zd, reduceCtorEq, abin_add, abin_aadd, wrap_i64, wrap_u32, wrap_u8, wrap_u64, wrap_i32, wrap_u16, ne_eq, not_false_eq_true, hnl, hrs, hrl, h7'] <;> rfl)) rfl ?_
    refine s_tk ?_
    refine s_op (a_bin (by simp (disch := omega) only [Zu, Nat.reduceEqDiff, ↓reduceIte, Zd, reduceCtorEq, abin_eql, abin_aeql, ne_eq, not_false_eq_true, hnl, hrs, hrl, h7'] <;> rfl)) rfl ?_
    refine s_op (a_pick (by simp only [Zu, Nat.reduceEqDiff, ↓reduceIte, Zd, reduceCtorEq, hnl, hrs, hrl, h7'] <;> rfl) (by simp only [Zu, Nat.reduceEqDiff, ↓reduceIte, Zd, reduceCtorEq, hnl, hrs, hrl, h7'] <;> rfl)) rfl ?_
    refine s_mv ?_
    refine s_tk ?_
    refine s_op (a_mv e5) rfl ?_
    refine s_tk ?_
    refine s_call (by simp only [Zu, Nat.reduceEqDiff, ↓reduceIte, NtsR.len hnv, OusR.len hR, hnl, hrs, hrl, h7', Row.len hiv2 (P := Try.prog) Try.underlying22, newPtr, AMem.next_alloc] <;> rfl) (by simp only [Zu, Nat.reduceEqDiff, ↓reduceIte, Zm, NtsR.len hnv, OusR.len hR, hnl, hrs, hrl, h7', Row.len hiv2 (P := Try.prog) Try.underlying22, newPtr, AMem.next_alloc] <;> rfl) ?_
    rw [S5_24]; refine ⟨lv, os, rfl, hR', fA.1, fA.2.1, ?_⟩
    show EA _ _ _ _ _ _
    refine s_tk ?_
    refine s_op (a_mv e5) rfl ?_
    refine s_tk ?_
    refine s_op (a_len (by simp (disch := omega) only [Zu, Nat.reduceEqDiff, ↓reduceIte, alen_str, NtsR.len hnv, OusR.len hR, hnl, hrs, hrl, h7', Row.len hiv2 (P := Try.prog) Try.underlying22, newPtr, AMem.next_alloc] <;> rfl)) rfl ?_
    refine s_tk ?_
    refine s_op (a_bin (by simp (disch := omega) only [Zu, Nat.reduceEqDiff, ↓reduceIte, Zd, reduceCtorEq, abin_leq, ne_eq, not_false_eq_true, hnl, hrs, hrl, h7'] <;> rfl)) rfl ?_
    refine s_op (a_pick (by simp only [Zu, Nat.reduceEqDiff, ↓reduceIte, Zd, reduceCtorEq, hnl, hrs, hrl, h7'] <;> rfl) (by simp only [Zu, Nat.reduceEqDiff, ↓reduceIte, Zd, reduceCtorEq, hnl, hrs, hrl, h7'] <;> rfl)) rfl ?_
    refine s_mv ?_
    refine s_tk ?_
    refine s_op (a_mv e14) rfl ?_
    refine s_tk ?_
    refine s_op (a_len (by simp (disch := omega) only [Zu, Nat.reduceEqDiff, ↓reduceIte, alen_str, NtsR.len hnv, OusR.len hR, hnl, hrs, hrl, h7', Row.len hiv2 (P := Try.prog) Try.underlying22, newPtr, AMem.next_alloc] <;> rfl)) rfl ?_
    refine s_tk ?_
    refine s_op (a_bin (by simp (disch := omega) only [Zu, Nat.reduceEqDiff, ↓reduceIte, Zd, reduceCtorEq, abin_leq, ne_eq, not_false_eq_true, hnl, hrs, hrl, h7'] <;> rfl)) rfl ?_
    refine s_op (a_pick (by simp only [Zu, Nat.reduceEqDiff, ↓reduceIte, Zd, reduceCtorEq, hnl, hrs, hrl, h7'] <;> rfl) (by simp only [Zu, Nat.reduceEqDiff, ↓reduceIte, Zd, reduceCtorEq, hnl, hrs, hrl, h7'] <;> rfl)) rfl ?_
    refine s_mv ?_
    refine s_tk ?_
    refine s_call (by simp only [Zu, Nat.reduceEqDiff, ↓reduceIte, NtsR.len hnv, OusR.len hR, hnl, hrs, hrl, h7', Row.len hiv2 (P := Try.prog) Try.underlying22, newPtr, AMem.next_alloc] <;> rfl) (by simp only [Zu, Nat.reduceEqDiff, ↓reduceIte, Zm, NtsR.len hnv, OusR.len hR, hnl, hrs, hrl, h7', Row.len hiv2 (P := Try.prog) Try.underlying22, newPtr, AMem.next_alloc] <;> rfl) ?_
    rw [S5_6]; refine ⟨rfl, ?_⟩
    show EA _ _ _ _ _ _
    refine s_op (a_pick (by simp only [Zu, Nat.reduceEqDiff, ↓reduceIte, Zd, reduceCtorEq, hnl, hrs, hrl, h7'] <;> rfl) (by simp only [Zu, Nat.reduceEqDiff, ↓reduceIte, Zd, reduceCtorEq, hnl, hrs, hrl, h7'] <;> rfl)) rfl ?_
    refine s_as ?_
    refine s_end (fun s' hs' => ?_)
    have e4 := congrFun hs' 4
    simp only [Zu, Nat.reduceEqDiff, ↓reduceIte, newPtr, AMem.next_alloc] at e4
    clear hs'
    try clear e5 e10 e11 e13 e14
    refine o_norm ?_
    have hnxX : M.next ≤ ME.next := by omega
    have holdX : ∀ j, j < M.next → ME.get j = M.get j := fun j hj => by rw [hME j (by omega)]; exact holdM5 j hj
    refine t_norm ?_
    refine at_ret rfl ?_
    refine bq_ret rfl (ars_cons (ar_tmp e4) ars_nil) ?_
    exact ⟨_, _, hK, Canon.forget rfl holdX⟩
end Go.Proofs.Ytdkdkpiemigfkaa
set_option linter.unusedVariables false
set_option linter.unusedSimpArgs false
set_option maxRecDepth 8000
namespace Go.Proofs.Ytdkdkpiemigfkaa
open Go Go.Proofs Go.ChangeShapes Go.WideShapes Go.ChangeAt Go.RowKit
theorem view_ints {H : Type} {enc : TypeId × Value → H} {w : World} {ρ : Rho} {M : AMem} (h : Vw ρ M w) {fuel : Nat} {v : Value} {x : DataW H × List MemPlace} (hz : ∀ a len cap, v = .slice (some a) len cap → HasCells w) (ht : DataW.trod enc Try.prog w 0 (fun _ => true) true fuel 22 [v] = some x) :
    ∃ (ρ' : Rho) (M' : AMem) (av : Value) (l : List Int), Vw ρ' M' w ∧ VwLe ρ M ρ' M' ∧ VR ρ' av v ∧ Row M' 1 av l.length (l.map (.int .i64)) ∧ ∀ y ∈ l, inI64 y := by
  rcases Deep.open_slice Try.underlying22 ht with ⟨hcs, _⟩ | ⟨a, len, cap, m, n, D, Pl, hcs, _, hl, _, hm, _, hx⟩
  · simp at hcs
    subst hcs
    exact ⟨ρ, M, .slice none 0 0, [], h, VwLe.refl _ _, .scalar rfl, ⟨rfl, .inl ⟨rfl, rfl⟩⟩, fun y hy => by simp at hy⟩
  · simp at hcs
    subst hcs
    have hz' := hz _ _ _ rfl
    simp only [if_true] at hm
    subst hm
    rw [c3] at hx
    obtain ⟨f, hf⟩ := Deep.choose_lt (α := Int) (n := m) (p := fun i y => w.cells? 0 (a.add (i * 1)) 1 = some [.int .i64 y] ∧ inI64 y) (fun i hi => by
      obtain ⟨cs', h1, h2⟩ := hx i hi
      obtain ⟨y, e0, _, w0⟩ := DataW.trod_int Try.underlying3 h2
      subst e0
      exact ⟨y, h1, wf_i64 w0⟩)
    obtain ⟨ρ', M', k1, k2, k3, k4⟩ := view_rows (e := 1) (g := fun i => [.int .i64 (f i)]) (k := fun i => [.int .i64 (f i)]) h hz' hl (by decide) (fun i hi => (hf i hi).1) (fun i hi => ⟨rfl, fun q v hv => ⟨v, hv, by
      have := List.mem_of_getElem? hv
      simp only [List.mem_cons, List.not_mem_nil, or_false] at this
      subst this
      exact .scalar rfl⟩⟩)
    refine ⟨ρ', M', _, (List.range len).map f, k1, k2, k3, ?_, ?_⟩
    · have e : ((List.range len).map fun i => [Value.int .i64 (f i)]).flatten = ((List.range len).map f).map (.int .i64) := by
        rw [← List.flatMap_def]
        induction (List.range len) with
        | nil => rfl
        | cons y ys ih => rw [List.flatMap_cons, ih]; rfl
      rw [e] at k4
      rw [List.length_map, List.length_range]
      exact k4
    · intro y hy
      rw [List.mem_map] at hy
      obtain ⟨i, hi, rfl⟩ := hy
      exact (hf i (by have := List.mem_range.1 hi; omega)).2
set_option maxRecDepth 100000 in
theorem tallyParts_lifted (os : Os) (started : os.Started) (H : Type) (enc : TypeId × Value → H) :
    ReturnsInHanded {} Try.checked os 5 .any (Rows.tallyPartsSpec.pre6 enc Try.prog Try.f5 Rows.tallyPartsRow.domain false) (Rows.tallyPartsSpec.post enc Try.prog Try.f5 false true false false) := by
  refine returnsInHanded_of_change (C := Try.checked) rowOwn started (by kernel_rfl) Try.func5
    (ChangeSpec.witness6 (enc := enc) (C := Try.checked) false ⟨#[], #[.slice none 0 0, .int .i64 0], []⟩ 8 (by kernel_rfl) (by kernel_rfl) (by kernel_rfl) (by kernel_rfl)) ?_
  intro W base args ds gs before hval0 hW hcnd _
  have hval : ∀ (j : Nat) t v, Try.f5.params[j]? = some t → args[j]? = some v → Value.okWide Try.prog W .any base t v := hval0
  have hW' := hW
  obtain ⟨p, q, hA0, hV, rfl, hfz, hnd⟩ := hW
  have hA : DataW.TrodAll enc Try.prog W 0 (fun _ => true) true Try.f5.params.toList args.toList ds p := hA0
  rw [Try.params5] at hA hval
  obtain ⟨v0, v1, d0, d1, p0, p1, rfl, rfl, rfl, h0, h1⟩ := trodAll_two hA
  obtain ⟨rfl, rfl⟩ := trodVars_none hV
  have k0 := h0
  have k1 := h1
  clear hA0 hval0
  simp only [List.append_nil] at hW'
  have hlt : ∀ x ∈ p0 ++ p1, x.block < W.heap.size := fun x hx => by simpa using hW'.lt x hx
  obtain ⟨x1, rfl, _, _, w1⟩ := open_int Try.underlying3 (hval 1 3 v1 rfl rfl) h1
  have hblk := ok_block 22 3 Try.underlying22 (hval 0 22 v0 rfl rfl)
  obtain ⟨a0, len, cap, rfl⟩ := okWide_slice Try.underlying22 (hval 0 22 v0 rfl rfl)
  obtain ⟨fuel, hf⟩ := h0
  obtain ⟨ρ, M, av, l, hv, _, hr, hrow, hin⟩ := view_ints (Vw.start W) hblk (by simpa [Value.cells] using hf)
  refine (law_true f5_ok hv (args := [av, .int .i64 x1]) (.cons hr (.cons (.scalar rfl) (.nil ρ))) ⟨av, l, x1, rfl, hrow, hin, wf_i64 w1, rfl⟩).mono fun e W' ⟨he, hb⟩ => ?_
  subst he
  have e1 : ∀ x ∈ p0, x.block < W.heap.size := fun x hx => hlt x (by simp [hx])
  have e2 : ∀ x ∈ p1, x.block < W.heap.size := fun x hx => hlt x (by simp [hx])
  refine ⟨_, rfl, [d0, d1], [], p0 ++ p1, [], p0 ++ p1, [], hW', trodAll_mk1 (shut_bool Try.underlying4 true), ?_, rfl, hb.frame _, fun h => by cases h⟩
  exact trodAll_mk2 (Below.trod laidOut (by kernel_rfl) (of_decide_eq_true (by kernel_rfl)) k0 hb e1) (Below.trod laidOut (by kernel_rfl) (of_decide_eq_true (by kernel_rfl)) k1 hb e2)
theorem tallyParts_holds : Rows.TallyPartsSaid :=
  OpenClaim.holds_of_wide 5 Try.f5 rfl rfl rfl rfl rfl rfl rfl ⟨rfl, rfl, rfl, rfl, rfl⟩ rfl rfl rfl rfl rfl (by kernel_rfl) Try.func5 (by kernel_rfl)
    (of_decide_eq_true (by kernel_rfl)) (by unfold Func.isWrapper; first | (rw [if_pos (by decide +kernel)]; kernel_rfl) | (rw [if_neg (by decide +kernel)]; exact ⟨rfl, rfl⟩))
    (fun os started H enc _ => tallyParts_lifted os started H enc)
end Go.Proofs.Ytdkdkpiemigfkaa
