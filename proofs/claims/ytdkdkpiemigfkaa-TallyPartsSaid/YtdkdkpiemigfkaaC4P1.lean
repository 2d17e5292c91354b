/- Part 1 of the proof of the given statement (theorem tallyParts_holds, in the last part): for every input the law returns true, and each argument reads behind the call as it read before. No condition beyond the statement's own. -/
import Derived.Laws.Append
import Derived.Laws.BytesString
import Derived.Laws.Cells
import Derived.Laws.Entries
import Derived.Laws.Sem
import Derived.Laws.Strings
import Derived.Laws.World
import Derived.Orders
import Derived.RangeFuncLeaves
import Derived.RangeFuncRecord
import Derived.Sort.LoopGhostIn
set_option linter.unusedVariables false
set_option linter.unusedSimpArgs false
namespace Go.Proofs.Ytdkdkpiemigfkaa
open Go
structure Pl where
  block : Nat
  base : Nat
  ext : Nat
abbrev Rho := Nat → Option Pl
abbrev Slots := Nat → Value
def isScalar : Value → Bool
  | .bool _ | .int .. | .float .. | .complex .. | .string _ | .pointer none | .slice none 0 0 | .map none | .chan none | .nilFunc | .nilIface => true
  | _ => false
def plainFn : Fn → Bool
  | .yield _ => false
  | _ => true
inductive VR (ρ : Rho) : Value → Value → Prop
  | scalar {v : Value} (h : isScalar v = true) : VR ρ v v
  | ptr {id off : Nat} {pl : Pl} (h : ρ id = some pl) : VR ρ (.pointer (some ⟨id, off, none⟩)) (.pointer (some ⟨pl.block, pl.base + off, none⟩))
  | slice {id off len e cap : Nat} {pl : Pl} (h : ρ id = some pl) (h1 : len ≤ cap) (h2 : off + cap * e ≤ pl.ext) :
      VR ρ (.slice (some ⟨id, off, none⟩) len e) (.slice (some ⟨pl.block, pl.base + off, none⟩) len cap)
  | sliceE {id off e : Nat} {a : Addr} {pl : Pl} (h : ρ id = some pl) : VR ρ (.slice (some ⟨id, off, none⟩) 0 e) (.slice (some a) 0 0)
  | map {id : Nat} {pl : Pl} (h : ρ id = some pl) : VR ρ (.map (some id)) (.map (some pl.block))
  | yield {id : Nat} {pl : Pl} (h : ρ id = some pl) : VR ρ (.func (.yield id) #[] #[]) (.func (.yield pl.block) #[] #[])
  | func {fn : Fn} {f f' c c' : Array Value} (h : plainFn fn = true) (hf : f.size = f'.size) (h1 : ∀ (i : Nat) (x y : Value), f[i]? = some x → f'[i]? = some y → VR ρ x y)
      (hc : c.size = c'.size) (h2 : ∀ (i : Nat) (x y : Value), c[i]? = some x → c'[i]? = some y → VR ρ x y) : VR ρ (.func fn f c) (.func fn f' c')
  | iface {t : TypeId} {v v' : Value} (h : VR ρ v v') : VR ρ (.iface t v) (.iface t v')
  | agg {xs ys : Array Value} (hs : xs.size = ys.size) (h : ∀ (i : Nat) (x y : Value), xs[i]? = some x → ys[i]? = some y → VR ρ x y) : VR ρ (.agg xs) (.agg ys)
  | tuple {xs ys : Array Value} (hs : xs.size = ys.size) (h : ∀ (i : Nat) (x y : Value), xs[i]? = some x → ys[i]? = some y → VR ρ x y) : VR ρ (.tuple xs) (.tuple ys)
theorem VR.mono {ρ ρ' : Rho} (hρ : ∀ i pl, ρ i = some pl → ρ' i = some pl) {v c : Value} (h : VR ρ v c) : VR ρ' v c := by
  induction h with
  | scalar h => exact .scalar h
  | ptr h => exact .ptr (hρ _ _ h)
  | slice h h1 h2 => exact .slice (hρ _ _ h) h1 h2
  | sliceE h => exact .sliceE (hρ _ _ h)
  | map h => exact .map (hρ _ _ h)
  | yield h => exact .yield (hρ _ _ h)
  | func h hf _ hc _ ih1 ih2 => exact .func h hf ih1 hc ih2
  | iface _ ih => exact .iface ih
  | agg hs _ ih => exact .agg hs ih
  | tuple hs _ ih => exact .tuple hs ih
def VRs (ρ : Rho) (xs ys : Array Value) : Prop := xs.size = ys.size ∧ ∀ (i : Nat) (x y : Value), xs[i]? = some x → ys[i]? = some y → VR ρ x y
theorem VRs.mono {ρ ρ' : Rho} (hρ : ∀ i pl, ρ i = some pl → ρ' i = some pl) {v c : Array Value} (h : VRs ρ v c) : VRs ρ' v c :=
  ⟨h.1, fun i x y hx hy => (h.2 i x y hx hy).mono hρ⟩
theorem VRs.get {ρ : Rho} {xs ys : Array Value} (h : VRs ρ xs ys) {i : Nat} {x : Value} (hx : xs[i]? = some x) : ∃ y, ys[i]? = some y ∧ VR ρ x y := by
  have hi : i < xs.size := (Array.getElem?_eq_some_iff.1 hx).1
  have hi' : i < ys.size := h.1 ▸ hi
  exact ⟨ys[i], Array.getElem?_eq_getElem hi', h.2 i x ys[i] hx (Array.getElem?_eq_getElem hi')⟩
theorem VRs.get' {ρ : Rho} {xs ys : Array Value} (h : VRs ρ xs ys) {i : Nat} {y : Value} (hy : ys[i]? = some y) : ∃ x, xs[i]? = some x ∧ VR ρ x y := by
  have hi : i < ys.size := (Array.getElem?_eq_some_iff.1 hy).1
  have hi' : i < xs.size := h.1 ▸ hi
  exact ⟨xs[i], Array.getElem?_eq_getElem hi', h.2 i xs[i] y (Array.getElem?_eq_getElem hi') hy⟩
section inv
variable {ρ : Rho} {c : Value}
theorem VR.bool_inv {b : Bool} (h : VR ρ (.bool b) c) : c = .bool b := by cases h; rfl
theorem VR.int_inv {k : IntKind} {n : Int} (h : VR ρ (.int k n) c) : c = .int k n := by cases h; rfl
theorem VR.string_inv {s : ByteArray} (h : VR ρ (.string s) c) : c = .string s := by cases h; rfl
theorem VR.scalar_inv {v : Value} (hv : isScalar v = true) (h : VR ρ v c) : c = v := by
  cases h <;> first | rfl | simp [isScalar] at hv
theorem VR.ptr_inv {a : Addr} (h : VR ρ (.pointer (some a)) c) : a.spot = none ∧ ∃ pl, ρ a.block = some pl ∧ c = .pointer (some ⟨pl.block, pl.base + a.off, none⟩) := by
  cases h with
  | scalar h => simp [isScalar] at h
  | ptr h => exact ⟨rfl, _, h, rfl⟩
theorem VR.slice_inv {a : Addr} {len e : Nat} (h : VR ρ (.slice (some a) len e) c) :
    a.spot = none ∧ ∃ pl o cap, ρ a.block = some pl ∧ c = .slice (some o) len cap ∧ len ≤ cap ∧
      ((o = ⟨pl.block, pl.base + a.off, none⟩ ∧ a.off + cap * e ≤ pl.ext) ∨ (len = 0 ∧ cap = 0)) := by
  cases h with
  | scalar h => simp [isScalar] at h
  | slice h h1 h2 => exact ⟨rfl, _, _, _, h, rfl, h1, .inl ⟨rfl, h2⟩⟩
  | sliceE h => exact ⟨rfl, _, _, _, h, rfl, Nat.le_refl _, .inr ⟨rfl, rfl⟩⟩
theorem VR.map_inv {id : Nat} (h : VR ρ (.map (some id)) c) : ∃ pl, ρ id = some pl ∧ c = .map (some pl.block) := by
  cases h with
  | scalar h => simp [isScalar] at h
  | map h => exact ⟨_, h, rfl⟩
theorem VR.agg_inv {xs : Array Value} (h : VR ρ (.agg xs) c) : ∃ ys, c = .agg ys ∧ VRs ρ xs ys := by
  cases h with
  | scalar h => simp [isScalar] at h
  | agg hs h => exact ⟨_, rfl, hs, h⟩
theorem VR.tuple_inv {xs : Array Value} (h : VR ρ (.tuple xs) c) : ∃ ys, c = .tuple ys ∧ VRs ρ xs ys := by
  cases h with
  | scalar h => simp [isScalar] at h
  | tuple hs h => exact ⟨_, rfl, hs, h⟩
theorem VR.iface_inv {t : TypeId} {v : Value} (h : VR ρ (.iface t v) c) : ∃ v', c = .iface t v' ∧ VR ρ v v' := by
  cases h with
  | scalar h => simp [isScalar] at h
  | iface h => exact ⟨_, rfl, h⟩
theorem VR.func_inv {fn : Fn} {f g : Array Value} (hp : plainFn fn = true) (h : VR ρ (.func fn f g) c) : ∃ f' g', c = .func fn f' g' ∧ VRs ρ f f' ∧ VRs ρ g g' := by
  cases h with
  | scalar h => simp [isScalar] at h
  | yield h => simp [plainFn] at hp
  | func h hf h1 hc h2 => exact ⟨_, _, rfl, ⟨hf, h1⟩, hc, h2⟩
theorem VR.yield_inv {id : Nat} {f g : Array Value} (h : VR ρ (.func (.yield id) f g) c) : f = #[] ∧ g = #[] ∧ ∃ pl, ρ id = some pl ∧ c = .func (.yield pl.block) #[] #[] := by
  cases h with
  | scalar h => simp [isScalar] at h
  | yield h => exact ⟨rfl, rfl, _, h, rfl⟩
  | func h _ _ _ _ => simp [plainFn] at h
end inv
def flatN : Nat → Value → Bool
  | 0, v => isScalar v
  | n + 1, v => match v with
    | .agg cs => cs.toList.all (flatN n)
    | .tuple cs => cs.toList.all (flatN n)
    | .iface _ x => flatN n x
    | .func fn f c => plainFn fn && f.toList.all (flatN n) && c.toList.all (flatN n)
    | v => isScalar v
def flat (v : Value) : Bool := flatN 3 v
theorem all_flat_inv {n : Nat} {xs ys : Array Value} {ρ : Rho} (ih : ∀ v c, flatN n v = true → VR ρ v c → c = v) (hx : xs.toList.all (flatN n) = true) (h : VRs ρ xs ys) : ys = xs := by
  apply Array.ext_getElem?
  intro i
  cases hi : ys[i]? with
  | none =>
    have : xs.size ≤ i := by rw [h.1]; exact Array.getElem?_eq_none_iff.1 hi
    rw [Array.getElem?_eq_none_iff.2 this]
  | some y =>
    obtain ⟨x, hx', hv⟩ := h.get' hi
    rw [hx']
    have hm : x ∈ xs.toList := by rw [Array.mem_toList_iff]; exact Array.mem_of_getElem? hx'
    rw [ih x y (List.all_eq_true.1 hx x hm) hv]
theorem all_flat_refl {n : Nat} {xs : Array Value} {ρ : Rho} (ih : ∀ v, flatN n v = true → VR ρ v v) (hx : xs.toList.all (flatN n) = true) :
    ∀ (i : Nat) (x y : Value), xs[i]? = some x → xs[i]? = some y → VR ρ x y := by
  intro i x y h1 h2
  rw [h1] at h2
  cases h2
  have hm : x ∈ xs.toList := by rw [Array.mem_toList_iff]; exact Array.mem_of_getElem? h1
  exact ih x (List.all_eq_true.1 hx x hm)
theorem flatN_inv {ρ : Rho} : ∀ (n : Nat) (v c : Value), flatN n v = true → VR ρ v c → c = v := by
  intro n
  induction n with
  | zero => intro v c hv h; exact VR.scalar_inv hv h
  | succ n ih =>
    intro v c hv h
    cases v with
    | agg cs => obtain ⟨ys, rfl, h'⟩ := h.agg_inv; rw [all_flat_inv ih hv h']
    | tuple cs => obtain ⟨ys, rfl, h'⟩ := h.tuple_inv; rw [all_flat_inv ih hv h']
    | iface t x => obtain ⟨y, rfl, h'⟩ := h.iface_inv; rw [ih x y hv h']
    | func fn f g =>
      simp only [flatN, Bool.and_eq_true] at hv
      obtain ⟨f', g', rfl, h1, h2⟩ := h.func_inv hv.1.1
      rw [all_flat_inv ih hv.1.2 h1, all_flat_inv ih hv.2 h2]
    | _ => exact VR.scalar_inv hv h
theorem flatN_refl {ρ : Rho} : ∀ (n : Nat) (v : Value), flatN n v = true → VR ρ v v := by
  intro n
  induction n with
  | zero => intro v hv; exact .scalar hv
  | succ n ih =>
    intro v hv
    cases v with
    | agg cs => exact .agg rfl (all_flat_refl ih hv)
    | tuple cs => exact .tuple rfl (all_flat_refl ih hv)
    | iface t x => exact .iface (ih x hv)
    | func fn f g =>
      simp only [flatN, Bool.and_eq_true] at hv
      exact .func hv.1.1 rfl (all_flat_refl ih hv.1.2) rfl (all_flat_refl ih hv.2)
    | _ => exact .scalar hv
theorem flat_inv {ρ : Rho} {v c : Value} (hv : flat v = true) (h : VR ρ v c) : c = v := flatN_inv 3 v c hv h
theorem flat_refl {ρ : Rho} {v : Value} (hv : flat v = true) : VR ρ v v := flatN_refl 3 v hv
inductive AObj where
  | cells (cs : List Value) (own : Bool)
  | map (es : List (Value × Value))
  | iter (s : ByteArray) (pos : Nat)
  | defs
  | box0 (v : Value)
  | loop (st : LoopState) (pend : Option Code) (s : Slots) (n : Nat) (ps : Array Tmp) (assign body : Code) (d : Nat)
  | dead
def AObj.own : AObj → Bool
  | .cells _ o => o
  | .dead => false
  | .box0 _ => false
  | _ => true
def AObj.live : AObj → Bool
  | .dead => false
  | _ => true
structure AMem where
  next : Nat
  get : Nat → AObj
def AMem.alloc (M : AMem) (o : AObj) : AMem := ⟨M.next + 1, fun i => if i = M.next then o else M.get i⟩
def AMem.set (M : AMem) (k : Nat) (o : AObj) : AMem := ⟨M.next, fun i => if i = k then o else M.get i⟩
@[simp] theorem AMem.next_alloc (M : AMem) (o : AObj) : (M.alloc o).next = M.next + 1 := rfl
@[simp] theorem AMem.next_set (M : AMem) (k : Nat) (o : AObj) : (M.set k o).next = M.next := rfl
theorem AMem.get_alloc (M : AMem) (o : AObj) (i : Nat) : (M.alloc o).get i = if i = M.next then o else M.get i := rfl
theorem AMem.get_set (M : AMem) (k : Nat) (o : AObj) (i : Nat) : (M.set k o).get i = if i = k then o else M.get i := rfl
def Stamps (es : Array MapEntry) (clock : Nat) : Prop :=
  (∀ (i : Nat) (e : MapEntry), es[i]? = some e → e.born < clock) ∧ ∀ (i j : Nat) (e f : MapEntry), es[i]? = some e → es[j]? = some f → i < j → e.born < f.born
def ObjR (F : Nat → Prop) (ρ : Rho) (pl : Pl) (w : World) : AObj → Prop
  | .cells cs own => ∃ C e lo hi, w.heap[pl.block]? = some (.cells C e (lo, hi)) ∧ cs.length ≤ pl.ext ∧ pl.base + pl.ext ≤ C.size ∧
      (∀ (i : Nat) (v : Value), cs[i]? = some v → ∃ c, C[pl.base + i]? = some c ∧ VR ρ v c) ∧
      (own = true → F pl.block ∧ ∀ i, i < pl.ext → ¬ (lo ≤ pl.base + i ∧ pl.base + i < hi))
  | .map es => F pl.block ∧ ∃ E clock, w.heap[pl.block]? = some (.map E clock) ∧ E.size = es.length ∧ Stamps E clock ∧
      ∀ (i : Nat) (k v : Value), es[i]? = some (k, v) → ∃ e : MapEntry, E[i]? = some e ∧ VR ρ k e.key ∧ VR ρ v e.val
  | .iter s pos => F pl.block ∧ pl.base = 0 ∧ w.heap[pl.block]? = some (.stringIter s pos)
  | .defs => F pl.block ∧ w.heap[pl.block]? = some (.deferred (some []))
  | .box0 v => pl.base = 0 ∧ ∃ c e f, w.heap[pl.block]? = some (.cells #[c] e f) ∧ VR ρ v c
  | .loop st pend s n ps assign body d => F pl.block ∧ ∃ l : Loop, w.heap[pl.block]? = some (.loop l) ∧ l.state = st ∧ l.pending = pend ∧ l.tmps.size = n ∧
      (∀ i, i < n → VR ρ (s i) (l.tmps.getD i undef)) ∧ l.params = ps ∧ l.assign = assign ∧ l.body = body ∧ ∃ pd, ρ d = some pd ∧ l.defers = pd.block
  | .dead => True
structure Sim (F : Nat → Prop) (ρ : Rho) (M : AMem) (w : World) : Prop where
  top : ∀ b, w.heap.size ≤ b → F b
  dom : ∀ i pl, ρ i = some pl → i < M.next
  obj : ∀ i pl, ρ i = some pl → ObjR F ρ pl w (M.get i)
  sep : ∀ i j pi pj, ρ i = some pi → ρ j = some pj → i ≠ j → (M.get i).own = true → (M.get j).live = true → pi.block ≠ pj.block
structure Kept (F : Nat → Prop) (w w' : World) : Prop where
  os : w'.os = w.os
  tape : w'.tape = w.tape
  output : w'.output = w.output
  size : w.heap.size ≤ w'.heap.size
  block : ∀ b, ¬ F b → w'.heap[b]? = w.heap[b]?
theorem Kept.refl (F : Nat → Prop) (w : World) : Kept F w w := ⟨rfl, rfl, rfl, Nat.le_refl _, fun _ _ => rfl⟩
theorem Kept.trans {F : Nat → Prop} {a b c : World} (h : Kept F a b) (k : Kept F b c) : Kept F a c :=
  ⟨k.os.trans h.os, k.tape.trans h.tape, k.output.trans h.output, Nat.le_trans h.size k.size, fun i hi => (k.block i hi).trans (h.block i hi)⟩
def RhoLe (n : Nat) (ρ ρ' : Rho) : Prop := ∀ i, i < n → ρ' i = ρ i
theorem RhoLe.refl (n : Nat) (ρ : Rho) : RhoLe n ρ ρ := fun _ _ => rfl
theorem RhoLe.trans {n n' : Nat} {a b c : Rho} (h : RhoLe n a b) (k : RhoLe n' b c) (hn : n ≤ n') : RhoLe n a c :=
  fun i hi => (k i (Nat.lt_of_lt_of_le hi hn)).trans (h i hi)
theorem RhoLe.up {F : Nat → Prop} {ρ ρ' : Rho} {M : AMem} {w : World} (h : RhoLe M.next ρ ρ') (hs : Sim F ρ M w) : ∀ i pl, ρ i = some pl → ρ' i = some pl :=
  fun i pl hi => (h i (hs.dom i pl hi)).trans hi
theorem ObjR.lt {F : Nat → Prop} {ρ : Rho} {pl : Pl} {w : World} {o : AObj} (h : ObjR F ρ pl w o) (ho : o.live = true) : pl.block < w.heap.size := by
  have key : ∀ x, w.heap[pl.block]? = some x → pl.block < w.heap.size := fun x hx => (Array.getElem?_eq_some_iff.1 hx).1
  cases o with
  | cells cs own => obtain ⟨C, e, lo, hi, h, _⟩ := h; exact key _ h
  | map es => obtain ⟨_, E, c, h, _⟩ := h; exact key _ h
  | iter s p => exact key _ h.2.2
  | defs => exact key _ h.2
  | box0 v => obtain ⟨_, c, e, f, h, _⟩ := h; exact key _ h
  | loop st pend s n ps assign body d => obtain ⟨_, l, h, _⟩ := h; exact key _ h
  | dead => simp [AObj.live] at ho
theorem ObjR.inF {F : Nat → Prop} {ρ : Rho} {pl : Pl} {w : World} {o : AObj} (h : ObjR F ρ pl w o) (ho : o.own = true) : F pl.block := by
  cases o with
  | cells cs own => obtain ⟨C, e, lo, hi, _, _, _, _, h⟩ := h; exact (h ho).1
  | map es => exact h.1
  | iter s p => exact h.1
  | defs => exact h.1
  | box0 v => simp [AObj.own] at ho
  | loop st pend s n ps assign body d => exact h.1
  | dead => simp [AObj.own] at ho
theorem ObjR.carry {F : Nat → Prop} {ρ ρ' : Rho} {pl : Pl} {w w' : World} {o : AObj} (h : ObjR F ρ pl w o)
    (hw : o.live = true → w'.heap[pl.block]? = w.heap[pl.block]?) (hρ : ∀ i pl, ρ i = some pl → ρ' i = some pl) : ObjR F ρ' pl w' o := by
  cases o with
  | cells cs own =>
    obtain ⟨C, e, lo, hi, h1, h2, h3, h4, h5⟩ := h
    exact ⟨C, e, lo, hi, (hw rfl).trans h1, h2, h3, fun i v hv => let ⟨c, hc, hr⟩ := h4 i v hv; ⟨c, hc, hr.mono hρ⟩, h5⟩
  | map es =>
    obtain ⟨h0, E, c, h1, h2, h3, h4⟩ := h
    exact ⟨h0, E, c, (hw rfl).trans h1, h2, h3, fun i k v hv => let ⟨e, he, a, b⟩ := h4 i k v hv; ⟨e, he, a.mono hρ, b.mono hρ⟩⟩
  | iter s p => exact ⟨h.1, h.2.1, (hw rfl).trans h.2.2⟩
  | defs => exact ⟨h.1, (hw rfl).trans h.2⟩
  | box0 v => obtain ⟨h0, c, e, f, h1, h2⟩ := h; exact ⟨h0, c, e, f, (hw rfl).trans h1, h2.mono hρ⟩
  | loop st pend s n ps assign body d =>
    obtain ⟨h0, l, h1, h2, h3, h4, h5, h6, h7, h8, pd, h9, h10⟩ := h
    exact ⟨h0, l, (hw rfl).trans h1, h2, h3, h4, fun i hi => (h5 i hi).mono hρ, h6, h7, h8, pd, hρ _ _ h9, h10⟩
  | dead => trivial
theorem Sim.world {F : Nat → Prop} {ρ : Rho} {M : AMem} {w w' : World} (h : Sim F ρ M w) (hs : w.heap.size ≤ w'.heap.size)
    (hb : ∀ i pl, ρ i = some pl → (M.get i).live = true → w'.heap[pl.block]? = w.heap[pl.block]?) : Sim F ρ M w' :=
  ⟨fun b hb' => h.top b (Nat.le_trans hs hb'), h.dom, fun i pl hi => (h.obj i pl hi).carry (hb i pl hi) (fun _ _ h => h), h.sep⟩
theorem Sim.lt {F : Nat → Prop} {ρ : Rho} {M : AMem} {w : World} (h : Sim F ρ M w) {i : Nat} {pl : Pl} (hi : ρ i = some pl) (hl : (M.get i).live = true) : pl.block < w.heap.size :=
  (h.obj i pl hi).lt hl
theorem Sim.drew {F : Nat → Prop} {ρ : Rho} {M : AMem} {w : World} (h : Sim F ρ M w) : Sim F ρ M w.drew :=
  h.world (Nat.le_refl _) (fun _ _ _ _ => rfl)
theorem Kept.drew (F : Nat → Prop) (w : World) : Kept F w w.drew := ⟨rfl, rfl, rfl, Nat.le_refl _, fun _ _ => rfl⟩
def Rho.put (ρ : Rho) (k : Nat) (pl : Pl) : Rho := fun i => if i = k then some pl else ρ i
theorem Rho.put_up {ρ : Rho} {k : Nat} {pl : Pl} (hk : ρ k = none) : ∀ i p, ρ i = some p → (ρ.put k pl) i = some p := by
  intro i p hi
  unfold Rho.put
  split
  · subst_vars; rw [hk] at hi; cases hi
  · exact hi
theorem Sim.alloc {F : Nat → Prop} {ρ : Rho} {M : AMem} {w : World} (h : Sim F ρ M w) {o : AObj} {x : Obj} {ext : Nat}
    (ho : ∀ ρ', (∀ i pl, ρ i = some pl → ρ' i = some pl) → ObjR F ρ' ⟨w.heap.size, 0, ext⟩ (w.alloc x) o) :
    Sim F (ρ.put M.next ⟨w.heap.size, 0, ext⟩) (M.alloc o) (w.alloc x) ∧ RhoLe M.next ρ (ρ.put M.next ⟨w.heap.size, 0, ext⟩) ∧ Kept F w (w.alloc x) := by
  have hnone : ρ M.next = none := by
    cases hn : ρ M.next with
    | none => rfl
    | some pl => exact absurd (h.dom _ _ hn) (Nat.lt_irrefl _)
  have hup := Rho.put_up (pl := ⟨w.heap.size, 0, ext⟩) hnone
  have hold : ∀ b, b < w.heap.size → (w.alloc x).heap[b]? = w.heap[b]? := by
    intro b hb
    show (w.heap.push x)[b]? = _
    rw [Array.getElem?_push, if_neg (by omega)]
  refine ⟨⟨fun b hb => h.top b (by simp at hb; omega), ?_, ?_, ?_⟩, ?_, rfl, rfl, rfl, by simp, ?_⟩
  · intro i pl hi
    simp only [Rho.put] at hi
    split at hi
    · subst_vars; simp
    · have := h.dom i pl hi; simp; omega
  · intro i pl hi
    simp only [Rho.put] at hi
    split at hi
    · subst_vars; cases hi; rw [AMem.get_alloc, if_pos rfl]; exact ho _ hup
    · rename_i hne
      rw [AMem.get_alloc, if_neg hne]
      exact (h.obj i pl hi).carry (fun hl => hold _ (h.lt hi hl)) hup
  · intro i j pi pj hi hj hij hoi hlj
    rw [AMem.get_alloc] at hoi hlj
    simp only [Rho.put] at hi hj
    by_cases h1 : i = M.next
    · have h2 : j ≠ M.next := fun e => hij (h1.trans e.symm)
      rw [if_neg h2] at hlj hj
      rw [if_pos h1] at hi
      cases hi
      have := h.lt hj hlj
      exact fun e => by simp at e; omega
    · rw [if_neg h1] at hoi hi
      by_cases h2 : j = M.next
      · rw [if_pos h2] at hj
        cases hj
        have hli : (M.get i).live = true := by
          cases hm : M.get i <;> simp_all [AObj.own, AObj.live]
        have := h.lt hi hli
        exact fun e => by simp at e; omega
      · rw [if_neg h2] at hlj hj
        exact h.sep i j pi pj hi hj hij hoi hlj
  · intro i hi; unfold Rho.put; rw [if_neg (by omega)]
  · intro b hb
    have : ¬ w.heap.size ≤ b := fun hle => hb (h.top b hle)
    exact hold b (by omega)
theorem Sim.set {F : Nat → Prop} {ρ : Rho} {M : AMem} {w w' : World} (h : Sim F ρ M w) {k : Nat} {pl : Pl} {o : AObj} (hk : ρ k = some pl) (hown : (M.get k).own = true)
    (hsz : w'.heap.size = w.heap.size) (hoth : ∀ b, b ≠ pl.block → w'.heap[b]? = w.heap[b]?) (hobj : ObjR F ρ pl w' o) (hos : w'.os = w.os) (htp : w'.tape = w.tape) (hout : w'.output = w.output) :
    Sim F ρ (M.set k o) w' ∧ Kept F w w' := by
  refine ⟨⟨fun b hb => h.top b (hsz ▸ hb), fun i p hi => h.dom i p hi, ?_, ?_⟩, hos, htp, hout, Nat.le_of_eq hsz.symm, ?_⟩
  · intro i p hi
    rw [AMem.get_set]
    split
    · subst_vars; rw [hk] at hi; cases hi; exact hobj
    · rename_i hne
      refine (h.obj i p hi).carry (fun hl => hoth _ ?_) (fun _ _ h => h)
      exact fun e => h.sep k i pl p hk hi (fun e => hne e.symm) hown hl e.symm
  · intro i j pi pj hi hj hij hoi hlj
    rw [AMem.get_set] at hoi hlj
    have hlive : (M.get k).live = true := by cases hm : M.get k <;> simp_all [AObj.own, AObj.live]
    by_cases h1 : i = k
    · subst h1
      rw [if_neg (fun e => hij e.symm)] at hlj
      exact h.sep i j pi pj hi hj hij hown hlj
    · rw [if_neg h1] at hoi
      by_cases h2 : j = k
      · subst h2; exact h.sep i j pi pj hi hj hij hoi hlive
      · rw [if_neg h2] at hlj; exact h.sep i j pi pj hi hj hij hoi hlj
  · intro b hb
    exact hoth b (fun e => hb (e ▸ (h.obj k pl hk).inF hown))
theorem Sim.kill {F : Nat → Prop} {ρ : Rho} {M : AMem} {w : World} (h : Sim F ρ M w) (k : Nat) : Sim F ρ (M.set k .dead) w := by
  refine ⟨h.top, fun i p hi => h.dom i p hi, ?_, ?_⟩
  · intro i p hi
    rw [AMem.get_set]
    split
    · trivial
    · exact h.obj i p hi
  · intro i j pi pj hi hj hij hoi hlj
    rw [AMem.get_set] at hoi hlj
    by_cases h1 : i = k
    · rw [if_pos h1] at hoi; simp [AObj.own] at hoi
    · rw [if_neg h1] at hoi
      by_cases h2 : j = k
      · rw [if_pos h2] at hlj; simp [AObj.live] at hlj
      · rw [if_neg h2] at hlj; exact h.sep i j pi pj hi hj hij hoi hlj
end Go.Proofs.Ytdkdkpiemigfkaa
set_option linter.unusedVariables false
set_option linter.unusedSimpArgs false
namespace Go.Proofs.Ytdkdkpiemigfkaa
open Go
structure SR (ρ : Rho) (n : Nat) (s : Slots) (ca : Act) : Prop where
  size : ca.tmps.size = n
  get : ∀ i, i < n → VR ρ (s i) (ca.tmps.getD i undef)
theorem SR.mono {ρ ρ' : Rho} (hρ : ∀ i pl, ρ i = some pl → ρ' i = some pl) {n : Nat} {s : Slots} {ca : Act} (h : SR ρ n s ca) : SR ρ' n s ca :=
  ⟨h.size, fun i hi => (h.get i hi).mono hρ⟩
def ev (s : Slots) : Operand → Value
  | .tmp t => s t
  | .const v => v
  | .global g => .pointer (some ⟨g, 0, none⟩)
  | .func f => .func (.func f) #[] #[]
@[simp] theorem ev_tmp (s : Slots) (t : Nat) : ev s (.tmp t) = s t := rfl
@[simp] theorem ev_const (s : Slots) (v : Value) : ev s (.const v) = v := rfl
@[simp] theorem ev_func (s : Slots) (f : Nat) : ev s (.func f) = .func (.func f) #[] #[] := rfl
def okO (n : Nat) : Operand → Bool
  | .tmp t => decide (t < n)
  | .const v => flat v
  | .func _ => true
  | .global _ => false
theorem SR.ev {ρ : Rho} {n : Nat} {s : Slots} {ca : Act} (h : SR ρ n s ca) {x : Operand} (hx : okO n x = true) : VR ρ (ev s x) (ca.eval x) := by
  cases x with
  | tmp t => exact h.get t (by simpa [okO] using hx)
  | const v => exact flat_refl hx
  | func f => exact .func rfl rfl (fun i x y hx => by simp at hx) rfl (fun i x y hx => by simp at hx)
  | global g => simp [okO] at hx
def nextVal : Next → Option Value
  | .value v => some v
  | .skip => some undef
  | _ => none
def OpOK (P : Program) (n : Nat) (s : Slots) (o : Oper) (M : AMem) (v : Value) (M' : AMem) : Prop :=
  ∀ F ρ ca w, SR ρ n s ca → Sim F ρ M w → ∃ ρ' nx cv w', (execOp ca.eval o).run P w = .ok nx w' ∧ nextVal nx = some cv ∧
    RhoLe M.next ρ ρ' ∧ M.next ≤ M'.next ∧ VR ρ' v cv ∧ Sim F ρ' M' w' ∧ Kept F w w'
theorem OpOK.same {P : Program} {n : Nat} {s : Slots} {o : Oper} {M : AMem} {v : Value}
    (h : ∀ ρ ca w, SR ρ n s ca → ∃ nx cv, (execOp ca.eval o).run P w = .ok nx w ∧ nextVal nx = some cv ∧ VR ρ v cv) : OpOK P n s o M v M := by
  intro F ρ ca w hs hM
  obtain ⟨nx, cv, h1, h2, h3⟩ := h ρ ca w hs
  exact ⟨ρ, nx, cv, w, h1, h2, .refl _ _, Nat.le_refl _, h3, hM, .refl _ _⟩
def peval {α : Type} (P : Program) : Sem α → Option α
  | .pure a => some a
  | .program k => peval P (k P)
  | .mark _ k => peval P k
  | _ => none
theorem peval_run {α : Type} {P : Program} {m : Sem α} {a : α} (h : peval P m = some a) (w : World) : m.run P w = .ok a w := by
  induction m with
  | pure b => simp only [peval, Option.some.injEq] at h; rw [h]; rfl
  | program k ih => exact ih _ h
  | mark x k ih => exact ih h
  | _ => simp [peval] at h
theorem peval_bind {α β : Type} (P : Program) (m : Sem α) (f : α → Sem β) : peval P (m >>= f) = (peval P m).bind fun a => peval P (f a) := by
  show peval P (m.bind f) = _
  induction m with
  | pure b => rfl
  | program k ih => exact ih _
  | mark x k ih => exact ih
  | _ => rfl
@[simp] theorem peval_pure {α : Type} (P : Program) (a : α) : peval P (pure a : Sem α) = some a := rfl
def apure (P : Program) (s : Slots) (o : Oper) : Option Value :=
  if o.op.operands.all (fun x => flat (ev s x)) then
    match peval P (execOp (ev s) o) with
    | some (.value v) => if flat v then some v else none
    | _ => none
  else none
theorem apure_ok {P : Program} {n : Nat} {s : Slots} {o : Oper} {M : AMem} {v : Value} (hsel : ∀ cs b, o.op ≠ .select cs b) (hok : o.op.operands.all (okO n) = true) (h : apure P s o = some v) : OpOK P n s o M v M := by
  unfold apure at h
  split at h <;> rename_i hf
  · refine OpOK.same fun ρ ca w hs => ?_
    have he : execOp ca.eval o = execOp (ev s) o := execOp_congr o hsel fun x hx => by
      obtain ⟨i, hi, rfl⟩ := Array.mem_iff_getElem.1 hx
      exact flat_inv (Array.all_eq_true.1 hf i hi) (hs.ev (Array.all_eq_true.1 hok i hi))
    rw [he]
    split at h <;> rename_i hp
    · split at h <;> rename_i hv
      · cases h
        exact ⟨_, v, peval_run hp w, rfl, flat_refl hv⟩
      · cases h
    · cases h
  · cases h
end Go.Proofs.Ytdkdkpiemigfkaa
set_option linter.unusedVariables false
set_option linter.unusedSimpArgs false
namespace Go.Proofs.Ytdkdkpiemigfkaa
open Go
theorem Addr.add_off (b o k : Nat) : Addr.add ⟨b, o, none⟩ k = ⟨b, o + k, none⟩ := by
  unfold Addr.add; split
  · subst_vars; rfl
  · rfl
theorem Sim.cell {F : Nat → Prop} {ρ : Rho} {M : AMem} {w : World} (h : Sim F ρ M w) {id off : Nat} {pl : Pl} {cs : List Value} {own : Bool} {v : Value}
    (hi : ρ id = some pl) (hg : M.get id = .cells cs own) (hv : cs[off]? = some v) : ∃ cv, w.cell? ⟨pl.block, pl.base + off, none⟩ = some cv ∧ VR ρ v cv := by
  have ho := h.obj id pl hi
  rw [hg] at ho
  obtain ⟨C, e, lo, hi', h1, h2, h3, h4, h5⟩ := ho
  obtain ⟨c, hc, hr⟩ := h4 off v hv
  exact ⟨c, by simp [World.cell?, h1, hc], hr⟩
theorem VR.oneCell {ρ : Rho} {v c : Value} (h : VR ρ v c) : c.oneCell' = v.oneCell' := by cases h <;> rfl
theorem AMem.set_set (M : AMem) (k : Nat) (a b : AObj) : (M.set k a).set k b = M.set k b := by
  unfold AMem.set; congr 1; funext i; by_cases h : i = k <;> simp [h]
theorem AMem.set_self (M : AMem) (k : Nat) : M.set k (M.get k) = M := by
  obtain ⟨n, g⟩ := M
  unfold AMem.set; congr 1; funext i; by_cases h : i = k <;> simp [h]
theorem Sim.store1 {P : Program} {F : Nat → Prop} {ρ : Rho} {M : AMem} {w : World} (h : Sim F ρ M w) {id off : Nat} {pl : Pl} {cs : List Value} {v cv : Value}
    (hi : ρ id = some pl) (hg : M.get id = .cells cs true) (ho : off < cs.length) (hv : VR ρ v cv) (h1 : v.oneCell' = true) :
    ∃ w', (store ⟨pl.block, pl.base + off, none⟩ cv).run P w = .ok () w' ∧ Sim F ρ (M.set id (.cells (cs.set off v) true)) w' ∧ Kept F w w' := by
  have hob := h.obj id pl hi
  rw [hg] at hob
  obtain ⟨C, e, lo, hi', g1, g2, g3, g4, g5⟩ := hob
  obtain ⟨hF, hfr⟩ := g5 rfl
  have hoff : pl.base + off < C.size := by omega
  have hcell : w.cell? ⟨pl.block, pl.base + off, none⟩ = some C[pl.base + off] := by simp [World.cell?, g1, hoff]
  have hfz : w.frozen? ⟨pl.block, pl.base + off, none⟩ = false := by
    have hq := hfr off (by omega)
    unfold World.frozen?
    rw [g1]
    cases hd : (decide (lo ≤ pl.base + off) && decide (pl.base + off < hi')) with
    | false => exact hd
    | true =>
      rw [Bool.and_eq_true, decide_eq_true_iff, decide_eq_true_iff] at hd
      exact absurd hd hq
  refine ⟨w.setCell ⟨pl.block, pl.base + off, none⟩ cv, ?_, ?_⟩
  · rw [run_store P w _ cv .plain (by rw [hv.oneCell]; exact h1), hcell]
    simp [hfz]
  · have hblk : (w.setCell ⟨pl.block, pl.base + off, none⟩ cv).heap[pl.block]? = some (.cells (C.setIfInBounds (pl.base + off) cv) e (lo, hi')) := by
      simp [World.setCell, Array.getElem?_modify, g1]
    refine h.set hi (by rw [hg]; rfl) (by simp) ?_ ?_ rfl rfl rfl
    · intro b hb
      simp only [World.setCell, Array.getElem?_modify]
      rw [if_neg (by exact fun e => hb e.symm)]
    · refine ⟨_, e, lo, hi', hblk, by simpa using g2, by simpa using g3, ?_, fun _ => ⟨hF, hfr⟩⟩
      intro i x hx
      rw [List.getElem?_set] at hx
      split at hx
      · subst_vars
        first
          | (cases hx; exact ⟨cv, by simp [hoff], hv⟩)
          | (split at hx <;> first | (cases hx; exact ⟨cv, by simp [hoff], hv⟩) | cases hx)
      · rename_i hne
        obtain ⟨c, hc, hr⟩ := g4 i x hx
        exact ⟨c, by rw [Array.getElem?_setIfInBounds_ne (by omega)]; exact hc, hr⟩
def aput (cs : List Value) (off : Nat) : List Value → List Value
  | [] => cs
  | v :: vs => aput (cs.set off v) (off + 1) vs
theorem aput_length (vs : List Value) : ∀ (cs : List Value) (off : Nat), (aput cs off vs).length = cs.length := by
  induction vs with
  | nil => intro cs off; rfl
  | cons v vs ih => intro cs off; simp [aput, ih]
theorem Sim.stores {P : Program} {F : Nat → Prop} {ρ : Rho} {id : Nat} {pl : Pl} (hi : ρ id = some pl) (off : Nat) : ∀ (vs cvs : List Value) (k : Nat) (M : AMem) (w : World) (cs : List Value),
    Sim F ρ M w → M.get id = .cells cs true → off + k + vs.length ≤ cs.length → vs.length = cvs.length → (∀ (i : Nat) (v c : Value), vs[i]? = some v → cvs[i]? = some c → VR ρ v c) → vs.all (·.oneCell') = true →
    ∃ w', (storeCells ⟨pl.block, pl.base + off, none⟩ cvs k).run P w = .ok () w' ∧ Sim F ρ (M.set id (.cells (aput cs (off + k) vs) true)) w' ∧ Kept F w w' := by
  intro vs
  induction vs with
  | nil =>
    intro cvs k M w cs h hg hl hlen hv h1
    cases cvs with
    | cons _ _ => simp at hlen
    | nil => exact ⟨w, rfl, by simp only [aput]; rw [← hg, AMem.set_self]; exact h, .refl _ _⟩
  | cons v vs ih =>
    intro cvs k M w cs h hg hl hlen hv h1
    cases cvs with
    | nil => simp at hlen
    | cons c cvs =>
      simp only [List.length_cons] at hl hlen
      simp only [List.all_cons, Bool.and_eq_true] at h1
      obtain ⟨w1, r1, s1, k1⟩ := h.store1 (P := P) (off := off + k) hi hg (by omega) (hv 0 v c rfl rfl) h1.1
      obtain ⟨w2, r2, s2, k2⟩ := ih cvs (k + 1) (M.set id (.cells (cs.set (off + k) v) true)) w1 (cs.set (off + k) v) s1 (by simp [AMem.get_set]) (by simp; omega) (by omega)
        (fun i x y hx hy => hv (i + 1) x y (by simpa using hx) (by simpa using hy)) h1.2
      refine ⟨w2, ?_, ?_, k1.trans k2⟩
      · simp only [storeCells, Sem.run_bind, Addr.add_off]
        rw [show pl.base + off + k = pl.base + (off + k) from by omega, r1]
        exact r2
      · rw [AMem.set_set] at s2
        exact s2
theorem Sim.loads {P : Program} {F : Nat → Prop} {ρ : Rho} {M : AMem} {w : World} (h : Sim F ρ M w) {id off n : Nat} {pl : Pl} {cs : List Value} {own : Bool}
    (hi : ρ id = some pl) (hg : M.get id = .cells cs own) (hl : off + n ≤ cs.length) :
    ∃ cvs : List Value, (loadCells ⟨pl.block, pl.base + off, none⟩ n).run P w = .ok cvs.toArray w ∧ cvs.length = n ∧ ∀ (i : Nat) (v c : Value), ((cs.drop off).take n)[i]? = some v → cvs[i]? = some c → VR ρ v c := by
  have key : ∀ j, j < n → ∃ c, w.cell? ⟨pl.block, pl.base + (off + j), none⟩ = some c ∧ ∀ v, cs[off + j]? = some v → VR ρ v c := by
    intro j hj
    have hlt : off + j < cs.length := by omega
    obtain ⟨c, hc, hr⟩ := h.cell hi hg (List.getElem?_eq_getElem hlt)
    exact ⟨c, hc, fun v hv => by rw [List.getElem?_eq_getElem hlt] at hv; cases hv; exact hr⟩
  let f : Nat → Value := fun j => (w.cell? ⟨pl.block, pl.base + (off + j), none⟩).getD undef
  refine ⟨(List.range n).map f, ?_, by simp, ?_⟩
  · have := run_loadCells_list (P := P) (w := w) ⟨pl.block, pl.base + off, none⟩ ((List.range n).map f) (by
      intro j v hj
      have hjn : j < n := by have := (List.getElem?_eq_some_iff.1 hj).1; simpa using this
      obtain ⟨c, hc, hr⟩ := key j hjn
      rw [Addr.add_off, show pl.base + off + j = pl.base + (off + j) from by omega, hc]
      simp [hjn, f, hc] at hj
      rw [hj])
    simpa using this
  · intro i v c hv hc
    have hin : i < n := by have := (List.getElem?_eq_some_iff.1 hc).1; simpa using this
    obtain ⟨c', hc', hr⟩ := key i hin
    simp [hin, f, hc'] at hc
    rw [List.getElem?_take, if_pos hin, List.getElem?_drop] at hv
    exact hc ▸ hr v hv
def aggD : TypeDesc → Bool
  | .struct _ | .array _ _ => true
  | _ => false
def aload (P : Program) (t : TypeId) (cs : List Value) (off : Nat) : Option Value :=
  match P.underlying t, P.info? t with
  | some d, some i => if aggD d then (if off + i.size ≤ cs.length then some (.agg ((cs.drop off).take i.size).toArray) else none) else cs[off]?
  | _, _ => none
def astore (P : Program) (t : TypeId) (cs : List Value) (off : Nat) (v : Value) : Option (List Value) :=
  match P.info? t with
  | some i => if v.cells.size = i.size ∧ off + v.cells.size ≤ cs.length ∧ v.cells.toList.all (·.oneCell') = true then some (aput cs off v.cells.toList) else none
  | none => none
theorem run_isAggD {P : Program} {t : TypeId} {d : TypeDesc} (h : P.underlying t = some d) (w : World) : (isAgg t).run P w = .ok (aggD d) w := by
  unfold isAgg
  simp only [Sem.run_bind, run_underlying h, Result.andThen_ok]
  cases d <;> rfl
theorem run_sizeOf' {P : Program} {t : TypeId} {i : TypeInfo} (h : P.info? t = some i) (w : World) : (sizeOf t).run P w = .ok i.size w := by
  simp [sizeOf, typeInfo, h]
theorem run_zero {P : Program} {t : TypeId} {i : TypeInfo} {z : Value} (h : P.info? t = some i) (hz : i.zero = some z) (w : World) : (zeroValue t).run P w = .ok z w := by
  simp [zeroValue, typeInfo, h, hz]
theorem Sim.loadVar {P : Program} {F : Nat → Prop} {ρ : Rho} {M : AMem} {w : World} (h : Sim F ρ M w) {id off : Nat} {t : TypeId} {pl : Pl} {cs : List Value} {own : Bool} {v : Value}
    (hi : ρ id = some pl) (hg : M.get id = .cells cs own) (hl : aload P t cs off = some v) :
    ∃ cv, (loadVar t ⟨pl.block, pl.base + off, none⟩).run P w = .ok cv w ∧ VR ρ v cv := by
  unfold aload at hl
  split at hl <;> rename_i hd hin
  · rename_i d i
    simp only [Go.loadVar, Sem.run_bind, run_isAggD hd, Result.andThen_ok]
    split at hl <;> rename_i ha
    · split at hl <;> rename_i hle
      · cases hl
        obtain ⟨cvs, r, hlen, hr⟩ := h.loads (P := P) hi hg hle
        refine ⟨.agg cvs.toArray, ?_, .agg (by simp [hlen]; omega) (fun j x y hx hy => hr j x y (by simpa using hx) (by simpa using hy))⟩
        simp [ha, run_sizeOf' hin, r]
      · cases hl
    · obtain ⟨cv, hc, hr⟩ := h.cell hi hg hl
      exact ⟨cv, by simp [ha, hc], hr⟩
  · cases hl
theorem VR.cells1 {ρ : Rho} {v c : Value} (h : VR ρ v c) (hv : v.cells = #[v]) (hc : c.cells = #[c]) :
    v.cells.size = c.cells.size ∧ ∀ (i : Nat) (x y : Value), v.cells[i]? = some x → c.cells[i]? = some y → VR ρ x y := by
  rw [hv, hc]
  refine ⟨rfl, fun i x y hx hy => ?_⟩
  cases i with
  | zero => simp at hx hy; subst hx hy; exact h
  | succ i => simp at hx
theorem VR.cells {ρ : Rho} {v c : Value} (h : VR ρ v c) : v.cells.size = c.cells.size ∧ ∀ (i : Nat) (x y : Value), v.cells[i]? = some x → c.cells[i]? = some y → VR ρ x y := by
  cases h with
  | agg hs h => exact ⟨hs, h⟩
  | scalar h => exact VR.cells1 (.scalar h) (by cases v <;> first | rfl | simp [isScalar] at h) (by cases v <;> first | rfl | simp [isScalar] at h)
  | ptr h => exact VR.cells1 (.ptr h) rfl rfl
  | slice h h1 h2 => exact VR.cells1 (.slice h h1 h2) rfl rfl
  | sliceE h => exact VR.cells1 (.sliceE h) rfl rfl
  | map h => exact VR.cells1 (.map h) rfl rfl
  | yield h => exact VR.cells1 (.yield h) rfl rfl
  | func h hf h1 hc h2 => exact VR.cells1 (.func h hf h1 hc h2) rfl rfl
  | iface h => exact VR.cells1 (.iface h) rfl rfl
  | tuple hs h => exact VR.cells1 (.tuple hs h) rfl rfl
theorem Sim.storeVar {P : Program} {F : Nat → Prop} {ρ : Rho} {M : AMem} {w : World} (h : Sim F ρ M w) {id off : Nat} {t : TypeId} {pl : Pl} {cs cs' : List Value} {v cv : Value}
    (hi : ρ id = some pl) (hg : M.get id = .cells cs true) (hv : VR ρ v cv) (hl : astore P t cs off v = some cs') :
    ∃ w', (storeVar t ⟨pl.block, pl.base + off, none⟩ cv).run P w = .ok () w' ∧ Sim F ρ (M.set id (.cells cs' true)) w' ∧ Kept F w w' := by
  unfold astore at hl
  split at hl <;> rename_i hin
  · rename_i i
    split at hl <;> rename_i hc
    · cases hl
      obtain ⟨hsz, hle, h1⟩ := hc
      obtain ⟨hcs, hcr⟩ := hv.cells
      obtain ⟨w', r, s, k⟩ := Sim.stores (P := P) hi off v.cells.toList cv.cells.toList 0 M w cs h hg (by simp; omega) (by simp [hcs])
        (fun j x y hx hy => hcr j x y (by simpa using hx) (by simpa using hy)) h1
      refine ⟨w', ?_, s, k⟩
      simp only [Go.storeVar, Sem.run_bind, run_sizeOf' hin, Result.andThen_ok]
      rw [if_neg (by rw [← hcs]; simpa using hsz)]
      exact r
    · cases hl
  · cases hl
end Go.Proofs.Ytdkdkpiemigfkaa
set_option linter.unusedVariables false
set_option linter.unusedSimpArgs false
namespace Go.Proofs.Ytdkdkpiemigfkaa
open Go
theorem Sim.newCells {F : Nat → Prop} {ρ : Rho} {M : AMem} {w : World} (h : Sim F ρ M w) {vs : List Value} {C : Array Value} (e : TypeId) (own : Bool) (fz : Nat) (hfz : C.size ≤ fz)
    (hl : vs.length ≤ C.size) (hr : ∀ (i : Nat) (v : Value), vs[i]? = some v → ∃ c, C[i]? = some c ∧ VR ρ v c) :
    Sim F (ρ.put M.next ⟨w.heap.size, 0, C.size⟩) (M.alloc (.cells vs own)) (w.alloc (.cells C e (0, 0))) ∧ RhoLe M.next ρ (ρ.put M.next ⟨w.heap.size, 0, C.size⟩) ∧ Kept F w (w.alloc (.cells C e (0, 0))) ∧
    (ρ.put M.next ⟨w.heap.size, 0, C.size⟩) M.next = some ⟨w.heap.size, 0, C.size⟩ := by
  obtain ⟨h1, h2, h3⟩ := h.alloc (o := .cells vs own) (x := .cells C e (0, 0)) (ext := C.size) (fun ρ' hup => by
    refine ⟨C, e, 0, 0, by show (w.heap.push _)[w.heap.size]? = _; simp, hl, by simp, fun i v hv => ?_, fun _ => ⟨h.top _ (Nat.le_refl _), fun i _ => by omega⟩⟩
    obtain ⟨c, hc, hv⟩ := hr i v hv
    exact ⟨c, by simpa using hc, hv.mono hup⟩)
  exact ⟨h1, h2, h3, by simp [Rho.put]⟩
section ops
variable {P : Program} {n : Nat} {s : Slots} {o : Oper} {M : AMem}
theorem ok_move {x : Operand} (ho : o.op = .move x ∨ o.op = .assign x) (hx : okO n x = true) : OpOK P n s o M (ev s x) M :=
  OpOK.same fun ρ ca w hs => ⟨.value (ca.eval x), ca.eval x, by rcases ho with h | h <;> simp [execOp, h], rfl, hs.ev hx⟩
theorem ok_pick {c a b : Operand} {t : Bool} (ho : o.op = .pick c a b) (hc : okO n c = true) (ha : okO n a = true) (hb : okO n b = true) (ht : ev s c = .bool t) :
    OpOK P n s o M (if t then ev s a else ev s b) M :=
  OpOK.same fun ρ ca w hs => by
    have h := hs.ev hc
    rw [ht] at h
    have hcc := h.bool_inv
    refine ⟨.value (if t then ca.eval a else ca.eval b), _, ?_, rfl, ?_⟩
    · simp [execOp, ho, hcc, asBool]
    · cases t
      · exact hs.ev hb
      · exact hs.ev ha
def newPtr (M : AMem) : Value := .pointer (some ⟨M.next, 0, none⟩)
theorem ok_alloc {t : TypeId} {i : TypeInfo} {z : Value} (ho : o.op = .alloc t) (hi : P.info? t = some i) (hz : i.zero = some z) (hf : flat z = true) :
    OpOK P n s o M (newPtr M) (M.alloc (.cells z.cells.toList true)) := by
  intro F ρ ca w hs hM
  have hv : VR ρ z z := flat_refl hf
  obtain ⟨h1, h2, h3, h4⟩ := hM.newCells (vs := z.cells.toList) (C := z.cells) t true z.cells.size (Nat.le_refl _) (by simp)
    (fun j v hj => ⟨v, by simpa using hj, hv.cells.2 j v v (by simpa using hj) (by simpa using hj)⟩)
  refine ⟨_, .value (.pointer (some ⟨w.heap.size, 0, none⟩)), _, _, ?_, rfl, h2, by simp, ?_, h1, h3⟩
  · simp [execOp, ho, Instr.alloc, run_zero hi hz, newVar, newRow]
  · exact .ptr (pl := ⟨w.heap.size, 0, z.cells.size⟩) h4
theorem ok_box {t : TypeId} {x : Operand} (ho : o.op = .box t x) (hx : okO n x = true) :
    OpOK P n s o M (newPtr M) (M.alloc (.cells (ev s x).cells.toList true)) := by
  intro F ρ ca w hs hM
  have hv := (hs.ev hx).cells
  obtain ⟨h1, h2, h3, h4⟩ := hM.newCells (vs := (ev s x).cells.toList) (C := (ca.eval x).cells) t true (ca.eval x).cells.size (Nat.le_refl _) (by simp [hv.1])
    (fun j v hj => by
      have hj' : (ev s x).cells[j]? = some v := by simpa using hj
      exact VRs.get hv hj')
  refine ⟨_, .value (.pointer (some ⟨w.heap.size, 0, none⟩)), _, _, ?_, rfl, h2, by simp, ?_, h1, h3⟩
  · simp [execOp, ho, Instr.box, newVar, newRow]
  · exact .ptr (pl := ⟨w.heap.size, 0, (ca.eval x).cells.size⟩) h4
theorem ok_load {t : TypeId} {a : Operand} {id off : Nat} {cs : List Value} {own : Bool} {v : Value} (ho : o.op = .load t a) (ha : okO n a = true)
    (hp : ev s a = .pointer (some ⟨id, off, none⟩)) (hg : M.get id = .cells cs own) (hl : aload P t cs off = some v) : OpOK P n s o M v M := by
  intro F ρ ca w hs hM
  have h := hs.ev ha
  rw [hp] at h
  obtain ⟨_, pl, hpl, hc⟩ := h.ptr_inv
  obtain ⟨cv, hr, hv⟩ := hM.loadVar (P := P) hpl hg hl
  refine ⟨ρ, .value cv, cv, w, ?_, rfl, .refl _ _, Nat.le_refl _, hv, hM, .refl _ _⟩
  simp [execOp, ho, Instr.loadAt, hc, Instr.sureAddr, hr]
theorem ok_store {t : TypeId} {a x : Operand} {id off : Nat} {cs cs' : List Value} (ho : o.op = .store t a x) (ha : okO n a = true) (hx : okO n x = true)
    (hp : ev s a = .pointer (some ⟨id, off, none⟩)) (hg : M.get id = .cells cs true) (hl : astore P t cs off (ev s x) = some cs') :
    OpOK P n s o M undef (M.set id (.cells cs' true)) := by
  intro F ρ ca w hs hM
  have h := hs.ev ha
  rw [hp] at h
  obtain ⟨_, pl, hpl, hc⟩ := h.ptr_inv
  obtain ⟨w', hr, h1, h2⟩ := hM.storeVar (P := P) hpl hg (hs.ev hx) hl
  refine ⟨ρ, .skip, undef, w', ?_, rfl, .refl _ _, Nat.le_refl _, .tuple rfl (fun i x y hx => by simp at hx), h1, h2⟩
  simp [execOp, ho, Instr.storeAt, hc, Instr.sureAddr, hr]
theorem ok_nilCheck {x : Operand} {a : Addr} (ho : o.op = .nilCheck x) (hx : okO n x = true) (hp : ev s x = .pointer (some a)) : OpOK P n s o M (ev s x) M :=
  OpOK.same fun ρ ca w hs => by
    have h := hs.ev hx
    have h' := h
    rw [hp] at h'
    obtain ⟨_, pl, hpl, hc⟩ := h'.ptr_inv
    exact ⟨.value (ca.eval x), _, by simp [execOp, ho, hc], rfl, h⟩
theorem ok_nilCheck_func {x : Operand} {f : FuncId} {a b : Array Value} (ho : o.op = .nilCheck x) (hx : okO n x = true) (hp : ev s x = .func (.func f) a b) : OpOK P n s o M (ev s x) M :=
  OpOK.same fun ρ ca w hs => by
    have h := hs.ev hx
    have h' := h
    rw [hp] at h'
    obtain ⟨f', g', hc, _, _⟩ := h'.func_inv rfl
    exact ⟨.value (ca.eval x), _, by simp [execOp, ho, hc], rfl, h⟩
theorem ok_fieldAddr {t : TypeId} {x : Operand} {f : Nat} {fs : Array Field} {fd : Field} {i : TypeInfo} {id off : Nat} (ho : o.op = .fieldAddr t x f) (hx : okO n x = true)
    (hp : ev s x = .pointer (some ⟨id, off, none⟩)) (ht : P.underlying t = some (.struct fs)) (hf : fs[f]? = some fd) (hi : P.info? fd.type = some i) (hz : i.size ≠ 0) :
    OpOK P n s o M (.pointer (some ⟨id, off + fd.offset, none⟩)) M :=
  OpOK.same fun ρ ca w hs => by
    have h := hs.ev hx
    rw [hp] at h
    obtain ⟨_, pl, hpl, hc⟩ := h.ptr_inv
    refine ⟨.value (.pointer (some ⟨pl.block, pl.base + (off + fd.offset), none⟩)), _, ?_, rfl, .ptr hpl⟩
    simp [execOp, ho, Instr.fieldAt, hc, Instr.sureAddr, run_underlying ht, hf, fieldPlace, run_sizeOf' hi, hz, Addr.add_off]
    omega
theorem ok_indexAddr {t el : TypeId} {x ix : Operand} {i : TypeInfo} {id off len e : Nat} {k : IntKind} {j : Int} (ho : o.op = .indexAddr t x ix) (hx : okO n x = true) (hix : okO n ix = true)
    (hp : ev s x = .slice (some ⟨id, off, none⟩) len e) (hj : ev s ix = .int k j) (ht : P.underlying t = some (.slice el)) (hi : P.info? el = some i) (he : i.size = e) (h0 : 0 ≤ j) (h1 : j < len) :
    OpOK P n s o M (.pointer (some ⟨id, off + j.toNat * e, none⟩)) M :=
  OpOK.same fun ρ ca w hs => by
    have h := hs.ev hx
    rw [hp] at h
    obtain ⟨_, pl, o', cap, hpl, hc, hle, hor⟩ := h.slice_inv
    have h' := hs.ev hix
    rw [hj] at h'
    have hci := h'.int_inv
    have hoff : o' = ⟨pl.block, pl.base + off, none⟩ := by
      rcases hor with h | h
      · exact h.1
      · omega
    subst hoff
    refine ⟨.value (.pointer (some ⟨pl.block, pl.base + (off + j.toNat * e), none⟩)), _, ?_, rfl, .ptr hpl⟩
    simp [execOp, ho, Instr.indexAt, hc, hci, asIntOf, run_underlying ht, h0, h1, run_sizeOf' hi, he, Addr.add_off]
    omega
theorem ok_indexAddr_arr {t el : TypeId} {x ix : Operand} {i : TypeInfo} {id off len : Nat} {k : IntKind} {j : Int} (ho : o.op = .indexAddr t x ix) (hx : okO n x = true) (hix : okO n ix = true)
    (hp : ev s x = .pointer (some ⟨id, off, none⟩)) (hj : ev s ix = .int k j) (ht : P.underlying t = some (.array len el)) (hi : P.info? el = some i) (h0 : 0 ≤ j) (h1 : j < len) :
    OpOK P n s o M (.pointer (some ⟨id, off + j.toNat * i.size, none⟩)) M :=
  OpOK.same fun ρ ca w hs => by
    have h := hs.ev hx
    rw [hp] at h
    obtain ⟨_, pl, hpl, hc⟩ := h.ptr_inv
    have h' := hs.ev hix
    rw [hj] at h'
    have hci := h'.int_inv
    refine ⟨.value (.pointer (some ⟨pl.block, pl.base + (off + j.toNat * i.size), none⟩)), _, ?_, rfl, .ptr hpl⟩
    simp [execOp, ho, Instr.indexAt, hc, hci, asIntOf, run_underlying ht, h0, h1, run_sizeOf' hi, Addr.add_off, Instr.sureAddr]
    omega
def abound (s : Slots) (d : Int) : Option Operand → Option Int
  | none => some d
  | some x => match ev s x with
    | .int _ j => some j
    | _ => none
theorem abound_run {P : Program} {ρ : Rho} {ca : Act} {w : World} (hs : SR ρ n s ca) {x : Operand} (hx : okO n x = true) {j : Int} {d : Int} (h : abound s d (some x) = some j) (y : Nat) (code : BoundsCode) (h0 : 0 ≤ j) (h1 : j ≤ y) :
    (Instr.sliceBound (ca.eval x) y code).run P w = .ok j.toNat w := by
  unfold abound at h
  split at h
  · rename_i h'; cases h'
  · rename_i x' h'
    cases h'
    split at h
    · rename_i k j' hj
      cases h
      have := hs.ev hx
      rw [hj] at this
      rw [this.int_inv]
      simp [Instr.sliceBound, asIntOf, h0, h1]
    · cases h
theorem run_sliceBounds {P : Program} {ρ : Rho} {ca : Act} {w : World} (hs : SR ρ n s ca) {lo hi : Option Operand} (hlo : ∀ x, lo = some x → okO n x = true) (hhi : ∀ x, hi = some x → okO n x = true)
    {l h : Int} {len cap : Nat} (isS : Bool) (hl : abound s 0 lo = some l) (hh : abound s len hi = some h) (h0 : 0 ≤ l) (h1 : l ≤ h) (h2 : h ≤ len) (hcap : len ≤ cap) :
    (Instr.sliceBounds isS len cap (lo.map ca.eval) (hi.map ca.eval) none).run P w = .ok (l.toNat, h.toNat, cap) w := by
  have e1 : ∀ (y : Nat), (h ≤ y) → ∀ code, (match hi.map ca.eval with | some v => Instr.sliceBound v y code | none => pure len : Sem Nat).run P w = .ok h.toNat w := by
    intro y hy code
    cases hi with
    | none => simp only [abound, Option.some.injEq] at hh; subst hh; simp
    | some x => exact abound_run hs (hhi x rfl) hh y code (by omega) hy
  have e2 : (match lo.map ca.eval with | some v => Instr.sliceBound v h.toNat .sliceB | none => pure 0 : Sem Nat).run P w = .ok l.toNat w := by
    cases lo with
    | none => simp only [abound, Option.some.injEq] at hl; subst hl; simp
    | some x => exact abound_run hs (hlo x rfl) hl _ _ h0 (by omega)
  unfold Instr.sliceBounds
  have e1' := e1 cap (by omega) (if isS then .sliceAcap else .sliceAlen)
  cases hi <;> cases lo <;> simp only [Option.map_none, Option.map_some] at e1' e2 ⊢ <;>
    simp only [Sem.run_bind, Sem.run_pure, Result.andThen_ok, e1', Option.isSome_none, Bool.false_eq_true, if_false, e2] <;> simp_all
theorem ok_slice {t el : TypeId} {x : Operand} {lo hi : Option Operand} {i : TypeInfo} {id off len e : Nat} {l h : Int} (ho : o.op = .slice t x lo hi none) (hx : okO n x = true)
    (hlo : ∀ x, lo = some x → okO n x = true) (hhi : ∀ x, hi = some x → okO n x = true)
    (hp : ev s x = .slice (some ⟨id, off, none⟩) len e) (ht : P.underlying t = some (.slice el)) (hi' : P.info? el = some i) (he : i.size = e)
    (hl : abound s 0 lo = some l) (hh : abound s len hi = some h) (h0 : 0 ≤ l) (h1 : l ≤ h) (h2 : h ≤ len) :
    OpOK P n s o M (.slice (some ⟨id, off + l.toNat * e, none⟩) (h - l).toNat e) M :=
  OpOK.same fun ρ ca w hs => by
    have hv := hs.ev hx
    rw [hp] at hv
    obtain ⟨_, pl, o', cap, hpl, hc, hle, hor⟩ := hv.slice_inv
    have hb := run_sliceBounds (P := P) (w := w) hs hlo hhi true hl hh h0 h1 h2 hle
    rcases hor with ⟨ho', hext⟩ | ⟨hl0, hc0⟩
    case inr =>
      subst hl0 hc0
      have hl1 : l.toNat = 0 := by omega
      have hh1 : h.toNat = 0 := by omega
      refine ⟨.value (.slice (some o') 0 0), _, ?_, rfl, ?_⟩
      · simp [execOp, ho, Instr.sliceAt, Instr.slice, hc, run_underlying ht, hb, run_sizeOf' hi', he, hl1, hh1]
      · rw [show (h - l).toNat = 0 from by omega]; exact .sliceE hpl
    dsimp only at ho' hext
    subst ho'
    refine ⟨.value (.slice (some (if cap = l.toNat then ⟨pl.block, pl.base + off, none⟩ else ⟨pl.block, pl.base + off + l.toNat * e, none⟩)) (h.toNat - l.toNat) (cap - l.toNat)), _, ?_, rfl, ?_⟩
    · simp [execOp, ho, Instr.sliceAt, Instr.slice, hc, run_underlying ht, hb, run_sizeOf' hi', he, Addr.add_off]
      split <;> simp
    · have hlen : (h - l).toNat = h.toNat - l.toNat := by omega
      rw [hlen]
      by_cases hz : cap = l.toNat
      · rw [if_pos hz]
        have : h.toNat - l.toNat = 0 := by omega
        rw [this, show cap - l.toNat = 0 from by omega]
        exact .sliceE hpl
      · rw [if_neg hz]
        rw [Nat.add_assoc]
        refine .slice hpl (by omega) ?_
        have hlc : l.toNat ≤ cap := by omega
        have : off + l.toNat * e + (cap - l.toNat) * e = off + cap * e := by
          rw [Nat.sub_mul]
          have := Nat.mul_le_mul_right e hlc
          omega
        omega
theorem ok_slice_nil {t el : TypeId} {x : Operand} {lo hi : Option Operand} {i : TypeInfo} {l h : Int} (ho : o.op = .slice t x lo hi none) (hx : okO n x = true)
    (hlo : ∀ x, lo = some x → okO n x = true) (hhi : ∀ x, hi = some x → okO n x = true)
    (hp : ev s x = .slice none 0 0) (ht : P.underlying t = some (.slice el)) (hi' : P.info? el = some i)
    (hl : abound s 0 lo = some l) (hh : abound s 0 hi = some h) (h0 : l = 0) (h1 : h = 0) :
    OpOK P n s o M (.slice none 0 0) M :=
  OpOK.same fun ρ ca w hs => by
    have hv := hs.ev hx
    rw [hp] at hv
    have hc := VR.scalar_inv rfl hv
    subst h0 h1
    have hb := run_sliceBounds (P := P) (w := w) (len := 0) (cap := 0) hs hlo hhi true hl hh (by omega) (by omega) (by omega) (Nat.le_refl _)
    refine ⟨.value (.slice none 0 0), _, ?_, rfl, .scalar rfl⟩
    simp [execOp, ho, Instr.sliceAt, Instr.slice, hc, run_underlying ht, hb, run_sizeOf' hi']
theorem ok_slice_arr {t el : TypeId} {x : Operand} {lo hi : Option Operand} {i : TypeInfo} {id off len : Nat} {cs : List Value} {own : Bool} {l h : Int} (ho : o.op = .slice t x lo hi none) (hx : okO n x = true)
    (hlo : ∀ x, lo = some x → okO n x = true) (hhi : ∀ x, hi = some x → okO n x = true)
    (hp : ev s x = .pointer (some ⟨id, off, none⟩)) (ht : P.underlying t = some (.array len el)) (hi' : P.info? el = some i) (hg : M.get id = .cells cs own) (hcs : off + len * i.size ≤ cs.length)
    (hl : abound s 0 lo = some l) (hh : abound s len hi = some h) (h0 : 0 ≤ l) (h1 : l ≤ h) (h2 : h ≤ len) :
    OpOK P n s o M (.slice (some ⟨id, off + l.toNat * i.size, none⟩) (h - l).toNat i.size) M := by
  intro F ρ ca w hs hM
  have hv := hs.ev hx
  rw [hp] at hv
  obtain ⟨_, pl, hpl, hc⟩ := hv.ptr_inv
  have hb := run_sliceBounds (P := P) (w := w) hs hlo hhi false hl hh h0 h1 h2 (Nat.le_refl len)
  have hob := hM.obj id pl hpl
  rw [hg] at hob
  obtain ⟨C, e', a, b, g1, g2, _⟩ := hob
  refine ⟨ρ, .value (.slice (some (if len = l.toNat then ⟨pl.block, pl.base + off, none⟩ else ⟨pl.block, pl.base + off + l.toNat * i.size, none⟩)) (h.toNat - l.toNat) (len - l.toNat)), _, w, ?_, rfl, .refl _ _, Nat.le_refl _, ?_, hM, .refl _ _⟩
  · simp [execOp, ho, Instr.sliceAt, hc, run_underlying ht, hb, run_sizeOf' hi', Addr.add_off, Instr.sureAddr]
  · have hlen : (h - l).toNat = h.toNat - l.toNat := by omega
    rw [hlen]
    by_cases hz : len = l.toNat
    · rw [if_pos hz]
      have : h.toNat - l.toNat = 0 := by omega
      rw [this, show len - l.toNat = 0 from by omega]
      exact .sliceE hpl
    · rw [if_neg hz, Nat.add_assoc]
      refine .slice hpl (by omega) ?_
      have hlc : l.toNat ≤ len := by omega
      have : off + l.toNat * i.size + (len - l.toNat) * i.size = off + len * i.size := by
        rw [Nat.sub_mul]
        have := Nat.mul_le_mul_right i.size hlc
        omega
      omega
end ops
end Go.Proofs.Ytdkdkpiemigfkaa
set_option linter.unusedVariables false
set_option linter.unusedSimpArgs false
namespace Go.Proofs.Ytdkdkpiemigfkaa
open Go
def VRl (ρ : Rho) (xs ys : List Value) : Prop := xs.length = ys.length ∧ ∀ (i : Nat) (x y : Value), xs[i]? = some x → ys[i]? = some y → VR ρ x y
theorem VRs.toList {ρ : Rho} {xs ys : Array Value} (h : VRs ρ xs ys) : VRl ρ xs.toList ys.toList :=
  ⟨by simp [h.1], fun i x y hx hy => h.2 i x y (by simpa using hx) (by simpa using hy)⟩
theorem VRl.toArray {ρ : Rho} {xs ys : List Value} (h : VRl ρ xs ys) : VRs ρ xs.toArray ys.toArray :=
  ⟨by simp [h.1], fun i x y hx hy => h.2 i x y (by simpa using hx) (by simpa using hy)⟩
theorem VRl.get {ρ : Rho} {xs ys : List Value} (h : VRl ρ xs ys) {i : Nat} {x : Value} (hx : xs[i]? = some x) : ∃ y, ys[i]? = some y ∧ VR ρ x y := by
  have hi : i < xs.length := (List.getElem?_eq_some_iff.1 hx).1
  have hi' : i < ys.length := h.1 ▸ hi
  exact ⟨ys[i], List.getElem?_eq_getElem hi', h.2 i x ys[i] hx (List.getElem?_eq_getElem hi')⟩
theorem VRl.mono {ρ ρ' : Rho} (hρ : ∀ i pl, ρ i = some pl → ρ' i = some pl) {v c : List Value} (h : VRl ρ v c) : VRl ρ' v c :=
  ⟨h.1, fun i x y hx hy => (h.2 i x y hx hy).mono hρ⟩
theorem VRl.nil (ρ : Rho) : VRl ρ [] [] := ⟨rfl, fun i x y hx => by simp at hx⟩
theorem VRl.set {ρ : Rho} {xs ys : List Value} (h : VRl ρ xs ys) (k : Nat) {v c : Value} (hv : VR ρ v c) : VRl ρ (xs.set k v) (ys.set k c) := by
  refine ⟨by simp [h.1], fun i x y hx hy => ?_⟩
  rw [List.getElem?_set] at hx hy
  by_cases hk : k = i
  · subst hk
    rw [if_pos rfl] at hx hy
    by_cases hl : k < xs.length
    · rw [if_pos hl] at hx; rw [if_pos (h.1 ▸ hl)] at hy
      cases hx; cases hy; exact hv
    · rw [if_neg hl] at hx; cases hx
  · rw [if_neg hk] at hx hy
    exact h.2 i x y hx hy
theorem VRl.aput {ρ : Rho} : ∀ (vs cvs : List Value) (k : Nat) (xs ys : List Value), VRl ρ xs ys → VRl ρ vs cvs → VRl ρ (aput xs k vs) (aput ys k cvs) := by
  intro vs
  induction vs with
  | nil => intro cvs k xs ys h hv; cases cvs with
    | nil => exact h
    | cons _ _ => simp [VRl] at hv
  | cons v vs ih =>
    intro cvs k xs ys h hv
    cases cvs with
    | nil => simp [VRl] at hv
    | cons c cvs =>
      have h0 : VR ρ v c := hv.2 0 v c rfl rfl
      exact ih cvs (k + 1) _ _ (h.set k h0) ⟨by simpa using hv.1, fun i x y hx hy => hv.2 (i + 1) x y (by simpa using hx) (by simpa using hy)⟩
theorem VRl.append {ρ : Rho} {xs ys xs' ys' : List Value} (h : VRl ρ xs ys) (h' : VRl ρ xs' ys') : VRl ρ (xs ++ xs') (ys ++ ys') := by
  refine ⟨by simp [h.1, h'.1], fun i x y hx hy => ?_⟩
  rw [List.getElem?_append] at hx hy
  by_cases hl : i < xs.length
  · rw [if_pos hl] at hx; rw [if_pos (h.1 ▸ hl)] at hy; exact h.2 i x y hx hy
  · rw [if_neg hl] at hx; rw [if_neg (h.1 ▸ hl)] at hy; exact h'.2 _ x y hx (h.1 ▸ hy)
theorem VRl.drop {ρ : Rho} {xs ys : List Value} (h : VRl ρ xs ys) (k : Nat) : VRl ρ (xs.drop k) (ys.drop k) :=
  ⟨by simp [h.1], fun i x y hx hy => h.2 (k + i) x y (by simpa using hx) (by simpa using hy)⟩
theorem VRl.take {ρ : Rho} {xs ys : List Value} (h : VRl ρ xs ys) (k : Nat) : VRl ρ (xs.take k) (ys.take k) := by
  refine ⟨by simp [h.1], fun i x y hx hy => ?_⟩
  rw [List.getElem?_take] at hx hy
  split at hx
  · rw [if_pos (by assumption)] at hy; exact h.2 i x y hx hy
  · cases hx
theorem VRl.flat {ρ : Rho} {xs : List Value} {k : Nat} (h : xs.all (flatN k) = true) : VRl ρ xs xs :=
  ⟨rfl, fun i x y hx hy => by
    rw [hx] at hy; cases hy
    exact flatN_refl k x (List.all_eq_true.1 h x (List.mem_of_getElem? hx))⟩
def afill (place : Nat → Option (Nat × Nat)) : List Value → List (Nat × Value) → Option (List Value)
  | cs, [] => some cs
  | cs, (i, v) :: rest =>
    match place i with
    | none => none
    | some (off, size) => if v.cells.size = size ∧ off + v.cells.size ≤ cs.length then afill place (aput cs off v.cells.toList) rest else none
theorem foldl_zipIdx_set (off : Nat) : ∀ (l : List Value) (k : Nat) (C : Array Value),
    ((l.zipIdx k).foldl (fun (cs : Array Value) (x : Value × Nat) => cs.setIfInBounds (off + x.2) x.1) C).toList = aput C.toList (off + k) l := by
  intro l
  induction l with
  | nil => intro k C; rfl
  | cons v l ih =>
    intro k C
    simp only [List.zipIdx_cons, List.foldl_cons, aput]
    rw [ih (k + 1)]
    rw [Array.toList_setIfInBounds]
    rw [show off + (k + 1) = off + k + 1 from by omega]
theorem afill_run {ρ : Rho} {place : Nat → Option (Nat × Nat)} : ∀ (ps cps : List (Nat × Value)) (cs cs' : List Value) (C : Array Value), afill place cs ps = some cs' → VRl ρ cs C.toList → ps.length = cps.length →
    (∀ (i : Nat) (p q : Nat × Value), ps[i]? = some p → cps[i]? = some q → p.1 = q.1 ∧ VR ρ p.2 q.2) → ∃ C', Instr.fill place C cps = some C' ∧ VRl ρ cs' C'.toList := by
  intro ps
  induction ps with
  | nil =>
    intro cps cs cs' C h hr hl hp
    cases cps with
    | cons _ _ => simp at hl
    | nil => simp only [afill, Option.some.injEq] at h; subst h; exact ⟨C, rfl, hr⟩
  | cons p ps ih =>
    intro cps cs cs' C h hr hl hp
    cases cps with
    | nil => simp at hl
    | cons q cps =>
      obtain ⟨i, v⟩ := p
      obtain ⟨j, c⟩ := q
      obtain ⟨hij, hvc⟩ := hp 0 (i, v) (j, c) rfl rfl
      simp only at hij hvc
      subst hij
      have hcells := hvc.cells
      simp only [afill] at h
      cases hpl : place i with
      | none => rw [hpl] at h; cases h
      | some x =>
        obtain ⟨off, size⟩ := x
        simp only [hpl] at h
        split at h <;> rename_i hc
        · obtain ⟨C', h1, h2⟩ := ih cps _ cs' (c.cells.zipIdx.foldl (fun cs (x : Value × Nat) => cs.setIfInBounds (off + x.2) x.1) C) h (by
            rw [← Array.foldl_toList, Array.toList_zipIdx, foldl_zipIdx_set]
            exact VRl.aput _ _ _ _ _ hr (VRs.toList hcells)) (by simpa using hl) (fun k p q hp' hq' => hp (k + 1) p q (by simpa using hp') (by simpa using hq'))
          refine ⟨C', ?_, h2⟩
          simp only [Instr.fill, hpl]
          have hlen : cs.length = C.size := by rw [hr.1]; simp
          rw [if_neg (by simp; rw [← hcells.1]; omega)]
          exact h1
        · cases h
def abuild (P : Program) (t : TypeId) (ps : List (Nat × Value)) : Option (List Value) :=
  match P.underlying t, P.info? t with
  | some (.struct fs), some i =>
    match i.zero, peval P (fs.mapM fun f => Prod.mk f.offset <$> sizeOf f.type) with
    | some z, some pl => if flat z then afill (pl[·]?) z.cells.toList ps else none
    | _, _ => none
  | some (.array _ el), some i =>
    match i.zero, P.info? el with
    | some z, some ie => if flat z then afill (fun j => some (j * ie.size, ie.size)) z.cells.toList ps else none
    | _, _ => none
  | _, _ => none
theorem flat_cells {ρ : Rho} {z : Value} (hz : flat z = true) : VRl ρ z.cells.toList z.cells.toList :=
  VRs.toList ((flat_refl (ρ := ρ) hz).cells)
section ops
variable {P : Program} {n : Nat} {s : Slots} {o : Oper} {M : AMem}
theorem parts_rel {ρ : Rho} {ca : Act} (hs : SR ρ n s ca) {ps : Array (Nat × Operand)} (hok : ps.all (fun p => okO n p.2) = true) :
    (ps.toList.map fun p => (p.1, ev s p.2)).length = (ps.toList.map fun x => (x.1, ca.eval x.2)).length ∧
    ∀ (i : Nat) (p q : Nat × Value), (ps.toList.map fun p => (p.1, ev s p.2))[i]? = some p → (ps.toList.map fun x => (x.1, ca.eval x.2))[i]? = some q → p.1 = q.1 ∧ VR ρ p.2 q.2 := by
  refine ⟨by simp, fun i p q hp hq => ?_⟩
  simp only [List.getElem?_map, Option.map_eq_some_iff, Array.getElem?_toList] at hp hq
  obtain ⟨x, hx, rfl⟩ := hp
  obtain ⟨y, hy, rfl⟩ := hq
  rw [hx] at hy
  cases hy
  refine ⟨rfl, hs.ev ?_⟩
  have hm : x ∈ ps := Array.mem_of_getElem? hx
  exact Array.all_eq_true'.1 hok x hm
theorem ok_build {t : TypeId} {ps : Array (Nat × Operand)} {cs : List Value} (ho : o.op = .build t ps) (hok : ps.all (fun p => okO n p.2) = true)
    (hb : abuild P t (ps.toList.map fun p => (p.1, ev s p.2)) = some cs) : OpOK P n s o M (.agg cs.toArray) M :=
  OpOK.same fun ρ ca w hs => by
    obtain ⟨hl, hp⟩ := parts_rel hs hok
    unfold abuild at hb
    split at hb <;> rename_i ht hi
    · rename_i fs i
      split at hb <;> rename_i hz hpl
      · rename_i z pl
        split at hb <;> rename_i hf
        · obtain ⟨C', h1, h2⟩ := afill_run (ρ := ρ) _ _ _ cs z.cells hb (flat_cells hf) hl hp
          refine ⟨.value (.agg C'), _, ?_, rfl, .agg ?_ ?_⟩
          · simp [execOp, ho, Instr.build, run_zero hi hz, run_underlying ht, peval_run hpl, h1]
          · simpa using h2.1
          · intro i x y hx hy; exact h2.2 i x y (by simpa using hx) (by simpa using hy)
        · cases hb
      · cases hb
    · rename_i m el i
      split at hb <;> rename_i hz hie
      · rename_i z ie
        split at hb <;> rename_i hf
        · obtain ⟨C', h1, h2⟩ := afill_run (ρ := ρ) _ _ _ cs z.cells hb (flat_cells hf) hl hp
          refine ⟨.value (.agg C'), _, ?_, rfl, .agg ?_ ?_⟩
          · simp [execOp, ho, Instr.build, run_zero hi hz, run_underlying ht, run_sizeOf' hie, h1]
          · simpa using h2.1
          · intro i x y hx hy; exact h2.2 i x y (by simpa using hx) (by simpa using hy)
        · cases hb
      · cases hb
    · cases hb
def zeroRow (z : Value) (k : Nat) : List Value := (((Array.range k).map (z.cells[· % z.cells.size]!)) : Array Value).toList
def abuildSlice (P : Program) (t : TypeId) (len : Nat) (ps : List (Nat × Value)) : Option (Nat × List Value) :=
  match P.underlying t with
  | some (.slice el) =>
    match P.info? el with
    | some ie =>
      match ie.zero with
      | some z => if len * ie.size ≤ 2 ^ 24 ∧ len * ie.size ≠ 0 ∧ (zeroRow z (len * ie.size)).all (flatN 3) = true then
          (afill (fun j => some (j * ie.size, ie.size)) (zeroRow z (len * ie.size)) ps).map fun cs => (ie.size, cs) else none
      | none => none
    | none => none
  | _ => none
theorem ok_buildSlice {t : TypeId} {len e : Nat} {ps : Array (Nat × Operand)} {cs : List Value} (ho : o.op = .buildSlice t len ps) (hok : ps.all (fun p => okO n p.2) = true)
    (hb : abuildSlice P t len (ps.toList.map fun p => (p.1, ev s p.2)) = some (e, cs)) :
    OpOK P n s o M (.slice (some ⟨M.next, 0, none⟩) len e) (M.alloc (.cells cs true)) := by
  intro F ρ ca w hs hM
  obtain ⟨hl, hp⟩ := parts_rel hs hok
  unfold abuildSlice at hb
  split at hb
  · rename_i el ht
    split at hb
    · rename_i ie hi
      split at hb
      · rename_i z hz
        split at hb <;> rename_i hc
        · obtain ⟨cs', hfill, heq⟩ := Option.map_eq_some_iff.1 hb
          cases heq
          have hzr : VRl ρ (zeroRow z (len * ie.size)) ((Array.range (len * ie.size)).map (z.cells[· % z.cells.size]!)).toList := VRl.flat hc.2.2
          obtain ⟨C', h1, h2⟩ := afill_run (ρ := ρ) _ _ _ cs _ hfill hzr hl hp
          have hsz : C'.size = len * ie.size := by
            have e1 : cs.length = len * ie.size := by
              have : ∀ (ps : List (Nat × Value)) (a b : List Value), afill (fun j => some (j * ie.size, ie.size)) a ps = some b → b.length = a.length := by
                intro ps
                induction ps with
                | nil => intro a b h; simp only [afill, Option.some.injEq] at h; rw [h]
                | cons p ps ih =>
                  intro a b h
                  simp only [afill] at h
                  split at h
                  · rw [ih _ _ h, aput_length]
                  · cases h
              rw [this _ _ _ hfill]; simp [zeroRow]
            have := h2.1
            simp at this
            omega
          obtain ⟨k1, k2, k3, k4⟩ := hM.newCells (vs := cs) (C := C') el true C'.size (Nat.le_refl _) (by rw [h2.1]; simp) (fun j v hj => by
            obtain ⟨c, hc', hv⟩ := h2.get hj
            exact ⟨c, by simpa using hc', hv⟩)
          refine ⟨_, .value (.slice (some ⟨w.heap.size, 0, none⟩) len len), _, _, ?_, rfl, k2, by simp, ?_, k1, k3⟩
          · simp [execOp, ho, Instr.buildSlice, run_underlying ht, run_sizeOf' hi, hc.1, hc.2.1, run_zero hi hz, h1, newRow]
            first | done | (rw [if_neg (by omega)]; simp [h1])
          · exact .slice (pl := ⟨w.heap.size, 0, C'.size⟩) k4 (Nat.le_refl _) (by simp [hsz])
        · cases hb
      · cases hb
    · cases hb
  · cases hb
theorem ok_extract {x : Operand} {k : Nat} {vs : Array Value} {v : Value} (ho : o.op = .extract x k) (hx : okO n x = true) (ht : ev s x = .tuple vs) (hv : vs[k]? = some v) : OpOK P n s o M v M :=
  OpOK.same fun ρ ca w hs => by
    have h := hs.ev hx
    rw [ht] at h
    obtain ⟨ys, hc, hr⟩ := h.tuple_inv
    obtain ⟨y, hy, hvy⟩ := hr.get hv
    exact ⟨.value y, y, by simp [execOp, ho, hc, Instr.extract, hy], rfl, hvy⟩
def apart (P : Program) (t : TypeId) (cs : List Value) (off : Nat) : Option Value :=
  match P.underlying t, P.info? t with
  | some d, some i => if aggD d then (if off + i.size ≤ cs.length then some (.agg ((cs.drop off).take i.size).toArray) else none) else cs[off]?
  | _, _ => none
theorem apart_run {ρ : Rho} {t : TypeId} {cs : Array Value} {C : Array Value} {off : Nat} {v : Value} (h : apart P t cs.toList off = some v) (hr : VRs ρ cs C) (w : World) :
    ∃ c, (part t C off).run P w = .ok c w ∧ VR ρ v c := by
  unfold apart at h
  split at h <;> rename_i hd hi
  · rename_i d i
    simp only [part, Sem.run_bind, run_isAggD hd, Result.andThen_ok]
    split at h <;> rename_i ha
    · split at h <;> rename_i hle
      · cases h
        refine ⟨.agg (C.extract off (off + i.size)), by simp [ha, run_sizeOf' hi], .agg ?_ ?_⟩
        · have := hr.1; simp at hle ⊢; omega
        · intro j x y hx hy
          have hr' := ((VRs.toList hr).drop off).take i.size
          refine hr'.2 j x y (by simpa using hx) ?_
          have e1 : (C.extract off (off + i.size)).toList = (C.toList.drop off).take i.size := by
            rw [Array.toList_extract]; simp
          rw [← e1]
          simpa only [Array.getElem?_toList] using hy
      · cases h
    · have h' : cs[off]? = some v := by simpa using h
      obtain ⟨c, hc, hv⟩ := hr.get h'
      exact ⟨c, by simp [ha, hc], hv⟩
  · cases h
theorem ok_field {t : TypeId} {x : Operand} {f : Nat} {fs : Array Field} {fd : Field} {cs : Array Value} {v : Value} (ho : o.op = .field t x f) (hx : okO n x = true)
    (ha : ev s x = .agg cs) (ht : P.underlying t = some (.struct fs)) (hf : fs[f]? = some fd) (hv : apart P fd.type cs.toList fd.offset = some v) : OpOK P n s o M v M :=
  OpOK.same fun ρ ca w hs => by
    have h := hs.ev hx
    rw [ha] at h
    obtain ⟨C, hc, hr⟩ := h.agg_inv
    obtain ⟨c, h1, h2⟩ := apart_run hv hr w
    exact ⟨.value c, c, by simp [execOp, ho, Instr.field, run_underlying ht, hf, hc, asAgg, h1], rfl, h2⟩
theorem ok_makeFunc {fn : Fn} {f c : Array Operand} (ho : o.op = .makeFunc fn f c) (hp : plainFn fn = true) (hf : f.all (okO n) = true) (hc : c.all (okO n) = true) :
    OpOK P n s o M (.func fn (f.map (ev s)) (c.map (ev s))) M :=
  OpOK.same fun ρ ca w hs => by
    have key : ∀ (xs : Array Operand), xs.all (okO n) = true → ∀ (i : Nat) (x y : Value), (xs.map (ev s))[i]? = some x → (xs.map ca.eval)[i]? = some y → VR ρ x y := by
      intro xs hxs i x y hx hy
      simp only [Array.getElem?_map, Option.map_eq_some_iff] at hx hy
      obtain ⟨a, ha, rfl⟩ := hx
      obtain ⟨b, hb, rfl⟩ := hy
      rw [ha] at hb
      cases hb
      exact hs.ev (Array.all_eq_true'.1 hxs a (Array.mem_of_getElem? ha))
    exact ⟨.value (.func fn (f.map ca.eval) (c.map ca.eval)), _, by simp [execOp, ho, Instr.makeFunc], rfl, .func hp (by simp) (key f hf) (by simp) (key c hc)⟩
theorem ok_makeMap {t : TypeId} (ho : o.op = .makeMap t none) : OpOK P n s o M (.map (some M.next)) (M.alloc (.map [])) := by
  intro F ρ ca w hs hM
  obtain ⟨h1, h2, h3⟩ := hM.alloc (o := .map []) (x := .map #[] 0) (ext := 0) (fun ρ' hup =>
    ⟨hM.top _ (Nat.le_refl _), #[], 0, by show (w.heap.push _)[w.heap.size]? = _; simp, rfl, ⟨fun i e he => by simp at he, fun i j e f he => by simp at he⟩, fun i k v hv => by simp at hv⟩)
  refine ⟨_, .value (.map (some w.heap.size)), _, _, ?_, rfl, h2, by simp, .map (pl := ⟨w.heap.size, 0, 0⟩) (by simp [Rho.put]), h1, h3⟩
  simp [execOp, ho, Instr.makeMap]
theorem ok_makeIface {t : TypeId} {x : Operand} {d : TypeDesc} (ho : o.op = .makeInterface t x) (hx : okO n x = true) (ht : P.underlying t = some d) (hd : ∀ m, d ≠ .interface m) :
    OpOK P n s o M (.iface t (ev s x)) M :=
  OpOK.same fun ρ ca w hs => by
    refine ⟨.value (.iface t (ca.eval x)), _, ?_, rfl, .iface (hs.ev hx)⟩
    simp only [execOp, ho, Instr.makeInterface, Sem.run_bind, run_underlying ht, Result.andThen_ok]
    cases d <;> first | rfl | exact absurd rfl (hd _)
theorem ok_len_slice {t el : TypeId} {x : Operand} {at_ : Array TypeId} {a : Option Addr} {len e : Nat} (ho : o.op = .call { callee := .builtin .len, args := #[x], argTypes := #[t] }) (hx : okO n x = true)
    (hp : ev s x = .slice a len e) (ht : P.underlying t = some (.slice el)) : OpOK P n s o M (.int .i64 len) M :=
  OpOK.same fun ρ ca w hs => by
    have h := hs.ev hx
    rw [hp] at h
    have hc : ∃ a' cap, ca.eval x = .slice a' len cap := by
      cases a with
      | none =>
        generalize ca.eval x = y at h
        cases h; exact ⟨_, _, rfl⟩
      | some a => obtain ⟨_, pl, o', cap, _, hc, _⟩ := h.slice_inv; exact ⟨_, _, hc⟩
    obtain ⟨a', cap, hc⟩ := hc
    exact ⟨.value (.int .i64 len), _, by simp [execOp, ho, resolve, invoke, builtin, Builtin.len_, hc, run_underlying ht, goInt], rfl, .scalar rfl⟩
theorem ok_len_map {t a b : TypeId} {x : Operand} {id : Nat} {es : List (Value × Value)} (ho : o.op = .call { callee := .builtin .len, args := #[x], argTypes := #[t] }) (hx : okO n x = true)
    (hp : ev s x = .map (some id)) (ht : P.underlying t = some (.map a b)) (hg : M.get id = .map es) : OpOK P n s o M (.int .i64 es.length) M := by
  intro F ρ ca w hs hM
  have h := hs.ev hx
  rw [hp] at h
  obtain ⟨pl, hpl, hc⟩ := h.map_inv
  have hob := hM.obj id pl hpl
  rw [hg] at hob
  obtain ⟨_, E, clock, hE, hlen, _⟩ := hob
  refine ⟨ρ, .value (.int .i64 es.length), _, w, ?_, rfl, .refl _ _, Nat.le_refl _, .scalar rfl, hM, .refl _ _⟩
  simp [execOp, ho, resolve, invoke, builtin, Builtin.len_, hc, run_underlying ht, goInt, getObj, Sem.run, hE, hlen]
end ops
end Go.Proofs.Ytdkdkpiemigfkaa
set_option linter.unusedVariables false
set_option linter.unusedSimpArgs false
namespace Go.Proofs.Ytdkdkpiemigfkaa
open Go
theorem aput_get (vs : List Value) : ∀ (cs : List Value) (off i : Nat), off + vs.length ≤ cs.length →
    (aput cs off vs)[i]? = if off ≤ i ∧ i < off + vs.length then vs[i - off]? else cs[i]? := by
  induction vs with
  | nil => intro cs off i h; simp only [aput, List.length_nil]; rw [if_neg (by omega)]
  | cons v vs ih =>
    intro cs off i h
    simp only [List.length_cons] at h ⊢
    rw [aput, ih _ _ _ (by simp; omega)]
    by_cases h1 : i = off
    · subst h1
      rw [if_neg (by omega), if_pos (by omega), List.getElem?_set_self (by omega), Nat.sub_self]
      rfl
    · by_cases h2 : off + 1 ≤ i ∧ i < off + 1 + vs.length
      · rw [if_pos h2, if_pos (by omega)]
        rw [show i - off = (i - (off + 1)) + 1 from by omega, List.getElem?_cons_succ]
      · rw [if_neg h2, if_neg (by omega), List.getElem?_set_ne (by omega)]
theorem storeCells_raw {P : Program} {b : Nat} {e : TypeId} {lo hi : Nat} : ∀ (cvs : List Value) (o k : Nat) (C : Array Value) (w : World), w.heap[b]? = some (.cells C e (lo, hi)) → o + k + cvs.length ≤ C.size →
    (∀ i, i < cvs.length → ¬ (lo ≤ o + k + i ∧ o + k + i < hi)) → cvs.all (·.oneCell') = true →
    ∃ w' C', (storeCells ⟨b, o, none⟩ cvs k).run P w = .ok () w' ∧ w'.heap[b]? = some (.cells C' e (lo, hi)) ∧ C'.toList = aput C.toList (o + k) cvs ∧ w'.heap.size = w.heap.size ∧
      (∀ b', b' ≠ b → w'.heap[b']? = w.heap[b']?) ∧ w'.os = w.os ∧ w'.tape = w.tape ∧ w'.output = w.output := by
  intro cvs
  induction cvs with
  | nil => intro o k C w h _ _ _; exact ⟨w, C, rfl, h, rfl, rfl, fun _ _ => rfl, rfl, rfl, rfl⟩
  | cons c cvs ih =>
    intro o k C w h hl hf h1
    simp only [List.length_cons] at hl hf
    simp only [List.all_cons, Bool.and_eq_true] at h1
    have hcell : w.cell? ⟨b, o + k, none⟩ = some (C[o + k]'(by omega)) := by simp [World.cell?, h]
    have hfz : w.frozen? ⟨b, o + k, none⟩ = false := by
      have hq := hf 0 (by omega)
      unfold World.frozen?
      rw [h]
      cases hd : (decide (lo ≤ o + k) && decide (o + k < hi)) with
      | false => exact hd
      | true => rw [Bool.and_eq_true, decide_eq_true_iff, decide_eq_true_iff] at hd; exact absurd hd (by simpa using hq)
    have hblk : (w.setCell ⟨b, o + k, none⟩ c).heap[b]? = some (.cells (C.setIfInBounds (o + k) c) e (lo, hi)) := by
      simp [World.setCell, Array.getElem?_modify, h]
    obtain ⟨w', C', r, g1, g2, g3, g4, g5, g6, g7⟩ := ih o (k + 1) _ _ hblk (by simp; omega) (fun i hi' => by have := hf (i + 1) (by omega); simpa [Nat.add_assoc, Nat.add_comm 1 i] using this) h1.2
    refine ⟨w', C', ?_, g1, ?_, g3.trans (by simp), fun b' hb' => (g4 b' hb').trans ?_, g5, g6, g7⟩
    · simp only [storeCells, Sem.run_bind, Addr.add_off]
      rw [run_store P w _ c .plain h1.1, hcell]
      simp [hfz, r]
    · rw [g2, Array.toList_setIfInBounds]; rfl
    · simp only [World.setCell, Array.getElem?_modify]
      rw [if_neg (by exact fun e => hb' e.symm)]
theorem Sim.regrow {F : Nat → Prop} {ρ : Rho} {M : AMem} {w w' : World} (h : Sim F ρ M w) {k : Nat} {pl pl' : Pl} {o : AObj} (hk : ρ k = some pl) (hown : (M.get k).own = true)
    (hsz : w'.heap.size = w.heap.size) (hoth : ∀ b, b ≠ pl.block → w'.heap[b]? = w.heap[b]?) (hb : pl'.block = pl.block)
    (hobj : ∀ ρ', (∀ i p, ρ i = some p → ρ' i = some p) → ObjR F ρ' pl' w' o) (hos : w'.os = w.os) (htp : w'.tape = w.tape) (hout : w'.output = w.output) :
    Sim F (ρ.put M.next pl') ((M.set k .dead).alloc o) w' ∧ RhoLe M.next ρ (ρ.put M.next pl') ∧ Kept F w w' := by
  have hnone : ρ M.next = none := by
    cases hn : ρ M.next with
    | none => rfl
    | some pl => exact absurd (h.dom _ _ hn) (Nat.lt_irrefl _)
  have hup := Rho.put_up (pl := pl') hnone
  have hlive : (M.get k).live = true := by cases hm : M.get k <;> simp_all [AObj.own, AObj.live]
  refine ⟨⟨fun b hb' => h.top b (hsz ▸ hb'), ?_, ?_, ?_⟩, fun i hi => by unfold Rho.put; rw [if_neg (by omega)], hos, htp, hout, Nat.le_of_eq hsz.symm, ?_⟩
  · intro i p hi
    simp only [Rho.put] at hi
    split at hi
    · subst_vars; simp
    · have := h.dom i p hi; simp; omega
  · intro i p hi
    rw [AMem.get_alloc, AMem.next_set]
    simp only [Rho.put] at hi
    split at hi
    · subst_vars; cases hi; rw [if_pos rfl]; exact hobj _ hup
    · rename_i hne
      rw [if_neg hne, AMem.get_set]
      split
      · trivial
      · rename_i hnk
        exact (h.obj i p hi).carry (fun hl => hoth _ (fun e => h.sep k i pl p hk hi (fun e => hnk e.symm) hown hl e.symm)) hup
  · intro i j pi pj hi hj hij hoi hlj
    rw [AMem.get_alloc, AMem.next_set] at hoi hlj
    simp only [Rho.put] at hi hj
    by_cases h1 : i = M.next
    · have h2 : j ≠ M.next := fun e => hij (h1.trans e.symm)
      rw [if_neg h2] at hlj hj
      rw [if_pos h1] at hi
      cases hi
      rw [AMem.get_set] at hlj
      by_cases h3 : j = k
      · rw [if_pos h3] at hlj; simp [AObj.live] at hlj
      · rw [if_neg h3] at hlj
        rw [hb]
        exact h.sep k j pl pj hk hj (fun e => h3 e.symm) hown hlj
    · rw [if_neg h1] at hoi hi
      rw [AMem.get_set] at hoi
      by_cases h3 : i = k
      · rw [if_pos h3] at hoi; simp [AObj.own] at hoi
      · rw [if_neg h3] at hoi
        by_cases h2 : j = M.next
        · rw [if_pos h2] at hj
          cases hj
          rw [hb]
          exact h.sep i k pi pl hi hk h3 hoi hlive
        · rw [if_neg h2] at hlj hj
          rw [AMem.get_set] at hlj
          by_cases h4 : j = k
          · rw [if_pos h4] at hlj; simp [AObj.live] at hlj
          · rw [if_neg h4] at hlj
            exact h.sep i j pi pj hi hj hij hoi hlj
  · intro b hb'
    exact hoth b (fun e => hb' (e ▸ (h.obj k pl hk).inF hown))
def bcells (s : ByteArray) : List Value := s.data.toList.map fun b => .int .u8 b.toNat
def asrc (M : AMem) (e : Nat) : Value → Option (Nat × List Value)
  | .slice none 0 0 => some (0, [])
  | .slice (some ⟨id, off, none⟩) n e' =>
    match M.get id with
    | .cells cs _ => if e' = e ∧ off + n * e ≤ cs.length then some (n, (cs.drop off).take (n * e)) else none
    | _ => none
  | .string s => if e = 1 then some (s.size, bcells s) else none
  | _ => none
theorem src_run {P : Program} {F : Nat → Prop} {ρ : Rho} {M : AMem} {w : World} (h : Sim F ρ M w) {e n : Nat} {x cx : Value} {cs : List Value} (ha : asrc M e x = some (n, cs)) (hv : VR ρ x cx) :
    (Builtin.lenOf cx).run P w = .ok n w ∧ cs.length = n * e ∧ ∃ C, (Builtin.firstCells e n cx).run P w = .ok C w ∧ VRl ρ cs C.toList := by
  unfold asrc at ha
  split at ha
  · cases ha
    rw [VR.scalar_inv rfl hv]
    exact ⟨rfl, by simp, #[], rfl, .nil ρ⟩
  · rename_i id off n2 e2
    split at ha
    · rename_i cs' own hg
      split at ha <;> rename_i hc
      · cases ha
        obtain ⟨_, pl, o', cap, hpl, hc', hle, hor⟩ := hv.slice_inv
        rw [hc']
        refine ⟨rfl, by simp; omega, ?_⟩
        rcases hor with ⟨ho', _⟩ | ⟨hn0, _⟩
        · obtain ⟨cvs, r, hlen, hr⟩ := h.loads (P := P) hpl hg hc.2
          dsimp only at ho'
          refine ⟨cvs.toArray, ?_, ?_, ?_⟩
          · rw [ho']
            exact r
          · simp [hlen]; omega
          · intro i x y hx hy; exact hr i x y hx (by simpa using hy)
        · subst hn0
          refine ⟨#[], ?_, by simp, fun i x y hx => by simp at hx⟩
          simp only [Builtin.firstCells, Nat.zero_mul]
          rfl
      · cases ha
    · cases ha
  · split at ha <;> rename_i he
    · cases ha
      rw [hv.string_inv]
      refine ⟨rfl, by rw [he]; simp [bcells], ?_⟩
      rename_i s
      refine ⟨(s.extract 0 s.size).data.map fun b => .int .u8 b.toNat, rfl, ?_⟩
      simp only [ByteArray.extract_zero_size]
      have hfl : (bcells s).all (flatN 3) = true := by
        rw [List.all_eq_true]
        intro v hv
        obtain ⟨b, _, rfl⟩ := List.mem_map.1 hv
        rfl
      have := VRl.flat (ρ := ρ) hfl
      simpa [bcells] using this
    · cases ha
  · cases ha
theorem VRl.oneCell {ρ : Rho} {xs ys : List Value} (h : VRl ρ xs ys) (h1 : xs.all (·.oneCell') = true) : ys.all (·.oneCell') = true := by
  rw [List.all_eq_true]
  intro y hy
  obtain ⟨i, hi, rfl⟩ := List.getElem_of_mem hy
  have hix : i < xs.length := h.1 ▸ hi
  have := h.2 i xs[i] ys[i] (List.getElem?_eq_getElem hix) (List.getElem?_eq_getElem hi)
  rw [this.oneCell]
  exact List.all_eq_true.1 h1 _ (List.getElem_mem hix)
section ops
variable {P : Program} {n : Nat} {s : Slots} {o : Oper} {M : AMem}
theorem append_room {w w' : World} {t tx el : TypeId} {i : TypeInfo} {dx : TypeDesc} {a : Addr} {sLen sCap m : Nat} {x : Value} {C : Array Value} (ht : P.underlying t = some (.slice el)) (hi : P.info? el = some i)
    (htx : P.underlying tx = some dx) (hdx : ∀ k, dx ≠ .int k) (hlen : (Builtin.lenOf x).run P w = .ok m w) (hc : (Builtin.firstCells i.size m x).run P w = .ok C w) (ty : TypeId)
    (hroom : sLen + m ≤ sCap) (hst : (storeCells (a.add (sLen * i.size)) C.toList).run P w = .ok () w') :
    (Builtin.append_ #[t, tx] ty #[.slice (some a) sLen sCap, x]).run P w = .ok (.slice (some a) (sLen + m) sCap) w' := by
  simp only [Builtin.append_, List.getElem?_toArray, List.getElem?_cons_zero, List.getElem?_cons_succ, Sem.run_bind, run_underlying ht, Result.andThen_ok, run_sizeOf' hi, Sem.run_pure, run_underlying htx]
  cases dx <;> first
    | exact absurd rfl (hdx _)
    | simp only [Bool.false_eq_true, if_false, Sem.run_bind, hlen, Result.andThen_ok, if_pos hroom, Bool.not_false, if_true, hc, hst, Sem.run_pure]
theorem append_none {w : World} {t tx el : TypeId} {i : TypeInfo} {dx : TypeDesc} {base : Option Addr} {sLen sCap : Nat} {x : Value} {C : Array Value} (ht : P.underlying t = some (.slice el)) (hi : P.info? el = some i)
    (htx : P.underlying tx = some dx) (hdx : ∀ k, dx ≠ .int k) (hlen : (Builtin.lenOf x).run P w = .ok 0 w) (hc : (Builtin.firstCells i.size 0 x).run P w = .ok C w) (hC : C.toList = []) (ty : TypeId)
    (hroom : sLen ≤ sCap) :
    (Builtin.append_ #[t, tx] ty #[.slice base sLen sCap, x]).run P w = .ok (.slice base sLen sCap) w := by
  simp only [Builtin.append_, List.getElem?_toArray, List.getElem?_cons_zero, List.getElem?_cons_succ, Sem.run_bind, run_underlying ht, Result.andThen_ok, run_sizeOf' hi, Sem.run_pure, run_underlying htx]
  have hroom' : sLen + 0 ≤ sCap := hroom
  cases dx <;> first
    | exact absurd rfl (hdx _)
    | (simp only [Bool.false_eq_true, if_false, Sem.run_bind, hlen, Result.andThen_ok, if_pos hroom', Bool.not_false, if_true, hc, Sem.run_pure]
       cases base <;> simp only [hC, storeCells, Sem.run_bind, Sem.run_pure, Result.andThen_ok] <;> rfl)
theorem append_grow {w : World} {t tx el : TypeId} {i : TypeInfo} {z : Value} {dx : TypeDesc} {base : Option Addr} {sLen sCap m : Nat} {x : Value} {C D : Array Value} (ht : P.underlying t = some (.slice el)) (hi : P.info? el = some i)
    (hz : i.zero = some z)
    (htx : P.underlying tx = some dx) (hdx : ∀ k, dx ≠ .int k) (hlen : (Builtin.lenOf x).run P w = .ok m w) (ty : TypeId)
    (hroom : ¬ sLen + m ≤ sCap) (hb : i.bytes ≠ 0) (hfit : (sLen + m) * i.bytes ≤ 140737488355328)
    (hc' : (Builtin.firstCells i.size m x).run P w.drew = .ok C w.drew)
    (hd' : (Builtin.firstCells i.size sLen (.slice base sLen sCap)).run P w.drew = .ok D w.drew) :
    ∃ cap, sLen + m ≤ cap ∧ (Builtin.append_ #[t, tx] ty #[.slice base sLen sCap, x]).run P w =
      .ok (.slice (some ⟨w.heap.size, 0, none⟩) (sLen + m) cap) (w.drew.alloc (.cells (D ++ C ++ Builtin.zeroCells z.cells (cap - (sLen + m))) el)) := by
  have hg : ¬ Builtin.nextslicecap (sLen + m) sCap * i.bytes > 2 ^ 48 := by
    have := growslice_fits (need := sLen + m) (old := sCap) (bytes := i.bytes) (by omega) hfit
    omega
  have hti : ∀ w' : World, (typeInfo el).run P w' = .ok i w' := fun w' => by simp [typeInfo, hi]
  have hf : (Question.appendCap (sLen + m) sCap el).forced = false := rfl
  refine ⟨(Question.appendCap (sLen + m) sCap el).cut (w.tape w.drawn (.appendCap (sLen + m) sCap el)), by simp [Question.cut], ?_⟩
  simp only [Builtin.append_, List.getElem?_toArray, List.getElem?_cons_zero, List.getElem?_cons_succ, Sem.run_bind, run_underlying ht, Result.andThen_ok, run_sizeOf' hi, Sem.run_pure, run_underlying htx]
  cases dx <;> first
    | exact absurd rfl (hdx _)
    | (simp only [Bool.false_eq_true, if_false, Sem.run_bind, hlen, Result.andThen_ok, if_neg hroom, Bool.not_false, if_true, hti, false_or, hb, and_false, if_neg hg, run_choose, hf, World.drew_eq, run_askRoom, hc', hd', run_zero hi hz, newRow, run_newObj, Sem.run_pure, World.alloc_eq, World.size_drew])
def aappend (M : AMem) (e bytes : Nat) (sv : Value) (m : Nat) (cs : List Value) : Option (Value × AMem) :=
  if m = 0 then some (sv, M) else
  match sv with
  | .slice none 0 0 => if bytes ≠ 0 ∧ m * bytes ≤ 140737488355328 then some (.slice (some ⟨M.next, 0, none⟩) m e, M.alloc (.cells cs true)) else none
  | .slice (some ⟨id, off, none⟩) len e' =>
    match M.get id with
    | .cells old true =>
      if e' = e ∧ off + len * e = old.length ∧ bytes ≠ 0 ∧ (len + m) * bytes ≤ 140737488355328 ∧ cs.all (·.oneCell') = true then
        some (.slice (some ⟨M.next, 0, none⟩) (len + m) e, (M.set id .dead).alloc (.cells (old.drop off ++ cs) true))
      else none
    | _ => none
  | _ => none
theorem zeroCells_size (z : Array Value) (k : Nat) : (Builtin.zeroCells z k).size = k * z.size := by simp [Builtin.zeroCells]
theorem ok_append {t tx el : TypeId} {x y : Operand} {i : TypeInfo} {z : Value} {dx : TypeDesc} {m : Nat} {cs : List Value} {v : Value} {M' : AMem}
    (ho : o.op = .call { callee := .builtin .append, args := #[x, y], argTypes := #[t, tx] }) (hx : okO n x = true) (hy : okO n y = true)
    (ht : P.underlying t = some (.slice el)) (hi : P.info? el = some i) (hz : i.zero = some z) (hzs : z.cells.size = i.size) (htx : P.underlying tx = some dx) (hdx : ∀ k, dx ≠ .int k)
    (hs1 : asrc M i.size (ev s y) = some (m, cs)) (hsv : ∃ a l c, ev s x = .slice a l c) (hap : aappend M i.size i.bytes (ev s x) m cs = some (v, M')) : OpOK P n s o M v M' := by
  intro F ρ ca w hs hM
  have hvx := hs.ev hx
  have hvy := hs.ev hy
  obtain ⟨hlen, hcl, C, hc, hr⟩ := src_run (P := P) hM hs1 hvy
  obtain ⟨_, _, Cd, hcd, hrd⟩ := src_run (P := P) hM.drew hs1 hvy
  have hexec : ∀ r w', (Builtin.append_ #[t, tx] o.type #[ca.eval x, ca.eval y]).run P w = .ok r w' → (execOp ca.eval o).run P w = .ok (.value r) w' := by
    intro r w' h
    simp [execOp, ho, resolve, invoke, builtin, h]
  unfold aappend at hap
  split at hap <;> rename_i hm
  · cases hap
    subst hm
    have hC : C.toList = [] := by have := hr.1; simp [hcl] at this; simpa using this.symm
    obtain ⟨a, l, c, hsl⟩ := hsv
    have hcx : ∃ a' cap, ca.eval x = .slice a' l cap ∧ l ≤ cap := by
      rw [hsl] at hvx
      generalize ca.eval x = q at hvx
      cases hvx with
      | scalar h =>
        refine ⟨a, c, rfl, ?_⟩
        cases a <;> simp [isScalar] at h
        split at h <;> simp_all
      | slice h h1 h2 => exact ⟨_, _, rfl, h1⟩
      | sliceE h => exact ⟨_, _, rfl, Nat.le_refl _⟩
    obtain ⟨a', cap, hcx, hle⟩ := hcx
    refine ⟨ρ, .value (ca.eval x), _, w, hexec _ _ ?_, rfl, .refl _ _, Nat.le_refl _, hvx, hM, .refl _ _⟩
    rw [hcx]
    exact append_none ht hi htx hdx hlen hc hC _ hle
  · split at hap
    · rename_i hsl
      split at hap <;> rename_i hcond
      · cases hap
        rw [hsl] at hvx
        have hcx := VR.scalar_inv rfl hvx
        obtain ⟨cap, hcap, hrun⟩ := append_grow (base := none) (sLen := 0) (sCap := 0) (D := #[]) ht hi hz htx hdx hlen o.type (by omega) hcond.1 (by simpa using hcond.2) hcd rfl
        rw [Nat.zero_add] at hrun hcap
        obtain ⟨k1, k2, k3, k4⟩ := hM.drew.newCells (vs := cs) (C := #[] ++ Cd ++ Builtin.zeroCells z.cells (cap - m)) el true _ (Nat.le_refl _) (by have := hrd.1; simp at this; simp; omega)
          (fun j v hj => by
            obtain ⟨c, hcj, hv⟩ := hrd.get hj
            refine ⟨c, ?_, hv⟩
            have hjl : j < Cd.size := by have := (List.getElem?_eq_some_iff.1 hcj).1; simpa using this
            simp only [Array.empty_append]
            rw [Array.getElem?_append_left hjl]
            simpa using hcj)
        refine ⟨_, .value (.slice (some ⟨w.heap.size, 0, none⟩) m cap), _, _, hexec _ _ (by rw [hcx]; exact hrun), rfl, k2, by simp, ?_, k1, (Kept.drew F w).trans k3⟩
        refine .slice (pl := ⟨w.heap.size, 0, _⟩) k4 (by omega) ?_
        have h2 : Cd.size = m * i.size := by have := hrd.1; simp [hcl] at this; exact this.symm
        have h3 : (cap - m) * i.size = cap * i.size - m * i.size := by rw [Nat.sub_mul]
        have h4 : m * i.size ≤ cap * i.size := Nat.mul_le_mul_right _ (by omega)
        simp only [Array.size_append, zeroCells_size, hzs, h2, h3]
        simp
        omega
      · cases hap
    · rename_i id off len e' hsl
      split at hap
      · rename_i old hg
        split at hap <;> rename_i hcond
        · cases hap
          obtain ⟨he, hoff, hb, hfit, h1c⟩ := hcond
          subst he
          rw [hsl] at hvx
          obtain ⟨_, pl, o', cap, hpl, hcx, hle, hor⟩ := hvx.slice_inv
          by_cases hroom : len + m ≤ cap
          · obtain ⟨ho', hext⟩ : o' = ⟨pl.block, pl.base + off, none⟩ ∧ off + cap * i.size ≤ pl.ext := by
              rcases hor with h | h
              · exact h
              · omega
            try dsimp only at ho' hext
            subst ho'
            have hob := hM.obj id pl hpl
            rw [hg] at hob
            obtain ⟨D, e2, lo, hi2, g1, g2, g3, g4, g5⟩ := hob
            obtain ⟨hF, hfr⟩ := g5 rfl
            have hCs : C.toList.length = m * i.size := by rw [← hr.1, hcl]
            have hCz : C.size = m * i.size := by simpa using hCs
            have hmul : len * i.size + m * i.size ≤ cap * i.size := by rw [← Nat.add_mul]; exact Nat.mul_le_mul_right _ hroom
            obtain ⟨w', D', r1, r2, r3, r4, r5, r6, r7, r8⟩ := storeCells_raw (P := P) C.toList (pl.base + off + len * i.size) 0 D w g1 (by omega)
              (fun j hj => by have := hfr (off + len * i.size + j) (by omega); rw [show pl.base + off + len * i.size + 0 + j = pl.base + (off + len * i.size + j) from by omega]; exact this) (hr.oneCell h1c)
            have hrun := append_room (sCap := cap) ht hi htx hdx hlen hc o.type hroom (by rw [Addr.add_off]; exact r1)
            have hDs : D'.size = D.size := by have := congrArg List.length r3; rw [aput_length] at this; simpa using this
            obtain ⟨k1, k2, k3⟩ := hM.regrow (pl' := ⟨pl.block, pl.base + off, pl.ext - off⟩) (o := .cells (old.drop off ++ cs) true) hpl (by rw [hg]; rfl) r4 r5 rfl (fun ρ' hup => by
              refine ⟨D', e2, lo, hi2, r2, ?_, ?_, ?_, fun _ => ⟨hF, fun j hj => ?_⟩⟩
              · simp only [List.length_append, List.length_drop, hcl]; omega
              · simp only [hDs]; omega
              · intro j v hj
                have hget : D'[pl.base + off + j]? = (aput D.toList (pl.base + off + len * i.size + 0) C.toList)[pl.base + off + j]? := by rw [← r3]; simp
                rw [aput_get _ _ _ _ (by simp; omega)] at hget
                rw [List.getElem?_append] at hj
                by_cases hjl : j < (old.drop off).length
                · rw [if_pos hjl, List.getElem?_drop] at hj
                  simp only [List.length_drop] at hjl
                  rw [if_neg (by omega)] at hget
                  obtain ⟨c, hcj, hv⟩ := g4 (off + j) v hj
                  exact ⟨c, by rw [hget]; simpa [Nat.add_assoc] using hcj, hv.mono hup⟩
                · rw [if_neg hjl] at hj
                  simp only [List.length_drop] at hjl hj
                  obtain ⟨c, hcj, hv⟩ := hr.get hj
                  have hjl2 := (List.getElem?_eq_some_iff.1 hcj).1
                  rw [if_pos (by omega)] at hget
                  refine ⟨c, ?_, hv.mono hup⟩
                  rw [hget, ← hcj]
                  congr 1
                  omega
              · have := hfr (off + j) (by simp only at hj; omega)
                rw [show pl.base + off + j = pl.base + (off + j) from by omega]
                exact this) r6 r7 r8
            refine ⟨_, .value (.slice (some ⟨pl.block, pl.base + off, none⟩) (len + m) cap), _, w', hexec _ _ (by rw [hcx]; exact hrun), rfl, k2, by simp, ?_, k1, k3⟩
            exact .slice (pl := ⟨pl.block, pl.base + off, pl.ext - off⟩) (off := 0) (by simp [Rho.put]) hroom (by simp only; omega)
          · have hold : asrc M i.size (ev s x) = some (len, (old.drop off).take (len * i.size)) := by
              rw [hsl]; simp only [asrc, hg]; rw [if_pos ⟨trivial, by omega⟩]
            obtain ⟨_, hol, D, hdd, hrD⟩ := src_run (P := P) hM.drew hold (hsl ▸ hvx)
            have htake : (old.drop off).take (len * i.size) = old.drop off := List.take_of_length_le (by simp; omega)
            rw [htake] at hol hrD
            rw [hcx] at hdd
            obtain ⟨cap', hcap, hrun⟩ := append_grow (D := D) ht hi hz htx hdx hlen o.type hroom hb hfit hcd hdd
            have hDs : D.size = len * i.size := by have := hrD.1; simp at this hol; omega
            have hCs : Cd.size = m * i.size := by have := hrd.1; simp [hcl] at this; exact this.symm
            obtain ⟨k1, k2, k3, k4⟩ := (hM.drew.kill id).newCells (vs := old.drop off ++ cs) (C := D ++ Cd ++ Builtin.zeroCells z.cells (cap' - (len + m))) el true _ (Nat.le_refl _)
              (by simp only [List.length_append, hol, hcl, Array.size_append, hDs, hCs]; omega)
              (fun j v hj => by
                obtain ⟨c, hcj, hv⟩ := (hrD.append hrd).get hj
                refine ⟨c, ?_, hv⟩
                have hjl : j < (D ++ Cd).size := by have := (List.getElem?_eq_some_iff.1 hcj).1; simpa using this
                rw [Array.getElem?_append_left hjl]
                rw [← Array.getElem?_toList]
                simpa using hcj)
            refine ⟨_, .value (.slice (some ⟨w.heap.size, 0, none⟩) (len + m) cap'), _, _, hexec _ _ (by rw [hcx]; exact hrun), rfl, k2, by simp, ?_, k1, (Kept.drew F w).trans k3⟩
            refine .slice (pl := ⟨w.heap.size, 0, _⟩) k4 hcap ?_
            have h3 : (cap' - (len + m)) * i.size = cap' * i.size - (len + m) * i.size := Nat.sub_mul _ _ _
            have h4 : (len + m) * i.size ≤ cap' * i.size := Nat.mul_le_mul_right _ hcap
            have h5 : (len + m) * i.size = len * i.size + m * i.size := Nat.add_mul _ _ _
            simp only [Array.size_append, zeroCells_size, hzs, hDs, hCs, h3]
            omega
        · cases hap
      · cases hap
    · cases hap
end ops
end Go.Proofs.Ytdkdkpiemigfkaa
set_option linter.unusedVariables false
set_option linter.unusedSimpArgs false
namespace Go.Proofs.Ytdkdkpiemigfkaa
open Go
theorem src_run_k {P : Program} {F : Nat → Prop} {ρ : Rho} {M : AMem} {w : World} (h : Sim F ρ M w) {e n k : Nat} {x cx : Value} {cs : List Value} (ha : asrc M e x = some (n, cs)) (hv : VR ρ x cx) (hk : k ≤ n) :
    ∃ C, (Builtin.firstCells e k cx).run P w = .ok C w ∧ VRl ρ (cs.take (k * e)) C.toList := by
  have hke : k * e ≤ n * e := Nat.mul_le_mul_right e hk
  unfold asrc at ha
  split at ha
  · cases ha
    rw [VR.scalar_inv rfl hv]
    exact ⟨#[], rfl, by simpa using VRl.nil ρ⟩
  · rename_i id off n2 e2
    split at ha
    · rename_i cs' own hg
      split at ha <;> rename_i hc
      · cases ha
        obtain ⟨_, pl, o', cap, hpl, hc', hle, hor⟩ := hv.slice_inv
        rw [hc']
        rcases hor with ⟨ho', _⟩ | ⟨hn0, _⟩
        · obtain ⟨cvs, r, hlen, hr⟩ := h.loads (P := P) (n := k * e) (off := off) hpl hg (by omega)
          dsimp only at ho'
          refine ⟨cvs.toArray, by rw [ho']; exact r, ?_, ?_⟩
          · simp [hlen]; omega
          · intro i x y hx hy
            refine hr i x y ?_ (by simpa using hy)
            rw [List.take_take] at hx
            rw [Nat.min_eq_left hke] at hx
            exact hx
        · subst hn0
          have : k = 0 := by omega
          subst this
          refine ⟨#[], ?_, by simp, fun i x y hx => by simp at hx⟩
          simp only [Builtin.firstCells, Nat.zero_mul]
          rfl
      · cases ha
    · cases ha
  · split at ha <;> rename_i he
    · cases ha
      rw [hv.string_inv]
      rename_i s
      refine ⟨(s.extract 0 k).data.map fun b => .int .u8 b.toNat, rfl, ?_⟩
      have hfl : ((bcells s).take (k * e)).all (flatN 3) = true := by
        rw [List.all_eq_true]
        intro v hv
        obtain ⟨b, _, rfl⟩ := List.mem_map.1 (List.mem_of_mem_take hv)
        rfl
      have := VRl.flat (ρ := ρ) hfl
      have e1 : ((s.extract 0 k).data.map fun b => (Value.int .u8 b.toNat)).toList = (bcells s).take (k * e) := by
        rw [he, Nat.mul_one, bcells, ← List.map_take, Array.toList_map]
        simp
      rw [e1]
      exact this
    · cases ha
  · cases ha
section ops
variable {P : Program} {n : Nat} {s : Slots} {o : Oper} {M : AMem}
theorem copy_run {w w' : World} {t tx el : TypeId} {i : TypeInfo} {a : Addr} {len cap m : Nat} {x : Value} {C : Array Value} (ht : P.underlying t = some (.slice el)) (hi : P.info? el = some i)
    (hlen : (Builtin.lenOf x).run P w = .ok m w) (hc : (Builtin.firstCells i.size (min m len) x).run P w = .ok C w) (ty : TypeId) (hst : (storeCells a C.toList).run P w = .ok () w') :
    (Builtin.copy_ #[t, tx] ty #[.slice (some a) len cap, x]).run P w = .ok (.int .i64 (min m len : Nat)) w' := by
  have hc' : (Builtin.firstCells i.size (m.min len) x).run P w = .ok C w := hc
  simp only [Builtin.copy_, List.getElem?_toArray, List.getElem?_cons_zero, List.getElem?_cons_succ, Sem.run_bind, run_underlying ht, Result.andThen_ok, run_sizeOf' hi, Sem.run_pure, hlen, hc', hst, goInt]
theorem ok_copy {t tx el : TypeId} {x y : Operand} {i : TypeInfo} {m id off len : Nat} {cs old : List Value}
    (ho : o.op = .call { callee := .builtin .copy, args := #[x, y], argTypes := #[t, tx] }) (hx : okO n x = true) (hy : okO n y = true)
    (ht : P.underlying t = some (.slice el)) (hi : P.info? el = some i) (hs1 : asrc M i.size (ev s y) = some (m, cs)) (hp : ev s x = .slice (some ⟨id, off, none⟩) len i.size)
    (hg : M.get id = .cells old true) (hle : off + len * i.size ≤ old.length) (h1 : cs.all (·.oneCell') = true) :
    OpOK P n s o M (.int .i64 (min m len : Nat)) (M.set id (.cells (aput old off (cs.take (min m len * i.size))) true)) := by
  intro F ρ ca w hs hM
  have hvx := hs.ev hx
  have hvy := hs.ev hy
  obtain ⟨hlen, hcl, _⟩ := src_run (P := P) hM hs1 hvy
  obtain ⟨C, hc, hr⟩ := src_run_k (P := P) (k := min m len) hM hs1 hvy (Nat.min_le_left _ _)
  rw [hp] at hvx
  obtain ⟨_, pl, o', cap, hpl, hcx, hlc, hor⟩ := hvx.slice_inv
  have hkl : min m len * i.size ≤ len * i.size := Nat.mul_le_mul_right _ (Nat.min_le_right _ _)
  have hkm : min m len * i.size ≤ m * i.size := Nat.mul_le_mul_right _ (Nat.min_le_left _ _)
  have hexec : ∀ r w', (Builtin.copy_ #[t, tx] o.type #[ca.eval x, ca.eval y]).run P w = .ok r w' → (execOp ca.eval o).run P w = .ok (.value r) w' := by
    intro r w' h
    simp [execOp, ho, resolve, invoke, builtin, h]
  by_cases ho' : o' = ⟨pl.block, pl.base + off, none⟩
  · obtain ⟨w', r, k1, k2⟩ := Sim.stores (P := P) hpl off (cs.take (min m len * i.size)) C.toList 0 M w old hM hg (by simp; omega) hr.1 hr.2
      (by rw [List.all_eq_true] at h1 ⊢; exact fun v hv => h1 v (List.mem_of_mem_take hv))
    exact ⟨ρ, .value (.int .i64 (min m len : Nat)), _, w', hexec _ _ (by rw [hcx, ho']; exact copy_run ht hi hlen hc _ r), rfl, .refl _ _, Nat.le_refl _, .scalar rfl, k1, k2⟩
  · have hz : len = 0 := by
      rcases hor with h | h
      · exact absurd h.1 ho'
      · exact h.1
    subst hz
    have e0 : min m 0 = 0 := Nat.min_zero m
    have hC : C.toList = [] := by have := hr.1; simp [e0] at this; simpa using this.symm
    refine ⟨ρ, .value (.int .i64 (min m 0 : Nat)), _, w, hexec _ _ (by rw [hcx]; exact copy_run ht hi hlen hc _ (by rw [hC]; rfl)), rfl, .refl _ _, Nat.le_refl _, .scalar rfl, ?_, .refl _ _⟩
    rw [e0, Nat.zero_mul, List.take_zero]
    simp only [aput]
    rw [← hg, AMem.set_self]
    exact hM
theorem modify_push_last {α : Type} (a : Array α) (x : α) (f : α → α) : (a.push x).modify a.size f = a.push (f x) := by
  apply Array.ext_getElem?
  intro i
  rw [Array.getElem?_modify, Array.getElem?_push, Array.getElem?_push]
  by_cases h : a.size = i
  · subst h; simp
  · rw [if_neg h, if_neg (fun e => h e.symm), if_neg (fun e => h e.symm)]
theorem World.shape_new (w : World) (X : Array Value) (e : TypeId) : (w.alloc (.cells X e)).shape? w.heap.size = some (e, X.size) := by
  have : (w.alloc (.cells X e)).heap[w.heap.size]? = some (.cells X e) := by show (w.heap.push _)[w.heap.size]? = _; simp
  unfold World.shape?; rw [this]
theorem ok_toBytes {t u el : TypeId} {x : Operand} {st : ByteArray} (ho : o.op = .convert t u x) (hx : okO n x = true) (hp : ev s x = .string st) (ht : P.underlying t = some .string)
    (hu : P.underlying u = some (.slice el)) (he : P.underlying el = some (.int .u8)) : OpOK P n s o M (.slice (some ⟨M.next, 0, none⟩) st.size 1) (M.alloc (.cells (bcells st) true)) := by
  intro F ρ ca w hs hM
  have hv := hs.ev hx
  rw [hp] at hv
  have hc := hv.string_inv
  let cap := (Question.appendCap st.size 0 el).cut (w.tape w.drawn (.appendCap st.size 0 el))
  have hcap : st.size ≤ cap := by simp [cap, Question.cut]
  let C : Array Value := (st.data.map fun b => Value.int .u8 b.toNat) ++ Array.replicate (cap - st.size) (.int .u8 0)
  have hCs : C.size = cap := by simp [C]; omega
  obtain ⟨k1, k2, k3⟩ := hM.drew.alloc (o := .cells (bcells st) true) (x := .cells C el (cap, cap + 1)) (ext := cap) (fun ρ' hup => by
    refine ⟨C, el, cap, cap + 1, by show (w.heap.push _)[w.heap.size]? = _; simp, by simp [bcells]; omega, by simp [hCs], fun i v hv => ?_, fun _ => ⟨hM.top _ (Nat.le_refl _), fun i hi => by simp at hi ⊢; omega⟩⟩
    have hlt : i < st.size := by have := (List.getElem?_eq_some_iff.1 hv).1; simpa [bcells] using this
    refine ⟨v, ?_, ?_⟩
    · simp only [Nat.zero_add, C]
      rw [Array.getElem?_append_left (by simpa using hlt)]
      simpa [bcells] using hv
    · obtain ⟨b, _, rfl⟩ := List.mem_map.1 (List.mem_of_getElem? hv)
      exact .scalar rfl)
  have hfz : (w.drew.alloc (.cells C el)).freeze ⟨w.heap.size, cap, none⟩ 1 = w.drew.alloc (.cells C el (cap, cap + 1)) := by
    simp only [World.freeze]
    rw [if_neg (by omega)]
    show ({ w.drew with heap := (w.heap.push (.cells C el)).modify w.heap.size _ } : World) = { w.drew with heap := w.heap.push (.cells C el (cap, cap + 1)) }
    rw [modify_push_last]
    simp
  refine ⟨_, .value (.slice (some ⟨w.heap.size, 0, none⟩) st.size cap), _, _, ?_, rfl, k2, by simp, ?_, k1, (Kept.drew F w).trans k3⟩
  · have hf : (Question.appendCap st.size 0 el).forced = false := rfl
    simp only [execOp, ho, hc, convert, Sem.run_bind, run_underlying ht, run_underlying hu, run_underlying he, Result.andThen_ok, Conv.stringToBytes, run_choose, hf, Bool.false_eq_true, if_false, World.drew_eq, newRow, run_newObj, World.alloc_eq, Sem.run_pure, markStringish, run_shape]
    rw [World.shape_new]
    simp only [run_freeze, Result.andThen_ok]
    show Result.ok _ ((w.drew.alloc (Obj.cells C el)).freeze ⟨w.heap.size, C.size, none⟩ 1) = _
    rw [hCs, hfz]
    rfl
  · exact .slice (pl := ⟨w.heap.size, 0, cap⟩) (by simp [Rho.put]) hcap (by simp)
def cellByte : Value → Option UInt8
  | .int .u8 n => some (UInt8.ofNat n.toNat)
  | _ => none
def cellBytes : List Value → Option (List UInt8)
  | [] => some []
  | v :: vs => match cellByte v, cellBytes vs with
    | some b, some bs => some (b :: bs)
    | _, _ => none
theorem cellBytes_ints : ∀ {cs : List Value} {bs : List UInt8}, cellBytes cs = some bs → ∃ ns : List Int, cs = ns.map (Value.int .u8) ∧ bs = ns.map (fun n => UInt8.ofNat n.toNat) := by
  intro cs
  induction cs with
  | nil => intro bs h; simp only [cellBytes, Option.some.injEq] at h; exact ⟨[], rfl, h ▸ rfl⟩
  | cons v vs ih =>
    intro bs h
    simp only [cellBytes] at h
    split at h
    · rename_i b bs' hb hbs
      cases h
      obtain ⟨ns, h1, h2⟩ := ih hbs
      unfold cellByte at hb
      split at hb
      · rename_i n
        cases hb
        exact ⟨n :: ns, by rw [h1]; rfl, by rw [h2]; rfl⟩
      · cases hb
    · cases h
theorem push_bytes : ∀ (ns : List Int) (r : ByteArray), (ns.foldl (fun r n => r.push (UInt8.ofNat n.toNat)) r) = ⟨(r.data.toList ++ ns.map (fun n => UInt8.ofNat n.toNat)).toArray⟩ := by
  intro ns
  induction ns with
  | nil => intro r; simp
  | cons n ns ih =>
    intro r
    simp only [List.foldl_cons, List.map_cons]
    rw [ih]
    congr 1
    simp [ByteArray.push]
def asString (bs : List UInt8) : Value := .string ⟨bs.toArray⟩
theorem ok_toString {t u el : TypeId} {x : Operand} {id off len : Nat} {cs : List Value} {own : Bool} {bs : List UInt8} (ho : o.op = .convert t u x) (hx : okO n x = true) (hp : ev s x = .slice (some ⟨id, off, none⟩) len 1)
    (ht : P.underlying t = some (.slice el)) (hu : P.underlying u = some .string) (he : P.underlying el = some (.int .u8)) (hg : M.get id = .cells cs own) (hle : off + len ≤ cs.length)
    (hb : cellBytes ((cs.drop off).take len) = some bs) : OpOK P n s o M (asString bs) M := by
  intro F ρ ca w hs hM
  have hv := hs.ev hx
  rw [hp] at hv
  obtain ⟨_, pl, o', cap, hpl, hcx, hlc, hor⟩ := hv.slice_inv
  obtain ⟨ns, h1, h2⟩ := cellBytes_ints hb
  have hload : (loadCells o' len).run P w = .ok (ns.map (Value.int .u8)).toArray w := by
    rcases hor with ⟨ho', _⟩ | ⟨hz, _⟩
    · obtain ⟨cvs, r, hlen, hr⟩ := hM.loads (P := P) (n := len) hpl hg hle
      dsimp only at ho'
      rw [ho', r]
      congr 2
      apply List.ext_getElem?
      intro i
      by_cases hi : i < len
      · obtain ⟨c, hc⟩ : ∃ c, cvs[i]? = some c := ⟨_, List.getElem?_eq_getElem (by omega)⟩
        have hlt : i < ((cs.drop off).take len).length := by simp; omega
        have := hr i _ c (List.getElem?_eq_getElem hlt) hc
        have h3 : ((cs.drop off).take len)[i]? = (ns.map (Value.int .u8))[i]? := by rw [h1]
        rw [List.getElem?_eq_getElem hlt] at h3
        rw [hc, ← h3]
        have hns : i < ns.length := by have := congrArg List.length h1; simp at this; omega
        rw [List.getElem?_map, List.getElem?_eq_getElem hns] at h3
        simp only [Option.map_some, Option.some.injEq] at h3
        rw [h3] at this ⊢
        rw [this.int_inv]
      · rw [List.getElem?_eq_none (by omega), List.getElem?_eq_none (by have := congrArg List.length h1; simp at this ⊢; omega)]
    · subst hz
      have : ns = [] := by have := congrArg List.length h1; simpa using this.symm
      subst this
      rfl
  refine ⟨ρ, .value (asString bs), _, w, ?_, rfl, .refl _ _, Nat.le_refl _, .scalar rfl, hM, .refl _ _⟩
  have hr := run_bytesToString (P := P) w o' len cap ns hload
  rw [push_bytes] at hr
  simp [execOp, ho, hcx, convert, run_underlying ht, run_underlying hu, run_underlying he, hr, asString, h2]
theorem ok_toString_nil {t u el : TypeId} {x : Operand} (ho : o.op = .convert t u x) (hx : okO n x = true) (hp : ev s x = .slice none 0 0)
    (ht : P.underlying t = some (.slice el)) (hu : P.underlying u = some .string) (he : P.underlying el = some (.int .u8)) : OpOK P n s o M (asString []) M :=
  OpOK.same fun ρ ca w hs => by
    have hv := hs.ev hx
    rw [hp] at hv
    have hc := VR.scalar_inv rfl hv
    refine ⟨.value (.string .empty), _, ?_, rfl, .scalar rfl⟩
    simp [execOp, ho, hc, convert, run_underlying ht, run_underlying hu, run_underlying he, Conv.bytesToString]
theorem wrap_i64_in {j : Int} (h0 : 0 ≤ j) (h1 : j ≤ 9223372036854775807) : IntKind.i64.wrap j = j := by
  have e : j % (2 ^ 64 : Int) = j := Int.emod_eq_of_lt h0 (by omega)
  unfold IntKind.wrap
  simp only [IntKind.bits, IntKind.signed, Bool.true_and, decide_eq_true_eq, e]
  rw [if_neg (by omega)]
theorem ok_makeSlice {t el : TypeId} {l c : Operand} {i : TypeInfo} {z : Value} {j : Int} {k k' : IntKind} (ho : o.op = .makeSlice t l c) (hl : okO n l = true) (hc : okO n c = true)
    (hp : ev s l = .int k j) (hq : ev s c = .int k' j) (ht : P.underlying t = some (.slice el)) (hi : P.info? el = some i) (hz : i.zero = some z) (hzs : z.cells.size = i.size) (hf : (zeroRow z (j.toNat * i.size)).all (flatN 3) = true)
    (h0 : 0 ≤ j) (h1 : j ≤ 9223372036854775807) (h2 : (i.bytes : Int) * j ≤ 2 ^ 48) :
    OpOK P n s o M (.slice (some ⟨M.next, 0, none⟩) j.toNat i.size) (M.alloc (.cells (zeroRow z (j.toNat * i.size)) true)) := by
  intro F ρ ca w hs hM
  have hvl := hs.ev hl
  have hvc := hs.ev hc
  rw [hp] at hvl
  rw [hq] at hvc
  have e1 := hvl.int_inv
  have e2 := hvc.int_inv
  have hw := wrap_i64_in h0 h1
  let C : Array Value := (Array.range (j.toNat * i.size)).map (z.cells[· % z.cells.size]!)
  have hCs : C.size = j.toNat * i.size := by simp [C]
  obtain ⟨k1, k2, k3, k4⟩ := hM.newCells (vs := zeroRow z (j.toNat * i.size)) (C := C) el true C.size (Nat.le_refl _) (by simp [C, zeroRow]) (fun a v hv => by
    refine ⟨v, by rw [← Array.getElem?_toList]; exact hv, flatN_refl 3 v (List.all_eq_true.1 hf v (List.mem_of_getElem? hv))⟩)
  refine ⟨_, .value (.slice (some ⟨w.heap.size, 0, none⟩) j.toNat j.toNat), _, _, ?_, rfl, k2, by simp, .slice (pl := ⟨w.heap.size, 0, C.size⟩) k4 (Nat.le_refl _) (by simp [hCs]), k1, k3⟩
  have hti : ∀ w' : World, (typeInfo el).run P w' = .ok i w' := fun w' => by simp [typeInfo, hi]
  have n1 : ¬ j < 0 := by omega
  have n2 : ¬ ((i.bytes : Int) * j > 2 ^ 48) := by omega
  simp only [execOp, ho, Instr.makeSlice, e1, e2, asInt, asIntOf, Sem.run_bind, run_underlying ht, Sem.run_pure, Result.andThen_ok, hti, hw, n1, n2, decide_false, Bool.or_false, Int.lt_irrefl, gt_iff_lt, Bool.false_eq_true, if_false, run_askRoom,
    run_sizeOf' hi]
  by_cases hn : j.toNat * i.size = 0
  · have hCe : C = #[] := by apply Array.eq_empty_of_size_eq_zero; omega
    simp only [hn, if_true, Sem.run_bind, Sem.run_pure, Result.andThen_ok, newRow, run_newObj, World.alloc_eq]
    have : (Array.range 0).map (fun x => (#[] : Array Value)[x % (#[] : Array Value).size]!) = C := by rw [hCe]; simp
    rw [this]
  · simp only [hn, if_false, Sem.run_bind, Sem.run_pure, Result.andThen_ok, newRow, run_newObj, World.alloc_eq, run_zero hi hz]
    rfl
def afind (kind : TypeDesc) (k : Value) : List (Value × Value) → Nat → Option (Option (Nat × Value))
  | [], _ => some none
  | e :: es, i =>
    match Instr.sameNow kind k e.1 with
    | some true => some (some (i, e.2))
    | some false => afind kind k es (i + 1)
    | none => none
theorem sameNow_scalar {kind : TypeDesc} {k x : Value} {b : Bool} (h : Instr.sameNow kind k x = some b) : isScalar x = true ∧ isScalar k = true := by
  unfold Instr.sameNow at h
  split at h <;> first | exact ⟨rfl, rfl⟩ | cases h
def FindR (ρ : Rho) (kind : TypeDesc) (k : Value) (es : List (Value × Value)) (i : Nat) : Option (Nat × Value) → Option (Nat × Value) → Prop
  | none, none => True
  | some p, some p' => p.1 = p'.1 ∧ VR ρ p.2 p'.2 ∧ i ≤ p.1 ∧ ∃ a, es[p.1 - i]? = some (a, p.2) ∧ Instr.sameNow kind k a = some true
  | _, _ => False
def lookRes (ok : Bool) (r : Option (Nat × Value)) (z : Value) : Value :=
  match r with
  | some p => if ok then .tuple #[p.2, .bool true] else p.2
  | none => if ok then .tuple #[z, .bool false] else z
theorem afind_run {ρ : Rho} {kind : TypeDesc} {k : Value} : ∀ (es : List (Value × Value)) (E : List MapEntry) (i : Nat) (r : Option (Nat × Value)), es.length = E.length →
    (∀ (j : Nat) (a b : Value), es[j]? = some (a, b) → ∃ e : MapEntry, E[j]? = some e ∧ VR ρ a e.key ∧ VR ρ b e.val) → afind kind k es i = some r →
    ∃ r', Instr.findNow kind k E i = some r' ∧ FindR ρ kind k es i r r' := by
  intro es
  induction es with
  | nil =>
    intro E i r hl h hf
    cases E with
    | cons _ _ => simp at hl
    | nil => simp only [afind, Option.some.injEq] at hf; subst hf; exact ⟨none, rfl, trivial⟩
  | cons x es ih =>
    intro E i r hl h hf
    obtain ⟨a, b⟩ := x
    cases E with
    | nil => simp at hl
    | cons e E =>
      obtain ⟨e', he', ha, hb⟩ := h 0 a b rfl
      simp only [List.getElem?_cons_zero, Option.some.injEq] at he'
      subst he'
      simp only [afind] at hf
      simp only [Instr.findNow]
      cases hsn : Instr.sameNow kind k a with
      | none => rw [hsn] at hf; cases hf
      | some t =>
        have hk : e.key = a := VR.scalar_inv (sameNow_scalar hsn).1 ha
        rw [hk, hsn]
        rw [hsn] at hf
        cases t with
        | true =>
          simp only [Option.some.injEq] at hf
          subst hf
          exact ⟨some (i, e.val), rfl, rfl, hb, Nat.le_refl _, a, by simp, hsn⟩
        | false =>
          obtain ⟨r', h1, h2⟩ := ih E (i + 1) r (by simpa using hl) (fun j a b hj => h (j + 1) a b (by simpa using hj)) hf
          refine ⟨r', h1, ?_⟩
          cases r with
          | none =>
            cases r' with
            | none => trivial
            | some p' => exact h2.elim
          | some p =>
            cases r' with
            | none => exact h2.elim
            | some p' =>
              obtain ⟨q1, q2, q3, a', q4, q5⟩ := h2
              exact ⟨q1, q2, by omega, a', by rw [show p.1 - i = (p.1 - (i + 1)) + 1 from by omega]; simpa using q4, q5⟩
def easyKey : TypeDesc → Value → Bool
  | .int _, .int _ _ => true
  | .string, .string _ => true
  | .bool, .bool _ => true
  | _, _ => false
theorem checkKey_easy' {t : TypeId} {d : TypeDesc} {k : Value} {w : World} (ht : P.underlying t = some d) (hk : easyKey d k = true) (e : Bool) (m : Nat) : (Instr.checkKey e (m + 1) t k).run P w = .ok () w := by
  unfold easyKey at hk
  split at hk <;> first | (simp only [Instr.checkKey, Sem.run_bind, run_underlying ht, Result.andThen_ok]; rfl) | cases hk
theorem checkKey_easy {t : TypeId} {d : TypeDesc} {k : Value} {w : World} (ht : P.underlying t = some d) (hk : easyKey d k = true) (e : Bool) : (Instr.checkKey e 10000 t k).run P w = .ok () w := checkKey_easy' ht hk e 9999
theorem easy_scalar {d : TypeDesc} {k : Value} (hk : easyKey d k = true) : isScalar k = true := by
  unfold easyKey at hk
  split at hk <;> first | rfl | cases hk
theorem ok_lookup {t key el : TypeId} {x y : Operand} {kd : TypeDesc} {i : TypeInfo} {z : Value} {id : Nat} {es : List (Value × Value)} {ok : Bool} {r : Option (Nat × Value)}
    (ho : o.op = .lookup t x y ok) (hx : okO n x = true) (hy : okO n y = true) (hp : ev s x = .map (some id)) (hg : M.get id = .map es) (ht : P.underlying t = some (.map key el))
    (hk : P.underlying key = some kd) (he : easyKey kd (ev s y) = true) (hi : P.info? el = some i) (hz : i.zero = some z) (hfz : flat z = true) (hr : afind kd (ev s y) es 0 = some r) :
    OpOK P n s o M (lookRes ok r z) M := by
  intro F ρ ca w hs hM
  have hvx := hs.ev hx
  rw [hp] at hvx
  obtain ⟨pl, hpl, hcx⟩ := hvx.map_inv
  have hcy := VR.scalar_inv (easy_scalar he) (hs.ev hy)
  have hob := hM.obj id pl hpl
  rw [hg] at hob
  obtain ⟨_, E, clock, hE, hlen, hst, hent⟩ := hob
  obtain ⟨r', h1, h2⟩ := afind_run (ρ := ρ) es E.toList 0 r (by simp [hlen]) (fun j a b hj => by obtain ⟨e, he, q⟩ := hent j a b hj; exact ⟨e, by simpa using he, q⟩) hr
  have hget : (getObj pl.block).run P w = .ok (.map E clock) w := by simp [getObj, Sem.run, hE]
  have hfk : ∀ w', (Instr.findKey key (ev s y) E.toList).run P w' = .ok r' w' := fun w' => by simp [Instr.findKey, run_underlying hk, h1]
  have hck : ∀ w', (Instr.checkKey E.isEmpty 10000 key (ev s y)).run P w' = .ok () w' := fun w' => checkKey_easy hk he _
  have hrun : ∃ cv, (Instr.lookup t (ca.eval x) (ca.eval y) ok).run P w = .ok cv w ∧ VR ρ (lookRes ok r z) cv := by
    have htup : ∀ (v cv : Value) (b : Bool), VR ρ v cv → VR ρ (.tuple #[v, .bool b]) (.tuple #[cv, .bool b]) := fun v cv b hv => .tuple rfl (fun i x y hx hy => by
      cases i with
      | zero => simp at hx hy; subst hx hy; exact hv
      | succ i =>
        cases i with
        | zero => simp at hx hy; subst hx hy; exact .scalar rfl
        | succ i => simp at hx)
    cases r with
    | none =>
      cases r' with
      | some p => exact h2.elim
      | none =>
        refine ⟨if ok then .tuple #[z, .bool false] else z, ?_, ?_⟩
        · simp only [Instr.lookup, hcx, hcy, Sem.run_bind, run_underlying ht, Result.andThen_ok, hget, Sem.run_pure, hck, hfk, run_zero hi hz]
        · cases ok
          · exact flat_refl hfz
          · exact htup _ _ _ (flat_refl hfz)
    | some p =>
      cases r' with
      | none => exact h2.elim
      | some p' =>
        obtain ⟨_, hv, _⟩ := h2
        refine ⟨if ok then .tuple #[p'.2, .bool true] else p'.2, ?_, ?_⟩
        · simp only [Instr.lookup, hcx, hcy, Sem.run_bind, run_underlying ht, Result.andThen_ok, hget, Sem.run_pure, hck, hfk]
        · cases ok
          · exact hv
          · exact htup _ _ _ hv
  obtain ⟨cv, hr1, hr2⟩ := hrun
  exact ⟨ρ, .value cv, cv, w, by simp [execOp, ho, hr1], rfl, .refl _ _, Nat.le_refl _, hr2, hM, .refl _ _⟩
end ops
end Go.Proofs.Ytdkdkpiemigfkaa
set_option linter.unusedVariables false
set_option linter.unusedSimpArgs false
namespace Go.Proofs.Ytdkdkpiemigfkaa
open Go
def aset (kind : TypeDesc) (k v : Value) (es : List (Value × Value)) : Option (List (Value × Value)) :=
  match afind kind k es 0 with
  | some (some (j, _)) => some (es.set j (k, v))
  | some none => some (es ++ [(k, v)])
  | none => none
theorem ba_beq {a b : ByteArray} : (a == b) = true ↔ a = b := by
  cases a with | mk a => cases b with | mk b =>
  constructor
  · intro h
    have : (a == b) = true := h
    rw [beq_iff_eq] at this; rw [this]
  · intro h; cases h
    show (a == a) = true
    simp
theorem sameNow_eq {kind : TypeDesc} {k x : Value} (h : Instr.sameNow kind k x = some true) (n : Nat) : Instr.sameBits n x k = true := by
  unfold Instr.sameNow at h
  split at h
  · split at h
    · subst_vars
      simp only [Option.some.injEq, beq_iff_eq] at h
      subst h
      cases n <;> simp [Instr.sameBits]
    · cases h
  · simp only [Option.some.injEq] at h
    have := ba_beq.1 h
    subst this
    cases n <;> (simp only [Instr.sameBits]; exact h)
  · simp only [Option.some.injEq, beq_iff_eq] at h
    subst h
    cases n <;> simp [Instr.sameBits]
  · cases h
theorem Stamps.push {E : Array MapEntry} {clock : Nat} (h : Stamps E clock) (k v : Value) : Stamps (E.push { key := k, val := v, born := clock }) (clock + 1) := by
  constructor
  · intro i e he
    rw [Array.getElem?_push] at he
    split at he
    · cases he; simp
    · have := h.1 i e he; omega
  · intro i j e f he hf hij
    rw [Array.getElem?_push] at he hf
    by_cases hj : j = E.size
    · rw [if_pos hj] at hf
      rw [if_neg (by omega)] at he
      cases hf
      exact h.1 i e he
    · rw [if_neg hj] at hf
      have hjl : j < E.size := (Array.getElem?_eq_some_iff.1 hf).1
      rw [if_neg (by omega)] at he
      exact h.2 i j e f he hf hij
theorem Stamps.modify {E : Array MapEntry} {clock : Nat} (h : Stamps E clock) (k : Nat) (f : MapEntry → MapEntry) (hf : ∀ e, (f e).born = e.born) : Stamps (E.modify k f) clock := by
  have key : ∀ (i : Nat) (e : MapEntry), (E.modify k f)[i]? = some e → ∃ e', E[i]? = some e' ∧ e.born = e'.born := by
    intro i e he
    rw [Array.getElem?_modify] at he
    split at he
    · obtain ⟨e', h1, h2⟩ := Option.map_eq_some_iff.1 he
      exact ⟨e', h1, by rw [← h2, hf]⟩
    · exact ⟨e, he, rfl⟩
  constructor
  · intro i e he
    obtain ⟨e', h1, h2⟩ := key i e he
    rw [h2]; exact h.1 i e' h1
  · intro i j e g he hg hij
    obtain ⟨e', h1, h2⟩ := key i e he
    obtain ⟨g', h3, h4⟩ := key j g hg
    rw [h2, h4]; exact h.2 i j e' g' h1 h3 hij
theorem run_setObj {P : Program} {w : World} {r : Nat} {o o' : Obj} (h : w.heap[r]? = some o) (hc : ∀ c e f, o ≠ .cells c e f) :
    (setObj r o').run P w = .ok () { w with heap := w.heap.setIfInBounds r o' } := by
  cases o <;> first | exact absurd rfl (hc _ _ _) | simp only [setObj, Sem.run, h]
theorem Sim.putObj {F : Nat → Prop} {ρ : Rho} {M : AMem} {w : World} (h : Sim F ρ M w) {k : Nat} {pl : Pl} {o : AObj} {x : Obj} (hk : ρ k = some pl) (hown : (M.get k).own = true)
    (hobj : ObjR F ρ pl { w with heap := w.heap.setIfInBounds pl.block x } o) : Sim F ρ (M.set k o) { w with heap := w.heap.setIfInBounds pl.block x } ∧ Kept F w { w with heap := w.heap.setIfInBounds pl.block x } :=
  h.set hk hown (by simp) (fun b hb => by simp only; rw [Array.getElem?_setIfInBounds_ne (fun e => hb e.symm)]) hobj rfl rfl rfl
section ops
variable {P : Program} {n : Nat} {s : Slots} {o : Oper} {M : AMem}
theorem ok_mapUpdate {t key el : TypeId} {x y u : Operand} {kd : TypeDesc} {id : Nat} {es es' : List (Value × Value)} (ho : o.op = .mapUpdate t x y u ∨ o.op = .insert t x y u)
    (hx : okO n x = true) (hy : okO n y = true) (hu : okO n u = true) (hp : ev s x = .map (some id)) (hg : M.get id = .map es) (ht : P.underlying t = some (.map key el))
    (hk : P.underlying key = some kd) (he : easyKey kd (ev s y) = true) (hr : aset kd (ev s y) (ev s u) es = some es') :
    OpOK P n s o M undef (M.set id (.map es')) := by
  intro F ρ ca w hs hM
  have hvx := hs.ev hx
  rw [hp] at hvx
  obtain ⟨pl, hpl, hcx⟩ := hvx.map_inv
  have hcy := VR.scalar_inv (easy_scalar he) (hs.ev hy)
  have hvu := hs.ev hu
  have hob := hM.obj id pl hpl
  rw [hg] at hob
  obtain ⟨hF, E, clock, hE, hlen, hst, hent⟩ := hob
  have hlt : pl.block < w.heap.size := (Array.getElem?_eq_some_iff.1 hE).1
  have hget : (getObj pl.block).run P w = .ok (.map E clock) w := by simp [getObj, Sem.run, hE]
  have hexec : ∀ w', (Instr.mapUpdate t (ca.eval x) (ca.eval y) (ca.eval u)).run P w = .ok () w' → (execOp ca.eval o).run P w = .ok .skip w' := by
    intro w' h
    rcases ho with ho | ho <;> simp [execOp, ho, h]
  unfold aset at hr
  split at hr
  · rename_i j v hf
    cases hr
    obtain ⟨r', h1, h2⟩ := afind_run (ρ := ρ) es E.toList 0 _ (by simp [hlen]) (fun j a b hj => by obtain ⟨e, he, q⟩ := hent j a b hj; exact ⟨e, by simpa using he, q⟩) hf
    cases r' with
    | none => exact h2.elim
    | some p' =>
      obtain ⟨q1, q2, q3, a, q4, q5⟩ := h2
      simp only [Nat.sub_zero] at q4
      simp only at q1
      obtain ⟨e, he', hka, hvv⟩ := hent j a v q4
      have hek : e.key = a := VR.scalar_inv (sameNow_scalar q5).1 hka
      have hstay : ∀ w', (Instr.keyThatStays (((E[p'.1]?).map (·.key)).getD (ev s y)) (ev s y)).run P w' = .ok (ev s y) w' := by
        intro w'
        rw [← q1, he']
        simp only [Option.map_some, Option.getD_some, Instr.keyThatStays, hek]
        rw [if_pos (sameNow_eq q5 _)]
        rfl
      obtain ⟨k1, k2⟩ := hM.putObj (x := .map (E.modify j fun e => { e with key := ev s y, val := ca.eval u }) clock) (o := .map (es.set j (ev s y, ev s u))) hpl (by rw [hg]; rfl) (by
        refine ⟨hF, E.modify j (fun e => { e with key := ev s y, val := ca.eval u }), clock, by simp [hlt], by simp [hlen], hst.modify j (fun e => { e with key := ev s y, val := ca.eval u }) (fun _ => rfl), ?_⟩
        intro i a' b' hi
        rw [List.getElem?_set] at hi
        by_cases hji : j = i
        · subst hji
          rw [if_pos rfl] at hi
          split at hi
          · cases hi
            refine ⟨_, by rw [Array.getElem?_modify, if_pos rfl, he']; rfl, ?_, hvu⟩
            exact .scalar (easy_scalar he)
          · cases hi
        · rw [if_neg hji] at hi
          obtain ⟨e2, g1, g2⟩ := hent i a' b' hi
          exact ⟨e2, by rw [Array.getElem?_modify, if_neg hji]; exact g1, g2⟩)
      refine ⟨ρ, .skip, undef, _, hexec _ ?_, rfl, .refl _ _, Nat.le_refl _, .tuple rfl (fun i x y hx => by simp at hx), k1, k2⟩
      have hfk : ∀ w', (Instr.findKey key (ev s y) E.toList).run P w' = .ok (some p') w' := fun w' => by simp [Instr.findKey, run_underlying hk, h1]
      simp only [Instr.mapUpdate, hcx, hcy, Sem.run_bind, run_underlying ht, Result.andThen_ok, hget, checkKey_easy hk he, hfk, hstay]
      rw [← q1]
      exact run_setObj hE (fun _ _ _ h => by cases h)
  · rename_i hf
    cases hr
    obtain ⟨r', h1, h2⟩ := afind_run (ρ := ρ) es E.toList 0 _ (by simp [hlen]) (fun j a b hj => by obtain ⟨e, he, q⟩ := hent j a b hj; exact ⟨e, by simpa using he, q⟩) hf
    cases r' with
    | some p => exact h2.elim
    | none =>
      obtain ⟨k1, k2⟩ := hM.putObj (x := .map (E.push { key := ev s y, val := ca.eval u, born := clock }) (clock + 1)) (o := .map (es ++ [(ev s y, ev s u)])) hpl (by rw [hg]; rfl) (by
        refine ⟨hF, E.push { key := ev s y, val := ca.eval u, born := clock }, clock + 1, by simp [hlt], by simp [hlen], hst.push _ _, ?_⟩
        intro i a' b' hi
        rw [List.getElem?_append] at hi
        by_cases hil : i < es.length
        · rw [if_pos hil] at hi
          obtain ⟨e2, g1, g2⟩ := hent i a' b' hi
          exact ⟨e2, by rw [Array.getElem?_push, if_neg (by omega)]; exact g1, g2⟩
        · rw [if_neg hil] at hi
          have : i = es.length := by
            have := (List.getElem?_eq_some_iff.1 hi).1
            simp at this; omega
          subst this
          simp only [Nat.sub_self, List.getElem?_cons_zero, Option.some.injEq, Prod.mk.injEq] at hi
          obtain ⟨rfl, rfl⟩ := hi
          exact ⟨_, by rw [Array.getElem?_push, if_pos hlen.symm], .scalar (easy_scalar he), hvu⟩)
      refine ⟨ρ, .skip, undef, _, hexec _ ?_, rfl, .refl _ _, Nat.le_refl _, .tuple rfl (fun i x y hx => by simp at hx), k1, k2⟩
      have hfk : ∀ w', (Instr.findKey key (ev s y) E.toList).run P w' = .ok none w' := fun w' => by simp [Instr.findKey, run_underlying hk, h1]
      simp only [Instr.mapUpdate, hcx, hcy, Sem.run_bind, run_underlying ht, Result.andThen_ok, hget, checkKey_easy hk he, hfk]
      exact run_setObj hE (fun _ _ _ h => by cases h)
  · cases hr
theorem ok_range {t : TypeId} {x : Operand} {st : ByteArray} (ho : o.op = .range t x) (hx : okO n x = true) (hp : ev s x = .string st) (ht : P.underlying t = some .string) :
    OpOK P n s o M (newPtr M) (M.alloc (.iter st 0)) := by
  intro F ρ ca w hs hM
  have hv := hs.ev hx
  rw [hp] at hv
  have hc := hv.string_inv
  obtain ⟨h1, h2, h3⟩ := hM.alloc (o := .iter st 0) (x := .stringIter st 0) (ext := 0) (fun ρ' hup => ⟨hM.top _ (Nat.le_refl _), rfl, by show (w.heap.push _)[w.heap.size]? = _; simp⟩)
  refine ⟨_, .value (.pointer (some ⟨w.heap.size, 0, none⟩)), _, _, ?_, rfl, h2, by simp, .ptr (pl := ⟨w.heap.size, 0, 0⟩) (by simp [Rho.put]), h1, h3⟩
  simp only [execOp, ho, Instr.range, hc, Sem.run_bind, run_underlying ht, Result.andThen_ok, Sem.run_pure, run_newObj, World.alloc_eq]
theorem ok_next {x : Operand} {id pos : Nat} {st : ByteArray} (ho : o.op = .next x true) (hx : okO n x = true) (hp : ev s x = .pointer (some ⟨id, 0, none⟩)) (hg : M.get id = .iter st pos) :
    OpOK P n s o M (if pos < st.size then .tuple #[.bool true, .int .i64 pos, .int .i32 (Utf8.decode st pos).1] else .tuple #[.bool false])
      (if pos < st.size then M.set id (.iter st (pos + (Utf8.decode st pos).2)) else M) := by
  intro F ρ ca w hs hM
  have hv := hs.ev hx
  rw [hp] at hv
  obtain ⟨_, pl, hpl, hc⟩ := hv.ptr_inv
  have hob := hM.obj id pl hpl
  rw [hg] at hob
  obtain ⟨hF, hb, hE⟩ := hob
  have hlt : pl.block < w.heap.size := (Array.getElem?_eq_some_iff.1 hE).1
  have hget : (getObj pl.block).run P w = .ok (.stringIter st pos) w := by simp [getObj, Sem.run, hE]
  dsimp only at hc
  rw [hb, Nat.zero_add] at hc
  have htup : ∀ (xs : Array Value), xs.toList.all isScalar = true → VR ρ (.tuple xs) (.tuple xs) := fun xs h => .tuple rfl (fun i x y hx hy => by
    rw [hx] at hy; cases hy
    exact .scalar (List.all_eq_true.1 h x (by rw [Array.mem_toList_iff]; exact Array.mem_of_getElem? hx)))
  by_cases hlt' : pos < st.size
  · simp only [if_pos hlt']
    obtain ⟨k1, k2⟩ := hM.putObj (x := .stringIter st (pos + (Utf8.decode st pos).2)) (o := .iter st (pos + (Utf8.decode st pos).2)) hpl (by rw [hg]; rfl) ⟨hF, hb, by simp [hlt]⟩
    refine ⟨ρ, .value (.tuple #[.bool true, .int .i64 pos, .int .i32 (Utf8.decode st pos).1]), _, _, ?_, rfl, .refl _ _, Nat.le_refl _, htup _ rfl, k1, k2⟩
    have hso := run_setObj (P := P) (o' := .stringIter st (pos + (Utf8.decode st pos).2)) hE (fun _ _ _ h => by cases h)
    simp only [execOp, ho, Instr.next, hc, Sem.run_bind, hget, Result.andThen_ok, if_pos hlt', hso, Sem.run_pure, goInt]
  · simp only [if_neg hlt']
    refine ⟨ρ, .value (.tuple #[.bool false]), _, w, ?_, rfl, .refl _ _, Nat.le_refl _, htup _ rfl, hM, .refl _ _⟩
    simp only [execOp, ho, Instr.next, hc, Sem.run_bind, hget, Result.andThen_ok, if_neg hlt', Sem.run_pure]
theorem equalIn_ptr_nil {t el : TypeId} (a : Addr) (d : Nat) (w : World) (ht : P.underlying t = some (.pointer el)) : (Op.equalIn (d + 1) t (.pointer (some a)) (.pointer none)).run P w = .ok false w := by
  simp only [Op.equalIn, Sem.run_bind, run_underlying ht, Result.andThen_ok, Sem.run_pure]
theorem equal_ptr_nil {t el : TypeId} (a : Addr) (w : World) (ht : P.underlying t = some (.pointer el)) : (Op.equal t (.pointer (some a)) (.pointer none)).run P w = .ok false w := equalIn_ptr_nil a 9999 w ht
theorem ok_ptr_nil {t el ty : TypeId} {x y : Operand} {a : Addr} {op : BinOp} (ho : o.op = .binOp op t x y ty) (hop : op = .eql ∨ op = .neq) (hx : okO n x = true) (hy : okO n y = true)
    (hp : ev s x = .pointer (some a)) (hq : ev s y = .pointer none) (ht : P.underlying t = some (.pointer el)) : OpOK P n s o M (.bool (op == .neq)) M :=
  OpOK.same fun ρ ca w hs => by
    have hvx := hs.ev hx
    rw [hp] at hvx
    obtain ⟨_, pl, hpl, hcx⟩ := hvx.ptr_inv
    have hvy := hs.ev hy
    rw [hq] at hvy
    have hcy := VR.scalar_inv rfl hvy
    refine ⟨.value (.bool (op == .neq)), _, ?_, rfl, .scalar rfl⟩
    have he := equal_ptr_nil (P := P) ⟨pl.block, pl.base + a.off, none⟩ w ht
    have hg1 : ∀ (op : BinOp) (x y : Operand) (p q : Option Addr), (eqGuard op t x y (.pointer p) (.pointer q)).run P w = .ok () w := by
      intro op x y p q
      unfold eqGuard
      cases op <;> rfl
    rcases hop with rfl | rfl
    · simp only [execOp, ho, hcx, hcy, binOp, Sem.run_bind, hg1, he, Result.andThen_ok, Sem.run_pure]; rfl
    · simp only [execOp, ho, hcx, hcy, binOp, Sem.run_bind, hg1, he, Result.andThen_ok, Sem.run_pure]; rfl
end ops
end Go.Proofs.Ytdkdkpiemigfkaa
set_option linter.unusedVariables false
set_option linter.unusedSimpArgs false
namespace Go.Proofs.Ytdkdkpiemigfkaa
open Go
def abits (op : BinOp) (k : IntKind) (a b : Int) : Int :=
  let x := BitVec.ofInt k.bits a
  let y := BitVec.ofInt k.bits b
  k.wrap (match op with
    | .and => (x &&& y).toNat
    | .or => (x ||| y).toNat
    | .xor => (x ^^^ y).toNat
    | _ => (x &&& ~~~y).toNat : Nat)
def abin (op : BinOp) (x y : Value) : Option Value :=
  match x, y with
  | .int k a, .int k' b =>
    match op with
    | .shl => if b < 0 then none else some (.int k (k.wrap (a * 2 ^ (min b.toNat k.bits))))
    | .shr => if b < 0 then none else some (.int k (a.fdiv (2 ^ (min b.toNat k.bits))))
    | _ => if k ≠ k' then none else
      match op with
      | .add => some (.int k (k.wrap (a + b)))
      | .sub => some (.int k (k.wrap (a - b)))
      | .mul => some (.int k (k.wrap (a * b)))
      | .quo => if b = 0 then none else some (.int k (k.wrap (a.tdiv b)))
      | .rem => if b = 0 then none else some (.int k (a.tmod b))
      | .and => some (.int k (abits .and k a b))
      | .or => some (.int k (abits .or k a b))
      | .xor => some (.int k (abits .xor k a b))
      | .andNot => some (.int k (abits .andNot k a b))
      | .eql => some (.bool (decide (a = b)))
      | .neq => some (.bool (!decide (a = b)))
      | .lss => some (.bool (decide (a < b)))
      | .leq => some (.bool (decide (a ≤ b)))
      | .gtr => some (.bool (decide (b < a)))
      | .geq => some (.bool (decide (b ≤ a)))
      | _ => none
  | .string a, .string b =>
    match op with
    | .add => if ((a.size + b.size : Nat) : Int) ≤ 9223372036854775807 then some (asString (a.data.toList ++ b.data.toList)) else none
    | .eql => some (.bool (decide (a.data.toList = b.data.toList)))
    | .neq => some (.bool (!decide (a.data.toList = b.data.toList)))
    | _ => none
  | _, _ => none
def aun (op : UnOp) (x : Value) : Option Value :=
  match op, x with
  | .neg, .int k n => some (.int k (k.wrap (0 - n)))
  | .not, .bool b => some (.bool (!b))
  | .xor, .int k n => some (.int k (abits .xor k (if k.signed then -1 else k.max) n))
  | _, _ => none
theorem beq_list (a b : List UInt8) : (a == b) = decide (a = b) := by rw [Bool.eq_iff_iff]; simp
theorem append_lists (a b : ByteArray) : a ++ b = ⟨(a.data.toList ++ b.data.toList).toArray⟩ := by
  apply ByteArray.ext
  simp
section
variable {P : Program} {n : Nat} {s : Slots} {o : Oper} {M : AMem}
theorem OpOK.flat2 {v : Value} {x y : Operand} (hx : okO n x = true) (hy : okO n y = true) (hsx : isScalar (ev s x) = true) (hsy : isScalar (ev s y) = true) (hv : isScalar v = true)
    (h : ∀ ca : Act, ca.eval x = ev s x → ca.eval y = ev s y → ∀ w, (execOp ca.eval o).run P w = .ok (.value v) w) : OpOK P n s o M v M :=
  OpOK.same fun ρ ca w hs => ⟨_, v, h ca (VR.scalar_inv hsx (hs.ev hx)) (VR.scalar_inv hsy (hs.ev hy)) w, rfl, .scalar hv⟩
theorem OpOK.flat1 {v : Value} {x : Operand} (hx : okO n x = true) (hsx : isScalar (ev s x) = true) (hv : isScalar v = true)
    (h : ∀ ca : Act, ca.eval x = ev s x → ∀ w, (execOp ca.eval o).run P w = .ok (.value v) w) : OpOK P n s o M v M :=
  OpOK.same fun ρ ca w hs => ⟨_, v, h ca (VR.scalar_inv hsx (hs.ev hx)) w, rfl, .scalar hv⟩
theorem guard_int {op : BinOp} {t : TypeId} {x y : Operand} {k k' : IntKind} {a b : Int} (w : World) : (eqGuard op t x y (.int k a) (.int k' b)).run P w = .ok () w := by cases op <;> rfl
theorem guard_str {op : BinOp} {t : TypeId} {x y : Operand} {a b : ByteArray} (w : World) : (eqGuard op t x y (.string a) (.string b)).run P w = .ok () w := by cases op <;> rfl
theorem i64max : IntKind.i64.max = 9223372036854775807 := by decide
theorem ok_bin {op : BinOp} {t ty : TypeId} {x y : Operand} {v : Value} (ho : o.op = .binOp op t x y ty) (hx : okO n x = true) (hy : okO n y = true) (h : abin op (ev s x) (ev s y) = some v) : OpOK P n s o M v M := by
  unfold abin at h
  split at h
  · rename_i k a k' b hxe hye
    have key : (∀ ca : Act, ca.eval x = ev s x → ca.eval y = ev s y → ∀ w : World, (execOp ca.eval o).run P w = .ok (.value v) w) ∧ isScalar v = true := by
      split at h
      · split at h
        · cases h
        · cases h
          refine ⟨fun ca h1 h2 w => ?_, rfl⟩
          rw [hxe] at h1; rw [hye] at h2
          simp only [execOp, ho, h1, h2, Sem.run_bind, guard_int, Result.andThen_ok, binOp, Op.shift]
          rw [if_neg (by assumption)]
          rfl
      · split at h
        · cases h
        · cases h
          refine ⟨fun ca h1 h2 w => ?_, rfl⟩
          rw [hxe] at h1; rw [hye] at h2
          simp only [execOp, ho, h1, h2, Sem.run_bind, guard_int, Result.andThen_ok, binOp, Op.shift]
          rw [if_neg (by assumption)]
          rfl
      · split at h
        · cases h
        · rename_i hne hne2 hk
          have hk' : k = k' := by simpa using hk
          subst hk'
          split at h
          case h_4 =>
            split at h
            · cases h
            · cases h
              refine ⟨fun ca h1 h2 w => ?_, rfl⟩
              rw [hxe] at h1; rw [hye] at h2
              simp only [execOp, ho, h1, h2, Sem.run_bind, guard_int, Result.andThen_ok, binOp, Op.intDiv, ne_eq, not_true_eq_false, if_false]
              rw [if_neg (by assumption)]
              rfl
          case h_5 =>
            split at h
            · cases h
            · cases h
              refine ⟨fun ca h1 h2 w => ?_, rfl⟩
              rw [hxe] at h1; rw [hye] at h2
              simp only [execOp, ho, h1, h2, Sem.run_bind, guard_int, Result.andThen_ok, binOp, Op.intDiv, ne_eq, not_true_eq_false, if_false]
              rw [if_neg (by assumption)]
              rfl
          case h_16 => cases h
          all_goals
            cases h
            refine ⟨fun ca h1 h2 w => ?_, rfl⟩
            rw [hxe] at h1; rw [hye] at h2
            simp only [execOp, ho, h1, h2, Sem.run_bind, guard_int, Result.andThen_ok, binOp, Op.intArith, Op.intBits, Op.intCmp, ne_eq, not_true_eq_false, if_false, abits]
            first
              | rfl
              | (simp [bne, BEq.beq]; done)
    exact OpOK.flat2 hx hy (by rw [hxe]; rfl) (by rw [hye]; rfl) key.2 key.1
  · rename_i a b hxe hye
    have key : (∀ ca : Act, ca.eval x = ev s x → ca.eval y = ev s y → ∀ w : World, (execOp ca.eval o).run P w = .ok (.value v) w) ∧ isScalar v = true := by
      split at h
      · split at h <;> rename_i hle
        · cases h
          refine ⟨fun ca h1 h2 w => ?_, rfl⟩
          rw [hxe] at h1; rw [hye] at h2
          simp only [execOp, ho, h1, h2, Sem.run_bind, guard_str, Result.andThen_ok, binOp, Op.stringOp, i64max]
          rw [if_neg (by omega), append_lists]
          rfl
        · cases h
      · cases h
        refine ⟨fun ca h1 h2 w => ?_, rfl⟩
        rw [hxe] at h1; rw [hye] at h2
        simp only [execOp, ho, h1, h2, Sem.run_bind, guard_str, Result.andThen_ok, binOp, Op.stringOp, ByteArray.toList_eq, Sem.run_pure, beq_list]
      · cases h
        refine ⟨fun ca h1 h2 w => ?_, rfl⟩
        rw [hxe] at h1; rw [hye] at h2
        simp only [execOp, ho, h1, h2, Sem.run_bind, guard_str, Result.andThen_ok, binOp, Op.stringOp, ByteArray.toList_eq, Sem.run_pure, beq_list]
      · cases h
    exact OpOK.flat2 hx hy (by rw [hxe]; rfl) (by rw [hye]; rfl) key.2 key.1
  · cases h
theorem ok_un {op : UnOp} {t : TypeId} {x : Operand} {v : Value} (ho : o.op = .unOp op t x) (hx : okO n x = true) (h : aun op (ev s x) = some v) : OpOK P n s o M v M := by
  unfold aun at h
  split at h
  · rename_i k m hxe
    cases h
    refine OpOK.flat1 hx (by rw [hxe]; rfl) rfl fun ca h1 w => ?_
    rw [hxe] at h1
    simp only [execOp, ho, h1, Op.unary, Op.intArith, Sem.run_bind, Sem.run_pure, Result.andThen_ok]
  · rename_i b hxe
    cases h
    refine OpOK.flat1 hx (by rw [hxe]; rfl) rfl fun ca h1 w => ?_
    rw [hxe] at h1
    simp only [execOp, ho, h1, Op.unary, Sem.run_bind, Sem.run_pure, Result.andThen_ok]
  · rename_i k m hxe
    cases h
    refine OpOK.flat1 hx (by rw [hxe]; rfl) rfl fun ca h1 w => ?_
    rw [hxe] at h1
    simp only [execOp, ho, h1, Op.unary, Op.intBits, Sem.run_bind, Sem.run_pure, Result.andThen_ok]
    rfl
  · cases h
theorem ok_conv {t u : TypeId} {x : Operand} {d : TypeDesc} {k k' : IntKind} {m : Int} (ho : o.op = .convert t u x) (hx : okO n x = true) (hp : ev s x = .int k m) (ht : P.underlying t = some d) (hu : P.underlying u = some (.int k')) :
    OpOK P n s o M (.int k' (k'.wrap m)) M := by
  refine OpOK.flat1 hx (by rw [hp]; rfl) rfl fun ca h1 w => ?_
  rw [hp] at h1
  simp only [execOp, ho, h1, convert, run_underlying ht, run_underlying hu, Sem.run_bind, Result.andThen_ok, Conv.intToInt, Sem.run_pure]
theorem ok_conv_str {t u : TypeId} {x : Operand} {d : TypeDesc} {st : ByteArray} (ho : o.op = .convert t u x) (hx : okO n x = true) (hp : ev s x = .string st) (ht : P.underlying t = some d) (hu : P.underlying u = some .string) :
    OpOK P n s o M (.string st) M := by
  refine OpOK.flat1 hx (by rw [hp]; rfl) rfl fun ca h1 w => ?_
  rw [hp] at h1
  simp only [execOp, ho, h1, convert, run_underlying ht, run_underlying hu, Sem.run_bind, Result.andThen_ok, Sem.run_pure]
theorem ok_index_str {t : TypeId} {x y : Operand} {st : ByteArray} {k : IntKind} {j : Int} {b : UInt8} (ho : o.op = .index t x y) (hx : okO n x = true) (hy : okO n y = true) (hp : ev s x = .string st) (hq : ev s y = .int k j)
    (ht : P.underlying t = some .string) (h0 : 0 ≤ j) (hb : st.data.toList[j.toNat]? = some b) : OpOK P n s o M (.int .u8 b.toNat) M := by
  refine OpOK.flat2 hx hy (by rw [hp]; rfl) (by rw [hq]; rfl) rfl fun ca h1 h2 w => ?_
  rw [hp] at h1
  rw [hq] at h2
  have hb' : st[j.toNat]? = some b := by
    have hlt := (List.getElem?_eq_some_iff.1 hb).1
    have hlt' : j.toNat < st.size := by simpa using hlt
    have := (List.getElem?_eq_some_iff.1 hb).2
    rw [getElem?_pos st j.toNat hlt']
    rw [← this]
    rfl
  simp only [execOp, ho, h1, h2, Instr.index, asIntOf, run_underlying ht, Sem.run_bind, Result.andThen_ok, Sem.run_pure, h0, if_true, hb']
theorem ok_slice_str {t : TypeId} {x : Operand} {lo hi : Option Operand} {st : ByteArray} {l h : Int} (ho : o.op = .slice t x lo hi none) (hx : okO n x = true)
    (hlo : ∀ x, lo = some x → okO n x = true) (hhi : ∀ x, hi = some x → okO n x = true) (hp : ev s x = .string st) (ht : P.underlying t = some .string)
    (hl : abound s 0 lo = some l) (hh : abound s st.size hi = some h) (h0 : 0 ≤ l) (h1 : l ≤ h) (h2 : h ≤ st.size) :
    OpOK P n s o M (asString ((st.data.toList.drop l.toNat).take (h - l).toNat)) M :=
  OpOK.same fun ρ ca w hs => by
    have hv := hs.ev hx
    rw [hp] at hv
    have hc := hv.string_inv
    have hb := run_sliceBounds (P := P) (w := w) hs hlo hhi false hl hh h0 h1 h2 (Nat.le_refl _)
    refine ⟨.value (.string (st.extract l.toNat h.toNat)), _, ?_, rfl, ?_⟩
    · simp only [execOp, ho, Instr.sliceAt, Instr.slice, hc, run_underlying ht, Sem.run_bind, Result.andThen_ok, Option.map_none, Option.isSome_none, Bool.false_eq_true, if_false, hb, Sem.run_pure]
    · have : st.extract l.toNat h.toNat = ⟨((st.data.toList.drop l.toNat).take (h - l).toNat).toArray⟩ := by
        apply ByteArray.ext
        rw [← Array.toArray_toList (xs := (st.extract l.toNat h.toNat).data)]
        congr 1
        rw [show (h - l).toNat = h.toNat - l.toNat from by omega]
        simp
      rw [this]
      exact .scalar rfl
theorem ok_len_str {t : TypeId} {x : Operand} {st : ByteArray} (ho : o.op = .call { callee := .builtin .len, args := #[x], argTypes := #[t] }) (hx : okO n x = true) (hp : ev s x = .string st) (ht : P.underlying t = some .string) :
    OpOK P n s o M (.int .i64 (st.data.toList.length : Nat)) M := by
  refine OpOK.flat1 hx (by rw [hp]; rfl) rfl fun ca h1 w => ?_
  rw [hp] at h1
  have : st.data.toList.length = st.size := by simp
  simp [execOp, ho, h1, resolve, invoke, builtin, Builtin.len_, run_underlying ht, goInt]
end
structure AOp where
  dst : Option Nat
  op : Op
  type : TypeId
  g : Option (Nat × Bool)
def AOp.oper (a : AOp) : Oper := { dst := a.dst, op := a.op, type := a.type, pos := "", after := #[], guard := none }
def okOp (n : Nat) (op : Op) : Bool :=
  op.operands.all (okO n) && (match op with
    | .select .. | .defer _ | .go _ => false
    | .makeFunc fn _ _ => plainFn fn
    | _ => true)
def aslice (P : Program) (s : Slots) (M : AMem) (t : TypeId) (x : Value) (lo hi : Option Operand) : Option Value :=
  match P.underlying t, x with
  | some (.slice el), .slice (some ⟨id, off, none⟩) len e =>
    match P.info? el, abound s 0 lo, abound s len hi with
    | some i, some l, some h => if i.size = e ∧ 0 ≤ l ∧ l ≤ h ∧ h ≤ len then some (.slice (some ⟨id, off + l.toNat * e, none⟩) (h - l).toNat e) else none
    | _, _, _ => none
  | some (.slice el), .slice none 0 0 =>
    match P.info? el, abound s 0 lo, abound s 0 hi with
    | some _, some l, some h => if l = 0 ∧ h = 0 then some (.slice none 0 0) else none
    | _, _, _ => none
  | some (.array len el), .pointer (some ⟨id, off, none⟩) =>
    match P.info? el, M.get id, abound s 0 lo, abound s len hi with
    | some i, .cells cs _, some l, some h => if off + len * i.size ≤ cs.length ∧ 0 ≤ l ∧ l ≤ h ∧ h ≤ len then some (.slice (some ⟨id, off + l.toNat * i.size, none⟩) (h - l).toNat i.size) else none
    | _, _, _, _ => none
  | some .string, .string st =>
    match abound s 0 lo, abound s st.size hi with
    | some l, some h => if 0 ≤ l ∧ l ≤ h ∧ h ≤ st.size then some (asString ((st.data.toList.drop l.toNat).take (h - l).toNat)) else none
    | _, _ => none
  | _, _ => none
def aconv (P : Program) (M : AMem) (t u : TypeId) (x : Value) : Option (Value × AMem) :=
  match P.underlying t, P.underlying u, x with
  | some _, some (.int k'), .int _ m => some (.int k' (k'.wrap m), M)
  | some .string, some (.slice el), .string st =>
    match P.underlying el with
    | some (.int .u8) => some (.slice (some ⟨M.next, 0, none⟩) st.size 1, M.alloc (.cells (bcells st) true))
    | _ => none
  | some _, some .string, .string st => some (.string st, M)
  | some (.slice el), some .string, .slice (some ⟨id, off, none⟩) len 1 =>
    match P.underlying el, M.get id with
    | some (.int .u8), .cells cs _ => if off + len ≤ cs.length then (cellBytes ((cs.drop off).take len)).map fun bs => (asString bs, M) else none
    | _, _ => none
  | some (.slice el), some .string, .slice none 0 0 =>
    match P.underlying el with
    | some (.int .u8) => some (asString [], M)
    | _ => none
  | _, _, _ => none
def aindex (P : Program) (t : TypeId) (x y : Value) : Option Value :=
  match P.underlying t, x, y with
  | some .string, .string st, .int _ j => if 0 ≤ j then (st.data.toList[j.toNat]?).map fun b => .int .u8 b.toNat else none
  | _, _, _ => none
def aindexAddr (P : Program) (t : TypeId) (x y : Value) : Option Value :=
  match P.underlying t, x, y with
  | some (.slice el), .slice (some ⟨id, off, none⟩) len e, .int _ j =>
    match P.info? el with
    | some i => if i.size = e ∧ 0 ≤ j ∧ j < len then some (.pointer (some ⟨id, off + j.toNat * e, none⟩)) else none
    | none => none
  | some (.array len el), .pointer (some ⟨id, off, none⟩), .int _ j =>
    match P.info? el with
    | some i => if 0 ≤ j ∧ j < len then some (.pointer (some ⟨id, off + j.toNat * i.size, none⟩)) else none
    | none => none
  | _, _, _ => none
def afieldAddr (P : Program) (t : TypeId) (x : Value) (f : Nat) : Option Value :=
  match P.underlying t, x with
  | some (.struct fs), .pointer (some ⟨id, off, none⟩) =>
    match fs[f]? with
    | some fd => match P.info? fd.type with
      | some i => if i.size ≠ 0 then some (.pointer (some ⟨id, off + fd.offset, none⟩)) else none
      | none => none
    | none => none
  | _, _ => none
def afield (P : Program) (t : TypeId) (x : Value) (f : Nat) : Option Value :=
  match P.underlying t, x with
  | some (.struct fs), .agg cs =>
    match fs[f]? with
    | some fd => apart P fd.type cs.toList fd.offset
    | none => none
  | _, _ => none
def alen (P : Program) (M : AMem) (t : TypeId) (x : Value) : Option Value :=
  match P.underlying t, x with
  | some (.slice _), .slice _ len _ => some (.int .i64 len)
  | some .string, .string st => some (.int .i64 (st.data.toList.length : Nat))
  | some (.map _ _), .map (some id) => match M.get id with
    | .map es => some (.int .i64 es.length)
    | _ => none
  | _, _ => none
def aappendOp (P : Program) (M : AMem) (t tx : TypeId) (x y : Value) : Option (Value × AMem) :=
  match P.underlying t, P.underlying tx with
  | some (.slice el), some dx =>
    match dx, P.info? el with
    | .int _, _ => none
    | _, some i =>
      match i.zero, asrc M i.size y, x with
      | some z, some (m, cs), .slice _ _ _ => if z.cells.size = i.size then aappend M i.size i.bytes x m cs else none
      | _, _, _ => none
    | _, none => none
  | _, _ => none
def acopyOp (P : Program) (M : AMem) (t : TypeId) (x y : Value) : Option (Value × AMem) :=
  match P.underlying t, x with
  | some (.slice el), .slice (some ⟨id, off, none⟩) len e =>
    match P.info? el, M.get id with
    | some i, .cells old true =>
      match asrc M i.size y with
      | some (m, cs) => if e = i.size ∧ off + len * i.size ≤ old.length ∧ cs.all (·.oneCell') = true then
          some (.int .i64 (min m len : Nat), M.set id (.cells (aput old off (cs.take (min m len * i.size))) true)) else none
      | none => none
    | _, _ => none
  | _, _ => none
def amakeSlice (P : Program) (M : AMem) (t : TypeId) (l c : Value) : Option (Value × AMem) :=
  match P.underlying t, l, c with
  | some (.slice el), .int _ j, .int _ j' =>
    match P.info? el with
    | some i => match i.zero with
      | some z => if j = j' ∧ z.cells.size = i.size ∧ (zeroRow z (j.toNat * i.size)).all (flatN 3) = true ∧ 0 ≤ j ∧ j ≤ 9223372036854775807 ∧ (i.bytes : Int) * j ≤ 2 ^ 48 then
          some (.slice (some ⟨M.next, 0, none⟩) j.toNat i.size, M.alloc (.cells (zeroRow z (j.toNat * i.size)) true)) else none
      | none => none
    | none => none
  | _, _, _ => none
def alookup (P : Program) (M : AMem) (t : TypeId) (x y : Value) (ok : Bool) : Option Value :=
  match P.underlying t, x with
  | some (.map key el), .map (some id) =>
    match P.underlying key, P.info? el, M.get id with
    | some kd, some i, .map es =>
      match i.zero, afind kd y es 0 with
      | some z, some r => if easyKey kd y = true ∧ flat z = true then some (lookRes ok r z) else none
      | _, _ => none
    | _, _, _ => none
  | _, _ => none
def amapUpdate (P : Program) (M : AMem) (t : TypeId) (x y v : Value) : Option AMem :=
  match P.underlying t, x with
  | some (.map key el), .map (some id) =>
    match P.underlying key, M.get id with
    | some kd, .map es => if easyKey kd y = true then (aset kd y v es).map fun es' => M.set id (.map es') else none
    | _, _ => none
  | _, _ => none
def anext (M : AMem) (x : Value) : Option (Value × AMem) :=
  match x with
  | .pointer (some ⟨id, 0, none⟩) => match M.get id with
    | .iter st pos => some (if pos < st.size then .tuple #[.bool true, .int .i64 pos, .int .i32 (Utf8.decode st pos).1] else .tuple #[.bool false],
        if pos < st.size then M.set id (.iter st (pos + (Utf8.decode st pos).2)) else M)
    | _ => none
  | _ => none
def aptrNil (P : Program) (op : BinOp) (t : TypeId) (x y : Value) : Option Value :=
  match P.underlying t, x, y with
  | some (.pointer _), .pointer (some _), .pointer none => if op = .eql ∨ op = .neq then some (.bool (op == .neq)) else none
  | _, _, _ => none
def acall (P : Program) (s : Slots) (M : AMem) (c : Call) (o : AOp) : Option (Value × AMem) :=
  match c.callee, c.args.toList, c.argTypes.toList with
  | .builtin .len, [x], [t] => (alen P M t (ev s x)).map fun v => (v, M)
  | .builtin .append, [x, y], [t, tx] => aappendOp P M t tx (ev s x) (ev s y)
  | .builtin .copy, [x, y], [t, _] => acopyOp P M t (ev s x) (ev s y)
  | .builtin _, _, _ => (apure P s o.oper).map fun v => (v, M)
  | _, _, _ => none
def aop (P : Program) (s : Slots) (M : AMem) (o : AOp) : Option (Value × AMem) :=
  match o.op with
  | .move x => some (ev s x, M)
  | .assign x => some (ev s x, M)
  | .pick c a b => match ev s c with
    | .bool t => some (if t then ev s a else ev s b, M)
    | _ => none
  | .alloc t => match P.info? t with
    | some i => match i.zero with
      | some z => if flat z then some (newPtr M, M.alloc (.cells z.cells.toList true)) else none
      | none => none
    | none => none
  | .box t x => some (newPtr M, M.alloc (.cells (ev s x).cells.toList true))
  | .build t ps => (abuild P t (ps.toList.map fun p => (p.1, ev s p.2))).map fun cs => (.agg cs.toArray, M)
  | .buildSlice t len ps => (abuildSlice P t len (ps.toList.map fun p => (p.1, ev s p.2))).map fun r => (.slice (some ⟨M.next, 0, none⟩) len r.1, M.alloc (.cells r.2 true))
  | .load t a => match ev s a with
    | .pointer (some ⟨id, off, none⟩) => match M.get id with
      | .cells cs _ => (aload P t cs off).map fun v => (v, M)
      | _ => none
    | _ => none
  | .store t a x => match ev s a with
    | .pointer (some ⟨id, off, none⟩) => match M.get id with
      | .cells cs true => (astore P t cs off (ev s x)).map fun cs' => (undef, M.set id (.cells cs' true))
      | _ => none
    | _ => none
  | .nilCheck x => match ev s x with
    | .pointer (some a) => some (.pointer (some a), M)
    | .func (.func f) a b => some (.func (.func f) a b, M)
    | _ => none
  | .fieldAddr t x f => (afieldAddr P t (ev s x) f).map fun v => (v, M)
  | .indexAddr t x y => (aindexAddr P t (ev s x) (ev s y)).map fun v => (v, M)
  | .slice t x lo hi none => (aslice P s M t (ev s x) lo hi).map fun v => (v, M)
  | .extract x k => match ev s x with
    | .tuple vs => (vs[k]?).map fun v => (v, M)
    | _ => none
  | .field t x f => (afield P t (ev s x) f).map fun v => (v, M)
  | .index t x y => (aindex P t (ev s x) (ev s y)).map fun v => (v, M)
  | .makeFunc fn f c => some (.func fn (f.map (ev s)) (c.map (ev s)), M)
  | .makeMap t none => some (.map (some M.next), M.alloc (.map []))
  | .makeSlice t l c => amakeSlice P M t (ev s l) (ev s c)
  | .convert t u x => aconv P M t u (ev s x)
  | .lookup t x y ok => (alookup P M t (ev s x) (ev s y) ok).map fun v => (v, M)
  | .mapUpdate t x y u => (amapUpdate P M t (ev s x) (ev s y) (ev s u)).map fun M' => (undef, M')
  | .insert t x y u => (amapUpdate P M t (ev s x) (ev s y) (ev s u)).map fun M' => (undef, M')
  | .range t x => match P.underlying t, ev s x with
    | some .string, .string st => some (newPtr M, M.alloc (.iter st 0))
    | _, _ => none
  | .next x true => anext M (ev s x)
  | .unOp op _ x => (aun op (ev s x)).map fun v => (v, M)
  | .binOp op t x y ty => match abin op (ev s x) (ev s y) with
    | some v => some (v, M)
    | none => match aptrNil P op t (ev s x) (ev s y) with
      | some v => some (v, M)
      | none => (apure P s o.oper).map fun v => (v, M)
  | .call c => acall P s M c o
  | .makeInterface t x => match P.underlying t with
    | some (.interface _) => none
    | some _ => some (.iface t (ev s x), M)
    | none => none
  | _ => (apure P s o.oper).map fun v => (v, M)
end Go.Proofs.Ytdkdkpiemigfkaa
set_option linter.unusedVariables false
set_option linter.unusedSimpArgs false
namespace Go.Proofs.Ytdkdkpiemigfkaa
open Go
theorem OpOK.congr {P : Program} {n : Nat} {s : Slots} {o o' : Oper} {M M' : AMem} {v : Value} (h : OpOK P n s o M v M') (h1 : o'.op = o.op) (h2 : o'.type = o.type) : OpOK P n s o' M v M' := by
  intro F ρ ca w hs hM
  obtain ⟨ρ', nx, cv, w', g, rest⟩ := h F ρ ca w hs hM
  refine ⟨ρ', nx, cv, w', ?_, rest⟩
  have : execOp ca.eval o' = execOp ca.eval o := by simp only [execOp, h1, h2]
  rw [this]; exact g
theorem map_pair {α β : Type} {o : Option α} {f : α → β} {b : β} (h : o.map f = some b) : ∃ a, o = some a ∧ f a = b := Option.map_eq_some_iff.1 h
section
variable {P : Program} {n : Nat} {s : Slots} {M M' : AMem} {v : Value}
theorem ok1 {op : Op} {x : Operand} (hok : okOp n op = true) (hx : x ∈ op.operands) : okO n x = true := by
  simp only [okOp, Bool.and_eq_true] at hok
  exact Array.all_eq_true'.1 hok.1 x hx
theorem ok_aop (a : AOp) (hok : okOp n a.op = true) (h : aop P s M a = some (v, M')) : OpOK P n s a.oper M v M' := by
  obtain ⟨dst, op, ty, g⟩ := a
  have hpure : ∀ {v : Value} {M' : AMem}, (apure P s (AOp.oper ⟨dst, op, ty, g⟩)).map (fun v => (v, M)) = some (v, M') → OpOK P n s (AOp.oper ⟨dst, op, ty, g⟩) M v M' := by
    intro v M' h
    obtain ⟨u, h1, h2⟩ := map_pair h
    cases h2
    refine apure_ok (fun cs b he => ?_) ?_ h1
    · simp only [AOp.oper] at he
      subst he
      simp [okOp] at hok
    · simp only [okOp, Bool.and_eq_true] at hok
      exact hok.1
  simp only at hok
  cases op with
  | move x =>
    simp only [aop, Option.some.injEq, Prod.mk.injEq] at h
    obtain ⟨rfl, rfl⟩ := h
    exact ok_move (.inl rfl) (ok1 hok (by simp [Op.operands]))
  | assign x =>
    simp only [aop, Option.some.injEq, Prod.mk.injEq] at h
    obtain ⟨rfl, rfl⟩ := h
    exact ok_move (.inr rfl) (ok1 hok (by simp [Op.operands]))
  | pick c a b =>
    simp only [aop] at h
    split at h
    · rename_i t ht
      simp only [Option.some.injEq, Prod.mk.injEq] at h
      obtain ⟨rfl, rfl⟩ := h
      exact ok_pick rfl (ok1 hok (by simp [Op.operands])) (ok1 hok (by simp [Op.operands])) (ok1 hok (by simp [Op.operands])) ht
    · cases h
  | alloc t =>
    simp only [aop] at h
    split at h
    · rename_i i hi
      split at h
      · rename_i z hz
        split at h
        · rename_i hf
          simp only [Option.some.injEq, Prod.mk.injEq] at h
          obtain ⟨rfl, rfl⟩ := h
          exact ok_alloc rfl hi hz hf
        · cases h
      · cases h
    · cases h
  | box t x =>
    simp only [aop, Option.some.injEq, Prod.mk.injEq] at h
    obtain ⟨rfl, rfl⟩ := h
    exact ok_box rfl (ok1 hok (by simp [Op.operands]))
  | build t ps =>
    simp only [aop] at h
    obtain ⟨cs, h1, h2⟩ := map_pair h
    cases h2
    refine ok_build rfl ?_ h1
    simp only [okOp, Bool.and_eq_true] at hok
    rw [Array.all_eq_true']
    intro p hp
    exact Array.all_eq_true'.1 hok.1 p.2 (by simp only [Op.operands]; simp; exact ⟨p.1, hp⟩)
  | buildSlice t len ps =>
    simp only [aop] at h
    obtain ⟨r, h1, h2⟩ := map_pair h
    cases h2
    refine ok_buildSlice rfl ?_ (e := r.1) (cs := r.2) h1
    simp only [okOp, Bool.and_eq_true] at hok
    rw [Array.all_eq_true']
    intro p hp
    exact Array.all_eq_true'.1 hok.1 p.2 (by simp only [Op.operands]; simp; exact ⟨p.1, hp⟩)
  | load t a =>
    simp only [aop] at h
    split at h
    · rename_i id off hp
      split at h
      · rename_i cs own hg
        obtain ⟨u, h1, h2⟩ := map_pair h
        cases h2
        exact ok_load rfl (ok1 hok (by simp [Op.operands])) hp hg h1
      · cases h
    · cases h
  | store t a x =>
    simp only [aop] at h
    split at h
    · rename_i id off hp
      split at h
      · rename_i cs hg
        obtain ⟨u, h1, h2⟩ := map_pair h
        cases h2
        exact ok_store rfl (ok1 hok (by simp [Op.operands])) (ok1 hok (by simp [Op.operands])) hp hg h1
      · cases h
    · cases h
  | nilCheck x =>
    simp only [aop] at h
    split at h
    · rename_i a hp
      simp only [Option.some.injEq, Prod.mk.injEq] at h
      obtain ⟨rfl, rfl⟩ := h
      have := ok_nilCheck (P := P) (M := M) (o := AOp.oper ⟨dst, .nilCheck x, ty, g⟩) rfl (ok1 hok (by simp [Op.operands])) hp
      rwa [hp] at this
    · rename_i f a b hp
      simp only [Option.some.injEq, Prod.mk.injEq] at h
      obtain ⟨rfl, rfl⟩ := h
      have := ok_nilCheck_func (P := P) (M := M) (o := AOp.oper ⟨dst, .nilCheck x, ty, g⟩) rfl (ok1 hok (by simp [Op.operands])) hp
      rwa [hp] at this
    · cases h
  | fieldAddr t x f =>
    simp only [aop] at h
    obtain ⟨u, h1, h2⟩ := map_pair h
    cases h2
    unfold afieldAddr at h1
    split at h1
    · rename_i fs id off ht hp
      split at h1
      · rename_i fd hfd
        split at h1
        · rename_i i hi
          split at h1
          · rename_i hz
            simp only [Option.some.injEq] at h1
            subst h1
            exact ok_fieldAddr rfl (ok1 hok (by simp [Op.operands])) hp ht hfd hi hz
          · cases h1
        · cases h1
      · cases h1
    · cases h1
  | indexAddr t x y =>
    simp only [aop] at h
    obtain ⟨u, h1, h2⟩ := map_pair h
    cases h2
    unfold aindexAddr at h1
    split at h1
    · rename_i el id off len e k j ht hp hj
      split at h1
      · rename_i i hi
        split at h1
        · rename_i hc
          simp only [Option.some.injEq] at h1
          subst h1
          exact ok_indexAddr rfl (ok1 hok (by simp [Op.operands])) (ok1 hok (by simp [Op.operands])) hp hj ht hi hc.1 hc.2.1 hc.2.2
        · cases h1
      · cases h1
    · rename_i len el id off k j ht hp hj
      split at h1
      · rename_i i hi
        split at h1
        · rename_i hc
          simp only [Option.some.injEq] at h1
          subst h1
          exact ok_indexAddr_arr rfl (ok1 hok (by simp [Op.operands])) (ok1 hok (by simp [Op.operands])) hp hj ht hi hc.1 hc.2
        · cases h1
      · cases h1
    · cases h1
  | slice t x lo hi mx =>
    cases mx with
    | some m => exact hpure (by simpa [aop] using h)
    | none =>
      simp only [aop] at h
      obtain ⟨u, h1, h2⟩ := map_pair h
      cases h2
      have hx : okO n x = true := ok1 hok (by simp [Op.operands])
      have hlo : ∀ y, lo = some y → okO n y = true := fun y hy => ok1 hok (by subst hy; simp [Op.operands])
      have hhi : ∀ y, hi = some y → okO n y = true := fun y hy => ok1 hok (by subst hy; simp [Op.operands])
      unfold aslice at h1
      split at h1
      · rename_i el id off len e ht hp
        split at h1
        · rename_i i l h' hi' hl hh
          split at h1
          · rename_i hc
            simp only [Option.some.injEq] at h1
            subst h1
            exact ok_slice rfl hx hlo hhi hp ht hi' hc.1 hl hh hc.2.1 hc.2.2.1 hc.2.2.2
          · cases h1
        · cases h1
      · rename_i el ht hp
        split at h1
        · rename_i i l h' hi' hl hh
          split at h1
          · rename_i hc
            simp only [Option.some.injEq] at h1
            subst h1
            exact ok_slice_nil rfl hx hlo hhi hp ht hi' hl hh hc.1 hc.2
          · cases h1
        · cases h1
      · rename_i len el id off ht hp
        split at h1
        · rename_i i cs own l h' hi' hg hl hh
          split at h1
          · rename_i hc
            simp only [Option.some.injEq] at h1
            subst h1
            exact ok_slice_arr rfl hx hlo hhi hp ht hi' hg hc.1 hl hh hc.2.1 hc.2.2.1 hc.2.2.2
          · cases h1
        · cases h1
      · rename_i st ht hp
        split at h1
        · rename_i l h' hl hh
          split at h1
          · rename_i hc
            simp only [Option.some.injEq] at h1
            subst h1
            exact ok_slice_str rfl hx hlo hhi hp ht hl hh hc.1 hc.2.1 hc.2.2
          · cases h1
        · cases h1
      · cases h1
  | extract x k =>
    simp only [aop] at h
    split at h
    · rename_i vs hp
      obtain ⟨u, h1, h2⟩ := map_pair h
      cases h2
      exact ok_extract rfl (ok1 hok (by simp [Op.operands])) hp h1
    · cases h
  | field t x f =>
    simp only [aop] at h
    obtain ⟨u, h1, h2⟩ := map_pair h
    cases h2
    unfold afield at h1
    split at h1
    · rename_i fs cs ht hp
      split at h1
      · rename_i fd hfd
        exact ok_field rfl (ok1 hok (by simp [Op.operands])) hp ht hfd h1
      · cases h1
    · cases h1
  | index t x y =>
    simp only [aop] at h
    obtain ⟨u, h1, h2⟩ := map_pair h
    cases h2
    unfold aindex at h1
    split at h1
    · rename_i st k j ht hp hj
      split at h1
      · rename_i h0
        obtain ⟨b, h3, h4⟩ := map_pair h1
        subst h4
        exact ok_index_str rfl (ok1 hok (by simp [Op.operands])) (ok1 hok (by simp [Op.operands])) hp hj ht h0 h3
      · cases h1
    · cases h1
  | makeFunc fn f c =>
    simp only [aop, Option.some.injEq, Prod.mk.injEq] at h
    obtain ⟨rfl, rfl⟩ := h
    simp only [okOp, Bool.and_eq_true, Op.operands] at hok
    refine ok_makeFunc rfl hok.2 ?_ ?_
    · rw [Array.all_eq_true']; intro x hx; exact Array.all_eq_true'.1 hok.1 x (Array.mem_append.2 (.inl hx))
    · rw [Array.all_eq_true']; intro x hx; exact Array.all_eq_true'.1 hok.1 x (Array.mem_append.2 (.inr hx))
  | makeMap t r =>
    cases r with
    | some x => exact hpure (by simpa [aop] using h)
    | none =>
      simp only [aop, Option.some.injEq, Prod.mk.injEq] at h
      obtain ⟨rfl, rfl⟩ := h
      exact ok_makeMap rfl
  | makeSlice t l c =>
    simp only [aop] at h
    unfold amakeSlice at h
    split at h
    · rename_i el k j k' j' ht hl hc
      split at h
      · rename_i i hi
        split at h
        · rename_i z hz
          split at h
          · rename_i hcond
            simp only [Option.some.injEq, Prod.mk.injEq] at h
            obtain ⟨rfl, rfl⟩ := h
            obtain ⟨hj, h1, h2, h3, h4, h5⟩ := hcond
            subst hj
            exact ok_makeSlice rfl (ok1 hok (by simp [Op.operands])) (ok1 hok (by simp [Op.operands])) hl hc ht hi hz h1 h2 h3 h4 h5
          · cases h
        · cases h
      · cases h
    · cases h
  | convert t u x =>
    have hx : okO n x = true := ok1 hok (by simp [Op.operands])
    simp only [aop] at h
    unfold aconv at h
    split at h
    · rename_i d k' k m ht hu hp
      simp only [Option.some.injEq, Prod.mk.injEq] at h
      obtain ⟨rfl, rfl⟩ := h
      exact ok_conv rfl hx hp ht hu
    · rename_i el st ht hu hp
      split at h
      · rename_i he
        simp only [Option.some.injEq, Prod.mk.injEq] at h
        obtain ⟨rfl, rfl⟩ := h
        exact ok_toBytes rfl hx hp ht hu he
      · cases h
    · rename_i d st ht hu hp
      simp only [Option.some.injEq, Prod.mk.injEq] at h
      obtain ⟨rfl, rfl⟩ := h
      exact ok_conv_str rfl hx hp ht hu
    · rename_i el id off len ht hu hp
      split at h
      · rename_i cs own he hg
        split at h
        · rename_i hle
          obtain ⟨bs, h1, h2⟩ := map_pair h
          cases h2
          exact ok_toString rfl hx hp ht hu he hg hle h1
        · cases h
      · cases h
    · rename_i el ht hu hp
      split at h
      · rename_i he
        simp only [Option.some.injEq, Prod.mk.injEq] at h
        obtain ⟨rfl, rfl⟩ := h
        exact ok_toString_nil rfl hx hp ht hu he
      · cases h
    · cases h
  | lookup t x y ok =>
    simp only [aop] at h
    obtain ⟨u, h1, h2⟩ := map_pair h
    cases h2
    unfold alookup at h1
    split at h1
    · rename_i key el id ht hp
      split at h1
      · rename_i kd i es hk hi hg
        split at h1
        · rename_i z r hz hr
          split at h1
          · rename_i hc
            simp only [Option.some.injEq] at h1
            subst h1
            exact ok_lookup rfl (ok1 hok (by simp [Op.operands])) (ok1 hok (by simp [Op.operands])) hp hg ht hk hc.1 hi hz hc.2 hr
          · cases h1
        · cases h1
      · cases h1
    · cases h1
  | mapUpdate t x y u =>
    simp only [aop] at h
    obtain ⟨M2, h1, h2⟩ := map_pair h
    cases h2
    unfold amapUpdate at h1
    split at h1
    · rename_i key el id ht hp
      split at h1
      · rename_i kd es hk hg
        split at h1
        · rename_i he
          obtain ⟨es', h3, h4⟩ := map_pair h1
          subst h4
          exact ok_mapUpdate (.inl rfl) (ok1 hok (by simp [Op.operands])) (ok1 hok (by simp [Op.operands])) (ok1 hok (by simp [Op.operands])) hp hg ht hk he h3
        · cases h1
      · cases h1
    · cases h1
  | insert t x y u =>
    simp only [aop] at h
    obtain ⟨M2, h1, h2⟩ := map_pair h
    cases h2
    unfold amapUpdate at h1
    split at h1
    · rename_i key el id ht hp
      split at h1
      · rename_i kd es hk hg
        split at h1
        · rename_i he
          obtain ⟨es', h3, h4⟩ := map_pair h1
          subst h4
          exact ok_mapUpdate (.inr rfl) (ok1 hok (by simp [Op.operands])) (ok1 hok (by simp [Op.operands])) (ok1 hok (by simp [Op.operands])) hp hg ht hk he h3
        · cases h1
      · cases h1
    · cases h1
  | range t x =>
    simp only [aop] at h
    split at h
    · rename_i st ht hp
      simp only [Option.some.injEq, Prod.mk.injEq] at h
      obtain ⟨rfl, rfl⟩ := h
      exact ok_range rfl (ok1 hok (by simp [Op.operands])) hp ht
    · cases h
  | next x b =>
    cases b with
    | false => exact hpure (by simpa [aop] using h)
    | true =>
      simp only [aop] at h
      unfold anext at h
      split at h
      · rename_i id hp
        split at h
        · rename_i st pos hg
          simp only [Option.some.injEq, Prod.mk.injEq] at h
          obtain ⟨rfl, rfl⟩ := h
          exact ok_next rfl (ok1 hok (by simp [Op.operands])) hp hg
        · cases h
      · cases h
  | unOp op t x =>
    simp only [aop] at h
    obtain ⟨u, h1, h2⟩ := map_pair h
    cases h2
    exact ok_un rfl (ok1 hok (by simp [Op.operands])) h1
  | binOp op t x y u =>
    simp only [aop] at h
    split at h
    · rename_i w hw
      simp only [Option.some.injEq, Prod.mk.injEq] at h
      obtain ⟨rfl, rfl⟩ := h
      exact ok_bin rfl (ok1 hok (by simp [Op.operands])) (ok1 hok (by simp [Op.operands])) hw
    · split at h
      · rename_i w hw
        simp only [Option.some.injEq, Prod.mk.injEq] at h
        obtain ⟨rfl, rfl⟩ := h
        unfold aptrNil at hw
        split at hw
        · rename_i el a ht hp hq
          split at hw
          · rename_i hop
            simp only [Option.some.injEq] at hw
            subst hw
            exact ok_ptr_nil rfl hop (ok1 hok (by simp [Op.operands])) (ok1 hok (by simp [Op.operands])) hp hq ht
          · cases hw
        · cases hw
      · exact hpure h
  | makeInterface t x =>
    simp only [aop] at h
    split at h
    · cases h
    · rename_i d hd ht
      simp only [Option.some.injEq, Prod.mk.injEq] at h
      obtain ⟨rfl, rfl⟩ := h
      exact ok_makeIface rfl (ok1 hok (by simp [Op.operands])) ht (fun m he => hd m (he ▸ rfl))
    · cases h
  | call c =>
    have h : acall P s M c ⟨dst, .call c, ty, g⟩ = some (v, M') := h
    have hopen : ∀ {b : Builtin} {xs : List Operand} {ts : List TypeId}, c.callee = .builtin b → c.args.toList = xs → c.argTypes.toList = ts →
        (AOp.oper ⟨dst, .call c, ty, g⟩).op = .call { callee := .builtin b, args := xs.toArray, argTypes := ts.toArray } := by
      intro b xs ts h1 h2 h3
      obtain ⟨cal, args, ats⟩ := c
      simp only at h1 h2 h3
      subst h1 h2 h3
      rfl
    have hmem : ∀ {x : Operand}, x ∈ c.args.toList → okO n x = true := fun {x} hx => ok1 hok (by
      simp only [Op.operands, Call.operands]
      exact Array.mem_append.2 (.inr (by simpa using hx)))
    unfold acall at h
    split at h
    · rename_i x t hcal hargs hats
      have heq := hopen hcal hargs hats
      obtain ⟨u, h1, h2⟩ := map_pair h
      cases h2
      have hx : okO n x = true := hmem (by rw [hargs]; simp)
      unfold alen at h1
      split at h1
      · rename_i el a len e ht hp
        simp only [Option.some.injEq] at h1
        subst h1
        exact ok_len_slice (at_ := #[]) heq hx hp ht
      · rename_i st ht hp
        simp only [Option.some.injEq] at h1
        subst h1
        exact ok_len_str heq hx hp ht
      · rename_i a b id ht hp
        split at h1
        · rename_i es hg
          simp only [Option.some.injEq] at h1
          subst h1
          exact ok_len_map heq hx hp ht hg
        · cases h1
      · cases h1
    · rename_i x y t tx hcal hargs hats
      have heq := hopen hcal hargs hats
      have hx : okO n x = true := hmem (by rw [hargs]; simp)
      have hy : okO n y = true := hmem (by rw [hargs]; simp)
      unfold aappendOp at h
      split at h
      · rename_i el dx ht htx
        split at h
        · cases h
        · rename_i i hdx hi
          split at h
          · rename_i z m cs a l c hz hs1 hp
            split at h
            · rename_i hzs
              exact ok_append heq hx hy ht hi hz hzs htx (fun k hk => hdx k hk) hs1 ⟨a, l, c, hp⟩ h
            · cases h
          · cases h
        · cases h
      · cases h
    · rename_i x y t tx hcal hargs hats
      have heq := hopen hcal hargs hats
      have hx : okO n x = true := hmem (by rw [hargs]; simp)
      have hy : okO n y = true := hmem (by rw [hargs]; simp)
      unfold acopyOp at h
      split at h
      · rename_i el id off len e ht hp
        split at h
        · rename_i i old hi hg
          split at h
          · rename_i m cs hs1
            split at h
            · rename_i hc
              simp only [Option.some.injEq, Prod.mk.injEq] at h
              obtain ⟨rfl, rfl⟩ := h
              obtain ⟨he, hle, h1⟩ := hc
              subst he
              exact ok_copy heq hx hy ht hi hs1 hp hg hle h1
            · cases h
          · cases h
        · cases h
      · cases h
    · exact hpure h
    · cases h
  | _ => exact hpure (by simpa [aop] using h)
end
end Go.Proofs.Ytdkdkpiemigfkaa
set_option linter.unusedVariables false
set_option linter.unusedSimpArgs false
namespace Go.Proofs.Ytdkdkpiemigfkaa
open Go
abbrev FR (r : Option Nat) : Fence := { Fence.wide with round := r }
inductive Res where
  | ret (v : Value)
  | pan (v : Value)
def Res.val : Res → Value
  | .ret v => v
  | .pan v => v
def Res.ending (c : Value) : Res → Ending
  | .ret _ => .returned c
  | .pan _ => .panicked [{ v := c, recovered := false }]
abbrev ASpec := List Value → AMem → (Res → AMem → Prop) → Prop
def callable (P : Program) (f : FuncId) : Prop := ∃ fn, P.funcs[f]? = some fn ∧ fn.body.isNone = false ∧ (fn.name == "runtime.NumGoroutine") = false
def CallPost (F : Nat → Prop) (ρ : Rho) (M : AMem) (w : World) (K : Res → AMem → Prop) (e : Ending) (w' : World) : Prop :=
  ∃ ρ' c res M', K res M' ∧ e = Res.ending c res ∧ RhoLe M.next ρ ρ' ∧ M.next ≤ M'.next ∧ VR ρ' res.val c ∧ Sim F ρ' M' w' ∧ Kept F w w'
def Sound (P : Program) (f : FuncId) (sp : ASpec) : Prop := ∀ args M K, sp args M K → callable P f ∧
  ∀ F ρ w (cargs : Array Value), VRl ρ args cargs.toList → Sim F ρ M w → Calls P f cargs w (CallPost F ρ M w K)
def tab : List (FuncId × ASpec) → FuncId → ASpec
  | [], _ => fun _ _ _ => False
  | p :: ps, f => if f = p.1 then p.2 else tab ps f
theorem Sound.nothing (P : Program) (f : FuncId) : Sound P f (fun _ _ _ => False) := fun _ _ _ h => h.elim
theorem tab_sound {P : Program} : ∀ (l : List (FuncId × ASpec)), (∀ p ∈ l, Sound P p.1 p.2) → ∀ f, Sound P f (tab l f) := by
  intro l
  induction l with
  | nil => intro _ f; exact Sound.nothing P f
  | cons p ps ih =>
    intro h f
    simp only [tab]
    split
    · subst_vars; exact h p (by simp)
    · exact ih (fun q hq => h q (by simp [hq])) f
def wantA (g : Option (Nat × Bool)) (s : Slots) : Option Bool :=
  match g with
  | none => some true
  | some (d, want) => match s d with
    | .bool b => some (b == want)
    | .tuple _ => some false
    | _ => none
def upd (s : Slots) (d : Option Nat) (v : Value) : Slots :=
  match d with
  | some d => fun i => if i = d then v else s i
  | none => s
inductive AX where
  | normal
  | exit (id : Nat)
  | ret
  | pan (v : Value)
def DR (ρ : Rho) (ds : List Nat) (defers : List Deferred) : Prop :=
  defers.length = ds.length ∧ ∀ (i id : Nat), ds[i]? = some id → ∃ pl, ρ id = some pl ∧ defers[i]? = some { target := .collected pl.block, args := #[] }
theorem DR.mono {ρ ρ' : Rho} (hρ : ∀ i pl, ρ i = some pl → ρ' i = some pl) {ds : List Nat} {defers : List Deferred} (h : DR ρ ds defers) : DR ρ' ds defers :=
  ⟨h.1, fun i id hi => let ⟨pl, h1, h2⟩ := h.2 i id hi; ⟨pl, hρ _ _ h1, h2⟩⟩
abbrev APost := AX → Slots → AMem → List Nat → Prop
def XR (F : Nat → Prop) (ρ : Rho) (n : Nat) (M : AMem) (w : World) (Q : APost) (e : Exit) (ca' : Act) (w' : World) : Prop :=
  ∃ ρ' x s' M' ds', RhoLe M.next ρ ρ' ∧ M.next ≤ M'.next ∧ Sim F ρ' M' w' ∧ Kept F w w' ∧ DR ρ' ds' ca'.defers ∧ Q x s' M' ds' ∧
    (match x with
     | .normal => e = .normal ∧ SR ρ' n s' ca'
     | .exit id => e = .exit id ∧ SR ρ' n s' ca'
     | .ret => e = .ret ∧ SR ρ' n s' ca'
     | .pan v => ∃ c, e = .panic [{ v := c, recovered := false }] ∧ VR ρ' v c)
def awp (P : Program) (r : Option Nat) (n : Nat) (c : Code) (Q : APost) (s : Slots) (M : AMem) (ds : List Nat) : Prop :=
  ∀ F ρ ca w, SR ρ n s ca → Sim F ρ M w → DR ρ ds ca.defers → c.wpIn (FR r) 0 P (XR F ρ n M w Q) ca w
def puts : List Tmp → List Value → Slots → Slots
  | t :: ts, v :: vs, s => puts ts vs (upd s (some t) v)
  | _, _, s => s
def RoundQ (id : Nat) (K : Res → AMem → Prop) : APost
  | .normal, _, M, ds => ds = [] ∧ ∃ st pend sl n ps asn body d, M.get id = .loop st pend sl n ps asn body d ∧ K (.ret (.bool true)) (M.set id (.loop .ready none sl n ps asn body d))
  | .ret, _, M, ds => ds = [] ∧ ∃ st pend sl n ps asn body d, M.get id = .loop st pend sl n ps asn body d ∧ K (.ret (.bool false)) (M.set id (.loop .done (some .ret) sl n ps asn body d))
  | .exit i, _, M, ds => ds = [] ∧ ∃ st pend sl n ps asn body d, M.get id = .loop st pend sl n ps asn body d ∧ K (.ret (.bool false)) (M.set id (.loop .done (some (.exit i)) sl n ps asn body d))
  | .pan _, _, _, _ => False
def RoundA (P : Program) (r : Option Nat) (n : Nat) (body : Code) (id : Nat) (K : Res → AMem → Prop) : APost
  | .normal, s, M, ds => ds = [] ∧ ∃ pend sl ps asn d, M.get id = .loop .ready pend sl n ps asn body d ∧ awp P r n body (RoundQ id K) s (M.set id (.loop .busy pend sl n ps asn body d)) []
  | _, _, _, _ => False
def YRound (P : Program) (id : Nat) (args : List Value) (M : AMem) (K : Res → AMem → Prop) : Prop :=
  ∃ pend sl n ps asn body d, M.get id = .loop .ready pend sl n ps asn body d ∧ args.length = ps.size ∧ ∀ r, awp P r n asn (RoundA P r n body id K) (puts ps.toList args sl) M []
def evalOp (P : Program) (S : FuncId → ASpec) (s : Slots) (M : AMem) (o : AOp) (K : Res → AMem → Prop) : Prop :=
  match o.op with
  | .call c => match c.callee with
    | .value f => match ev s f with
      | .func (.func g) first cap => S g (first.toList ++ c.args.toList.map (ev s) ++ cap.toList) M K
      | .func (.yield id) _ _ => YRound P id (c.args.toList.map (ev s)) M K
      | _ => False
    | _ => match aop P s M o with
      | some (v, M') => K (.ret v) M'
      | none => False
  | .panic x => match ev s x with
    | .iface t v => K (.pan (.iface t v)) M
    | _ => False
  | _ => match aop P s M o with
    | some (v, M') => K (.ret v) M'
    | none => False
inductive Out where
  | norm (s : Slots) (M : AMem)
  | pan (v : Value) (M : AMem)
def evalA (P : Program) (S : FuncId → ASpec) : List AOp → Slots → AMem → (Out → Prop) → Prop
  | [], s, M, K => K (.norm s M)
  | o :: os, s, M, K => match wantA o.g s with
    | some true => evalOp P S s M o fun r M' => match r with
      | .ret v => evalA P S os (upd s o.dst v) M' K
      | .pan v => K (.pan v M')
    | some false => evalA P S os (upd s o.dst undef) M K
    | none => False
theorem SR.put {ρ : Rho} {n : Nat} {s : Slots} {ca : Act} (h : SR ρ n s ca) {d : Option Nat} (hd : d.all (fun d => decide (d < n)) = true) {v c : Value} (hv : VR ρ v c) : SR ρ n (upd s d v) (ca.put d c) := by
  cases d with
  | none => exact h
  | some d =>
    simp only [Option.all_some, decide_eq_true_eq] at hd
    refine ⟨by simp [Act.put, h.size], fun i hi => ?_⟩
    simp only [upd, Act.put]
    by_cases hid : i = d
    · subst hid
      rw [if_pos rfl]
      have : (ca.tmps.setIfInBounds i c).getD i undef = c := by
        simp [Array.getD_eq_getD_getElem?, h.size, hi]
      rw [this]; exact hv
    · rw [if_neg hid]
      have : (ca.tmps.setIfInBounds d c).getD i undef = ca.tmps.getD i undef := by
        rw [Array.getD_eq_getD_getElem?, Array.getD_eq_getD_getElem?, Array.getElem?_setIfInBounds_ne (by omega)]
      rw [this]; exact h.get i hi
theorem VR.undef (ρ : Rho) : VR ρ Go.undef Go.undef := .tuple rfl (fun i x y hx => by simp at hx)
def OpWp (P : Program) (r : Option Nat) (n : Nat) (s : Slots) (o : Oper) (M : AMem) (K' : Res → AMem → Prop) : Prop :=
  ∀ F ρ ca w, SR ρ n s ca → Sim F ρ M w → ∀ (K : Act → World → Prop) (Q : Exit → Act → World → Prop),
    (∀ res M' ρ' c w', K' res M' → RhoLe M.next ρ ρ' → M.next ≤ M'.next → VR ρ' res.val c → Sim F ρ' M' w' → Kept F w w' →
      match res with
      | .ret _ => K (ca.put o.dst c) w'
      | .pan _ => Q (.panic [{ v := c, recovered := false }]) ca w') →
    o.wpIn (FR r) 0 P ca w K Q
theorem OpOK.wp {P : Program} {r : Option Nat} {n : Nat} {s : Slots} {o : Oper} {M M' : AMem} {v : Value} {K' : Res → AMem → Prop} (h : OpOK P n s o M v M') (hnd : ∀ c, o.op ≠ .defer c) (hK' : K' (.ret v) M') : OpWp P r n s o M K' := by
  intro F ρ ca w hs hM K Q hK
  obtain ⟨ρ', nx, cv, w', h1, h2, h3, h4, h5, h6, h7⟩ := h F ρ ca w hs hM
  refine ⟨fun _ _ => trivial, ?_⟩
  rw [Oper.semAt_eq _ _ _ hnd, h1]
  have := hK (.ret v) M' ρ' cv w' hK' h3 h4 h5 h6 h7
  simp only at this
  cases nx <;> simp only [nextVal, Option.some.injEq, reduceCtorEq] at h2
  · subst h2; exact this
  · subst h2; exact this
theorem callsIn_FR {P : Program} {r : Option Nat} {m : Nat} {f : FuncId} {args : Array Value} {w : World} {R : Ending → World → Prop} (h : Calls P f args w R) : CallsIn (FR r) m P f args w R := by
  refine ⟨trivial, fun cs _ => ?_⟩
  obtain ⟨e, w', fr, hR, hs, hrest⟩ := h cs
  refine ⟨e, w', fr, hR, ?_, hrest⟩
  have hall : ∀ m : Machine, m.fenced P (FR r) := fun m => fenced_wide P m
  cases e with
  | returned v => exact (StepsIn.of_steps hs).mono fun m _ => hall m
  | panicked c => exact (StepsIn.of_steps hs).mono fun m _ => hall m
  | outgrown => exact hs
theorem VRl.map_ev {ρ : Rho} {n : Nat} {s : Slots} {ca : Act} (hs : SR ρ n s ca) {xs : List Operand} (h : ∀ x ∈ xs, okO n x = true) : VRl ρ (xs.map (ev s)) (xs.map ca.eval) := by
  refine ⟨by simp, fun i x y hx hy => ?_⟩
  simp only [List.getElem?_map, Option.map_eq_some_iff] at hx hy
  obtain ⟨a, ha, rfl⟩ := hx
  obtain ⟨b, hb, rfl⟩ := hy
  rw [ha] at hb
  cases hb
  exact hs.ev (h a (List.mem_of_getElem? ha))
theorem puts_R {ρ : Rho} {n : Nat} : ∀ (ps : List Tmp) (args cargs : List Value) (s : Slots) (tm : Array Value), tm.size = n → (∀ i, i < n → VR ρ (s i) (tm.getD i Go.undef)) → VRl ρ args cargs → args.length = ps.length →
    ((ps.zip cargs).foldl (fun (tmps : Array Value) (x : Tmp × Value) => tmps.setIfInBounds x.1 x.2) tm).size = n ∧ ∀ i, i < n → VR ρ (puts ps args s i) (((ps.zip cargs).foldl (fun (tmps : Array Value) (x : Tmp × Value) => tmps.setIfInBounds x.1 x.2) tm).getD i Go.undef) := by
  intro ps
  induction ps with
  | nil => intro args cargs s tm hn h ha hl; cases args <;> exact ⟨hn, h⟩
  | cons t ps ih =>
    intro args cargs s tm hn h ha hl
    cases args with
    | nil => simp at hl
    | cons v args =>
      cases cargs with
      | nil => have := ha.1; simp at this
      | cons c cargs =>
        simp only [List.zip_cons_cons, List.foldl_cons, puts]
        refine ih args cargs _ _ (by simpa using hn) ?_ ⟨by simpa using ha.1, fun i x y hx hy => ha.2 (i + 1) x y (by simpa using hx) (by simpa using hy)⟩ (by simpa using hl)
        intro i hi
        simp only [upd]
        by_cases hit : i = t
        · subst hit
          rw [if_pos rfl]
          have e : (tm.setIfInBounds i c).getD i Go.undef = c := by simp [Array.getD_eq_getD_getElem?, hn, hi]
          rw [e]; exact ha.2 0 v c rfl rfl
        · rw [if_neg hit]
          have e : (tm.setIfInBounds t c).getD i Go.undef = tm.getD i Go.undef := by
            rw [Array.getD_eq_getD_getElem?, Array.getD_eq_getD_getElem?, Array.getElem?_setIfInBounds_ne (by omega)]
          rw [e]; exact h i hi
theorem Sim.loopAt {F : Nat → Prop} {ρ : Rho} {M : AMem} {w : World} (h : Sim F ρ M w) {id : Nat} {pl : Pl} (hpl : ρ id = some pl) {st : LoopState} {pend : Option Code} {sl : Slots} {n : Nat} {ps : Array Tmp} {asn body : Code} {d : Nat} (hg : M.get id = .loop st pend sl n ps asn body d) :
    ∃ l : Loop, w.heap[pl.block]? = some (.loop l) ∧ l.state = st ∧ l.pending = pend ∧ l.tmps.size = n ∧ (∀ i, i < n → VR ρ (sl i) (l.tmps.getD i Go.undef)) ∧ l.params = ps ∧ l.assign = asn ∧ l.body = body ∧
      ∀ st' pend', Sim F ρ (M.set id (.loop st' pend' sl n ps asn body d)) (w.putObj pl.block (.loop { l with state := st', pending := pend' })) ∧ Kept F w (w.putObj pl.block (.loop { l with state := st', pending := pend' })) := by
  have ho := h.obj id pl hpl
  rw [hg] at ho
  obtain ⟨hF, l, h1, h2, h3, h4, h5, h6, h7, h8, pd, h9, h10⟩ := ho
  refine ⟨l, h1, h2, h3, h4, h5, h6, h7, h8, fun st' pend' => ?_⟩
  have hlt : pl.block < w.heap.size := (Array.getElem?_eq_some_iff.1 h1).1
  refine h.set hpl (by rw [hg]; rfl) (by simp) (fun b hb => World.putObj_heap_other hb) ?_ rfl rfl rfl
  exact ⟨hF, { l with state := st', pending := pend' }, World.putObj_heap_same hlt, rfl, rfl, h4, h5, h6, h7, h8, pd, h9, h10⟩
theorem yround_wp {P : Program} {r : Option Nat} {n : Nat} {s : Slots} {M : AMem} {K' : Res → AMem → Prop} {dst : Option Nat} {c : Call} {ty : TypeId} {g : Option (Nat × Bool)} {f : Operand} {id : Nat} {a b : Array Value} (hok : okOp n (.call c) = true) (hf : c.callee = .value f)
    (hev : Go.Proofs.Ytdkdkpiemigfkaa.ev s f = .func (.yield id) a b) (h : YRound P id (c.args.toList.map (Go.Proofs.Ytdkdkpiemigfkaa.ev s)) M K') : OpWp P r n s (AOp.oper ⟨dst, .call c, ty, g⟩) M K' := by
  intro F ρ ca w hs hM K Q hK
  have hmem : ∀ x ∈ c.operands, okO n x = true := fun x hx => ok1 hok hx
  have hfv := hs.ev (hmem f (by simp [Call.operands, hf]))
  rw [hev] at hfv
  obtain ⟨_, _, pl, hpl, hcv⟩ := hfv.yield_inv
  obtain ⟨pend, sl, m, ps, asn, body, d, hg, hlen, hround⟩ := h
  have hnd : ∀ c', (AOp.oper ⟨dst, .call c, ty, g⟩).op ≠ .defer c' := by intro c' he; simp [AOp.oper] at he
  obtain ⟨l, hl, hst, hpend, htm, hsl, hps, hasn, hbody, hput⟩ := hM.loopAt hpl hg
  have hid : id < M.next := hM.dom id pl hpl
  have hargs : VRl ρ (c.args.toList.map (Go.Proofs.Ytdkdkpiemigfkaa.ev s)) (c.args.map ca.eval).toList := by
    simp only [Array.toList_map]
    exact VRl.map_ev hs (fun x hx => hmem x (by simp only [Call.operands]; exact Array.mem_append.2 (.inr (by simpa using hx))))
  refine ⟨fun _ _ => trivial, ?_⟩
  rw [Oper.semAt_eq _ _ _ hnd]
  have hsz : (c.args.map ca.eval).size = l.params.size := by rw [hps, ← hlen]; simp
  have hrun : (execOp ca.eval (AOp.oper ⟨dst, .call c, ty, g⟩)).run P w = .ok (.round pl.block l.fn ((l.params.zip (c.args.map ca.eval)).foldl (fun tmps (t, a) => tmps.setIfInBounds t a) l.tmps) l.assign l.body) w := by
    simp only [execOp, AOp.oper, resolve, hf, hcv, Deferred.ofValue, Sem.run_bind, Sem.run_pure, Result.andThen_ok, invoke]
    simp only [Array.empty_append]
    exact run_yield hl hsz
  rw [hrun, Oper.uponIn_round]
  refine ⟨fun hd => by simp [Fence.wide] at hd, ?_⟩
  obtain ⟨p1, p2⟩ := puts_R (ρ := ρ) ps.toList _ _ sl l.tmps htm hsl hargs (by rw [hlen]; simp)
  have hfold : (l.params.zip (c.args.map ca.eval)).foldl (fun tmps (x : Tmp × Value) => tmps.setIfInBounds x.1 x.2) l.tmps = (ps.toList.zip (c.args.map ca.eval).toList).foldl (fun tmps (x : Tmp × Value) => tmps.setIfInBounds x.1 x.2) l.tmps := by
    rw [hps, ← Array.foldl_toList, Array.toList_zip]
  refine roundIn_of_wpIn trivial ?_
  rw [hasn, hbody]
  have hw := hround (some pl.block) F ρ { tmps := (ps.toList.zip (c.args.map ca.eval).toList).foldl (fun tmps (x : Tmp × Value) => tmps.setIfInBounds x.1 x.2) l.tmps, defers := [] } w ⟨p1, p2⟩ hM ⟨rfl, fun i id hi => by simp at hi⟩
  rw [← hfold] at hw
  refine wpIn_mono (F := (FR r).inRound pl.block) hw ?_
  rintro e a1 w1 ⟨ρ1, x, s1, M1, ds1, g1, g2, g3, g4, g5, g6, g7⟩
  cases x with
  | exit i => exact g6.elim
  | ret => exact g6.elim
  | pan v => exact g6.elim
  | normal =>
    obtain ⟨rfl, hs1⟩ := g7
    obtain ⟨rfl, pend1, sl1, ps1, asn1, d1, hg1, hw2⟩ := g6
    have hpl1 : ρ1 id = some pl := by rw [g1 id hid]; exact hpl
    obtain ⟨l1, hl1, hst1, hpend1, htm1, hsl1, hps1, hasn1, hbody1, hput1⟩ := g3.loopAt hpl1 hg1
    obtain ⟨k1, k2⟩ := hput1 .busy pend1
    have hb : (Instr.beginRound pl.block).run P w1 = .ok () (w1.putObj pl.block (.loop { l1 with state := .busy, pending := pend1 })) := by
      rw [← hpend1]; exact run_beginRound hl1 hst1
    refine ⟨_, hb, ?_⟩
    have hwb := hw2 F ρ1 a1 _ hs1 k1 g5
    refine wpIn_mono (F := (FR r).inRound pl.block) hwb ?_
    rintro e a2 w2 ⟨ρ2, x, s2, M2, ds2, q1, q2, q3, q4, q5, q6, q7⟩
    have hkept : Kept F w w2 := (g4.trans k2).trans q4
    have hn2 : M.next ≤ M2.next := Nat.le_trans g2 (by simpa using q2)
    have hρ2 : RhoLe M.next ρ ρ2 := g1.trans (by simpa using q1) g2
    have fin : ∀ (jump : Option Code) (bv : Bool), bv = jump.isNone → (∃ st pend sl n ps asn body d, M2.get id = .loop st pend sl n ps asn body d ∧ K' (.ret (.bool bv)) (M2.set id (.loop (if jump.isNone then .ready else .done) jump sl n ps asn body d))) →
        ∃ v w', (Instr.endRound pl.block jump).run P w2 = .ok v w' ∧ K (ca.put dst v) w' := by
      rintro jump bv rfl ⟨st, pd, sl2, n2, ps2, asn2, body2, d2, hg2, hk⟩
      have hpl2 : ρ2 id = some pl := by rw [hρ2 id hid]; exact hpl
      obtain ⟨l2, hl2, hst2, hpend2, htm2, hsl2, hps2, hasn2, hbody2, hput2⟩ := q3.loopAt hpl2 hg2
      obtain ⟨k3, k4⟩ := hput2 (if jump.isNone then .ready else .done) jump
      exact ⟨_, _, run_endRound jump hl2, hK (.ret (.bool jump.isNone)) _ ρ2 (.bool jump.isNone) _ hk hρ2 (by simpa using hn2) (.scalar rfl) k3 (hkept.trans k4)⟩
    cases x with
    | normal => obtain ⟨rfl, _⟩ := q7; obtain ⟨_, q6⟩ := q6; exact fin none true rfl q6
    | ret => obtain ⟨rfl, _⟩ := q7; obtain ⟨_, q6⟩ := q6; exact fin (some .ret) false rfl q6
    | exit i => obtain ⟨rfl, _⟩ := q7; obtain ⟨_, q6⟩ := q6; exact fin (some (.exit i)) false rfl q6
    | pan v => exact q6.elim
theorem evalOp_wp {P : Program} {S : FuncId → ASpec} {r : Option Nat} {n : Nat} {s : Slots} {M : AMem} {K' : Res → AMem → Prop} (hS : ∀ f, Sound P f (S f)) (a : AOp) (hok : okOp n a.op = true)
    (h : evalOp P S s M a K') : OpWp P r n s a.oper M K' := by
  obtain ⟨dst, op, ty, g⟩ := a
  have hnd : ∀ c, (AOp.oper ⟨dst, op, ty, g⟩).op ≠ .defer c := by
    intro c he
    simp only [AOp.oper] at he
    subst he
    simp [okOp] at hok
  have hgen : (match aop P s M ⟨dst, op, ty, g⟩ with | some (v, M') => K' (.ret v) M' | none => False) → OpWp P r n s (AOp.oper ⟨dst, op, ty, g⟩) M K' := by
    intro h
    split at h
    · rename_i v M' hv
      exact (ok_aop _ hok hv).wp hnd h
    · exact h.elim
  cases op with
  | call c =>
    simp only [evalOp] at h
    split at h
    · rename_i f hf
      split at h
      · rename_i g' first cap hev
        intro F ρ ca w hs hM K Q hK
        have hmem : ∀ x ∈ c.operands, okO n x = true := fun x hx => ok1 hok hx
        have hfv := hs.ev (hmem f (by simp [Call.operands, hf]))
        rw [hev] at hfv
        obtain ⟨first', cap', hcv, hr1, hr2⟩ := hfv.func_inv rfl
        obtain ⟨⟨fn, hfn, hbody, hname⟩, hcalls⟩ := hS g' _ _ _ h
        have hargs : VRl ρ (first.toList ++ c.args.toList.map (ev s) ++ cap.toList) (first' ++ c.args.map ca.eval ++ cap').toList := by
          simp only [Array.toList_append, Array.toList_map]
          exact (hr1.toList.append (VRl.map_ev hs (fun x hx => hmem x (by simp only [Call.operands]; exact Array.mem_append.2 (.inr (by simpa using hx)))))).append hr2.toList
        have hc := hcalls F ρ w _ hargs hM
        refine ⟨fun _ _ => trivial, ?_⟩
        rw [Oper.semAt_eq _ _ _ hnd]
        have hrun : (execOp ca.eval (AOp.oper ⟨dst, .call c, ty, g⟩)).run P w = .ok (.enter g' (first' ++ c.args.map ca.eval ++ cap')) w := by
          simp only [execOp, AOp.oper, resolve, hf, hcv, Deferred.ofValue, Sem.run_bind, Sem.run_pure, Result.andThen_ok, invoke, callFunc, run_program, hfn, hname, hbody, Bool.false_eq_true, if_false]
        rw [hrun]
        refine ⟨fun hd => by simp [Fence.wide] at hd, callsIn_FR (hc.mono ?_)⟩
        rintro e w' ⟨ρ', cv, res, M', hK', he, h1, h2, h3, h4, h5⟩
        have := hK res M' ρ' cv w' hK' h1 h2 h3 h4 h5
        subst he
        cases res with
        | ret v => exact this
        | pan v => exact this
      · rename_i id a b hev
        exact yround_wp hok hf hev h
      · exact h.elim
    · exact hgen h
  | panic x =>
    simp only [evalOp] at h
    split at h
    · rename_i t v hev
      intro F ρ ca w hs hM K Q hK
      have hv := hs.ev (ok1 hok (x := x) (by simp [Op.operands]))
      rw [hev] at hv
      obtain ⟨v', hc, hv'⟩ := hv.iface_inv
      refine ⟨fun _ _ => trivial, ?_⟩
      rw [Oper.semAt_eq _ _ _ hnd]
      have hrun : (execOp ca.eval (AOp.oper ⟨dst, .panic x, ty, g⟩)).run P w = .halt (.panic (.iface t v')) w := by
        simp only [execOp, AOp.oper, Instr.panic, hc, Sem.run_bind, run_goPanic, Result.andThen_halt]
      rw [hrun]
      exact hK _ M ρ _ w h (.refl _ _) (Nat.le_refl _) (.iface hv') hM (.refl _ _)
    · exact h.elim
  | _ => exact hgen (by simpa [evalOp] using h)
def comp (ops : Array Oper) : List AOp :=
  ops.toList.map fun o => ⟨o.dst, o.op, o.type, o.guard.bind fun jw => ((ops[jw.1]?).bind (·.dst)).map fun d => (d, jw.2)⟩
def okRegion (n : Nat) (ops : Array Oper) : Bool :=
  ops.all fun o => okOp n o.op && o.dst.all (fun d => decide (d < n)) && (match o.guard with
    | none => true
    | some (j, _) => (((ops[j]?).bind (·.dst)).map fun d => decide (d < n)).getD false)
theorem wanted_of {n : Nat} {ops : Array Oper} {o : Oper} {ρ : Rho} {s : Slots} {ca : Act} {b : Bool} (hs : SR ρ n s ca)
    (hg : (match o.guard with | none => true | some (j, _) => (((ops[j]?).bind (·.dst)).map fun d => decide (d < n)).getD false) = true)
    (h : wantA (o.guard.bind fun jw => ((ops[jw.1]?).bind (·.dst)).map fun d => (d, jw.2)) s = some b) : Region.wanted o (yielded ops ca.tmps) = b := by
  unfold Region.wanted
  cases hgd : o.guard with
  | none => rw [hgd] at h; simp only [Option.bind_none, wantA, Option.some.injEq] at h; exact h
  | some jw =>
    obtain ⟨j, want⟩ := jw
    rw [hgd] at h hg
    simp only [Option.bind_some] at h
    simp only at hg ⊢
    cases hd : (ops[j]?).bind (·.dst) with
    | none => rw [hd] at hg; simp at hg
    | some d =>
      rw [hd] at h hg
      simp only [Option.map_some, Option.getD_some, decide_eq_true_eq] at hg h
      simp only [wantA] at h
      have hv := hs.get d hg
      have hget : ca.tmps[d]? = some (ca.tmps.getD d undef) := by
        have : d < ca.tmps.size := hs.size ▸ hg
        simp [Array.getD_eq_getD_getElem?, this]
      have hy : yielded ops ca.tmps j = match ca.tmps.getD d undef with | .bool b => some b | _ => none := by
        unfold yielded
        rw [hd]
        simp only [Option.bind_some, hget]
        cases ca.tmps.getD d undef <;> rfl
      rw [hy]
      split at h
      · rename_i b' hb'
        rw [hb'] at hv
        rw [hv.bool_inv]
        simp only [Option.some.injEq] at h
        rw [← h]
        cases b' <;> cases want <;> rfl
      · rename_i vs hb'
        rw [hb'] at hv
        obtain ⟨ys, hc, _⟩ := hv.tuple_inv
        rw [hc]
        simp only [Option.some.injEq] at h
        rw [← h]
        rfl
      · cases h
def OutPost (F : Nat → Prop) (ρ : Rho) (n : Nat) (M : AMem) (w : World) (defers : List Deferred) (Q : Exit → Act → World → Prop) : Out → Prop
  | .norm s' M' => ∀ ρ' ca' w', RhoLe M.next ρ ρ' → M.next ≤ M'.next → SR ρ' n s' ca' → Sim F ρ' M' w' → Kept F w w' → ca'.defers = defers → Q .normal ca' w'
  | .pan v M' => ∀ ρ' c ca' w', RhoLe M.next ρ ρ' → M.next ≤ M'.next → VR ρ' v c → Sim F ρ' M' w' → Kept F w w' → ca'.defers = defers → Q (.panic [{ v := c, recovered := false }]) ca' w'
theorem Act.put_defers' (a : Act) (d : Option Tmp) (v : Value) : (a.put d v).defers = a.defers := by cases d <;> rfl
theorem OutPost.trans {F : Nat → Prop} {ρ ρ' : Rho} {n : Nat} {M M' : AMem} {w w' : World} {d : List Deferred} {Q : Exit → Act → World → Prop} {out : Out} (h : OutPost F ρ n M w d Q out) (h1 : RhoLe M.next ρ ρ') (h2 : M.next ≤ M'.next) (h5 : Kept F w w') :
    OutPost F ρ' n M' w' d Q out := by
  cases out with
  | norm s' M2 => exact fun ρ2 ca2 w2 q1 q2 q3 q4 q5 q6 => h ρ2 ca2 w2 (h1.trans q1 h2) (Nat.le_trans h2 q2) q3 q4 (h5.trans q5) q6
  | pan v' M2 => exact fun ρ2 c2 ca2 w2 q1 q2 q3 q4 q5 q6 => h ρ2 c2 ca2 w2 (h1.trans q1 h2) (Nat.le_trans h2 q2) q3 q4 (h5.trans q5) q6
theorem evalA_wp {P : Program} {S : FuncId → ASpec} {r : Option Nat} {n : Nat} (hS : ∀ f, Sound P f (S f)) {ops : Array Oper} (hok : okRegion n ops = true) {F : Nat → Prop} {Q : Exit → Act → World → Prop} {KO : Out → Prop} :
    ∀ (k j : Nat) (s : Slots) (M : AMem) (ρ : Rho) (ca : Act) (w : World), j + k = ops.size → evalA P S ((comp ops).drop j) s M KO → SR ρ n s ca → Sim F ρ M w →
      (∀ out, KO out → OutPost F ρ n M w ca.defers Q out) → wpOpsIn (FR r) 0 P ops Q (List.range' j k) ca w := by
  intro k
  induction k with
  | zero =>
    intro j s M ρ ca w hj h hs hM hQ
    have : (comp ops).drop j = [] := List.drop_eq_nil_of_le (by simp [comp]; omega)
    rw [this] at h
    exact hQ _ h ρ ca w (.refl _ _) (Nat.le_refl _) hs hM (.refl _ _) rfl
  | succ k ih =>
    intro j s M ρ ca w hj h hs hM hQ
    have hlt : j < ops.size := by omega
    have hdrop : (comp ops).drop j = (comp ops)[j]'(by simp [comp]; omega) :: (comp ops).drop (j + 1) := List.drop_eq_getElem_cons (by simp [comp]; omega)
    rw [hdrop] at h
    have ho : ops[j]? = some ops[j] := Array.getElem?_eq_getElem hlt
    have hokj := Array.all_eq_true.1 hok j hlt
    simp only [Bool.and_eq_true] at hokj
    obtain ⟨⟨hok1, hok2⟩, hok3⟩ := hokj
    have hcj : (comp ops)[j]'(by simp [comp]; omega) = ⟨ops[j].dst, ops[j].op, ops[j].type, ops[j].guard.bind fun jw => ((ops[jw.1]?).bind (·.dst)).map fun d => (d, jw.2)⟩ := by simp [comp]
    rw [hcj] at h
    generalize hoj : ops[j] = o at *
    simp only [evalA] at h
    simp only [List.range'_succ, wpOpsIn, ho]
    split at h
    · rename_i hw
      have hwt := wanted_of (ops := ops) hs hok3 hw
      simp only [hwt, if_true]
      have hwp := evalOp_wp (r := r) hS _ hok1 h
      have hsame : (AOp.oper ⟨o.dst, o.op, o.type, o.guard.bind fun jw => ((ops[jw.1]?).bind (·.dst)).map fun d => (d, jw.2)⟩).wpIn (FR r) 0 P ca w (wpOpsIn (FR r) 0 P ops Q (List.range' (j + 1) k)) Q := by
        refine hwp F ρ ca w hs hM _ _ ?_
        intro res M' ρ' c w' hK h1 h2 h3 h4 h5
        cases res with
        | ret v =>
          simp only [Res.val] at h3
          refine ih (j + 1) _ M' ρ' (ca.put o.dst c) w' (by omega) hK ((hs.mono (h1.up hM)).put hok2 h3) h4 ?_
          intro out hout
          rw [Act.put_defers']
          exact (hQ out hout).trans h1 h2 h5
        | pan v => exact hQ _ hK ρ' c ca w' h1 h2 h3 h4 h5 rfl
      exact hsame
    · rename_i hw
      have hwt := wanted_of (ops := ops) hs hok3 hw
      simp only [hwt, if_false, Bool.false_eq_true]
      refine ⟨fun _ _ => trivial, ?_⟩
      refine ih (j + 1) _ M ρ (ca.put o.dst undef) w (by omega) h (hs.put hok2 (VR.undef ρ)) hM ?_
      rw [Act.put_defers']
      exact hQ
    · exact h.elim
end Go.Proofs.Ytdkdkpiemigfkaa
set_option linter.unusedVariables false
set_option linter.unusedSimpArgs false
namespace Go.Proofs.Ytdkdkpiemigfkaa
open Go
section
variable {P : Program} {r : Option Nat} {n : Nat} {s : Slots} {M : AMem} {ds : List Nat} {Q : APost}
theorem XR.trans {F : Nat → Prop} {ρ ρ' : Rho} {M M' : AMem} {w w' : World} {e : Exit} {ca : Act} {w2 : World} (h : XR F ρ' n M' w' Q e ca w2) (h1 : RhoLe M.next ρ ρ') (h2 : M.next ≤ M'.next) (h3 : Kept F w w') : XR F ρ n M w Q e ca w2 := by
  obtain ⟨ρ2, x, s', M2, ds', g1, g2, g3, g4, g5, g6, g7⟩ := h
  exact ⟨ρ2, x, s', M2, ds', h1.trans g1 h2, Nat.le_trans h2 g2, g3, h3.trans g4, g5, g6, g7⟩
theorem awp_mono {c : Code} {Q' : APost} (h : awp P r n c Q s M ds) (hq : ∀ x s M ds, Q x s M ds → Q' x s M ds) : awp P r n c Q' s M ds := by
  intro F ρ ca w hs hM hd
  refine wpIn_mono (h F ρ ca w hs hM hd) ?_
  rintro e a w' ⟨ρ2, x, s', M2, ds', g1, g2, g3, g4, g5, g6, g7⟩
  exact ⟨ρ2, x, s', M2, ds', g1, g2, g3, g4, g5, hq _ _ _ _ g6, g7⟩
theorem awp_skip (h : Q .normal s M ds) : awp P r n .skip Q s M ds :=
  fun F ρ ca w hs hM hd => wpIn_skip ⟨ρ, .normal, s, M, ds, .refl _ _, Nat.le_refl _, hM, .refl _ _, hd, h, rfl, hs⟩
theorem awp_exit {id : Nat} (h : Q (.exit id) s M ds) : awp P r n (.exit id) Q s M ds :=
  fun F ρ ca w hs hM hd => wpIn_exit ⟨ρ, .exit id, s, M, ds, .refl _ _, Nat.le_refl _, hM, .refl _ _, hd, h, rfl, hs⟩
theorem awp_ret (h : Q .ret s M ds) : awp P r n .ret Q s M ds :=
  fun F ρ ca w hs hM hd => wpIn_ret ⟨ρ, .ret, s, M, ds, .refl _ _, Nat.le_refl _, hM, .refl _ _, hd, h, rfl, hs⟩
def AThen (K : Slots → AMem → List Nat → Prop) (Q : APost) : APost
  | .normal, s, M, ds => K s M ds
  | x, s, M, ds => Q x s M ds
theorem awp_seq {x y : Code} (h : awp P r n x (AThen (fun s M ds => awp P r n y Q s M ds) Q) s M ds) : awp P r n (.seq x y) Q s M ds := by
  intro F ρ ca w hs hM hd
  refine wpIn_seq (wpIn_mono (h F ρ ca w hs hM hd) ?_)
  rintro e a w' ⟨ρ2, x, s', M2, ds', g1, g2, g3, g4, g5, g6, g7⟩
  cases x with
  | normal =>
    obtain ⟨rfl, hs'⟩ := g7
    refine wpIn_mono (g6 F ρ2 a w' hs' g3 g5) ?_
    intro e2 a2 w2 h2
    exact h2.trans g1 g2 g4
  | exit id => obtain ⟨rfl, hs'⟩ := g7; exact ⟨ρ2, .exit id, s', M2, ds', g1, g2, g3, g4, g5, g6, rfl, hs'⟩
  | ret => obtain ⟨rfl, hs'⟩ := g7; exact ⟨ρ2, .ret, s', M2, ds', g1, g2, g3, g4, g5, g6, rfl, hs'⟩
  | pan v => obtain ⟨c, rfl, hs'⟩ := g7; exact ⟨ρ2, .pan v, s', M2, ds', g1, g2, g3, g4, g5, g6, c, rfl, hs'⟩
theorem awp_cond {c : Operand} {x y : Code} {t : Bool} (hc : okO n c = true) (ht : ev s c = .bool t) (h : awp P r n (if t then x else y) Q s M ds) : awp P r n (.cond c x y) Q s M ds := by
  intro F ρ ca w hs hM hd
  have hv := hs.ev hc
  rw [ht] at hv
  exact wpIn_cond hv.bool_inv (h F ρ ca w hs hM hd)
def ABlock (id : Nat) (Q : APost) : APost
  | .exit id', s, M, ds => if id' = id then Q .normal s M ds else Q (.exit id') s M ds
  | x, s, M, ds => Q x s M ds
theorem awp_block {id : Nat} {c : Code} (h : awp P r n c (ABlock id Q) s M ds) : awp P r n (.block id c) Q s M ds := by
  intro F ρ ca w hs hM hd
  refine wpIn_block (wpIn_mono (h F ρ ca w hs hM hd) ?_)
  rintro e a w' ⟨ρ2, x, s', M2, ds', g1, g2, g3, g4, g5, g6, g7⟩
  cases x with
  | normal => obtain ⟨rfl, hs'⟩ := g7; exact ⟨ρ2, .normal, s', M2, ds', g1, g2, g3, g4, g5, g6, rfl, hs'⟩
  | exit id' =>
    obtain ⟨rfl, hs'⟩ := g7
    simp only [Exit.inBlock, ABlock] at g6 ⊢
    split
    · rename_i he
      rw [if_pos he] at g6
      exact ⟨ρ2, .normal, s', M2, ds', g1, g2, g3, g4, g5, g6, rfl, hs'⟩
    · rename_i he
      rw [if_neg he] at g6
      exact ⟨ρ2, .exit id', s', M2, ds', g1, g2, g3, g4, g5, g6, rfl, hs'⟩
  | ret => obtain ⟨rfl, hs'⟩ := g7; exact ⟨ρ2, .ret, s', M2, ds', g1, g2, g3, g4, g5, g6, rfl, hs'⟩
  | pan v => obtain ⟨c, rfl, hs'⟩ := g7; exact ⟨ρ2, .pan v, s', M2, ds', g1, g2, g3, g4, g5, g6, c, rfl, hs'⟩
theorem awp_loop {c : Code} (I : Nat → Slots → AMem → List Nat → Prop) (k₀ : Nat) (h₀ : I k₀ s M ds)
    (round : ∀ k s M ds, I k s M ds → awp P r n c (AThen (fun s' M' ds' => ∃ k', k' < k ∧ I k' s' M' ds') Q) s M ds) : awp P r n (.loop c) Q s M ds := by
  intro F ρ ca w hs hM hd
  refine wpIn_loop_ghost (fun k a w2 => ∃ ρ2 s2 M2 ds2, RhoLe M.next ρ ρ2 ∧ M.next ≤ M2.next ∧ SR ρ2 n s2 a ∧ Sim F ρ2 M2 w2 ∧ Kept F w w2 ∧ DR ρ2 ds2 a.defers ∧ I k s2 M2 ds2) k₀
    ⟨ρ, s, M, ds, .refl _ _, Nat.le_refl _, hs, hM, .refl _ _, hd, h₀⟩ ?_
  rintro k a w2 ⟨ρ2, s2, M2, ds2, q1, q2, q3, q4, q5, q6, q7⟩
  refine wpIn_mono (round k s2 M2 ds2 q7 F ρ2 a w2 q3 q4 q6) ?_
  rintro e a' w' ⟨ρ3, x, s', M3, ds', g1, g2, g3, g4, g5, g6, g7⟩
  cases x with
  | normal =>
    obtain ⟨rfl, hs'⟩ := g7
    obtain ⟨k', hk, hI⟩ := g6
    exact ⟨k', hk, ρ3, s', M3, ds', q1.trans g1 q2, Nat.le_trans q2 g2, hs', g3, q5.trans g4, g5, hI⟩
  | exit id => obtain ⟨rfl, hs'⟩ := g7; exact ⟨ρ3, .exit id, s', M3, ds', q1.trans g1 q2, Nat.le_trans q2 g2, g3, q5.trans g4, g5, g6, rfl, hs'⟩
  | ret => obtain ⟨rfl, hs'⟩ := g7; exact ⟨ρ3, .ret, s', M3, ds', q1.trans g1 q2, Nat.le_trans q2 g2, g3, q5.trans g4, g5, g6, rfl, hs'⟩
  | pan v => obtain ⟨c, rfl, hs'⟩ := g7; exact ⟨ρ3, .pan v, s', M3, ds', q1.trans g1 q2, Nat.le_trans q2 g2, g3, q5.trans g4, g5, g6, c, rfl, hs'⟩
def OutQ (Q : APost) (s : Slots) (ds : List Nat) : Out → Prop
  | .norm s' M' => Q .normal s' M' ds
  | .pan v M' => Q (.pan v) s M' ds
theorem awp_region {S : FuncId → ASpec} {id : Nat} {ops : Array Oper} {l : List AOp} (hS : ∀ f, Sound P f (S f)) (hok : okRegion n ops = true) (hl : comp ops = l) (h : evalA P S l s M (OutQ Q s ds)) :
    awp P r n (.region id ops false) Q s M ds := by
  intro F ρ ca w hs hM hd
  subst hl
  refine wpIn_region ?_
  rw [List.range_eq_range']
  refine evalA_wp hS hok ops.size 0 s M ρ ca w (by simp) (by simpa using h) hs hM ?_
  intro out hQ
  cases out with
  | norm s' M' =>
    intro ρ' ca' w' q1 q2 q3 q4 q5 q6
    exact ⟨ρ', .normal, s', M', ds, q1, q2, q4, q5, q6 ▸ hd.mono (q1.up hM), hQ, rfl, q3⟩
  | pan v M' =>
    intro ρ' c ca' w' q1 q2 q3 q4 q5 q6
    exact ⟨ρ', .pan v, s, M', ds, q1, q2, q4, q5, q6 ▸ hd.mono (q1.up hM), hQ, c, rfl, q3⟩
def aresult (P : Program) (s : Slots) (M : AMem) : ResultVar → Option Value
  | .tmp t => some (s t)
  | .cell a t => match s a with
    | .pointer (some ⟨id, off, none⟩) => match M.get id with
      | .cells cs _ => aload P t cs off
      | _ => none
    | _ => none
def aresults (P : Program) (s : Slots) (M : AMem) (rs : List ResultVar) : Option (List Value) :=
  match rs with
  | [] => some []
  | x :: xs => match aresult P s M x, aresults P s M xs with
    | some v, some vs => some (v :: vs)
    | _, _ => none
def pack : List Value → Value
  | [v] => v
  | vs => .tuple vs.toArray
def okRes (n : Nat) : ResultVar → Bool
  | .tmp t => decide (t < n)
  | .cell a _ => decide (a < n)
def resOne (tmps : Array Value) : ResultVar → Sem Value
  | .tmp t => pure (tmps.getD t undef)
  | .cell a t => do loadVar t (← asAddr (tmps.getD a undef))
theorem results_eq (fn : Func) (tmps : Array Value) : results fn tmps = (do
    let vs ← fn.results.mapM (resOne tmps)
    pure (if h : vs.size = 1 then vs[0] else .tuple vs)) := by
  unfold results
  congr 1
theorem results_list {ρ : Rho} {F : Nat → Prop} {ca : Act} {w : World} (hs : SR ρ n s ca) (hM : Sim F ρ M w) : ∀ (rs : List ResultVar) (vs : List Value), rs.all (okRes n) = true → aresults P s M rs = some vs →
    ∃ cs, (rs.mapM (resOne ca.tmps)).run P w = .ok cs w ∧ VRl ρ vs cs := by
  intro rs
  induction rs with
  | nil => intro vs _ h; simp only [aresults, Option.some.injEq] at h; subst h; exact ⟨[], rfl, .nil ρ⟩
  | cons x xs ih =>
    intro vs hok h
    simp only [List.all_cons, Bool.and_eq_true] at hok
    simp only [aresults] at h
    split at h
    · rename_i v vs' hv hvs
      cases h
      obtain ⟨cs, h1, h2⟩ := ih vs' hok.2 hvs
      have hx : ∃ c, (resOne ca.tmps x).run P w = .ok c w ∧ VR ρ v c := by
        cases x with
        | tmp t =>
          simp only [aresult, Option.some.injEq] at hv
          subst hv
          exact ⟨_, rfl, hs.get t (by simpa [okRes] using hok.1)⟩
        | cell a t =>
          simp only [aresult] at hv
          split at hv
          · rename_i id off hp
            split at hv
            · rename_i cs' own hg
              have ha := hs.get a (by simpa [okRes] using hok.1)
              rw [hp] at ha
              obtain ⟨_, pl, hpl, hc⟩ := ha.ptr_inv
              obtain ⟨c, h3, h4⟩ := hM.loadVar (P := P) hpl hg hv
              exact ⟨c, by simp only [resOne, Sem.run_bind, hc, asAddr, Sem.run_pure, Result.andThen_ok, h3], h4⟩
            · cases hv
          · cases hv
      obtain ⟨c, h3, h4⟩ := hx
      refine ⟨c :: cs, ?_, by simp [h2.1], fun i a b ha hb => ?_⟩
      · simp only [List.mapM_cons, Sem.run_bind, h3, Result.andThen_ok, h1, Sem.run_pure]
      · cases i with
        | zero => simp at ha hb; subst ha hb; exact h4
        | succ i => exact h2.2 i a b (by simpa using ha) (by simpa using hb)
    · cases h
theorem results_run {ρ : Rho} {F : Nat → Prop} {ca : Act} {w : World} {fn : Func} {vs : List Value} (hs : SR ρ n s ca) (hM : Sim F ρ M w) (hok : fn.results.toList.all (okRes n) = true) (h : aresults P s M fn.results.toList = some vs) :
    ∃ c, (results fn ca.tmps).run P w = .ok c w ∧ VR ρ (pack vs) c := by
  obtain ⟨cs, h1, h2⟩ := results_list (P := P) hs hM _ _ hok h
  rw [results_eq]
  simp only [Sem.run_bind]
  have h1' : (fn.results.mapM (resOne ca.tmps)).run P w = .ok cs.toArray w := by
    rw [Array.mapM_eq_mapM_toList]
    simp only [Sem.run_map, h1, Result.andThen_ok]
  rw [h1']
  simp only [Result.andThen_ok, Sem.run_pure]
  refine ⟨_, rfl, ?_⟩
  have hlen := h2.1
  cases vs with
  | nil =>
    cases cs with
    | nil => simp [pack]; exact .tuple rfl (fun i x y hx => by simp at hx)
    | cons _ _ => simp at hlen
  | cons v vs =>
    cases cs with
    | nil => simp at hlen
    | cons c cs =>
      cases vs with
      | nil =>
        cases cs with
        | nil => simp [pack]; exact h2.2 0 v c rfl rfl
        | cons _ _ => simp at hlen
      | cons v2 vs =>
        cases cs with
        | nil => simp at hlen
        | cons c2 cs =>
          have : ¬ ((c :: c2 :: cs).toArray.size = 1) := by simp
          rw [dif_neg this]
          exact .tuple h2.toArray.1 h2.toArray.2
def entry (args : List Value) : Slots := fun i => args.getD i undef
theorem entry_SR {ρ : Rho} {args : List Value} {cargs : Array Value} (h : VRl ρ args cargs.toList) (hn : args.length ≤ n) :
    SR ρ n (entry args) { tmps := cargs ++ Array.replicate (n - cargs.size) undef, defers := [] } := by
  have hl : args.length = cargs.size := by simpa using h.1
  refine ⟨by simp; omega, fun i hi => ?_⟩
  simp only [entry]
  by_cases hia : i < args.length
  · have h1 : args[i]? = some args[i] := List.getElem?_eq_getElem hia
    obtain ⟨c, hc, hv⟩ := h.get h1
    have hc' : cargs[i]? = some c := by simpa using hc
    rw [Array.getD_eq_getD_getElem?, Array.getElem?_append_left (by omega), hc', List.getD_eq_getElem?_getD, h1]
    exact hv
  · rw [Array.getD_eq_getD_getElem?, Array.getElem?_append_right (by omega), List.getD_eq_getElem?_getD, List.getElem?_eq_none (by omega)]
    rw [Array.getElem?_replicate]
    split <;> exact VR.undef ρ
def BodyQ (P : Program) (fn : Func) (R : Res → AMem → Prop) : APost
  | .normal, s, M, ds => ds = [] ∧ ∃ vs, aresults P s M fn.results.toList = some vs ∧ R (.ret (pack vs)) M
  | .ret, s, M, ds => ds = [] ∧ ∃ vs, aresults P s M fn.results.toList = some vs ∧ R (.ret (pack vs)) M
  | .pan v, _, M, ds => ds = [] ∧ R (.pan v) M
  | _, _, _, _ => False
theorem calls_of_awp {f : FuncId} {fn : Func} {c : Code} {args : List Value} {R : Res → AMem → Prop} (hf : P.funcs[f]? = some fn) (hb : fn.body = some c) (hn : args.length ≤ fn.ntmps) (hr : fn.results.toList.all (okRes fn.ntmps) = true)
    (h : awp P none fn.ntmps c (BodyQ P fn R) (entry args) M []) {F : Nat → Prop} {ρ : Rho} {w : World} {cargs : Array Value} (ha : VRl ρ args cargs.toList) (hM : Sim F ρ M w) :
    Calls P f cargs w (CallPost F ρ M w R) := by
  refine callsIn_wide.1 (callsIn_of_wp (n := 0) (F := Fence.wide) hf hb trivial ?_)
  have hw := h F ρ { tmps := cargs ++ Array.replicate (fn.ntmps - cargs.size) undef, defers := [] } w (entry_SR ha hn) hM ⟨rfl, fun i id hi => by simp at hi⟩
  refine wpIn_mono (F := Fence.wide) hw ?_
  rintro e a w' ⟨ρ2, x, s', M2, ds', g1, g2, g3, g4, g5, g6, g7⟩
  have hnil : ∀ ds' : List Nat, ds' = [] → DR ρ2 ds' a.defers → a.defers = [] := by
    intro ds' he hd
    subst he
    exact List.eq_nil_of_length_eq_zero hd.1
  cases x with
  | normal =>
    obtain ⟨rfl, hs'⟩ := g7
    obtain ⟨hds, vs, hvs, hR⟩ := g6
    obtain ⟨c, h1, h2⟩ := results_run (P := P) hs' g3 hr hvs
    exact ⟨hnil ds' hds g5, c, h1, ρ2, c, _, M2, hR, rfl, g1, g2, h2, g3, g4⟩
  | ret =>
    obtain ⟨rfl, hs'⟩ := g7
    obtain ⟨hds, vs, hvs, hR⟩ := g6
    obtain ⟨c, h1, h2⟩ := results_run (P := P) hs' g3 hr hvs
    exact ⟨hnil ds' hds g5, c, h1, ρ2, c, _, M2, hR, rfl, g1, g2, h2, g3, g4⟩
  | exit id => exact g6.elim
  | pan v =>
    obtain ⟨c, rfl, hv⟩ := g7
    obtain ⟨hds, hR⟩ := g6
    exact ⟨hnil ds' hds g5, ρ2, c, _, M2, hR, rfl, g1, g2, hv, g3, g4⟩
def Canon (M : AMem) (res : Res) (M' : AMem) (res2 : Res) (M2 : AMem) : Prop :=
  (∀ c, Res.ending c res = Res.ending c res2) ∧ M.next ≤ M2.next ∧ ∀ F ρ w ρ' w', Sim F ρ M w → RhoLe M.next ρ ρ' → Sim F ρ' M' w' → ∀ c, VR ρ' res.val c → ∃ ρ2, RhoLe M.next ρ ρ2 ∧ VR ρ2 res2.val c ∧ Sim F ρ2 M2 w'
theorem Canon.refl {M M' : AMem} {res : Res} (h : M.next ≤ M'.next) : Canon M res M' res M' := ⟨fun _ => rfl, h, fun _ _ _ ρ' _ _ h1 h2 c hc => ⟨ρ', h1, hc, h2⟩⟩
theorem Sound.of_awp {f : FuncId} {fn : Func} {c : Code} {sp : ASpec} (hf : P.funcs[f]? = some fn) (hb : fn.body = some c) (hname : (fn.name == "runtime.NumGoroutine") = false) (hr : fn.results.toList.all (okRes fn.ntmps) = true)
    (h : ∀ args M K, sp args M K → args.length ≤ fn.ntmps ∧ awp P none fn.ntmps c (BodyQ P fn fun res M' => ∃ res2 M2, K res2 M2 ∧ Canon M res M' res2 M2) (entry args) M []) : Sound P f sp := by
  intro args M K hK
  obtain ⟨hn, hw⟩ := h args M K hK
  refine ⟨⟨fn, hf, by rw [hb]; rfl, hname⟩, fun F ρ w cargs ha hM => ?_⟩
  refine (calls_of_awp hf hb hn hr hw ha hM).mono ?_
  rintro e w' ⟨ρ', cv, res, M', ⟨res2, M2, hK2, hcan⟩, he, h1, h2, h3, h4, h5⟩
  obtain ⟨he2, hn2, hcan⟩ := hcan
  obtain ⟨ρ2, g1, g2, g3⟩ := hcan F ρ w ρ' w' hM h1 h4 cv h3
  exact ⟨ρ2, cv, res2, M2, hK2, he.trans (he2 cv), g1, hn2, g2, g3, h5⟩
theorem VR.swap {ρ ρ' ρ2 : Rho} {v c c0 : Value} (h0 : VR ρ v c0) (h : VR ρ' v c) (hρ : ∀ i pl, ρ i = some pl → ρ2 i = ρ' i) : VR ρ2 v c := by
  induction h0 generalizing c with
  | scalar hv => rw [VR.scalar_inv hv h]; exact .scalar hv
  | ptr h1 =>
    obtain ⟨_, pl, hpl, rfl⟩ := h.ptr_inv
    exact .ptr (by rw [hρ _ _ h1]; exact hpl)
  | slice h1 _ _ =>
    cases h with
    | scalar h => simp [isScalar] at h
    | slice h2 h3 h4 => exact .slice (by rw [hρ _ _ h1]; exact h2) h3 h4
    | sliceE h2 => exact .sliceE (by rw [hρ _ _ h1]; exact h2)
  | sliceE h1 =>
    cases h with
    | scalar h => simp [isScalar] at h
    | slice h2 h3 h4 => exact .slice (by rw [hρ _ _ h1]; exact h2) h3 h4
    | sliceE h2 => exact .sliceE (by rw [hρ _ _ h1]; exact h2)
  | map h1 =>
    obtain ⟨pl, hpl, rfl⟩ := h.map_inv
    exact .map (by rw [hρ _ _ h1]; exact hpl)
  | yield h1 =>
    obtain ⟨_, _, pl, hpl, rfl⟩ := h.yield_inv
    exact .yield (by rw [hρ _ _ h1]; exact hpl)
  | func hp hf h1 hc h2 ih1 ih2 =>
    obtain ⟨f', g', rfl, q1, q2⟩ := h.func_inv hp
    refine .func hp q1.1 (fun i x y hx hy => ?_) q2.1 (fun i x y hx hy => ?_)
    · obtain ⟨y0, hy0, _⟩ := VRs.get (ρ := ρ) ⟨hf, h1⟩ hx
      exact ih1 i x y0 hx hy0 (q1.2 i x y hx hy)
    · obtain ⟨y0, hy0, _⟩ := VRs.get (ρ := ρ) ⟨hc, h2⟩ hx
      exact ih2 i x y0 hx hy0 (q2.2 i x y hx hy)
  | iface h1 ih =>
    obtain ⟨v', rfl, hv⟩ := h.iface_inv
    exact .iface (ih hv)
  | agg hs h1 ih =>
    obtain ⟨ys, rfl, q⟩ := h.agg_inv
    refine .agg q.1 (fun i x y hx hy => ?_)
    obtain ⟨y0, hy0, _⟩ := VRs.get (ρ := ρ) ⟨hs, h1⟩ hx
    exact ih i x y0 hx hy0 (q.2 i x y hx hy)
  | tuple hs h1 ih =>
    obtain ⟨ys, rfl, q⟩ := h.tuple_inv
    refine .tuple q.1 (fun i x y hx hy => ?_)
    obtain ⟨y0, hy0, _⟩ := VRs.get (ρ := ρ) ⟨hs, h1⟩ hx
    exact ih i x y0 hx hy0 (q.2 i x y hx hy)
theorem ObjR.swap {F : Nat → Prop} {ρ ρ' ρ2 : Rho} {pl : Pl} {w w' : World} {o : AObj} (h0 : ObjR F ρ pl w o) (h : ObjR F ρ' pl w' o) (hρ : ∀ i pl, ρ i = some pl → ρ2 i = ρ' i) : ObjR F ρ2 pl w' o := by
  cases o with
  | cells cs own =>
    obtain ⟨C0, e0, lo0, hi0, _, _, _, g4, _⟩ := h0
    obtain ⟨C, e, lo, hi, h1, h2, h3, h4, h5⟩ := h
    refine ⟨C, e, lo, hi, h1, h2, h3, fun i v hv => ?_, h5⟩
    obtain ⟨c0, _, q0⟩ := g4 i v hv
    obtain ⟨c, hc, q⟩ := h4 i v hv
    exact ⟨c, hc, q0.swap q hρ⟩
  | map es =>
    obtain ⟨_, E0, c0, _, _, _, g4⟩ := h0
    obtain ⟨hF, E, c, h1, h2, h3, h4⟩ := h
    refine ⟨hF, E, c, h1, h2, h3, fun i k v hv => ?_⟩
    obtain ⟨e0, _, q1, q2⟩ := g4 i k v hv
    obtain ⟨e, he, p1, p2⟩ := h4 i k v hv
    exact ⟨e, he, q1.swap p1 hρ, q2.swap p2 hρ⟩
  | iter s p => exact h
  | defs => exact h
  | box0 v =>
    obtain ⟨_, c0, _, _, _, q0⟩ := h0
    obtain ⟨z, c, e, f, h1, q⟩ := h
    exact ⟨z, c, e, f, h1, q0.swap q hρ⟩
  | loop st pend s n ps assign body d =>
    obtain ⟨_, l0, _, _, _, _, g5, _, _, _, pd0, g9, _⟩ := h0
    obtain ⟨hF, l, h1, h2, h3, h4, h5, h6, h7, h8, pd, h9, h10⟩ := h
    exact ⟨hF, l, h1, h2, h3, h4, fun i hi => (g5 i hi).swap (h5 i hi) hρ, h6, h7, h8, pd, by rw [hρ _ _ g9]; exact h9, h10⟩
  | dead => trivial
theorem Canon.forget {M M' : AMem} {v : Value} (hv : flat v = true) (hg : ∀ i, i < M.next → M'.get i = M.get i) : Canon M (.ret v) M' (.ret v) M := by
  refine ⟨fun _ => rfl, Nat.le_refl _, fun F ρ w ρ' w' hM h1 hM' c hc => ?_⟩
  refine ⟨ρ, .refl _ _, ?_, ?_⟩
  · rw [flat_inv hv hc]; exact flat_refl hv
  · refine ⟨hM'.top, hM.dom, fun i pl hi => ?_, fun i j pi pj hi hj hij ho hl => ?_⟩
    · have hlt := hM.dom i pl hi
      have h2 := hM'.obj i pl ((h1 i hlt).trans hi)
      rw [hg i hlt] at h2
      exact (hM.obj i pl hi).swap h2 (fun k p hk => (h1 k (hM.dom k p hk)).symm)
    · exact hM.sep i j pi pj hi hj hij ho hl
theorem Canon.row {M M' : AMem} {k off len e : Nat} {cs : List Value} {own : Bool} (hk : M.next ≤ k) (hfl : cs.all flat = true) (hcs : M'.get k = .cells cs own) (hown : own = true) (hle : off + len * e ≤ cs.length) (hg : ∀ i, i < M.next → M'.get i = M.get i) :
    Canon M (.ret (.slice (some ⟨k, off, none⟩) len e)) M' (.ret (.slice (some ⟨M.next, off, none⟩) len e)) (M.alloc (.cells cs true)) := by
  refine ⟨fun _ => rfl, by simp, fun F ρ w ρ' w' hM h1 hM' c hc => ?_⟩
  obtain ⟨_, pl, o', cap, hpl, hcv, hle', hor⟩ := VR.slice_inv hc
  have hnone : ρ M.next = none := by
    cases hn : ρ M.next with
    | none => rfl
    | some pl => exact absurd (hM.dom _ _ hn) (Nat.lt_irrefl _)
  have hup := Rho.put_up (pl := pl) hnone
  refine ⟨ρ.put M.next pl, fun i hi => by unfold Rho.put; rw [if_neg (by omega)], ?_, ?_⟩
  · rw [hcv]
    rcases hor with ⟨ho', hext⟩ | ⟨hl0, hc0⟩
    · subst ho'
      exact .slice (by simp [Rho.put]) hle' hext
    · subst hl0 hc0
      exact .sliceE (pl := pl) (by simp [Rho.put])
  · refine ⟨hM'.top, ?_, fun i p hi => ?_, fun i j pi pj hi hj hij ho hl => ?_⟩
    · intro i p hi
      simp only [Rho.put] at hi
      split at hi
      · subst_vars; simp
      · have := hM.dom i p hi; simp; omega
    · rw [AMem.get_alloc]
      simp only [Rho.put] at hi
      split at hi
      · subst_vars
        cases hi
        rw [if_pos rfl]
        have h2 := hM'.obj k pl hpl
        rw [hcs] at h2
        obtain ⟨C, e', lo, hi', q1, q2, q3, q4, q5⟩ := h2
        refine ⟨C, e', lo, hi', q1, q2, q3, fun i v hv => ?_, q5⟩
        obtain ⟨c', hc', hv'⟩ := q4 i v hv
        have hfv : flat v = true := List.all_eq_true.1 hfl v (List.mem_of_getElem? hv)
        exact ⟨c', hc', by rw [flat_inv hfv hv']; exact flat_refl hfv⟩
      · rename_i hne
        rw [if_neg hne]
        have hlt := hM.dom i p hi
        have h2 := hM'.obj i p ((h1 i hlt).trans hi)
        rw [hg i hlt] at h2
        exact (hM.obj i p hi).swap h2 (fun k p hk => by rw [hup _ _ hk]; exact ((h1 k (hM.dom k p hk)).trans hk).symm)
    · rw [AMem.get_alloc] at ho hl
      simp only [Rho.put] at hi hj
      by_cases a : i = M.next
      · rw [if_pos a] at hi
        cases hi
        have b : j ≠ M.next := fun e => hij (a.trans e.symm)
        rw [if_neg b] at hl hj
        have hjl := hM.dom j pj hj
        exact hM'.sep k j pl pj hpl ((h1 j hjl).trans hj) (by omega) (by rw [hcs]; exact hown) (by rw [hg j hjl]; exact hl)
      · rw [if_neg a] at ho hi
        have hil := hM.dom i pi hi
        by_cases b : j = M.next
        · rw [if_pos b] at hj
          cases hj
          exact hM'.sep i k pi pl ((h1 i hil).trans hi) hpl (by omega) (by rw [hg i hil]; exact ho) (by rw [hcs]; rfl)
        · rw [if_neg b] at hl hj
          exact hM.sep i j pi pj hi hj hij ho hl
end
end Go.Proofs.Ytdkdkpiemigfkaa
